import PyProof.Rows.All
import HandS.ForMost
import HandS.ForExc
import HandS.Property
import HandS.OwnEq
import HandS.ExcIs
import HandS.IsInst
import HandS.Lambda
import HandS.HeadHook4
import HandS.HeadWalk
import PySem.Challenge.RW_smallcourt_k14_whole_clashes_and_swaps
import KE.GoesEnum
import KE.GoesMore
import HandS.Walk
import PyProof.NeKinds
import PyProof.TupleOfSeq
import HandS.TupAny
import HandS.More
import KE.KDictPairs
import PyProof.ListIndex
import HandS.SortRule
import PyProof.InstNe
import PyProof.FactsAll.zip_1
import HandS.SetFor
import HandS.Head0
import HandS.Head1
import HandS.Head2
set_option Elab.async false
set_option maxRecDepth 100000
namespace Sc
open PySem L2
def top (i : Nat) : Stmt := (PySem.Challenge.pw_smallcourt_k14_whole_clashes_and_swaps.main.body)[i]?.getD (.Pass ⟨0, 0, 0, 0⟩)
structure TyoOk (K : PySem.W.Frag) (C : Addr) : Prop where
  ha : PySem.W.findIn K (.ref C) "__class__" = some (some (.builtin "object.__class__"))
  hn : PySem.W.specialIn K (.builtin "object.__class__") "__get__" = some (some (.builtin "getset_descriptor.__get__"))
  ht : PySem.W.takesIn K (.builtin "object.__class__") = some true
  hm : PySem.W.mroIn K C (.type "object") = some true
abbrev bmV : List Value := [.type "ValueError", .type "Exception", .type "BaseException", .type "object"]
structure ExcOk (K : PySem.W.Frag) (C : Addr) : Prop where
  h1 : PySem.W.excIn K C bmV "ValueError.__new__" = true
  h2 : PySem.W.keepIn K (.ref C) = true
  h3 : PySem.W.subIn K (.ref C) (.type "BaseException") = some true
  h4 : PySem.W.typeIn K (.ref C) = some (.type "type")
inductive Fk where
  | glo (x : Str) (a : Addr) | free (x : Str) | int (x : Str) (i : Int) | str (x z : Str)
  | cls (C : Addr) | noat (C : Addr) (f : Str) | mth (C : Addr) (m : Str) (f : Addr) | mkr (C f : Addr)
  | prp (C : Addr) (x : Str) (p g : Addr) | exc (C : Addr) | exC (C : Addr) | kit (a b : Addr) (r : Bool)
  | kiT (a : Addr) (n : String) (r : Bool) | exm (a b : Addr) (r : Bool) | eqf (C f : Addr) | nef (C : Addr) | tyo (C : Addr)
def eqB (a b : Option (Option Value)) : Bool := decide (a = b)
theorem eqB_ok {a b : Option (Option Value)} (h : eqB a b = true) : a = b := of_decide_eq_true h
def eqC (a b : Option Bool) : Bool := decide (a = b)
theorem eqC_ok {a b : Option Bool} (h : eqC a b = true) : a = b := of_decide_eq_true h
def Fk.ok (K : PySem.W.Frag) : Fk → Bool
  | .glo x a => eqB (PySem.W.nsIn K mainGlobals x) (some (some (.ref a))) && PySem.W.keepIn K (.ref a)
  | .free x => eqB (PySem.W.nsIn K mainGlobals x) (some none)
  | .int x i => (match PySem.W.nsIn K mainGlobals x with
    | some (some (.int j _)) => decide (j = i)
    | _ => false)
  | .str x z => (match PySem.W.nsIn K mainGlobals x with
    | some (some (.str y _)) => decide (y = z)
    | _ => false)
  | .cls C => PySem.W.plainGet K C Str.empty && (PySem.W.hasDictIn K C && (PySem.W.plainOver K C && eqB (PySem.W.findIn K (.ref C) "__setattr__") (some (some (.builtin "object.__setattr__")))))
  | .noat C f => eqB (PySem.W.findIn K (.ref C) f) (some none)
  | .mth C m f => eqB (PySem.W.findIn K (.ref C) m) (some (some (.ref f))) && (PySem.W.isFn K (.ref f) && PySem.W.keepIn K (.ref f))
  | .mkr C f => PySem.W.makesIn K C && (eqB (PySem.W.findIn K (.ref C) "__init__") (some (some (.ref f))) && (PySem.W.isFn K (.ref f) && PySem.W.keepIn K (.ref C)))
  | .prp C x p g => eqB (PySem.W.findIn K (.ref C) x) (some (some (.ref p))) && (eqB (PySem.W.specialIn K (.ref p) "__get__") (some (some (.builtin "property.__get__"))) && (eqC (PySem.W.takesIn K (.ref p)) (some true) &&
      (match PySem.W.recIn K p "property" with
      | some (.ref g' :: _) => decide (g' = g)
      | _ => false)))
  | .exc C => PySem.W.excIn K C bmV "ValueError.__new__" && (PySem.W.keepIn K (.ref C) && (eqC (PySem.W.subIn K (.ref C) (.type "BaseException")) (some true) && decide (PySem.W.typeIn K (.ref C) = some (.type "type"))))
  | .exC D => eqB (PySem.W.findIn K (.ref D) "__getattribute__") (some (some (.builtin "BaseException.__getattribute__"))) && (eqB (PySem.W.findIn K (.ref D) "__getattr__") (some none) && (eqC (PySem.W.subIn K (.ref D) (.type "BaseException")) (some true) &&
      (PySem.W.hasDictIn K D && (eqB (PySem.W.findIn K (.ref D) "__class__") (some (some (.builtin "object.__class__"))) && (eqB (PySem.W.specialIn K (.builtin "object.__class__") "__get__") (some (some (.builtin "getset_descriptor.__get__"))) &&
      (eqC (PySem.W.takesIn K (.builtin "object.__class__")) (some true) && eqC (PySem.W.mroIn K D (.type "object")) (some true)))))))
  | .kit a b r => eqC (PySem.W.kitOne K (.ref a) (.ref b)) (some r)
  | .kiT a n r => eqC (PySem.W.kitOne K (.ref a) (.type n)) (some r)
  | .exm a b r => eqC (PySem.W.exmOne K (.ref a) (.ref b)) (some r)
  | .eqf C f => eqB (PySem.W.findIn K (.ref C) "__eq__") (some (some (.ref f))) && PySem.W.isFn K (.ref f)
  | .nef C => eqB (PySem.W.findIn K (.ref C) "__ne__") (some (some (.builtin "object.__ne__")))
  | .tyo C => eqB (PySem.W.findIn K (.ref C) "__class__") (some (some (.builtin "object.__class__"))) && (eqB (PySem.W.specialIn K (.builtin "object.__class__") "__get__") (some (some (.builtin "getset_descriptor.__get__"))) &&
      (eqC (PySem.W.takesIn K (.builtin "object.__class__")) (some true) && eqC (PySem.W.mroIn K C (.type "object")) (some true)))
/-- what each says -/
def Fk.P (K : PySem.W.Frag) (mg : Str → Option Value) : Fk → Prop
  | .glo x a => mg x = some (.ref a)
  | .free x => mg x = none
  | .int x i => ∃ t, mg x = some (.int i t)
  | .str x z => ∃ t, mg x = some (.str z t)
  | .cls C => Cls K C
  | .noat C f => NoAttr K C f
  | .mth C m f => Meth K C m f
  | .mkr C f => Mk K C f
  | .prp C x p g => PropOf K C x p g
  | .exc C => ExcOk K C
  | .exC D => ExcC K D
  | .kit a b r => PySem.W.kitOne K (.ref a) (.ref b) = some r
  | .kiT a n r => PySem.W.kitOne K (.ref a) (.type n) = some r
  | .exm a b r => PySem.W.exmOne K (.ref a) (.ref b) = some r
  | .eqf C f => PySem.W.findIn K (.ref C) "__eq__" = some (some (.ref f)) ∧ PySem.W.isFn K (.ref f) = true
  | .nef C => PySem.W.findIn K (.ref C) "__ne__" = some (some (.builtin "object.__ne__"))
  | .tyo C => TyoOk K C
theorem band {a b : Bool} (h : (a && b) = true) : a = true ∧ b = true := Bool.and_eq_true_iff.mp h
theorem Fk.sound {K : PySem.W.Frag} {h : Heap} {mg : Str → Option Value} (X : K.In h) (G : h.Ns mainGlobals mg) : ∀ {f : Fk}, f.ok K = true → f.P K mg
  | .glo x a, c => PySem.W.mg_of X G (eqB_ok (band c).1)
  | .free x, c => PySem.W.mg_none_of X G (eqB_ok c)
  | .int x i, c => by
    simp only [Fk.ok] at c
    split at c
    · rename_i j t q
      exact ⟨t, by rw [PySem.W.mg_of X G q, of_decide_eq_true c]⟩
    · cases c
  | .str x z, c => by
    simp only [Fk.ok] at c
    split at c
    · rename_i j t q
      exact ⟨t, by rw [PySem.W.mg_of X G q, of_decide_eq_true c]⟩
    · cases c
  | .cls C, c => ⟨(band c).1, (band (band c).2).1, (band (band (band c).2).2).1, eqB_ok (band (band (band c).2).2).2⟩
  | .noat C f, c => eqB_ok c
  | .mth C m f, c => ⟨eqB_ok (band c).1, (band (band c).2).1, (band (band c).2).2⟩
  | .mkr C f, c => ⟨(band c).1, eqB_ok (band (band c).2).1, (band (band (band c).2).2).1, (band (band (band c).2).2).2⟩
  | .prp C x p g, c => by
    have c1 := band c
    have c2 := band c1.2
    have c3 := band c2.2
    refine ⟨eqB_ok c1.1, eqB_ok c2.1, eqC_ok c3.1, ?_⟩
    have c4 := c3.2
    split at c4
    · rename_i g' rest q
      exact ⟨rest, by rw [q, of_decide_eq_true c4]⟩
    · cases c4
  | .exc C, c => ⟨(band c).1, (band (band c).2).1, eqC_ok (band (band (band c).2).2).1, of_decide_eq_true (band (band (band c).2).2).2⟩
  | .exC D, c => by
    have c1 := band c
    have c2 := band c1.2
    have c3 := band c2.2
    have c4 := band c3.2
    have c5 := band c4.2
    have c6 := band c5.2
    have c7 := band c6.2
    exact ⟨eqB_ok c1.1, eqB_ok c2.1, eqC_ok c3.1, c4.1, eqB_ok c5.1, eqB_ok c6.1, eqC_ok c7.1, eqC_ok c7.2⟩
  | .kit a b r, c => eqC_ok c
  | .kiT a n r, c => eqC_ok c
  | .exm a b r, c => eqC_ok c
  | .eqf C f, c => ⟨eqB_ok (band c).1, (band c).2⟩
  | .nef C, c => eqB_ok c
  | .tyo C, c => ⟨eqB_ok (band c).1, eqB_ok (band (band c).2).1, eqC_ok (band (band (band c).2).2).1, eqC_ok (band (band (band c).2).2).2⟩
structure DefP where
  at_ : Addr
  name : Str
  qual : Str
  st : Stmt
def fk0 : List Fk := [(.glo "is_name" 297), (.glo "validate_facts" 304), (.glo "rows_of" 398), (.glo "with_inner" 537), (.glo "met_together" 563), (.glo "clashes" 568), (.glo "swapped_rules" 573), (.glo "swapped" 580), (.glo "_law_mix" 663), (.glo "_law_next" 670), (.glo "_law_alike" 675), (.glo "_law_error" 682), (.glo "_law_facts" 689), (.glo "_law_parts" 696), (.glo "_law_rules" 703), (.glo "_law_rule" 708), (.glo "_law_book" 713), (.glo "_law_meets" 718), (.glo "_law_case" 737), (.glo "_law_every" 742), (.glo "_law_pairs" 747), (.glo "_law_changed" 754), (.glo "law" 759), (.glo "Rule" 387), (.glo "Book" 526), (.glo "Condition" 652), (.glo "CourtError" 31), (.glo "InvalidFacts" 53), (.glo "InvalidCase" 74), (.glo "InvalidNumber" 86), (.glo "InvalidCondition" 107), (.glo "NeverMet" 119), (.glo "InvalidRule" 140), (.glo "InvalidBook" 161), (.glo "UnknownRule" 173), (.glo "InvalidRuling" 185), (.glo "UnknownFact" 197), (.glo "NoReason" 209), (.glo "TooMany" 221), (.glo "InvalidChance" 242)]
def fk1 : List Fk := [(.glo "OtherFacts" 254), (.glo "NoNeighbor" 266), (.glo "NoFacts" 278), (.glo "AlreadyKnown" 290), (.free "isinstance"), (.free "str"), (.free "len"), (.free "enumerate"), (.free "sorted"), (.free "tuple"), (.free "list"), (.free "range"), (.free "int"), (.free "max"), (.free "min"), (.free "dict"), (.free "bool"), (.free "ValueError"), (.int "LONGEST" 8), (.int "MAX_FACTS" 60), (.int "MAX_OUTERMOST" 40), (.int "MAX_RULES" 60), (.int "MAX_OPEN" 5), (.int "MAX_NAMES" 8), (.str "LETTERS" "abcdefghijklmnopqrstuvwxyz"), (.cls 387), (.mkr 387 325), (.tyo 387), (.eqf 387 384), (.kit 387 387 true), (.noat 387 "own_name"), (.noat 387 "own_condition"), (.noat 387 "own_ruling"), (.noat 387 "inner"), (.cls 526), (.mkr 526 412), (.tyo 526), (.eqf 526 516), (.kit 526 526 true), (.noat 526 "all_facts")]
def fk2 : List Fk := [(.noat 526 "outermost"), (.noat 526 "last_ruling"), (.noat 526 "rows"), (.cls 652), (.mkr 652 594), (.tyo 652), (.eqf 652 642), (.kit 652 652 true), (.noat 652 "wanted"), (.noat 652 "barred"), (.nef 526), (.prp 387 "name" 333 332), (.prp 387 "condition" 341 340), (.prp 387 "ruling" 349 348), (.prp 387 "exceptions" 357 356), (.prp 526 "facts" 425 424), (.prp 526 "rules" 433 432), (.prp 526 "ruling" 441 440), (.prp 526 "names" 447 446), (.prp 652 "holding" 602 601), (.prp 652 "failing" 610 609), (.prp 652 "names" 618 617), (.mth 526 "validate_rows" 417), (.mth 526 "row_of" 460), (.exc 266), (.exC 266), (.exm 266 31 true), (.kit 266 53 false), (.kit 266 74 false), (.kit 266 86 false), (.kit 266 107 false), (.kit 266 119 false), (.kit 266 140 false), (.kit 266 161 false), (.kit 266 173 false), (.kit 266 185 false), (.kit 266 197 false), (.kit 266 209 false), (.kit 266 221 false), (.kit 266 242 false)]
def fk3 : List Fk := [(.kit 266 254 false), (.kit 266 266 true), (.kit 266 278 false), (.kit 266 290 false), (.kiT 266 "ValueError" true), (.exc 173), (.exC 173), (.exm 173 31 true), (.kit 173 53 false), (.kit 173 74 false), (.kit 173 86 false), (.kit 173 107 false), (.kit 173 119 false), (.kit 173 140 false), (.kit 173 161 false), (.kit 173 173 true), (.kit 173 185 false), (.kit 173 197 false), (.kit 173 209 false), (.kit 173 221 false), (.kit 173 242 false), (.kit 173 254 false), (.kit 173 266 false), (.kit 173 278 false), (.kit 173 290 false), (.kiT 173 "ValueError" true)]
def fkA : List (List Fk) := [fk0, fk1, fk2, fk3]
def dp0 : List DefP := [⟨297, "is_name", "is_name", top 24⟩, ⟨304, "validate_facts", "validate_facts", top 25⟩, ⟨398, "rows_of", "rows_of", top 32⟩, ⟨537, "with_inner", "with_inner", top 34⟩, ⟨563, "met_together", "met_together", top 39⟩, ⟨568, "clashes", "clashes", top 40⟩, ⟨573, "swapped_rules", "swapped_rules", top 41⟩, ⟨580, "swapped", "swapped", top 42⟩, ⟨663, "_law_mix", "_law_mix", top 47⟩, ⟨670, "_law_next", "_law_next", top 48⟩, ⟨675, "_law_alike", "_law_alike", top 49⟩, ⟨682, "_law_error", "_law_error", top 50⟩, ⟨689, "_law_facts", "_law_facts", top 51⟩, ⟨696, "_law_parts", "_law_parts", top 52⟩, ⟨703, "_law_rules", "_law_rules", top 53⟩, ⟨708, "_law_rule", "_law_rule", top 54⟩, ⟨713, "_law_book", "_law_book", top 55⟩, ⟨718, "_law_meets", "_law_meets", top 56⟩, ⟨737, "_law_case", "_law_case", top 59⟩, ⟨742, "_law_every", "_law_every", top 60⟩, ⟨747, "_law_pairs", "_law_pairs", top 61⟩]
def dp1 : List DefP := [⟨754, "_law_changed", "_law_changed", top 62⟩, ⟨759, "law", "law", top 63⟩, ⟨325, "__init__", "Rule.__init__", inClass (top 31) 0⟩, ⟨332, "name", "Rule.name", inClass (top 31) 1⟩, ⟨340, "condition", "Rule.condition", inClass (top 31) 2⟩, ⟨348, "ruling", "Rule.ruling", inClass (top 31) 3⟩, ⟨356, "exceptions", "Rule.exceptions", inClass (top 31) 4⟩, ⟨384, "__eq__", "Rule.__eq__", inClass (top 31) 8⟩, ⟨412, "__init__", "Book.__init__", inClass (top 33) 0⟩, ⟨417, "validate_rows", "Book.validate_rows", inClass (top 33) 1⟩, ⟨424, "facts", "Book.facts", inClass (top 33) 2⟩, ⟨432, "rules", "Book.rules", inClass (top 33) 3⟩, ⟨440, "ruling", "Book.ruling", inClass (top 33) 4⟩, ⟨446, "names", "Book.names", inClass (top 33) 5⟩, ⟨460, "row_of", "Book.row_of", inClass (top 33) 7⟩, ⟨516, "__eq__", "Book.__eq__", inClass (top 33) 15⟩, ⟨594, "__init__", "Condition.__init__", inClass (top 45) 0⟩, ⟨601, "holding", "Condition.holding", inClass (top 45) 1⟩, ⟨609, "failing", "Condition.failing", inClass (top 45) 2⟩, ⟨617, "names", "Condition.names", inClass (top 45) 3⟩, ⟨642, "__eq__", "Condition.__eq__", inClass (top 45) 7⟩]
def dpA : List (List DefP) := [dp0, dp1]
/-- what the walk asks of the text as the top has left it -/
structure Txt (K : PySem.W.Frag) (mg : Str → Option Value) : Prop where
  fk : ∀ l ∈ fkA, ∀ f ∈ l, f.P K mg
  df : ∀ l ∈ dpA, ∀ d ∈ l, ∃ fd, Fun K d.name d.qual d.st d.at_ fd
section
variable {K : PySem.W.Frag} {mg : Str → Option Value}
theorem Txt.at (T : Txt K mg) (i j : Nat) {l : List Fk} {f : Fk} (hl : fkA[i]? = some l) (hf : l[j]? = some f) : f.P K mg := T.fk l (List.mem_of_getElem? hl) f (List.mem_of_getElem? hf)
theorem Txt.dAt (T : Txt K mg) (i j : Nat) {l : List DefP} {d : DefP} (hl : dpA[i]? = some l) (hf : l[j]? = some d) : ∃ fd, Fun K d.name d.qual d.st d.at_ fd := T.df l (List.mem_of_getElem? hl) d (List.mem_of_getElem? hf)
theorem Txt.g_is_name (T : Txt K mg) : mg "is_name" = some (.ref 297) := T.at 0 0 (f := .glo "is_name" 297) rfl rfl
theorem Txt.g_validate_facts (T : Txt K mg) : mg "validate_facts" = some (.ref 304) := T.at 0 1 (f := .glo "validate_facts" 304) rfl rfl
theorem Txt.g_rows_of (T : Txt K mg) : mg "rows_of" = some (.ref 398) := T.at 0 2 (f := .glo "rows_of" 398) rfl rfl
theorem Txt.g_with_inner (T : Txt K mg) : mg "with_inner" = some (.ref 537) := T.at 0 3 (f := .glo "with_inner" 537) rfl rfl
theorem Txt.g_met_together (T : Txt K mg) : mg "met_together" = some (.ref 563) := T.at 0 4 (f := .glo "met_together" 563) rfl rfl
theorem Txt.g_clashes (T : Txt K mg) : mg "clashes" = some (.ref 568) := T.at 0 5 (f := .glo "clashes" 568) rfl rfl
theorem Txt.g_swapped_rules (T : Txt K mg) : mg "swapped_rules" = some (.ref 573) := T.at 0 6 (f := .glo "swapped_rules" 573) rfl rfl
theorem Txt.g_swapped (T : Txt K mg) : mg "swapped" = some (.ref 580) := T.at 0 7 (f := .glo "swapped" 580) rfl rfl
theorem Txt.g_law_mix (T : Txt K mg) : mg "_law_mix" = some (.ref 663) := T.at 0 8 (f := .glo "_law_mix" 663) rfl rfl
theorem Txt.g_law_next (T : Txt K mg) : mg "_law_next" = some (.ref 670) := T.at 0 9 (f := .glo "_law_next" 670) rfl rfl
theorem Txt.g_law_alike (T : Txt K mg) : mg "_law_alike" = some (.ref 675) := T.at 0 10 (f := .glo "_law_alike" 675) rfl rfl
theorem Txt.g_law_error (T : Txt K mg) : mg "_law_error" = some (.ref 682) := T.at 0 11 (f := .glo "_law_error" 682) rfl rfl
theorem Txt.g_law_facts (T : Txt K mg) : mg "_law_facts" = some (.ref 689) := T.at 0 12 (f := .glo "_law_facts" 689) rfl rfl
theorem Txt.g_law_parts (T : Txt K mg) : mg "_law_parts" = some (.ref 696) := T.at 0 13 (f := .glo "_law_parts" 696) rfl rfl
theorem Txt.g_law_rules (T : Txt K mg) : mg "_law_rules" = some (.ref 703) := T.at 0 14 (f := .glo "_law_rules" 703) rfl rfl
theorem Txt.g_law_rule (T : Txt K mg) : mg "_law_rule" = some (.ref 708) := T.at 0 15 (f := .glo "_law_rule" 708) rfl rfl
theorem Txt.g_law_book (T : Txt K mg) : mg "_law_book" = some (.ref 713) := T.at 0 16 (f := .glo "_law_book" 713) rfl rfl
theorem Txt.g_law_meets (T : Txt K mg) : mg "_law_meets" = some (.ref 718) := T.at 0 17 (f := .glo "_law_meets" 718) rfl rfl
theorem Txt.g_law_case (T : Txt K mg) : mg "_law_case" = some (.ref 737) := T.at 0 18 (f := .glo "_law_case" 737) rfl rfl
theorem Txt.g_law_every (T : Txt K mg) : mg "_law_every" = some (.ref 742) := T.at 0 19 (f := .glo "_law_every" 742) rfl rfl
theorem Txt.g_law_pairs (T : Txt K mg) : mg "_law_pairs" = some (.ref 747) := T.at 0 20 (f := .glo "_law_pairs" 747) rfl rfl
theorem Txt.g_law_changed (T : Txt K mg) : mg "_law_changed" = some (.ref 754) := T.at 0 21 (f := .glo "_law_changed" 754) rfl rfl
theorem Txt.g_law (T : Txt K mg) : mg "law" = some (.ref 759) := T.at 0 22 (f := .glo "law" 759) rfl rfl
theorem Txt.g_Rule (T : Txt K mg) : mg "Rule" = some (.ref 387) := T.at 0 23 (f := .glo "Rule" 387) rfl rfl
theorem Txt.g_Book (T : Txt K mg) : mg "Book" = some (.ref 526) := T.at 0 24 (f := .glo "Book" 526) rfl rfl
theorem Txt.g_Condition (T : Txt K mg) : mg "Condition" = some (.ref 652) := T.at 0 25 (f := .glo "Condition" 652) rfl rfl
theorem Txt.g_CourtError (T : Txt K mg) : mg "CourtError" = some (.ref 31) := T.at 0 26 (f := .glo "CourtError" 31) rfl rfl
theorem Txt.g_InvalidFacts (T : Txt K mg) : mg "InvalidFacts" = some (.ref 53) := T.at 0 27 (f := .glo "InvalidFacts" 53) rfl rfl
theorem Txt.g_InvalidCase (T : Txt K mg) : mg "InvalidCase" = some (.ref 74) := T.at 0 28 (f := .glo "InvalidCase" 74) rfl rfl
theorem Txt.g_InvalidNumber (T : Txt K mg) : mg "InvalidNumber" = some (.ref 86) := T.at 0 29 (f := .glo "InvalidNumber" 86) rfl rfl
theorem Txt.g_InvalidCondition (T : Txt K mg) : mg "InvalidCondition" = some (.ref 107) := T.at 0 30 (f := .glo "InvalidCondition" 107) rfl rfl
theorem Txt.g_NeverMet (T : Txt K mg) : mg "NeverMet" = some (.ref 119) := T.at 0 31 (f := .glo "NeverMet" 119) rfl rfl
theorem Txt.g_InvalidRule (T : Txt K mg) : mg "InvalidRule" = some (.ref 140) := T.at 0 32 (f := .glo "InvalidRule" 140) rfl rfl
theorem Txt.g_InvalidBook (T : Txt K mg) : mg "InvalidBook" = some (.ref 161) := T.at 0 33 (f := .glo "InvalidBook" 161) rfl rfl
theorem Txt.g_UnknownRule (T : Txt K mg) : mg "UnknownRule" = some (.ref 173) := T.at 0 34 (f := .glo "UnknownRule" 173) rfl rfl
theorem Txt.g_InvalidRuling (T : Txt K mg) : mg "InvalidRuling" = some (.ref 185) := T.at 0 35 (f := .glo "InvalidRuling" 185) rfl rfl
theorem Txt.g_UnknownFact (T : Txt K mg) : mg "UnknownFact" = some (.ref 197) := T.at 0 36 (f := .glo "UnknownFact" 197) rfl rfl
theorem Txt.g_NoReason (T : Txt K mg) : mg "NoReason" = some (.ref 209) := T.at 0 37 (f := .glo "NoReason" 209) rfl rfl
theorem Txt.g_TooMany (T : Txt K mg) : mg "TooMany" = some (.ref 221) := T.at 0 38 (f := .glo "TooMany" 221) rfl rfl
theorem Txt.g_InvalidChance (T : Txt K mg) : mg "InvalidChance" = some (.ref 242) := T.at 0 39 (f := .glo "InvalidChance" 242) rfl rfl
theorem Txt.g_OtherFacts (T : Txt K mg) : mg "OtherFacts" = some (.ref 254) := T.at 1 0 (f := .glo "OtherFacts" 254) rfl rfl
theorem Txt.g_NoNeighbor (T : Txt K mg) : mg "NoNeighbor" = some (.ref 266) := T.at 1 1 (f := .glo "NoNeighbor" 266) rfl rfl
theorem Txt.g_NoFacts (T : Txt K mg) : mg "NoFacts" = some (.ref 278) := T.at 1 2 (f := .glo "NoFacts" 278) rfl rfl
theorem Txt.g_AlreadyKnown (T : Txt K mg) : mg "AlreadyKnown" = some (.ref 290) := T.at 1 3 (f := .glo "AlreadyKnown" 290) rfl rfl
theorem Txt.f_isinstance (T : Txt K mg) : mg "isinstance" = none := T.at 1 4 (f := .free "isinstance") rfl rfl
theorem Txt.f_str (T : Txt K mg) : mg "str" = none := T.at 1 5 (f := .free "str") rfl rfl
theorem Txt.f_len (T : Txt K mg) : mg "len" = none := T.at 1 6 (f := .free "len") rfl rfl
theorem Txt.f_enumerate (T : Txt K mg) : mg "enumerate" = none := T.at 1 7 (f := .free "enumerate") rfl rfl
theorem Txt.f_sorted (T : Txt K mg) : mg "sorted" = none := T.at 1 8 (f := .free "sorted") rfl rfl
theorem Txt.f_tuple (T : Txt K mg) : mg "tuple" = none := T.at 1 9 (f := .free "tuple") rfl rfl
theorem Txt.f_list (T : Txt K mg) : mg "list" = none := T.at 1 10 (f := .free "list") rfl rfl
theorem Txt.f_range (T : Txt K mg) : mg "range" = none := T.at 1 11 (f := .free "range") rfl rfl
theorem Txt.f_int (T : Txt K mg) : mg "int" = none := T.at 1 12 (f := .free "int") rfl rfl
theorem Txt.f_max (T : Txt K mg) : mg "max" = none := T.at 1 13 (f := .free "max") rfl rfl
theorem Txt.f_min (T : Txt K mg) : mg "min" = none := T.at 1 14 (f := .free "min") rfl rfl
theorem Txt.f_dict (T : Txt K mg) : mg "dict" = none := T.at 1 15 (f := .free "dict") rfl rfl
theorem Txt.f_bool (T : Txt K mg) : mg "bool" = none := T.at 1 16 (f := .free "bool") rfl rfl
theorem Txt.f_ValueError (T : Txt K mg) : mg "ValueError" = none := T.at 1 17 (f := .free "ValueError") rfl rfl
theorem Txt.i_LONGEST (T : Txt K mg) : ∃ t, mg "LONGEST" = some (.int 8 t) := T.at 1 18 (f := .int "LONGEST" 8) rfl rfl
theorem Txt.i_MAX_FACTS (T : Txt K mg) : ∃ t, mg "MAX_FACTS" = some (.int 60 t) := T.at 1 19 (f := .int "MAX_FACTS" 60) rfl rfl
theorem Txt.i_MAX_OUTERMOST (T : Txt K mg) : ∃ t, mg "MAX_OUTERMOST" = some (.int 40 t) := T.at 1 20 (f := .int "MAX_OUTERMOST" 40) rfl rfl
theorem Txt.i_MAX_RULES (T : Txt K mg) : ∃ t, mg "MAX_RULES" = some (.int 60 t) := T.at 1 21 (f := .int "MAX_RULES" 60) rfl rfl
theorem Txt.i_MAX_OPEN (T : Txt K mg) : ∃ t, mg "MAX_OPEN" = some (.int 5 t) := T.at 1 22 (f := .int "MAX_OPEN" 5) rfl rfl
theorem Txt.i_MAX_NAMES (T : Txt K mg) : ∃ t, mg "MAX_NAMES" = some (.int 8 t) := T.at 1 23 (f := .int "MAX_NAMES" 8) rfl rfl
theorem Txt.s_LETTERS (T : Txt K mg) : ∃ t, mg "LETTERS" = some (.str "abcdefghijklmnopqrstuvwxyz" t) := T.at 1 24 (f := .str "LETTERS" "abcdefghijklmnopqrstuvwxyz") rfl rfl
theorem Txt.c_Rule (T : Txt K mg) : Cls K 387 := T.at 1 25 (f := .cls 387) rfl rfl
theorem Txt.m_Rule (T : Txt K mg) : Mk K 387 325 := T.at 1 26 (f := .mkr 387 325) rfl rfl
theorem Txt.y_Rule (T : Txt K mg) : TyoOk K 387 := T.at 1 27 (f := .tyo 387) rfl rfl
theorem Txt.e_Rule (T : Txt K mg) : PySem.W.findIn K (.ref 387) "__eq__" = some (some (.ref 384)) ∧ PySem.W.isFn K (.ref 384) = true := T.at 1 28 (f := .eqf 387 384) rfl rfl
theorem Txt.k_Rule (T : Txt K mg) : PySem.W.kitOne K (.ref 387) (.ref 387) = some true := T.at 1 29 (f := .kit 387 387 true) rfl rfl
theorem Txt.n_Rule_own_name (T : Txt K mg) : NoAttr K 387 "own_name" := T.at 1 30 (f := .noat 387 "own_name") rfl rfl
theorem Txt.n_Rule_own_condition (T : Txt K mg) : NoAttr K 387 "own_condition" := T.at 1 31 (f := .noat 387 "own_condition") rfl rfl
theorem Txt.n_Rule_own_ruling (T : Txt K mg) : NoAttr K 387 "own_ruling" := T.at 1 32 (f := .noat 387 "own_ruling") rfl rfl
theorem Txt.n_Rule_inner (T : Txt K mg) : NoAttr K 387 "inner" := T.at 1 33 (f := .noat 387 "inner") rfl rfl
theorem Txt.c_Book (T : Txt K mg) : Cls K 526 := T.at 1 34 (f := .cls 526) rfl rfl
theorem Txt.m_Book (T : Txt K mg) : Mk K 526 412 := T.at 1 35 (f := .mkr 526 412) rfl rfl
theorem Txt.y_Book (T : Txt K mg) : TyoOk K 526 := T.at 1 36 (f := .tyo 526) rfl rfl
theorem Txt.e_Book (T : Txt K mg) : PySem.W.findIn K (.ref 526) "__eq__" = some (some (.ref 516)) ∧ PySem.W.isFn K (.ref 516) = true := T.at 1 37 (f := .eqf 526 516) rfl rfl
theorem Txt.k_Book (T : Txt K mg) : PySem.W.kitOne K (.ref 526) (.ref 526) = some true := T.at 1 38 (f := .kit 526 526 true) rfl rfl
theorem Txt.n_Book_all_facts (T : Txt K mg) : NoAttr K 526 "all_facts" := T.at 1 39 (f := .noat 526 "all_facts") rfl rfl
theorem Txt.n_Book_outermost (T : Txt K mg) : NoAttr K 526 "outermost" := T.at 2 0 (f := .noat 526 "outermost") rfl rfl
theorem Txt.n_Book_last_ruling (T : Txt K mg) : NoAttr K 526 "last_ruling" := T.at 2 1 (f := .noat 526 "last_ruling") rfl rfl
theorem Txt.n_Book_rows (T : Txt K mg) : NoAttr K 526 "rows" := T.at 2 2 (f := .noat 526 "rows") rfl rfl
theorem Txt.c_Condition (T : Txt K mg) : Cls K 652 := T.at 2 3 (f := .cls 652) rfl rfl
theorem Txt.m_Condition (T : Txt K mg) : Mk K 652 594 := T.at 2 4 (f := .mkr 652 594) rfl rfl
theorem Txt.y_Condition (T : Txt K mg) : TyoOk K 652 := T.at 2 5 (f := .tyo 652) rfl rfl
theorem Txt.e_Condition (T : Txt K mg) : PySem.W.findIn K (.ref 652) "__eq__" = some (some (.ref 642)) ∧ PySem.W.isFn K (.ref 642) = true := T.at 2 6 (f := .eqf 652 642) rfl rfl
theorem Txt.k_Condition (T : Txt K mg) : PySem.W.kitOne K (.ref 652) (.ref 652) = some true := T.at 2 7 (f := .kit 652 652 true) rfl rfl
theorem Txt.n_Condition_wanted (T : Txt K mg) : NoAttr K 652 "wanted" := T.at 2 8 (f := .noat 652 "wanted") rfl rfl
theorem Txt.n_Condition_barred (T : Txt K mg) : NoAttr K 652 "barred" := T.at 2 9 (f := .noat 652 "barred") rfl rfl
theorem Txt.ne_Book (T : Txt K mg) : PySem.W.findIn K (.ref 526) "__ne__" = some (some (.builtin "object.__ne__")) := T.at 2 10 (f := .nef 526) rfl rfl
theorem Txt.p_Rule_name (T : Txt K mg) : PropOf K 387 "name" 333 332 := T.at 2 11 (f := .prp 387 "name" 333 332) rfl rfl
theorem Txt.p_Rule_condition (T : Txt K mg) : PropOf K 387 "condition" 341 340 := T.at 2 12 (f := .prp 387 "condition" 341 340) rfl rfl
theorem Txt.p_Rule_ruling (T : Txt K mg) : PropOf K 387 "ruling" 349 348 := T.at 2 13 (f := .prp 387 "ruling" 349 348) rfl rfl
theorem Txt.p_Rule_exceptions (T : Txt K mg) : PropOf K 387 "exceptions" 357 356 := T.at 2 14 (f := .prp 387 "exceptions" 357 356) rfl rfl
theorem Txt.p_Book_facts (T : Txt K mg) : PropOf K 526 "facts" 425 424 := T.at 2 15 (f := .prp 526 "facts" 425 424) rfl rfl
theorem Txt.p_Book_rules (T : Txt K mg) : PropOf K 526 "rules" 433 432 := T.at 2 16 (f := .prp 526 "rules" 433 432) rfl rfl
theorem Txt.p_Book_ruling (T : Txt K mg) : PropOf K 526 "ruling" 441 440 := T.at 2 17 (f := .prp 526 "ruling" 441 440) rfl rfl
theorem Txt.p_Book_names (T : Txt K mg) : PropOf K 526 "names" 447 446 := T.at 2 18 (f := .prp 526 "names" 447 446) rfl rfl
theorem Txt.p_Condition_holding (T : Txt K mg) : PropOf K 652 "holding" 602 601 := T.at 2 19 (f := .prp 652 "holding" 602 601) rfl rfl
theorem Txt.p_Condition_failing (T : Txt K mg) : PropOf K 652 "failing" 610 609 := T.at 2 20 (f := .prp 652 "failing" 610 609) rfl rfl
theorem Txt.p_Condition_names (T : Txt K mg) : PropOf K 652 "names" 618 617 := T.at 2 21 (f := .prp 652 "names" 618 617) rfl rfl
theorem Txt.t_validate_rows (T : Txt K mg) : Meth K 526 "validate_rows" 417 := T.at 2 22 (f := .mth 526 "validate_rows" 417) rfl rfl
theorem Txt.t_row_of (T : Txt K mg) : Meth K 526 "row_of" 460 := T.at 2 23 (f := .mth 526 "row_of" 460) rfl rfl
theorem Txt.x_NoNeighbor (T : Txt K mg) : ExcOk K 266 := T.at 2 24 (f := .exc 266) rfl rfl
theorem Txt.xc_NoNeighbor (T : Txt K mg) : ExcC K 266 := T.at 2 25 (f := .exC 266) rfl rfl
theorem Txt.xm_NoNeighbor (T : Txt K mg) : PySem.W.exmOne K (.ref 266) (.ref 31) = some true := T.at 2 26 (f := .exm 266 31 true) rfl rfl
theorem Txt.xk_NoNeighbor_InvalidFacts (T : Txt K mg) : PySem.W.kitOne K (.ref 266) (.ref 53) = some false := T.at 2 27 (f := .kit 266 53 false) rfl rfl
theorem Txt.xk_NoNeighbor_InvalidCase (T : Txt K mg) : PySem.W.kitOne K (.ref 266) (.ref 74) = some false := T.at 2 28 (f := .kit 266 74 false) rfl rfl
theorem Txt.xk_NoNeighbor_InvalidNumber (T : Txt K mg) : PySem.W.kitOne K (.ref 266) (.ref 86) = some false := T.at 2 29 (f := .kit 266 86 false) rfl rfl
theorem Txt.xk_NoNeighbor_InvalidCondition (T : Txt K mg) : PySem.W.kitOne K (.ref 266) (.ref 107) = some false := T.at 2 30 (f := .kit 266 107 false) rfl rfl
theorem Txt.xk_NoNeighbor_NeverMet (T : Txt K mg) : PySem.W.kitOne K (.ref 266) (.ref 119) = some false := T.at 2 31 (f := .kit 266 119 false) rfl rfl
theorem Txt.xk_NoNeighbor_InvalidRule (T : Txt K mg) : PySem.W.kitOne K (.ref 266) (.ref 140) = some false := T.at 2 32 (f := .kit 266 140 false) rfl rfl
theorem Txt.xk_NoNeighbor_InvalidBook (T : Txt K mg) : PySem.W.kitOne K (.ref 266) (.ref 161) = some false := T.at 2 33 (f := .kit 266 161 false) rfl rfl
theorem Txt.xk_NoNeighbor_UnknownRule (T : Txt K mg) : PySem.W.kitOne K (.ref 266) (.ref 173) = some false := T.at 2 34 (f := .kit 266 173 false) rfl rfl
theorem Txt.xk_NoNeighbor_InvalidRuling (T : Txt K mg) : PySem.W.kitOne K (.ref 266) (.ref 185) = some false := T.at 2 35 (f := .kit 266 185 false) rfl rfl
theorem Txt.xk_NoNeighbor_UnknownFact (T : Txt K mg) : PySem.W.kitOne K (.ref 266) (.ref 197) = some false := T.at 2 36 (f := .kit 266 197 false) rfl rfl
theorem Txt.xk_NoNeighbor_NoReason (T : Txt K mg) : PySem.W.kitOne K (.ref 266) (.ref 209) = some false := T.at 2 37 (f := .kit 266 209 false) rfl rfl
theorem Txt.xk_NoNeighbor_TooMany (T : Txt K mg) : PySem.W.kitOne K (.ref 266) (.ref 221) = some false := T.at 2 38 (f := .kit 266 221 false) rfl rfl
theorem Txt.xk_NoNeighbor_InvalidChance (T : Txt K mg) : PySem.W.kitOne K (.ref 266) (.ref 242) = some false := T.at 2 39 (f := .kit 266 242 false) rfl rfl
theorem Txt.xk_NoNeighbor_OtherFacts (T : Txt K mg) : PySem.W.kitOne K (.ref 266) (.ref 254) = some false := T.at 3 0 (f := .kit 266 254 false) rfl rfl
theorem Txt.xk_NoNeighbor_NoNeighbor (T : Txt K mg) : PySem.W.kitOne K (.ref 266) (.ref 266) = some true := T.at 3 1 (f := .kit 266 266 true) rfl rfl
theorem Txt.xk_NoNeighbor_NoFacts (T : Txt K mg) : PySem.W.kitOne K (.ref 266) (.ref 278) = some false := T.at 3 2 (f := .kit 266 278 false) rfl rfl
theorem Txt.xk_NoNeighbor_AlreadyKnown (T : Txt K mg) : PySem.W.kitOne K (.ref 266) (.ref 290) = some false := T.at 3 3 (f := .kit 266 290 false) rfl rfl
theorem Txt.xv_NoNeighbor (T : Txt K mg) : PySem.W.kitOne K (.ref 266) (.type "ValueError") = some true := T.at 3 4 (f := .kiT 266 "ValueError" true) rfl rfl
theorem Txt.x_UnknownRule (T : Txt K mg) : ExcOk K 173 := T.at 3 5 (f := .exc 173) rfl rfl
theorem Txt.xc_UnknownRule (T : Txt K mg) : ExcC K 173 := T.at 3 6 (f := .exC 173) rfl rfl
theorem Txt.xm_UnknownRule (T : Txt K mg) : PySem.W.exmOne K (.ref 173) (.ref 31) = some true := T.at 3 7 (f := .exm 173 31 true) rfl rfl
theorem Txt.xk_UnknownRule_InvalidFacts (T : Txt K mg) : PySem.W.kitOne K (.ref 173) (.ref 53) = some false := T.at 3 8 (f := .kit 173 53 false) rfl rfl
theorem Txt.xk_UnknownRule_InvalidCase (T : Txt K mg) : PySem.W.kitOne K (.ref 173) (.ref 74) = some false := T.at 3 9 (f := .kit 173 74 false) rfl rfl
theorem Txt.xk_UnknownRule_InvalidNumber (T : Txt K mg) : PySem.W.kitOne K (.ref 173) (.ref 86) = some false := T.at 3 10 (f := .kit 173 86 false) rfl rfl
theorem Txt.xk_UnknownRule_InvalidCondition (T : Txt K mg) : PySem.W.kitOne K (.ref 173) (.ref 107) = some false := T.at 3 11 (f := .kit 173 107 false) rfl rfl
theorem Txt.xk_UnknownRule_NeverMet (T : Txt K mg) : PySem.W.kitOne K (.ref 173) (.ref 119) = some false := T.at 3 12 (f := .kit 173 119 false) rfl rfl
theorem Txt.xk_UnknownRule_InvalidRule (T : Txt K mg) : PySem.W.kitOne K (.ref 173) (.ref 140) = some false := T.at 3 13 (f := .kit 173 140 false) rfl rfl
theorem Txt.xk_UnknownRule_InvalidBook (T : Txt K mg) : PySem.W.kitOne K (.ref 173) (.ref 161) = some false := T.at 3 14 (f := .kit 173 161 false) rfl rfl
theorem Txt.xk_UnknownRule_UnknownRule (T : Txt K mg) : PySem.W.kitOne K (.ref 173) (.ref 173) = some true := T.at 3 15 (f := .kit 173 173 true) rfl rfl
theorem Txt.xk_UnknownRule_InvalidRuling (T : Txt K mg) : PySem.W.kitOne K (.ref 173) (.ref 185) = some false := T.at 3 16 (f := .kit 173 185 false) rfl rfl
theorem Txt.xk_UnknownRule_UnknownFact (T : Txt K mg) : PySem.W.kitOne K (.ref 173) (.ref 197) = some false := T.at 3 17 (f := .kit 173 197 false) rfl rfl
theorem Txt.xk_UnknownRule_NoReason (T : Txt K mg) : PySem.W.kitOne K (.ref 173) (.ref 209) = some false := T.at 3 18 (f := .kit 173 209 false) rfl rfl
theorem Txt.xk_UnknownRule_TooMany (T : Txt K mg) : PySem.W.kitOne K (.ref 173) (.ref 221) = some false := T.at 3 19 (f := .kit 173 221 false) rfl rfl
theorem Txt.xk_UnknownRule_InvalidChance (T : Txt K mg) : PySem.W.kitOne K (.ref 173) (.ref 242) = some false := T.at 3 20 (f := .kit 173 242 false) rfl rfl
theorem Txt.xk_UnknownRule_OtherFacts (T : Txt K mg) : PySem.W.kitOne K (.ref 173) (.ref 254) = some false := T.at 3 21 (f := .kit 173 254 false) rfl rfl
theorem Txt.xk_UnknownRule_NoNeighbor (T : Txt K mg) : PySem.W.kitOne K (.ref 173) (.ref 266) = some false := T.at 3 22 (f := .kit 173 266 false) rfl rfl
theorem Txt.xk_UnknownRule_NoFacts (T : Txt K mg) : PySem.W.kitOne K (.ref 173) (.ref 278) = some false := T.at 3 23 (f := .kit 173 278 false) rfl rfl
theorem Txt.xk_UnknownRule_AlreadyKnown (T : Txt K mg) : PySem.W.kitOne K (.ref 173) (.ref 290) = some false := T.at 3 24 (f := .kit 173 290 false) rfl rfl
theorem Txt.xv_UnknownRule (T : Txt K mg) : PySem.W.kitOne K (.ref 173) (.type "ValueError") = some true := T.at 3 25 (f := .kiT 173 "ValueError" true) rfl rfl
abbrev s_is_name : Stmt := top 24
theorem Txt.d_is_name (T : Txt K mg) : ∃ fd, Fun K "is_name" "is_name" s_is_name 297 fd := T.dAt 0 0 (d := ⟨297, "is_name", "is_name", top 24⟩) rfl rfl
abbrev s_validate_facts : Stmt := top 25
theorem Txt.d_validate_facts (T : Txt K mg) : ∃ fd, Fun K "validate_facts" "validate_facts" s_validate_facts 304 fd := T.dAt 0 1 (d := ⟨304, "validate_facts", "validate_facts", top 25⟩) rfl rfl
abbrev s_rows_of : Stmt := top 32
theorem Txt.d_rows_of (T : Txt K mg) : ∃ fd, Fun K "rows_of" "rows_of" s_rows_of 398 fd := T.dAt 0 2 (d := ⟨398, "rows_of", "rows_of", top 32⟩) rfl rfl
abbrev s_with_inner : Stmt := top 34
theorem Txt.d_with_inner (T : Txt K mg) : ∃ fd, Fun K "with_inner" "with_inner" s_with_inner 537 fd := T.dAt 0 3 (d := ⟨537, "with_inner", "with_inner", top 34⟩) rfl rfl
abbrev s_met_together : Stmt := top 39
theorem Txt.d_met_together (T : Txt K mg) : ∃ fd, Fun K "met_together" "met_together" s_met_together 563 fd := T.dAt 0 4 (d := ⟨563, "met_together", "met_together", top 39⟩) rfl rfl
abbrev s_clashes : Stmt := top 40
theorem Txt.d_clashes (T : Txt K mg) : ∃ fd, Fun K "clashes" "clashes" s_clashes 568 fd := T.dAt 0 5 (d := ⟨568, "clashes", "clashes", top 40⟩) rfl rfl
abbrev s_swapped_rules : Stmt := top 41
theorem Txt.d_swapped_rules (T : Txt K mg) : ∃ fd, Fun K "swapped_rules" "swapped_rules" s_swapped_rules 573 fd := T.dAt 0 6 (d := ⟨573, "swapped_rules", "swapped_rules", top 41⟩) rfl rfl
abbrev s_swapped : Stmt := top 42
theorem Txt.d_swapped (T : Txt K mg) : ∃ fd, Fun K "swapped" "swapped" s_swapped 580 fd := T.dAt 0 7 (d := ⟨580, "swapped", "swapped", top 42⟩) rfl rfl
abbrev s_law_mix : Stmt := top 47
theorem Txt.d_law_mix (T : Txt K mg) : ∃ fd, Fun K "_law_mix" "_law_mix" s_law_mix 663 fd := T.dAt 0 8 (d := ⟨663, "_law_mix", "_law_mix", top 47⟩) rfl rfl
abbrev s_law_next : Stmt := top 48
theorem Txt.d_law_next (T : Txt K mg) : ∃ fd, Fun K "_law_next" "_law_next" s_law_next 670 fd := T.dAt 0 9 (d := ⟨670, "_law_next", "_law_next", top 48⟩) rfl rfl
abbrev s_law_alike : Stmt := top 49
theorem Txt.d_law_alike (T : Txt K mg) : ∃ fd, Fun K "_law_alike" "_law_alike" s_law_alike 675 fd := T.dAt 0 10 (d := ⟨675, "_law_alike", "_law_alike", top 49⟩) rfl rfl
abbrev s_law_error : Stmt := top 50
theorem Txt.d_law_error (T : Txt K mg) : ∃ fd, Fun K "_law_error" "_law_error" s_law_error 682 fd := T.dAt 0 11 (d := ⟨682, "_law_error", "_law_error", top 50⟩) rfl rfl
abbrev s_law_facts : Stmt := top 51
theorem Txt.d_law_facts (T : Txt K mg) : ∃ fd, Fun K "_law_facts" "_law_facts" s_law_facts 689 fd := T.dAt 0 12 (d := ⟨689, "_law_facts", "_law_facts", top 51⟩) rfl rfl
abbrev s_law_parts : Stmt := top 52
theorem Txt.d_law_parts (T : Txt K mg) : ∃ fd, Fun K "_law_parts" "_law_parts" s_law_parts 696 fd := T.dAt 0 13 (d := ⟨696, "_law_parts", "_law_parts", top 52⟩) rfl rfl
abbrev s_law_rules : Stmt := top 53
theorem Txt.d_law_rules (T : Txt K mg) : ∃ fd, Fun K "_law_rules" "_law_rules" s_law_rules 703 fd := T.dAt 0 14 (d := ⟨703, "_law_rules", "_law_rules", top 53⟩) rfl rfl
abbrev s_law_rule : Stmt := top 54
theorem Txt.d_law_rule (T : Txt K mg) : ∃ fd, Fun K "_law_rule" "_law_rule" s_law_rule 708 fd := T.dAt 0 15 (d := ⟨708, "_law_rule", "_law_rule", top 54⟩) rfl rfl
abbrev s_law_book : Stmt := top 55
theorem Txt.d_law_book (T : Txt K mg) : ∃ fd, Fun K "_law_book" "_law_book" s_law_book 713 fd := T.dAt 0 16 (d := ⟨713, "_law_book", "_law_book", top 55⟩) rfl rfl
abbrev s_law_meets : Stmt := top 56
theorem Txt.d_law_meets (T : Txt K mg) : ∃ fd, Fun K "_law_meets" "_law_meets" s_law_meets 718 fd := T.dAt 0 17 (d := ⟨718, "_law_meets", "_law_meets", top 56⟩) rfl rfl
abbrev s_law_case : Stmt := top 59
theorem Txt.d_law_case (T : Txt K mg) : ∃ fd, Fun K "_law_case" "_law_case" s_law_case 737 fd := T.dAt 0 18 (d := ⟨737, "_law_case", "_law_case", top 59⟩) rfl rfl
abbrev s_law_every : Stmt := top 60
theorem Txt.d_law_every (T : Txt K mg) : ∃ fd, Fun K "_law_every" "_law_every" s_law_every 742 fd := T.dAt 0 19 (d := ⟨742, "_law_every", "_law_every", top 60⟩) rfl rfl
abbrev s_law_pairs : Stmt := top 61
theorem Txt.d_law_pairs (T : Txt K mg) : ∃ fd, Fun K "_law_pairs" "_law_pairs" s_law_pairs 747 fd := T.dAt 0 20 (d := ⟨747, "_law_pairs", "_law_pairs", top 61⟩) rfl rfl
abbrev s_law_changed : Stmt := top 62
theorem Txt.d_law_changed (T : Txt K mg) : ∃ fd, Fun K "_law_changed" "_law_changed" s_law_changed 754 fd := T.dAt 1 0 (d := ⟨754, "_law_changed", "_law_changed", top 62⟩) rfl rfl
abbrev s_law : Stmt := top 63
theorem Txt.d_law (T : Txt K mg) : ∃ fd, Fun K "law" "law" s_law 759 fd := T.dAt 1 1 (d := ⟨759, "law", "law", top 63⟩) rfl rfl
abbrev s_Rule_init : Stmt := inClass (top 31) 0
theorem Txt.d_Rule_init (T : Txt K mg) : ∃ fd, Fun K "__init__" "Rule.__init__" s_Rule_init 325 fd := T.dAt 1 2 (d := ⟨325, "__init__", "Rule.__init__", inClass (top 31) 0⟩) rfl rfl
abbrev s_Rule_name : Stmt := inClass (top 31) 1
theorem Txt.d_Rule_name (T : Txt K mg) : ∃ fd, Fun K "name" "Rule.name" s_Rule_name 332 fd := T.dAt 1 3 (d := ⟨332, "name", "Rule.name", inClass (top 31) 1⟩) rfl rfl
abbrev s_Rule_condition : Stmt := inClass (top 31) 2
theorem Txt.d_Rule_condition (T : Txt K mg) : ∃ fd, Fun K "condition" "Rule.condition" s_Rule_condition 340 fd := T.dAt 1 4 (d := ⟨340, "condition", "Rule.condition", inClass (top 31) 2⟩) rfl rfl
abbrev s_Rule_ruling : Stmt := inClass (top 31) 3
theorem Txt.d_Rule_ruling (T : Txt K mg) : ∃ fd, Fun K "ruling" "Rule.ruling" s_Rule_ruling 348 fd := T.dAt 1 5 (d := ⟨348, "ruling", "Rule.ruling", inClass (top 31) 3⟩) rfl rfl
abbrev s_Rule_exceptions : Stmt := inClass (top 31) 4
theorem Txt.d_Rule_exceptions (T : Txt K mg) : ∃ fd, Fun K "exceptions" "Rule.exceptions" s_Rule_exceptions 356 fd := T.dAt 1 6 (d := ⟨356, "exceptions", "Rule.exceptions", inClass (top 31) 4⟩) rfl rfl
abbrev s_Rule_eq : Stmt := inClass (top 31) 8
theorem Txt.d_Rule_eq (T : Txt K mg) : ∃ fd, Fun K "__eq__" "Rule.__eq__" s_Rule_eq 384 fd := T.dAt 1 7 (d := ⟨384, "__eq__", "Rule.__eq__", inClass (top 31) 8⟩) rfl rfl
abbrev s_Book_init : Stmt := inClass (top 33) 0
theorem Txt.d_Book_init (T : Txt K mg) : ∃ fd, Fun K "__init__" "Book.__init__" s_Book_init 412 fd := T.dAt 1 8 (d := ⟨412, "__init__", "Book.__init__", inClass (top 33) 0⟩) rfl rfl
abbrev s_Book_validate_rows : Stmt := inClass (top 33) 1
theorem Txt.d_Book_validate_rows (T : Txt K mg) : ∃ fd, Fun K "validate_rows" "Book.validate_rows" s_Book_validate_rows 417 fd := T.dAt 1 9 (d := ⟨417, "validate_rows", "Book.validate_rows", inClass (top 33) 1⟩) rfl rfl
abbrev s_Book_facts : Stmt := inClass (top 33) 2
theorem Txt.d_Book_facts (T : Txt K mg) : ∃ fd, Fun K "facts" "Book.facts" s_Book_facts 424 fd := T.dAt 1 10 (d := ⟨424, "facts", "Book.facts", inClass (top 33) 2⟩) rfl rfl
abbrev s_Book_rules : Stmt := inClass (top 33) 3
theorem Txt.d_Book_rules (T : Txt K mg) : ∃ fd, Fun K "rules" "Book.rules" s_Book_rules 432 fd := T.dAt 1 11 (d := ⟨432, "rules", "Book.rules", inClass (top 33) 3⟩) rfl rfl
abbrev s_Book_ruling : Stmt := inClass (top 33) 4
theorem Txt.d_Book_ruling (T : Txt K mg) : ∃ fd, Fun K "ruling" "Book.ruling" s_Book_ruling 440 fd := T.dAt 1 12 (d := ⟨440, "ruling", "Book.ruling", inClass (top 33) 4⟩) rfl rfl
abbrev s_Book_names : Stmt := inClass (top 33) 5
theorem Txt.d_Book_names (T : Txt K mg) : ∃ fd, Fun K "names" "Book.names" s_Book_names 446 fd := T.dAt 1 13 (d := ⟨446, "names", "Book.names", inClass (top 33) 5⟩) rfl rfl
abbrev s_Book_row_of : Stmt := inClass (top 33) 7
theorem Txt.d_Book_row_of (T : Txt K mg) : ∃ fd, Fun K "row_of" "Book.row_of" s_Book_row_of 460 fd := T.dAt 1 14 (d := ⟨460, "row_of", "Book.row_of", inClass (top 33) 7⟩) rfl rfl
abbrev s_Book_eq : Stmt := inClass (top 33) 15
theorem Txt.d_Book_eq (T : Txt K mg) : ∃ fd, Fun K "__eq__" "Book.__eq__" s_Book_eq 516 fd := T.dAt 1 15 (d := ⟨516, "__eq__", "Book.__eq__", inClass (top 33) 15⟩) rfl rfl
abbrev s_Condition_init : Stmt := inClass (top 45) 0
theorem Txt.d_Condition_init (T : Txt K mg) : ∃ fd, Fun K "__init__" "Condition.__init__" s_Condition_init 594 fd := T.dAt 1 16 (d := ⟨594, "__init__", "Condition.__init__", inClass (top 45) 0⟩) rfl rfl
abbrev s_Condition_holding : Stmt := inClass (top 45) 1
theorem Txt.d_Condition_holding (T : Txt K mg) : ∃ fd, Fun K "holding" "Condition.holding" s_Condition_holding 601 fd := T.dAt 1 17 (d := ⟨601, "holding", "Condition.holding", inClass (top 45) 1⟩) rfl rfl
abbrev s_Condition_failing : Stmt := inClass (top 45) 2
theorem Txt.d_Condition_failing (T : Txt K mg) : ∃ fd, Fun K "failing" "Condition.failing" s_Condition_failing 609 fd := T.dAt 1 18 (d := ⟨609, "failing", "Condition.failing", inClass (top 45) 2⟩) rfl rfl
abbrev s_Condition_names : Stmt := inClass (top 45) 3
theorem Txt.d_Condition_names (T : Txt K mg) : ∃ fd, Fun K "names" "Condition.names" s_Condition_names 617 fd := T.dAt 1 19 (d := ⟨617, "names", "Condition.names", inClass (top 45) 3⟩) rfl rfl
abbrev s_Condition_eq : Stmt := inClass (top 45) 7
theorem Txt.d_Condition_eq (T : Txt K mg) : ∃ fd, Fun K "__eq__" "Condition.__eq__" s_Condition_eq 642 fd := T.dAt 1 20 (d := ⟨642, "__eq__", "Condition.__eq__", inClass (top 45) 7⟩) rfl rfl
end
def addrs : List (List Addr) := [[3, 387, 386, 526, 525, 652, 651, 297, 296, 304, 303, 398, 397, 537, 536, 563, 562, 568, 567, 573, 572, 580, 579, 663, 662, 670, 669, 675, 674, 682, 681, 689, 688, 696, 695, 703, 702, 708, 707, 713], [712, 718, 717, 737, 736, 742, 741, 747, 746, 754, 753, 759, 758, 325, 324, 332, 331, 340, 339, 348, 347, 356, 355, 384, 383, 412, 411, 417, 416, 424, 423, 432, 431, 440, 439, 446, 445, 460, 459, 516], [515, 594, 593, 601, 600, 609, 608, 617, 616, 642, 641, 333, 341, 349, 357, 425, 433, 441, 447, 602, 610, 618, 31, 30, 53, 52, 74, 73, 86, 85, 107, 106, 119, 118, 140, 139, 161, 160, 173, 172], [185, 184, 197, 196, 209, 208, 221, 220, 242, 241, 254, 253, 266, 265, 278, 277, 290, 289]]
end Sc
set_option Elab.async false
set_option maxRecDepth 100000
set_option maxHeartbeats 4000000
namespace Sc
open PySem PySem.Spec L2
open PyProof.Rows hiding St
/-! enumerate over a tuple -/
theorem meets_enumT {v : Value} {o : Obj} {H : Heap → Prop} (B : Begins v o H) :
    Meets (Builtin.«enumerate.__new__» ⟨[.type "enumerate", v], []⟩) (fun _ R s => H s.heap ∧
      R (.ok (.ret (.ref (s.heap.push o).objs.size))) { s with heap := (s.heap.push o).push { cls := .type "enumerate", data := .fields #[.none, .bool false, .ref s.heap.objs.size, rawInt 0, .none, .none] } }) :=
  .of_wp fun prog w A R s h => by
    obtain ⟨hp, g, d, tk, os⟩ := s
    obtain ⟨h1, h⟩ := h
    have hsub := sub_enumerate
    have q1 : ∀ {A' : Around} {E : Value → Shared → Prop} {Q : Value → Shared → Prop}, Q (.ref hp.objs.size) ⟨hp.push o, g, d, tk, os⟩ → wpAny (model prog w) A' (pyIter v) Q E ⟨hp, g, d, tk, os⟩ :=
      fun q => B.iter prog w _ _ ⟨hp, g, d, tk, os⟩ _ h1 q
    wp_walk using q1
    refine wpAny_stack_any fun st => wpAny_pure ?_
    split
    · rename_i c _ _ _ _ _
      cases (c == Value.type "enumerate")
      all_goals
        wp_walk using q1
        exact ⟨_, rfl, h⟩
    · wp_walk using q1
      exact ⟨_, rfl, h⟩
theorem call_enumT {prog : Program} {w : World} {A : Around} {E : Value → Shared → Prop} {s : Shared} {v : Value} {o : Obj} {H : Heap → Prop} {Q : Value → Shared → Prop} (B : Begins v o H) (h1 : H s.heap)
    (h : ∀ h', IsEnum h' (s.heap.objs.size + 1) s.heap.objs.size 0 .none → h'.get? s.heap.objs.size = some o → h'.objs.size = s.heap.objs.size + 2 →
      (∀ b o, s.heap.get? b = some o → h'.get? b = some o) → Q (.ref (s.heap.objs.size + 1)) { s with heap := h' }) :
    wpAny (model prog w) A (call (.type "enumerate") [v]) Q E s := by
  refine callType_new F.called_enumerate (by decide) (F.typeCall_enumerate_1 _) (F.newCall_enumerate_1 _) (fun obj => F.args_object_init_2 obj _) F.entry_enumerate_new (meets_enumT B) ⟨h1, ?_⟩
  have hz : (s.heap.push o).objs.size = s.heap.objs.size + 1 := Heap.size_push ..
  show _ ∧ _
  rw [hz]
  have he : IsEnum ((s.heap.push o).push { cls := .type "enumerate", data := .fields #[.none, .bool false, .ref s.heap.objs.size, rawInt 0, .none, .none] }) (s.heap.objs.size + 1) s.heap.objs.size 0 .none := by
    have z := Heap.get?_push_size (s.heap.push o) (o := { cls := .type "enumerate", data := .fields #[.none, .bool false, .ref s.heap.objs.size, rawInt 0, .none, .none] }) rfl
    rw [hz] at z
    exact z
  exact ⟨⟨_, he, rfl⟩, h _ he (Heap.get?_push_of_some _ (Heap.get?_push_size _ B.free)) (by rw [Heap.size_push, hz]) fun b o x => Heap.get?_push_of_some _ (Heap.get?_push_of_some _ x)⟩
/-- the tuple at a, each item in a new pair -/
def IteT (K : PySem.W.Frag) (a : Addr) : It :=
  ⟨fun i H => ∃ (xs : List V) (x : V), SqT K H a xs ∧ xs[i]? = some x,
   fun i H v H' => ∃ T x, v = .ref T ∧ H T = none ∧ H' = upd H T (.tup [.int (i : Nat), x]) ∧ ∀ xs, SqT K H a xs → xs[i]? = some x,
   fun i H => ∃ xs : List V, SqT K H a xs ∧ xs.length ≤ i⟩
theorem wpAny_pyNext_enumT_end {prog : Program} {w : World} {A : Around} {E : Value → Shared → Prop} {s : Shared} {e it t : Addr} {i : Nat} {items : Array Value} {old : Value} {Q : Option Value → Shared → Prop}
    (hh : A.handled = none) (he : IsEnum s.heap e it i old) (hit : s.heap.IsTupleIter it t i) (ht : s.heap.IsTuple t items) (hx : items[i]? = none)
    (hQ : ∀ h', Heap.ExtBut it s.heap h' → Q none { s with heap := h' }) : wpAny (model prog w) A (pyNext (.ref e)) Q E s := by
  unfold pyNext
  have hT : s.TypeIs (.ref e) "enumerate" := ⟨_, he, rfl⟩
  refine wpAny_bind (wpAny_attempt (wpAny_callSpecial?_slot (name := Str.ofString "__next__") hT
    F.slot_enumerate_next (wpAny_call_entry F.slot_enumerate_next hT F.entry_enumerate_next ?_ (F.args_enumerate_next_1 _))))
  refine wpAny_bind (m := field (.ref e) 2) (wpAny_field he rfl (x := .ref it) rfl ?_)
  refine wpAny_bind (wpAny_nextOf_tuple_end hh hit ht hx fun h' x k1 k2 => ?_)
  obtain ⟨o, ho, hc⟩ := k2
  exact wpAny_bind (wpAny_isInstance (T := "StopIteration") (b := true) ⟨o, ho, hc⟩ isSubtype_stop (wpAny_pure (hQ _ k1)))
theorem turn_enumT {P : Program} {w : World} {K : PySem.W.Frag} {elts : List Expr} {kk : Nat} {tpos : Pos} (a e it : Addr) (hai : a ≠ it) (hae : a ≠ e) :
    Turn P w K (.Tuple elts kk tpos) (IteT K a) [e, it] e (fun i h => (∃ old, IsEnum h e it ((i : Nat) : Int) old) ∧ h.IsTupleIter it a i ∧ e ≠ it) where
  mem := by simp
  obj := fun i h st b hb => by
    obtain ⟨⟨old, he⟩, ⟨o, ho, hc, hd⟩, _⟩ := st
    have z : b = e ∨ b = it := by simpa using hb
    rcases z with z | z
    · rw [z]
      exact ⟨_, he, fun v q => nomatch q⟩
    · rw [z]
      exact ⟨o, ho, fun v q => by rw [hd] at q; cases q⟩
  keep := fun i h h' st k => ⟨st.1.imp fun old he => k e (by simp) _ he, st.2.1.at fun o q => k it (by simp) o q, st.2.2⟩
  item := by
    intro X hP hw hK hc i pins s σ H E I hf st hg
    subst hP hw hK
    obtain ⟨⟨old, he⟩, hit, hne⟩ := st
    obtain ⟨xs, x, hq, hx⟩ := hg
    obtain ⟨its, rv, p, hz⟩ := I.tuple hq
    have hel : e < s.heap.objs.size := Heap.lt_size he
    have hil : it < s.heap.objs.size := by
      obtain ⟨_, q, _⟩ := hit
      exact Heap.lt_size q
    have hlt : i < its.toArray.size := by
      have l1 := rv.length
      have l2 := (List.getElem?_eq_some_iff.mp hx).1
      simp
      omega
    have hee : e ∉ [it, a] := by
      intro m
      have m2 : e = it ∨ e = a := by simpa using m
      rcases m2 with m2 | m2
      · exact hne m2
      · exact hae m2.symm
    refine wpAny_pyNext_enum_itemD (Draws.tuple (A := X.A.in1) (show X.A.in1.handled = none from I.ok.hd hc) it a hai its.toArray) he (show _ ∧ _ from ⟨hit, p⟩) hlt hne hee fun u h' tk hu ho hst hT hsz hk => ?_
    obtain ⟨hit', _⟩ := hst
    refine ⟨_, rfl, wpAny_letOwnedTupleGo_enum (s := { s with heap := h', toks := tk + 1 }) ho fun h'' he' sb => ?_⟩
    obtain ⟨u2, hu2, ru⟩ := rv.get hx
    have eu : u = u2 := by
      have z : its[i]? = some u := by simpa using hu
      rw [z] at hu2
      exact Option.some.inj hu2
    subst eu
    have hT2 : h''.get? s.heap.objs.size = some { cls := .type "tuple", data := .seq #[.int i tk, u] } := (sb.2 _ (Nat.ne_of_gt hel)).trans hT
    have new : ObjOk X.prog X.w (upd H s.heap.objs.size (.tup [.int (i : Nat), x])) h'' s.heap.objs.size (.tup [.int (i : Nat), x]) :=
      ⟨by show 2 ≤ sizeLine; decide, [.int i tk, u], .cons ⟨_, rfl⟩ (.cons ru .nil), ⟨_, hT2, rfl, _, rfl⟩⟩
    have I1 : Inv X pins σ (upd H s.heap.objs.size (.tup [.int (i : Nat), x])) { s with heap := h'', toks := tk + 1 } :=
      I.turnedNew (ch := [e, it]) (fun b ob hb q => (sb.2 b (fun z => hb (by simp [z]))).trans (hk b ob (fun z => hb (by simp [z])) (fun z => hb (by simp [z])) q)) hf (Nat.le_refl _) new
    refine ⟨.ref s.heap.objs.size, _, I1, rfl, ⟨_, x, rfl, I.hok.fresh (Nat.le_refl _), rfl, fun ys hy => by rw [I.tuple_inj hy hq]; exact hx⟩, ⟨⟨u, ?_⟩, hit'.at fun o q => (sb.2 it (Ne.symm hne)).trans q, hne⟩, fun b hb => ?_⟩
    · have e1 : ((i + 1 : Nat) : Int) = (i : Int) + 1 := by omega
      rw [e1]
      exact he'
    · have hb' : b < s.heap.objs.size := by
        have z : b = e ∨ b = it := by simpa using hb
        rcases z with z | z
        · rw [z]; exact hel
        · rw [z]; exact hil
      rw [upd_ne (Nat.ne_of_lt hb')]
      exact (hf b hb).1
  done := by
    intro X hP hw hK hc i pins s σ H E I hf st hg
    subst hP hw hK
    obtain ⟨⟨old, he⟩, hit, hne⟩ := st
    obtain ⟨xs, hq, hx⟩ := hg
    obtain ⟨its, rv, p, hz⟩ := I.tuple hq
    obtain ⟨f0, f1, f2, f3, f4, f5⟩ := hf it (by simp)
    have hl := rv.length
    exact wpAny_pyNext_enumT_end (I.ok.hd hc) he hit p (by simp; omega) fun h' eb => ⟨rfl, I.turned (t' := s.toks) (fun b o hb q => eb b o hb q) f0 f1 f3 f4 f5⟩
  self := fun A i s Q E st h => wpAny_pyIter_enum st.1.choose_spec h
def iEnumT (K : PySem.W.Frag) (ta : TA) : TI := fun σ H R => ta σ H fun vs H1 => ∃ a xs, vs = [.ref a] ∧ SqT K H1 a xs ∧ R (IteT K a) H1
theorem pi_enumT {X : Cx} {e : Expr} {ta : TA} {p pos tpos : Pos} {elts : List Expr} {kk : Nat} (hg : Gl X "enumerate") (hm : X.mg "enumerate" = none) (ha : PA X [e] ta)
    (hs : starEach [e] X.env = [(false, eval e X.env)] := by rfl) : PI X (.Tuple elts kk tpos) (.Call (.Name "enumerate" p) [e] [] pos) (iEnumT X.K ta) := by
  constructor
  intro pins s σ H R I h
  refine Call_ (ld_blt I hg hm boot_enumerate (PyProof.Rows.callWith_type1 (thn (ha.run pos pins s σ H _ I h) fun us s1 ⟨vs, H1, I1, r1, q1⟩ => ?_) hs rfl))
  obtain ⟨a, xs, rfl, hq, q⟩ := q1
  obtain ⟨u, rfl, r⟩ := vals1 r1
  cases r
  obtain ⟨its, rv, p', hz⟩ := I1.tuple hq
  have ha : a < s1.heap.objs.size := by
    obtain ⟨o, ho, _⟩ := p'
    exact Heap.lt_size ho
  refine call_enumT (begins_tuple a its.toArray) p' fun h' he hit hsz hk => wpAny_pyIter_enum he ?_
  have I2 : Inv X pins σ H1 { s1 with heap := h' } := I1.kept (t' := s1.toks) hk
  refine ⟨s1.heap.objs.size + 1, [s1.heap.objs.size + 1, s1.heap.objs.size], _, _, H1, rfl, I2, turn_enumT a (s1.heap.objs.size + 1) s1.heap.objs.size (Nat.ne_of_lt ha) (Nat.ne_of_lt (Nat.lt_succ_of_lt ha)), ⟨⟨.none, he⟩, ⟨_, hit, rfl, rfl⟩, Nat.succ_ne_self _⟩, fun b hb => ?_, q⟩
  have hle : s1.heap.objs.size ≤ b := by
    have z : b = s1.heap.objs.size + 1 ∨ b = s1.heap.objs.size := by simpa using hb
    rcases z with z | z
    · rw [z]; exact Nat.le_add_right _ _
    · rw [z]; exact Nat.le_refl _
  exact I1.fpOk hle (I1.hok.fresh hle)
/-- the turns -/
theorem for_enumT {K : PySem.W.Frag} {a : Addr} {xs : List V} {g : TG} {tb : TS} {D : Ends} {σ : St} {H : Hp} (Pv : Nat → St → Hp → Prop) (h0 : Pv 0 σ H) (hl : ∀ i σ H, i ≤ xs.length → Pv i σ H → H a = some (.tup xs))
    (hs : ∀ i x σ H T, xs[i]? = some x → Pv i σ H → H T = none → g (.ref T) σ (upd H T (.tup [.int (i : Nat), x])) fun σ2 H2 => tb { D with nx := Pv (i + 1), ct := Pv (i + 1), bk := D.nx } σ2 H2) (hd : ∀ σ H, Pv xs.length σ H → D.nx σ H) :
    ∃ W : Nat → Nat → St → Hp → Prop, (∃ m, W 0 m σ H) ∧ ∀ i m σ H, W i m σ H →
      ((IteT K a).stop i H ∧ D.nx σ H) ∨ ((IteT K a).go i H ∧ ∃ N : St → Hp → Prop, (∀ σ' H', N σ' H' → ∃ m', m' < m ∧ W (i + 1) m' σ' H') ∧ ∀ x H', (IteT K a).yld i H x H' → g x σ H' fun σ2 H2 => tb { D with nx := N, ct := N, bk := D.nx } σ2 H2) := by
  refine ⟨fun i m σ H => i ≤ xs.length ∧ m = xs.length - i ∧ Pv i σ H, ⟨xs.length, Nat.zero_le _, rfl, h0⟩, fun i m σ H hw => ?_⟩
  obtain ⟨hi, hm, hp⟩ := hw
  have hH := hl i σ H hi hp
  by_cases e : i = xs.length
  · left
    subst e
    exact ⟨⟨xs, .of hH, Nat.le_refl _⟩, hd σ H hp⟩
  · right
    have hlt : i < xs.length := Nat.lt_of_le_of_ne hi e
    refine ⟨⟨xs, xs[i], .of hH, List.getElem?_eq_getElem hlt⟩, Pv (i + 1), fun σ' H' q => ⟨xs.length - (i + 1), by omega, hlt, rfl, q⟩, fun x H' hy => ?_⟩
    obtain ⟨T, y, rfl, hT, rfl, hx⟩ := hy
    exact hs i y σ H T (hx xs (.of hH)) hp hT
end Sc
set_option Elab.async false
set_option maxRecDepth 100000
set_option linter.all false
set_option maxHeartbeats 1000000
namespace Sc
open PySem PySem.Spec L2
open PyProof.Rows hiding St
/-! ### the mirror -/
/-- a rule of the text: name, facts that hold, facts that fail, ruling, exceptions -/
inductive RT where
  | mk (n : Str) (w b : List Str) (r : Str) (inner : List RT)
def RT.n : RT → Str | .mk n _ _ _ _ => n
def RT.w : RT → List Str | .mk _ w _ _ _ => w
def RT.b : RT → List Str | .mk _ _ b _ _ => b
def RT.r : RT → Str | .mk _ _ _ r _ => r
def RT.inner : RT → List RT | .mk _ _ _ _ i => i
mutual
/-- nesting at most d -/
def RT.dep : Nat → RT → Prop
  | 0, _ => False
  | d + 1, .mk _ _ _ _ i => depL d i
def depL : Nat → List RT → Prop
  | _, [] => True
  | d, r :: rs => r.dep d ∧ depL d rs
end
/-! ### heaps -/
abbrev sV (l : List Str) : List V := l.map V.str
/-- what never changes stays -/
def KpI (H H' : Hp) : Prop := ∀ b o, H b = some o → (match o with | .tup _ => True | .ins _ _ _ => True | _ => False) → H' b = some o
theorem KpI.rfl' {H : Hp} : KpI H H := fun _ _ h _ => h
theorem KpI.trans {H H1 H2 : Hp} (a : KpI H H1) (b : KpI H1 H2) : KpI H H2 := fun c o h m => b c o (a c o h m) m
theorem KpI.tup {H H' : Hp} (k : KpI H H') {a : Addr} {xs : List V} (h : H a = some (.tup xs)) : H' a = some (.tup xs) := k a _ h trivial
theorem KpI.ins {H H' : Hp} (k : KpI H H') {a C dx : Addr} {fs : List (Str × V)} (h : H a = some (.ins C dx fs)) : H' a = some (.ins C dx fs) := k a _ h trivial
theorem Same.kpI {H H' : Hp} (k : Same H H') : KpI H H' := fun b o h _ => k b o h
theorem ExtN.kpI {H H' : Hp} (k : LamX.ExtN H H') : KpI H H' := fun b o h m => k b o h fun ps e => by rw [e] at m; exact m
theorem Same.extN {H H' : Hp} (k : Same H H') : LamX.ExtN H H' := LamX.ExtN.of k
/-- all but the objects at S stay -/
def Frm (S : List Addr) (H H' : Hp) : Prop := ∀ b o, H b = some o → b ∉ S → H' b = some o
theorem Frm.rfl' {S : List Addr} {H : Hp} : Frm S H H := fun _ _ h _ => h
theorem Frm.trans {S : List Addr} {H H1 H2 : Hp} (a : Frm S H H1) (b : Frm S H1 H2) : Frm S H H2 := fun c o h m => b c o (a c o h m) m
theorem Frm.of {S : List Addr} {H H' : Hp} (k : Same H H') : Frm S H H' := fun b o h _ => k b o h
theorem same_upd {H : Hp} {p : Addr} {o : HO} (h : H p = none) : Same H (upd H p o) := fun b u e => by rw [upd_ne (ne_of_none e h)]; exact e
theorem same_trans {H H1 H2 : Hp} (a : Same H H1) (b : Same H1 H2) : Same H H2 := fun c o h => b c o (a c o h)
theorem same_tup {H H' : Hp} (k : Same H H') {a : Addr} {xs : List V} (h : H a = some (.tup xs)) : H' a = some (.tup xs) := k a _ h
/-- a change of a new list, seen from where it was not -/
theorem same_new {H H1 : Hp} {p : Addr} {o : HO} (k : Same H H1) (h : H p = none) : Same H (upd H1 p o) := fun b u e => by rw [upd_ne (ne_of_none e h)]; exact k b u e
/-! ### rows, conditions, rules, books in the heap -/
mutual
inductive RowAt (H : Hp) : V → RT → Prop
  | mk {a aw ab ai : Addr} {n r : Str} {w b : List Str} {i : List RT} {vs : List V} : H a = some (.tup [.str n, .ref aw, .ref ab, .str r, .ref ai]) → H aw = some (.tup (sV w)) → H ab = some (.tup (sV b)) → H ai = some (.tup vs) → RowsAt H vs i →
      RowAt H (.ref a) (.mk n w b r i)
inductive RowsAt (H : Hp) : List V → List RT → Prop
  | nil : RowsAt H [] []
  | cons {v : V} {vs : List V} {r : RT} {rs : List RT} : RowAt H v r → RowsAt H vs rs → RowsAt H (v :: vs) (r :: rs)
end
abbrev cRule : Addr := 387
abbrev cBook : Addr := 526
abbrev cCond : Addr := 652
def condFs (aw ab : Addr) : List (Str × V) := [("wanted", .ref aw), ("barred", .ref ab)]
def ruleFs (n : Str) (c : Addr) (r : Str) (ai : Addr) : List (Str × V) := [("own_name", .str n), ("own_condition", .ref c), ("own_ruling", .str r), ("inner", .ref ai)]
def bookFs (af ar : Addr) (l : Str) (aR : Addr) : List (Str × V) := [("all_facts", .ref af), ("outermost", .ref ar), ("last_ruling", .str l), ("rows", .ref aR)]
def CondAt (H : Hp) (v : V) (w b : List Str) : Prop := ∃ c dc aw ab : Addr, v = .ref c ∧ H c = some (.ins cCond dc (condFs aw ab)) ∧ H aw = some (.tup (sV w)) ∧ H ab = some (.tup (sV b))
mutual
inductive RuleAt (H : Hp) : V → RT → Prop
  | mk {a dx c ai : Addr} {n r : Str} {w b : List Str} {i : List RT} {vs : List V} : H a = some (.ins cRule dx (ruleFs n c r ai)) → CondAt H (.ref c) w b → H ai = some (.tup vs) → RulesAt H vs i → RuleAt H (.ref a) (.mk n w b r i)
inductive RulesAt (H : Hp) : List V → List RT → Prop
  | nil : RulesAt H [] []
  | cons {v : V} {vs : List V} {r : RT} {rs : List RT} : RuleAt H v r → RulesAt H vs rs → RulesAt H (v :: vs) (r :: rs)
end
section
variable {H H' : Hp}
mutual
theorem RowAt.mono (k : KpI H H') : ∀ {v : V} {r : RT}, RowAt H v r → RowAt H' v r
  | _, _, .mk h1 h2 h3 h4 h5 => .mk (k.tup h1) (k.tup h2) (k.tup h3) (k.tup h4) (RowsAt.mono k h5)
theorem RowsAt.mono (k : KpI H H') : ∀ {vs : List V} {rs : List RT}, RowsAt H vs rs → RowsAt H' vs rs
  | _, _, .nil => .nil
  | _, _, .cons h1 h2 => .cons (RowAt.mono k h1) (RowsAt.mono k h2)
end
theorem CondAt.mono (k : KpI H H') {v : V} {w b : List Str} (h : CondAt H v w b) : CondAt H' v w b := by
  obtain ⟨c, dc, aw, ab, e, h1, h2, h3⟩ := h
  exact ⟨c, dc, aw, ab, e, k.ins h1, k.tup h2, k.tup h3⟩
mutual
theorem RuleAt.mono (k : KpI H H') : ∀ {v : V} {r : RT}, RuleAt H v r → RuleAt H' v r
  | _, _, .mk h1 h2 h3 h4 => .mk (k.ins h1) (CondAt.mono k h2) (k.tup h3) (RulesAt.mono k h4)
theorem RulesAt.mono (k : KpI H H') : ∀ {vs : List V} {rs : List RT}, RulesAt H vs rs → RulesAt H' vs rs
  | _, _, .nil => .nil
  | _, _, .cons h1 h2 => .cons (RuleAt.mono k h1) (RulesAt.mono k h2)
end
theorem RowsAt.len : ∀ {vs : List V} {rs : List RT}, RowsAt H vs rs → vs.length = rs.length
  | _, _, .nil => rfl
  | _, _, .cons _ h => congrArg Nat.succ h.len
theorem RulesAt.len : ∀ {vs : List V} {rs : List RT}, RulesAt H vs rs → vs.length = rs.length
  | _, _, .nil => rfl
  | _, _, .cons _ h => congrArg Nat.succ h.len
theorem RowsAt.get : ∀ {vs : List V} {rs : List RT} {i : Nat} {v : V}, RowsAt H vs rs → vs[i]? = some v → ∃ r, rs[i]? = some r ∧ RowAt H v r
  | _, _, _, _, .nil, e => nomatch e
  | _, _, 0, _, .cons h _, e => ⟨_, rfl, by cases e; exact h⟩
  | _, _, i + 1, _, .cons _ h, e => h.get (i := i) (by simpa using e)
theorem RulesAt.get : ∀ {vs : List V} {rs : List RT} {i : Nat} {v : V}, RulesAt H vs rs → vs[i]? = some v → ∃ r, rs[i]? = some r ∧ RuleAt H v r
  | _, _, _, _, .nil, e => nomatch e
  | _, _, 0, _, .cons h _, e => ⟨_, rfl, by cases e; exact h⟩
  | _, _, i + 1, _, .cons _ h, e => h.get (i := i) (by simpa using e)
theorem RowsAt.app : ∀ {vs us : List V} {rs qs : List RT}, RowsAt H vs rs → RowsAt H us qs → RowsAt H (vs ++ us) (rs ++ qs)
  | _, _, _, _, .nil, h => h
  | _, _, _, _, .cons h1 h2, h => .cons h1 (h2.app h)
theorem RulesAt.app : ∀ {vs us : List V} {rs qs : List RT}, RulesAt H vs rs → RulesAt H us qs → RulesAt H (vs ++ us) (rs ++ qs)
  | _, _, _, _, .nil, h => h
  | _, _, _, _, .cons h1 h2, h => .cons h1 (h2.app h)
end
theorem depL_get {d : Nat} : ∀ {rs : List RT} {i : Nat} {r : RT}, depL d rs → rs[i]? = some r → r.dep d
  | [], _, _, _, e => nomatch e
  | _ :: _, 0, _, h, e => by cases e; simp only [depL] at h; exact h.1
  | _ :: rs, i + 1, _, h, e => by simp only [depL] at h; exact depL_get (rs := rs) (i := i) h.2 (by simpa using e)
/-! ### calls in short -/
/-- the def at f keeps the promise sp -/
def Okd (P : Program) (w : World) (K : PySem.W.Frag) (mg : Str → Option Value) (base : Heap) (CX : CXT) (k : Nat) (f : Addr) (ps : List Str) (sp : Sp) : Prop :=
  ∃ fd, FnOk P w K mg base CX k f fd ps sp ∧ Binds K fd ps [] ∧ PySem.W.keepIn K (.ref f) = true
theorem Okd.mono {P : Program} {w : World} {K : PySem.W.Frag} {mg : Str → Option Value} {base : Heap} {CX : CXT} {j k : Nat} {f : Addr} {ps : List Str} {sp : Sp} (G : Okd P w K mg base CX j f ps sp) (h : j ≤ k) : Okd P w K mg base CX k f ps sp := by
  obtain ⟨fd, F, b, kp⟩ := G
  exact ⟨fd, F.mono h, b, kp⟩
theorem Okd.imp {P : Program} {w : World} {K : PySem.W.Frag} {mg : Str → Option Value} {base : Heap} {CX : CXT} {k : Nat} {f : Addr} {ps : List Str} {sp sp' : Sp} (G : Okd P w K mg base CX k f ps sp) (h : ∀ vs H Q E, sp' vs H Q E → sp vs H Q E) : Okd P w K mg base CX k f ps sp' := by
  obtain ⟨fd, F, b, kp⟩ := G
  exact ⟨fd, F.imp h, b, kp⟩
section
variable {X : Cx} {CX : CXT} {k : Nat} {f C p g : Addr} {ps : List Str} {sp : Sp} {E : XK} {x m : Str} {pp pos apos : Pos} {e o : Expr} {es : List Expr} {ta : TE} {t : TA}
theorem pc (G : Okd X.prog X.w X.K X.mg X.base CX k f ps sp) (hr : Room k X.A) (hm : X.mg x = some (.ref f)) (hx : Passes CX X E) (ha : PA X (e :: es) t) (hg : Gl X x := by rfl)
    (hdb : (x == ("__debug__" : Str)) = false := by decide) (he : starEach (e :: es) X.env = (false, eval e X.env) :: starEach es X.env := by rfl) (hpl : (backTo pos (starEach es X.env)).any (·.1) = false := by rfl) :
    PE X (.Call (.Name x pp) (e :: es) [] pos) (tCall sp [] E t) := by
  obtain ⟨fd, F, b, kp⟩ := G
  exact pe_call F hr hg hm kp b .nil hx ha hdb he hpl
theorem pmk (M : Mk X.K C f) (G : Okd X.prog X.w X.K X.mg X.base CX k f ps sp) (hr : Room (k + 1) X.A) (hm : X.mg x = some (.ref C)) (hx : Passes CX X E) (ha : PA X (e :: es) t) (hg : Gl X x := by rfl)
    (hdb : (x == ("__debug__" : Str)) = false := by decide) (he : starEach (e :: es) X.env = (false, eval e X.env) :: starEach es X.env := by rfl) (hpl : (backTo pos (starEach es X.env)).any (·.1) = false := by rfl) :
    PE X (.Call (.Name x pp) (e :: es) [] pos) (tMake C sp [] E t) := by
  obtain ⟨fd, F, b, kp⟩ := G
  exact pe_make M F hr hg hm b .nil hx ha hdb he hpl
theorem pprop (he : PE X e ta) (c : Cls X.K C) (hp : PropOf X.K C x p g) (G : Okd X.prog X.w X.K X.mg X.base CX k g ps sp) (hr : Room (k + 1) X.A) (hx : Passes CX X.nox E)
    (hab : attributeBase e x X.env (eval e X.env) = eval e X.env := by rfl) : PE X (.Attribute e x pos) (tProp C sp [] E ta) := by
  obtain ⟨fd, F, b, kp⟩ := G
  exact pe_prop he c hp F hr b .nil hx hab
theorem pmeth (he : PE X o ta) (c : Cls X.K C) (hm : Meth X.K C m f) (G : Okd X.prog X.w X.K X.mg X.base CX k f ps sp) (hr : Room k X.A) (hx : Passes CX X E) (ha : PA X (e :: es) t) {pl : Sem Bool}
    (hst : starEach (e :: es) X.env = (false, eval e X.env) :: starEach es X.env := by rfl) (hpl : (backTo pos (starEach es X.env)).any (·.1) = false := by rfl)
    (ht : eval (.Call (.Attribute o m apos) (e :: es) [] pos) X.env = (do
      let ov ← eval o X.env
      standAt apos.atName
      let (f, first) ← holding [ov] (getMethod ov m pl)
      callWith pos f first (backTo pos (starEach (e :: es) X.env)) (backToKw pos (keywordEach [] X.env))) := by rfl) :
    PE X (.Call (.Attribute o m apos) (e :: es) [] pos) (tMeth C m sp [] E ta t) := by
  obtain ⟨fd, F, b, kp⟩ := G
  exact pe_meth he c hm F hr b .nil hx ha hst hpl ht
end
/-! ### comprehensions, walks -/
theorem walk_enumT {K : PySem.W.Frag} {a : Addr} {xs : List V} : Walk (IteT K a) xs.length (fun H => SqT K H a xs) (YPair (fun i => some (.int (i : Nat))) (fun i => xs[i]?)) where
  goes := fun i H h s => ⟨xs, xs[i], s, List.getElem?_eq_getElem h⟩
  stops := fun H s => ⟨xs, s, Nat.le_refl _⟩
  yields := fun i H x H' h s y => by
    obtain ⟨T, y, e1, e2, e3, e4⟩ := y
    exact ⟨T, _, y, e1, e2, e3, rfl, e4 xs s⟩
theorem yes_ok {te : TE} {σ : St} {H : Hp} {Kt : V → Hp → Prop} {Kf : Hp → Prop} (h : te σ H Kt) : tYes σ H fun b H3 => if b = true then te σ H3 Kt else Kf H3 := iteT (B := Kf H) h
/-- a comprehension that leaves what stood; R: what is known of the list so far -/
theorem lc_go {J : It} {n : Nat} {G : Hp → Prop} {Y : Nat → Hp → V → Hp → Prop} {g : TG} {tt : TT} {te : TE} {vs : List Nat} {σ : St} {H1 : Hp} {D : Addr} {Qd : Hp → Prop} (w : Walk J n G Y) (hn : n < sizeLine) (hD : H1 D = none) (hG : ∀ H, Same H1 H → G H)
    (R : Nat → List V → Hp → Prop) (hR : ∀ i acc H H', KpI H H' → R i acc H → R i acc H') (h0 : R 0 [] H1)
    (hs : ∀ i x H H' acc (Kt : V → Hp → Prop) (Kf : Hp → Prop), i < n → Same H1 H → R i acc H → Y i H x H' → (∀ y H4, Same H H4 → R (i + 1) (acc ++ [y]) H4 → Kt y H4) → (∀ H3, Same H H3 → R (i + 1) acc H3 → Kf H3) →
      g x (wipe σ vs) H' fun σ2 H2 => wipe σ2 vs = wipe σ vs ∧ tt σ2 H2 fun b H3 => if b = true then te σ2 H3 Kt else Kf H3)
    (hd : ∀ H acc, Same H1 H → H D = some (.lst acc) → R n acc H → Qd H) :
    ∃ W : Nat → Nat → Hp → Prop, (∃ m, W 0 m (upd H1 D (.lst []))) ∧ ∀ i m H, W i m H →
      (J.stop i H ∧ Qd H) ∨ (J.go i H ∧ ∃ Nx : Hp → Prop, (∀ H', Nx H' → ∃ m', m' < m ∧ W (i + 1) m' H') ∧ ∀ x H', J.yld i H x H' → g x (wipe σ vs) H' fun σ2 H2 => wipe σ2 vs = wipe σ vs ∧ tt σ2 H2 fun b H3 =>
        if b = true then te σ2 H3 fun y H4 => ∃ acc, H4 D = some (.lst acc) ∧ acc.length < sizeLine ∧ Nx (upd H4 D (.lst (acc ++ [y]))) else Nx H3) := by
  have kp : ∀ {H : Hp} {acc acc' : List V}, H D = some (.lst acc) → KpI H (upd H D (.lst acc')) := fun {H acc acc'} e b o h m => by
    by_cases z : b = D
    · subst z
      rw [e] at h
      cases h
      exact False.elim m
    · rw [upd_ne z]
      exact h
  refine lc_it w (fun i H => ∃ acc, H D = some (.lst acc) ∧ acc.length ≤ i ∧ Same H1 H ∧ R i acc H) ⟨[], upd_same, Nat.le_refl _, same_upd hD, hR _ _ _ _ (Same.kpI (same_upd hD)) h0⟩ (fun i H _ ⟨_, _, _, s, _⟩ => hG H s) ?_ ?_
  · intro i x H H' hi hp hy
    obtain ⟨acc, e1, e2, e3, e4⟩ := hp
    refine hs i x H H' acc _ _ hi e3 e4 hy ?_ ?_
    · intro y H4 q1 q2
      have e5 := q1 D _ e1
      exact ⟨acc, e5, Nat.lt_of_le_of_lt e2 (Nat.lt_trans hi hn), acc ++ [y], upd_same, by simp; exact e2, same_new (same_trans e3 q1) hD, hR _ _ _ _ (kp e5) q2⟩
    · intro H3 q1 q2
      exact ⟨acc, q1 D _ e1, Nat.le_succ_of_le e2, same_trans e3 q1, q2⟩
  · intro H hp
    obtain ⟨acc, e1, e2, e3, e4⟩ := hp
    exact hd H acc e3 e1 e4
end Sc
set_option Elab.async false
set_option maxRecDepth 100000
set_option linter.all false
set_option maxHeartbeats 1000000
namespace Sc
open PySem PySem.Spec L2
open PyProof.Rows hiding St
theorem sV_get {l : List Str} {i : Nat} {v : V} (h : (sV l)[i]? = some v) : ∃ x, l[i]? = some x ∧ v = .str x := by
  rw [List.getElem?_map] at h
  cases e : l[i]? with
  | none => rw [e] at h; cases h
  | some x => rw [e] at h; exact ⟨x, rfl, (Option.some.inj h).symm⟩
theorem vals_str {l : List Str} {us : List Value} (r : Vals (sV l) us) {i : Nat} {u : Value} (h : us[i]? = some u) : ∃ x t, l[i]? = some x ∧ u = .str x t := by
  have hl := r.length
  have hi : i < us.length := (List.getElem?_eq_some_iff.mp h).1
  have hi2 : i < (sV l).length := by omega
  obtain ⟨u2, e, rr⟩ := r.get (List.getElem?_eq_getElem hi2)
  obtain ⟨x, ex, ev⟩ := sV_get (List.getElem?_eq_getElem hi2)
  rw [ev] at rr
  obtain ⟨t, rt⟩ := rr
  rw [h] at e
  cases e
  exact ⟨x, t, ex, rt⟩
/-- place by place -/
def strE (l m : List Str) (j : Nat) : Bool := decide (l[j]? = m[j]?)
theorem strE_all {l m : List Str} (h : l.length = m.length) : (List.range l.length).all (strE l m) = decide (l = m) := by
  rw [Bool.eq_iff_iff, decide_eq_true_iff, List.all_eq_true]
  constructor
  · intro q
    apply List.ext_getElem? 
    intro i
    by_cases hi : i < l.length
    · exact of_decide_eq_true (q i (List.mem_range.mpr hi))
    · rw [List.getElem?_eq_none (by omega), List.getElem?_eq_none (by omega)]
  · intro e i _
    subst e
    exact decide_eq_true rfl
theorem strs_at {A : Around} {s : Shared} {l m : List Str} {us ws : List Value} (r : Vals (sV l) us) (q : Vals (sV m) ws) : ∀ j (h1 : j < us.toArray.size) (h2 : j < ws.toArray.size), SeqAt.EqAt A s us.toArray[j] ws.toArray[j] (strE l m j) := by
  intro j h1 h2
  have h1' : j < us.length := by simpa using h1
  have h2' : j < ws.length := by simpa using h2
  obtain ⟨x, t, ex, eu⟩ := vals_str r (List.getElem?_eq_getElem h1')
  obtain ⟨y, t2, ey, ew⟩ := vals_str q (List.getElem?_eq_getElem h2')
  have e1 : us.toArray[j] = us[j] := by simp
  have e2 : ws.toArray[j] = ws[j] := by simp
  rw [e1, e2, eu, ew]
  have e3 := eqAt_V (A := A) (s := s) (y := .str x) (x := .str y) (u := .str x t) (v := .str y t2) ⟨_, rfl⟩ ⟨_, rfl⟩ rfl rfl
  have e4 : eqV (.str x) (.str y) = strE l m j := by
    unfold strE
    rw [ex, ey]
    show (x == y) = _
    rw [Bool.eq_iff_iff, beq_iff_eq, decide_eq_true_iff]
    exact ⟨fun z => by rw [z], fun z => Option.some.inj z⟩
  rw [← e4]
  exact e3
theorem len_ne {l m : List Str} (h : l.length ≠ m.length) : decide (l = m) = false := decide_eq_false fun e => h (by rw [e])
section
variable {X : Cx}
/-- two lists of texts -/
def rEqLS (K : PySem.W.Frag) : R2 := fun x y H Q => ∃ (p q : Addr) (l m : List Str), x = .ref p ∧ y = .ref q ∧ SqL K H p (sV l) ∧ SqL K H q (sV m) ∧ Q (.bl (decide (l = m))) H
theorem op_eqLS (hu : X.A.units < cLine) : OpR X (compareOp .Eq) (rEqLS X.K) := by
  intro pins s σ H x y v u Q I rx ry h
  obtain ⟨p, q, l, m, rfl, rfl, h1, h2, k⟩ := h
  cases rx
  cases ry
  obtain ⟨us, r1, p1, _⟩ := I.list h1
  obtain ⟨ws, r2, p2, _⟩ := I.list h2
  have l1 := r1.length
  have l2 := r2.length
  simp only [List.length_map] at l1 l2
  by_cases hs : l.length = m.length
  · refine SeqAt.eq_listAt p1.isList p2.isList (by simp; omega) hu (strs_at r1 r2) ?_
    rw [show us.toArray.size = l.length by simp; omega, strE_all hs]
    exact fin_bl I k rfl
  · refine SeqAt.eq_list_lengthsAt p1.isList p2.isList (by simp; omega) hu ?_
    rw [← len_ne hs]
    exact fin_bl I k rfl
/-- two tuples of texts -/
def rEqTS (K : PySem.W.Frag) : R2 := fun x y H Q => ∃ (p q : Addr) (l m : List Str), x = .ref p ∧ y = .ref q ∧ SqT K H p (sV l) ∧ SqT K H q (sV m) ∧ Q (.bl (decide (l = m))) H
def rNeTS (K : PySem.W.Frag) : R2 := fun x y H Q => ∃ (p q : Addr) (l m : List Str), x = .ref p ∧ y = .ref q ∧ SqT K H p (sV l) ∧ SqT K H q (sV m) ∧ Q (.bl (!decide (l = m))) H
theorem tups_e {l m : List Str} {a b : Nat} (ha : a = l.length) (hb : b = m.length) : ((List.range (min a b)).all (strE l m) && a == b) = decide (l = m) := by
  subst ha hb
  by_cases hs : l.length = m.length
  · rw [← hs, Nat.min_self, strE_all hs]
    simp
  · rw [len_ne hs]
    have : (l.length == m.length) = false := by simpa using hs
    rw [this, Bool.and_false]
theorem op_eqTS (hu : X.A.units < cLine) : OpR X (compareOp .Eq) (rEqTS X.K) := by
  intro pins s σ H x y v u Q I rx ry h
  obtain ⟨p, q, l, m, rfl, rfl, h1, h2, k⟩ := h
  cases rx
  cases ry
  obtain ⟨us, r1, p1, _⟩ := I.tuple h1
  obtain ⟨ws, r2, p2, _⟩ := I.tuple h2
  have l1 := r1.length
  have l2 := r2.length
  simp only [List.length_map] at l1 l2
  refine SeqAt.eq_tupleAt p1 p2 hu (strs_at r1 r2) ?_
  rw [tups_e (l := l) (m := m) (by simp; omega) (by simp; omega)]
  exact fin_bl I k rfl
theorem op_neTS (hu : X.A.units < cLine) : OpR X (compareOp .NotEq) (rNeTS X.K) := by
  intro pins s σ H x y v u Q I rx ry h
  obtain ⟨p, q, l, m, rfl, rfl, h1, h2, k⟩ := h
  cases rx
  cases ry
  obtain ⟨us, r1, p1, _⟩ := I.tuple h1
  obtain ⟨ws, r2, p2, _⟩ := I.tuple h2
  have l1 := r1.length
  have l2 := r2.length
  simp only [List.length_map] at l1 l2
  unfold compareOp
  refine SeqAt.RcNeAt.tuples p1 p2 hu (strs_at r1 r2) _ _ _ _ ?_
  rw [tups_e (l := l) (m := m) (by simp; omega) (by simp; omega)]
  exact fin_bl I k rfl
/-- a list (a tuple) of anything beside an empty one -/
def rEqL0 (K : PySem.W.Frag) : R2 := fun x y H Q => ∃ (p q : Addr) (xs : List V), x = .ref p ∧ y = .ref q ∧ SqL K H p xs ∧ SqL K H q [] ∧ Q (.bl xs.isEmpty) H
def rNeL0 (K : PySem.W.Frag) : R2 := fun x y H Q => ∃ (p q : Addr) (xs : List V), x = .ref p ∧ y = .ref q ∧ SqL K H p xs ∧ SqL K H q [] ∧ Q (.bl (!xs.isEmpty)) H
def rEqT0 (K : PySem.W.Frag) : R2 := fun x y H Q => ∃ (p q : Addr) (xs : List V), x = .ref p ∧ y = .ref q ∧ SqT K H p xs ∧ SqT K H q [] ∧ Q (.bl xs.isEmpty) H
theorem op_eqL0 (hu : X.A.units < cLine) : OpR X (compareOp .Eq) (rEqL0 X.K) := by
  intro pins s σ H x y v u Q I rx ry h
  obtain ⟨p, q, xs, rfl, rfl, h1, h2, k⟩ := h
  cases rx
  cases ry
  obtain ⟨us, r1, p1, _⟩ := I.list h1
  obtain ⟨ws, r2, p2, _⟩ := I.list h2
  cases r2
  cases r1 with
  | nil => exact SeqAt.eq_listAt (e := fun _ => true) p1.isList p2.isList rfl hu (fun j h => by simp at h) (fin_bl I k rfl)
  | cons a b => exact SeqAt.eq_list_lengthsAt p1.isList p2.isList (by simp) hu (fin_bl I k rfl)
theorem op_neL0 (hu : X.A.units < cLine) : OpR X (compareOp .NotEq) (rNeL0 X.K) := by
  intro pins s σ H x y v u Q I rx ry h
  obtain ⟨p, q, xs, rfl, rfl, h1, h2, k⟩ := h
  cases rx
  cases ry
  obtain ⟨us, r1, p1, _⟩ := I.list h1
  obtain ⟨ws, r2, p2, _⟩ := I.list h2
  unfold compareOp
  cases r2
  cases r1 with
  | nil => exact SeqAt.RcNeAt.lists (e := fun _ => true) p1.isList p2.isList rfl hu (fun j h => by simp at h) _ _ _ _ (fin_bl I k rfl)
  | cons a b => exact SeqAt.RcNeAt.lists_lengths p1.isList p2.isList (by simp) hu _ _ _ _ (fin_bl I k rfl)
theorem op_eqT0 (hu : X.A.units < cLine) : OpR X (compareOp .Eq) (rEqT0 X.K) := by
  intro pins s σ H x y v u Q I rx ry h
  obtain ⟨p, q, xs, rfl, rfl, h1, h2, k⟩ := h
  cases rx
  cases ry
  obtain ⟨us, r1, p1, _⟩ := I.tuple h1
  obtain ⟨ws, r2, p2, _⟩ := I.tuple h2
  cases r2
  refine SeqAt.eq_tupleAt (e := fun _ => true) p1 p2 hu (fun j h h2 => by simp at h2) ?_
  cases r1 with
  | nil => exact fin_bl I k rfl
  | cons a b =>
    exact fin_bl I k (by simp)
end
end Sc
set_option Elab.async false
set_option maxRecDepth 100000
set_option linter.all false
set_option maxHeartbeats 2000000
namespace Sc
open PySem PySem.Spec L2
open PyProof.Rows hiding St
/-! sorted of a tuple of texts -/
section
variable {X : Cx}
def rSortedST (K : PySem.W.Frag) : List V → Hp → VK → Prop := fun vs H Q => ∃ (a : Addr) (xs : List Str), vs = [V.ref a] ∧ SqT K H a (sV xs) ∧ xs.length < 64 ∧
  ∀ (ys : List Str) (p : Addr), ys.Perm xs → sortedS ys = true → H p = none → Q (.ref p) (upd H p (.lst (sV ys)))
theorem cr_sortedST : CallR X (.builtin "sorted") (rSortedST X.K) := by
  intro pins s σ H vs us Q I r h
  obtain ⟨a, xs, rfl, hs, h64, q⟩ := h
  obtain ⟨its, rv, ⟨o, ho, hc, n, hd⟩, hz⟩ := I.tuple hs
  rw [Vals.ref1 r]
  have hlen0 := rv.length
  rw [List.length_map] at hlen0
  have h16 : its.length ≤ sizeLine := by rw [sizeLine_eq]; omega
  have hS := rv.strs
  refine Calls.call_function_entry kind_sorted plain_sorted entry_sorted (args_sorted1 _) ?_
  unfold Builtin.«sorted»
  refine wpAny_bind (m := checkCount "sorted" 1 1 _) (wpAny_pure (wpAny_bind (wpAny_collect_seq (T := "tuple") a (.inr rfl) ho hc hd (fun h' hk => ?_) (by simpa using h16))))
  have I1 : Inv X pins σ H { s with heap := h' } := I.kept (t' := s.toks) hk
  refine wpAny_bind (wpAny_newList ?_ (by simpa using h16))
  have hoL : (h'.push (seqObj "list" its.toArray 0)).get? h'.objs.size = some (seqObj "list" its.toArray 0) := Heap.get?_push_size _ rfl
  show wpAny _ _ _ _ _ { s with heap := h'.push (seqObj "list" its.toArray 0) }
  refine wpAny_bind (wpAny_holding (wpAny_call_entry slot_list_sort ⟨_, hoL, rfl⟩ entry_list_sort
    (list_sort_treeK strKind_oneLt (s := { s with heap := h'.push (seqObj "list" its.toArray 0) }) hoL hS.keysOf (fun v₁ v₂ rest e => keyKind_strs (by rw [← e]; exact hS)) (by omega) fun st' g1 g2 => ⟨_, rfl, ?_⟩) (args_list_sort _)))
  obtain ⟨ys, k1, k2, k3⟩ := sorted_out_str hS g1 g2
  obtain ⟨ep, he'⟩ := sortedHeap_at (vs := its) (out := (arrOf st').map (·.2)) hoL
  have hlen : (sV ys).length ≤ sizeLine := by rw [List.length_map, k2.length_eq, sizeLine_eq]; omega
  refine wpAny_pure ⟨_, rfl, .ref h'.objs.size, upd H h'.objs.size (.lst (sV ys)), I1.laid (t' := s.toks) (fun b u e => ?_) (Nat.le_refl _)
    (show ObjOk X.prog X.w _ _ _ (.lst (sV ys)) from ⟨hlen, ((arrOf st').map (·.2)).toList, ep, vals_of_strs k1, by rw [Array.toArray_toList]; exact he'⟩), rfl, q ys _ k2 k3 (I1.hok.fresh (Nat.le_refl _))⟩
  have hb : b < h'.objs.size := Heap.lt_size e
  rw [sortedHeap_old (Nat.ne_of_lt hb) (by rw [size_push']; exact Nat.lt_succ_of_lt hb)]
  exact Heap.get?_push_of_some _ e
end
end Sc
set_option Elab.async false
set_option maxRecDepth 100000
set_option linter.all false
set_option maxHeartbeats 1000000
namespace Sc
open PySem PySem.Spec L2
open PyProof.Rows hiding St
section
variable {P : Program} {w : World} {K : PySem.W.Frag} {mg : Str → Option Value} {base : Heap}
abbrev LET : Str := "abcdefghijklmnopqrstuvwxyz"
/-- a name: one to eight letters -/
def NmOk (x : Str) : Prop := 1 ≤ x.length ∧ x.length ≤ 8 ∧ ∀ c ∈ x.cps.toList, c ∈ LET.cps.toList
def spIsName : Sp := fun vs H Q _ => ∃ x : Str, vs = [.str x] ∧ NmOk x ∧ ∀ H', Same H H' → Q (.bl true) H'
theorem sc_is_name : FnScope ["thing", "sign"] ["thing"] (defScope s_is_name) := ⟨rfl, rfl, rfl, by decide +kernel, rfl, by decide +kernel, by decide +kernel⟩
theorem ok_is_name (T : Txt K mg) : Okd P w K mg base CX0 1 297 ["thing"] spIsName := by
  obtain ⟨fd, F⟩ := T.d_is_name
  refine ⟨fd, F.ok sc_is_name (fun vs H Q E h => ?_) (fun cdv A outer s H vs Q E hr h => ?_), F.binds fun _ _ _ _ _ _ us hl => match us, hl with | [_], _ => rfl, F.kp⟩
  · obtain ⟨x, rfl, _⟩ := h
    rfl
  · obtain ⟨x, rfl, hx, k⟩ := h
    have nd := sc_is_name.nd
    obtain ⟨t8, g8⟩ := T.i_LONGEST
    obtain ⟨tL, gL⟩ := T.s_LETTERS
    refine ⟨_, pss_cons (ps_if (PW.pt (pw_or (pt_not (pt_val (pe_callB call_isi (by rfl) T.f_isinstance (by decide +kernel) (pa_cons (pv 0) (pa_cons (pe_bltn (v := .ty "str") (by rfl) T.f_str (by decide +kernel) rfl) pa_nil)))))
        (pw_or1 (pt_not (pt_chain op_le op_le pe_int (pe_callB call_len_str (by rfl) T.f_len PySem.boot_len (pa_cons (pv 0) pa_nil)) (pe_glob (v := .int 8) (by rfl) g8 ⟨_, rfl⟩))))))
        (pss_one (ps_ret pe_bl)) pss_nil)
      (pss_one (ps_ret (pe_cmpR (op_eqD hr.units) (pe_lc (own := [("sign", 1)]) rfl nd (pi_str (pv 0)) (blkOk_by (N := ["thing", "sign"]) (sc := defScope s_is_name) (by decide +kernel))
        (fun _ _ _ _ _ => pg_name (i := 1) nd rfl (Or.inl rfl)) (fun _ _ _ _ _ => pts_one (pt_cmpR op_notIn_sign (pv 1) (pe_glob (v := .str LET) (by rfl) gL ⟨_, rfl⟩) (by rfl))) (fun _ _ _ _ _ => pv 1))
        (pe_lst pa_nil) (nomark _)))), ?_⟩
    refine ⟨_, rfl, _, _, _, _, true, rfl, .ty _, .base (.str _), kit_ty (by decide +kernel), true, rfl, iteF ?_⟩
    have h8 : x.length ≤ sizeLine := Nat.le_trans hx.2.1 (by decide)
    have h1 : decide ((1 : Int) ≤ (x.length : Nat)) = true := decide_eq_true (by have := hx.1; omega)
    have h2 : decide (((x.length : Nat) : Int) ≤ 8) = true := decide_eq_true (by have := hx.2.1; omega)
    refine ⟨_, rfl, _, rfl, h8, _, _, rfl, rfl, _, rfl, ?_⟩
    rw [h1]
    refine iteT ⟨_, _, rfl, rfl, _, rfl, ?_⟩
    rw [h2]
    refine iteF ?_
    -- the signs
    refine ⟨_, rfl, _, rfl, fun D hD => lc_go walk_str (by show x.length < sizeLine; exact Nat.lt_of_le_of_lt hx.2.1 (by decide)) hD (fun _ _ => trivial) (fun _ acc _ => acc = []) (fun _ _ _ _ _ h => h) rfl ?_ ?_⟩
    · intro i z H1 H' acc Kt Kf hi s1 r1 hy _ kf
      obtain ⟨rfl, c, hc, rfl⟩ := hy
      refine ⟨rfl, _, rfl, _, _, rfl, rfl, _, rfl, ?_⟩
      have hm : c ∈ LET.cps.toList := hx.2.2 c (Array.mem_toList_iff.mpr (Array.mem_of_getElem? hc))
      rw [decide_eq_true hm]
      exact iteF (kf _ (Same.refl _) r1)
    · intro H1 acc s1 e1 r1
      subst r1
      refine ⟨by show 0 ≤ sizeLine; decide, fun p hp => ⟨.list [], .list [], .lst (.of (by rw [upd_ne (ne_of_none e1 hp)]; exact e1)) .nil, .lst (.of upd_same) .nil, rfl, rfl, ?_⟩⟩
      exact k _ (same_new s1 (s1.free hp))
/-- what the facts of a book must be -/
structure FactsOk (l : List Str) : Prop where
  ne : l ≠ []
  nm : ∀ x ∈ l, NmOk x
  asc : ∀ (i : Nat) (x y : Str), l[i]? = some x → l[i + 1]? = some y → x.cps.toList < y.cps.toList
  len : l.length < 60
def spValFacts : Sp := fun vs H Q _ => ∃ (af : Addr) (l : List Str), vs = [.ref af] ∧ H af = some (.tup (sV l)) ∧ FactsOk l ∧ ∀ H', Same H H' → Q .non H'
theorem sc_vf : FnScope ["facts", "index", "name"] ["facts"] (defScope s_validate_facts) := ⟨rfl, rfl, rfl, by decide +kernel, rfl, by decide +kernel, by decide +kernel⟩
theorem ok_validate_facts (T : Txt K mg) : Okd P w K mg base CX0 2 304 ["facts"] spValFacts := by
  obtain ⟨fd, F⟩ := T.d_validate_facts
  refine ⟨fd, F.ok sc_vf (fun vs H Q E h => ?_) (fun cdv A outer s H vs Q E hr h => ?_), F.binds fun _ _ _ _ _ _ us hl => match us, hl with | [_], _ => rfl, F.kp⟩
  · obtain ⟨a, l, rfl, _⟩ := h
    rfl
  · obtain ⟨af, l, rfl, haf, ok, k⟩ := h
    have nd := sc_vf.nd
    obtain ⟨t60, g60⟩ := T.i_MAX_FACTS
    refine ⟨_, pss_cons (ps_if (pt_cmpR (op_eqT0 hr.units0) (pv 0) (pe_tup pa_nil) (nomark _)) (pss_one ps_never) pss_nil)
      (pss_one (ps_for PassesOwn.never rfl (pi_enumT (by rfl) T.f_enumerate (pa_cons (pv 0) pa_nil)) (pg_tup rfl (pgs_cons (pg_name (i := 1) nd rfl (.inl rfl)) (pgs_cons (pg_name (i := 2) nd rfl (.inl rfl)) pgs_nil)))
        (pss_one (ps_if (PW.pt (pw_or (pt_cmpR op_eq (pv 1) (pe_glob (v := .int 60) (by rfl) g60 ⟨_, rfl⟩) (nomark _))
          (pw_or (pt_not (pt_val (pc (ok_is_name T) hr T.g_is_name pass0 (pa_cons (pv 2) pa_nil))))
          (pw_or1 (PW.pt (pw_and (pt_cmpR op_gt (pv 1) pe_int (nomark _)) (pw_and1 (pt_cmpR op_le_str (pv 2) (pe_ix ix_tup (pv 0) (pe_op op_sub (pv 1) pe_int) (fun _ _ => rfl)) (nomark _)))))))))
          (pss_one ps_never) pss_nil)))), ?_⟩
    refine ⟨_, rfl, by show 0 ≤ sizeLine; decide, fun p hp => ⟨_, _, _, rfl, rfl, .of (by rw [upd_ne (ne_of_none haf hp)]; exact haf), .of upd_same, _, rfl, ?_⟩⟩
    have e0 : (sV l).isEmpty = false := by
      cases l with
      | nil => exact absurd rfl ok.ne
      | cons _ _ => rfl
    rw [e0]
    refine iteF ?_
    have s0 := same_upd (o := HO.tup []) hp
    refine ⟨_, rfl, af, _, rfl, .of (s0 _ _ haf), for_it (walk_enumT (xs := sV l)) (fun i σ H' => ∃ v1 v2, σ = [some (.ref af), v1, v2] ∧ Same H H') ⟨none, none, rfl, s0⟩ (fun i σ H' _ ⟨_, _, _, s1⟩ => .of (s1 _ _ haf)) ?_ ?_⟩
    · rintro i x σ H1 H2 hi ⟨v1, v2, rfl, s1⟩ ⟨T, z, y, rfl, hT, rfl, ez, ey⟩
      cases ez
      obtain ⟨nm, en, rfl⟩ := sV_get ey
      have s2 := same_trans s1 (same_upd (o := HO.tup [V.int (i : Nat), V.str nm]) hT)
      have hil : i < l.length := by simpa using hi
      have h60 := ok.len
      have e1 : decide (V.int (i : Nat) = V.int 60) = false := decide_eq_false fun z => by have := V.int.inj z; omega
      refine ⟨T, _, rfl, .of upd_same, rfl, _, _, rfl, _, _, rfl, rfl, _, rfl, rfl, _, rfl, ?_⟩
      rw [e1]
      refine iteF ⟨_, rfl, nm, rfl, ok.nm nm (List.mem_of_getElem? en), fun H3 s3 => ⟨true, rfl, iteF ?_⟩⟩
      have s4 := same_trans s2 s3
      refine ⟨_, rfl, _, _, rfl, rfl, _, rfl, ?_⟩
      refine ite2 (fun hc => ?_) (fun hc => ?_)
      · have hi0 : 0 < i := by have := of_decide_eq_true hc; omega
        have hp1 : i - 1 < l.length := by omega
        have ep : l[i - 1]? = some l[i - 1] := List.getElem?_eq_getElem hp1
        have lt := ok.asc (i - 1) l[i - 1] nm ep (by rw [show i - 1 + 1 = i by omega]; exact en)
        refine ⟨_, rfl, _, rfl, _, rfl, _, _, rfl, rfl, af, sV l, ((i : Nat) : Int) - 1, .str l[i - 1], rfl, rfl, .of (s4 _ _ haf), ?_, _, _, rfl, rfl, _, rfl, ?_⟩
        · have z : ((i : Nat) : Int) - 1 = ((i - 1 : Nat) : Int) := by omega
          rw [z]
          exact atI_nat (by rw [List.getElem?_map, ep]; rfl)
        · rw [decide_eq_true lt]
          exact iteF ⟨_, _, rfl, s4⟩
      · exact iteF ⟨_, _, rfl, s4⟩
    · rintro σ H1 ⟨v1, v2, rfl, s1⟩
      exact k _ s1
end
end Sc
set_option Elab.async false
set_option maxRecDepth 100000
set_option linter.all false
set_option maxHeartbeats 1000000
namespace Sc
open PySem PySem.Spec L2
open PyProof.Rows hiding St
section
variable {P : Program} {w : World} {K : PySem.W.Frag} {mg : Str → Option Value} {base : Heap}
/-! ### getters -/
theorem get_okd {C g : Addr} {m qual x : Str} {st : Stmt} {p1 p2 p3 : Pos} (F : ∃ fd, Fun K m qual st g fd) (S : FnScope ["self"] ["self"] (defScope st)) (hb : defBody st = [.Return (some (.Attribute (.Name "self" p1) x p2)) p3]) (c : Cls K C) (n : NoAttr K C x)
    (h : ∀ (kV doc pm : Value) (an : Option Addr) (cdv ct : Value) (us : List Value), us.length = 1 → bindArgs (PySem.W.fnOf m qual (defArgs st) (defBody st) (defScope st) .none kV doc pm an cdv ct) ⟨us, []⟩ = pure ((["self"] : List Str).zip us)) :
    Okd P w K mg base CX0 1 g ["self"] (getSp C x) := by
  obtain ⟨fd, F⟩ := F
  refine ⟨fd, F.ok S (fun vs H Q E h => ?_) (fun cdv A outer s H vs Q E hr h => ?_), F.binds h, F.kp⟩
  · obtain ⟨a, dx, fs, v, rfl, _⟩ := h
    rfl
  · obtain ⟨a, dx, fs, v, rfl, ea, lk, k⟩ := h
    rw [hb]
    exact ⟨_, pss_one (ps_ret (pe_fld (pv 0 (hv := S.par _ (List.mem_cons_self ..) |>.elim Or.inl (fun z => Or.inr (Or.inl z)))) rfl)), _, rfl, a, C, dx, fs, v, rfl, ea, c, n, lk, k⟩
theorem sc_get {st : Stmt} (h : FnScope ["self"] ["self"] (defScope st)) : FnScope ["self"] ["self"] (defScope st) := h
theorem ok_holding (T : Txt K mg) : Okd P w K mg base CX0 1 601 ["self"] (getSp cCond "wanted") :=
  get_okd T.d_Condition_holding ⟨rfl, rfl, rfl, by decide +kernel, rfl, by decide +kernel, by decide +kernel⟩ rfl T.c_Condition T.n_Condition_wanted fun _ _ _ _ _ _ us hl => match us, hl with | [_], _ => rfl
theorem ok_failing (T : Txt K mg) : Okd P w K mg base CX0 1 609 ["self"] (getSp cCond "barred") :=
  get_okd T.d_Condition_failing ⟨rfl, rfl, rfl, by decide +kernel, rfl, by decide +kernel, by decide +kernel⟩ rfl T.c_Condition T.n_Condition_barred fun _ _ _ _ _ _ us hl => match us, hl with | [_], _ => rfl
theorem ok_rname (T : Txt K mg) : Okd P w K mg base CX0 1 332 ["self"] (getSp cRule "own_name") :=
  get_okd T.d_Rule_name ⟨rfl, rfl, rfl, by decide +kernel, rfl, by decide +kernel, by decide +kernel⟩ rfl T.c_Rule T.n_Rule_own_name fun _ _ _ _ _ _ us hl => match us, hl with | [_], _ => rfl
theorem ok_rcond (T : Txt K mg) : Okd P w K mg base CX0 1 340 ["self"] (getSp cRule "own_condition") :=
  get_okd T.d_Rule_condition ⟨rfl, rfl, rfl, by decide +kernel, rfl, by decide +kernel, by decide +kernel⟩ rfl T.c_Rule T.n_Rule_own_condition fun _ _ _ _ _ _ us hl => match us, hl with | [_], _ => rfl
theorem ok_rruling (T : Txt K mg) : Okd P w K mg base CX0 1 348 ["self"] (getSp cRule "own_ruling") :=
  get_okd T.d_Rule_ruling ⟨rfl, rfl, rfl, by decide +kernel, rfl, by decide +kernel, by decide +kernel⟩ rfl T.c_Rule T.n_Rule_own_ruling fun _ _ _ _ _ _ us hl => match us, hl with | [_], _ => rfl
theorem ok_rexc (T : Txt K mg) : Okd P w K mg base CX0 1 356 ["self"] (getSp cRule "inner") :=
  get_okd T.d_Rule_exceptions ⟨rfl, rfl, rfl, by decide +kernel, rfl, by decide +kernel, by decide +kernel⟩ rfl T.c_Rule T.n_Rule_inner fun _ _ _ _ _ _ us hl => match us, hl with | [_], _ => rfl
theorem ok_bfacts (T : Txt K mg) : Okd P w K mg base CX0 1 424 ["self"] (getSp cBook "all_facts") :=
  get_okd T.d_Book_facts ⟨rfl, rfl, rfl, by decide +kernel, rfl, by decide +kernel, by decide +kernel⟩ rfl T.c_Book T.n_Book_all_facts fun _ _ _ _ _ _ us hl => match us, hl with | [_], _ => rfl
theorem ok_brules (T : Txt K mg) : Okd P w K mg base CX0 1 432 ["self"] (getSp cBook "outermost") :=
  get_okd T.d_Book_rules ⟨rfl, rfl, rfl, by decide +kernel, rfl, by decide +kernel, by decide +kernel⟩ rfl T.c_Book T.n_Book_outermost fun _ _ _ _ _ _ us hl => match us, hl with | [_], _ => rfl
theorem ok_bruling (T : Txt K mg) : Okd P w K mg base CX0 1 440 ["self"] (getSp cBook "last_ruling") :=
  get_okd T.d_Book_ruling ⟨rfl, rfl, rfl, by decide +kernel, rfl, by decide +kernel, by decide +kernel⟩ rfl T.c_Book T.n_Book_last_ruling fun _ _ _ _ _ _ us hl => match us, hl with | [_], _ => rfl
end
/-! ### properties as rules -/
section
variable {X : Cx} {e : Expr} {pos : Pos} {ta : TE}
def tR (R : V → Hp → VK → Prop) (ta : TE) : TE := fun σ H Q => ta σ H fun y H1 => R y H1 Q
theorem pe_getA {C p g : Addr} {f x : Str} (he : PE X e ta) (c : Cls X.K C) (hp : PropOf X.K C f p g) (G : Okd X.prog X.w X.K X.mg X.base CX0 1 g ["self"] (getSp C x)) (hr : Room 2 X.A) (R : V → Hp → VK → Prop)
    (hR : ∀ y H Q, R y H Q → ∃ (a dx : Addr) (fs : List (Str × V)) (v : V), y = .ref a ∧ H a = some (.ins C dx fs) ∧ fs.lookup x = some v ∧ Q v H)
    (hab : attributeBase e f X.env (eval e X.env) = eval e X.env) : PE X (.Attribute e f pos) (tR R ta) := by
  obtain ⟨fd, F, b, kp⟩ := G
  refine ⟨fun pins s σ H Q I h => attr_of hab (thn (he.run pins s σ H _ I h) fun u s1 z => ?_)⟩
  obtain ⟨y, H1, I1, r, q⟩ := z
  obtain ⟨a, dx, fs, v, rfl, ea, lk, k⟩ := hR _ _ _ q
  cases r
  exact getprop_ok I1 ea c hp F hr b .nil pass0 ⟨a, dx, fs, v, rfl, ea, lk, k⟩
def rHold : V → Hp → VK → Prop := fun y H Q => ∃ w b, CondAt H y w b ∧ ∀ a, H a = some (.tup (sV w)) → Q (.ref a) H
def rFail : V → Hp → VK → Prop := fun y H Q => ∃ w b, CondAt H y w b ∧ ∀ a, H a = some (.tup (sV b)) → Q (.ref a) H
def rNm : V → Hp → VK → Prop := fun y H Q => ∃ r, RuleAt H y r ∧ Q (.str r.n) H
def rRul : V → Hp → VK → Prop := fun y H Q => ∃ r, RuleAt H y r ∧ Q (.str r.r) H
def rCnd : V → Hp → VK → Prop := fun y H Q => ∃ r, RuleAt H y r ∧ ∀ v, CondAt H v r.w r.b → Q v H
def rInn : V → Hp → VK → Prop := fun y H Q => ∃ r, RuleAt H y r ∧ ∀ a vs, H a = some (.tup vs) → RulesAt H vs r.inner → Q (.ref a) H
theorem pe_holding (T : Txt X.K X.mg) (he : PE X e ta) (hr : Room 2 X.A) (hab : attributeBase e "holding" X.env (eval e X.env) = eval e X.env := by rfl) : PE X (.Attribute e "holding" pos) (tR rHold ta) :=
  pe_getA he T.c_Condition T.p_Condition_holding (ok_holding T) hr rHold (fun y H Q h => by
    obtain ⟨w, b, ⟨c, dc, aw, ab, rfl, h1, h2, h3⟩, k⟩ := h
    exact ⟨c, dc, _, .ref aw, rfl, h1, by kernel_rfl, k aw h2⟩) hab
theorem pe_failing (T : Txt X.K X.mg) (he : PE X e ta) (hr : Room 2 X.A) (hab : attributeBase e "failing" X.env (eval e X.env) = eval e X.env := by rfl) : PE X (.Attribute e "failing" pos) (tR rFail ta) :=
  pe_getA he T.c_Condition T.p_Condition_failing (ok_failing T) hr rFail (fun y H Q h => by
    obtain ⟨w, b, ⟨c, dc, aw, ab, rfl, h1, h2, h3⟩, k⟩ := h
    exact ⟨c, dc, _, .ref ab, rfl, h1, by kernel_rfl, k ab h3⟩) hab
theorem pe_rname (T : Txt X.K X.mg) (he : PE X e ta) (hr : Room 2 X.A) (hab : attributeBase e "name" X.env (eval e X.env) = eval e X.env := by rfl) : PE X (.Attribute e "name" pos) (tR rNm ta) :=
  pe_getA he T.c_Rule T.p_Rule_name (ok_rname T) hr rNm (fun y H Q h => by
    obtain ⟨r, hr, k⟩ := h
    cases hr with
    | mk h1 h2 h3 h4 => exact ⟨_, _, _, _, rfl, h1, by kernel_rfl, k⟩) hab
theorem pe_rruling (T : Txt X.K X.mg) (he : PE X e ta) (hr : Room 2 X.A) (hab : attributeBase e "ruling" X.env (eval e X.env) = eval e X.env := by rfl) : PE X (.Attribute e "ruling" pos) (tR rRul ta) :=
  pe_getA he T.c_Rule T.p_Rule_ruling (ok_rruling T) hr rRul (fun y H Q h => by
    obtain ⟨r, hr, k⟩ := h
    cases hr with
    | mk h1 h2 h3 h4 => exact ⟨_, _, _, _, rfl, h1, by kernel_rfl, k⟩) hab
theorem pe_rcond (T : Txt X.K X.mg) (he : PE X e ta) (hr : Room 2 X.A) (hab : attributeBase e "condition" X.env (eval e X.env) = eval e X.env := by rfl) : PE X (.Attribute e "condition" pos) (tR rCnd ta) :=
  pe_getA he T.c_Rule T.p_Rule_condition (ok_rcond T) hr rCnd (fun y H Q h => by
    obtain ⟨r, hr, k⟩ := h
    cases hr with
    | mk h1 h2 h3 h4 => exact ⟨_, _, _, _, rfl, h1, by kernel_rfl, k _ h2⟩) hab
theorem pe_rexc (T : Txt X.K X.mg) (he : PE X e ta) (hr : Room 2 X.A) (hab : attributeBase e "exceptions" X.env (eval e X.env) = eval e X.env := by rfl) : PE X (.Attribute e "exceptions" pos) (tR rInn ta) :=
  pe_getA he T.c_Rule T.p_Rule_exceptions (ok_rexc T) hr rInn (fun y H Q h => by
    obtain ⟨r, hr, k⟩ := h
    cases hr with
    | mk h1 h2 h3 h4 => exact ⟨_, _, _, _, rfl, h1, by kernel_rfl, k _ _ h3 h4⟩) hab
/-- rule.inner, the attribute itself -/
theorem pe_rinner (T : Txt X.K X.mg) (he : PE X e ta) (hab : attributeBase e "inner" X.env (eval e X.env) = eval e X.env := by rfl) : PE X (.Attribute e "inner" pos) (tR rInn ta) := by
  refine ⟨fun pins s σ H Q I h => attr_of hab (thn (he.run pins s σ H _ I h) fun u s1 z => ?_)⟩
  obtain ⟨y, H1, I1, r, q⟩ := z
  obtain ⟨rt, hr, k⟩ := q
  cases hr with
  | mk h1 h2 h3 h4 =>
    cases r
    exact getattr_ok I1 h1 T.c_Rule T.n_Rule_inner (by kernel_rfl) fun u s' I' ru => ⟨_, _, I', ru, k _ _ h3 h4⟩
end
end Sc
set_option Elab.async false
set_option maxRecDepth 100000
set_option linter.all false
set_option maxHeartbeats 1000000
namespace Sc
open PySem PySem.Spec L2
open PyProof.Rows hiding St
theorem flat_sV : ∀ l : List Str, (sV l).all flatV = true
  | [] => rfl
  | _ :: l => flat_sV l
theorem in_sV (x : Str) : ∀ l : List Str, inV (.str x) (sV l) = decide (x ∈ l)
  | [] => by simp [inV]
  | y :: l => by
    have e : inV (.str x) (sV (y :: l)) = ((y == x) || inV (.str x) (sV l)) := rfl
    rw [e, in_sV x l, Bool.eq_iff_iff]
    simp only [Bool.or_eq_true, beq_iff_eq, decide_eq_true_iff, List.mem_cons]
    exact ⟨fun h => h.imp Eq.symm id, fun h => h.imp Eq.symm id⟩
def Asc (l : List Str) : Prop := ∀ (i : Nat) (x y : Str), l[i]? = some x → l[i + 1]? = some y → x.cps.toList < y.cps.toList
/-- what the facts of a condition must be -/
structure CondOk (w b : List Str) : Prop where
  nw : ∀ x ∈ w, NmOk x
  nb : ∀ x ∈ b, NmOk x
  aw : Asc w
  ab : Asc b
  len : w.length + b.length ≤ 8
  no : ∀ x ∈ b, x ∉ w
section
variable {P : Program} {w : World} {K : PySem.W.Frag} {mg : Str → Option Value} {base : Heap}
def spCond : Sp := fun vs H Q _ => ∃ (p dx aw ab : Addr) (w b : List Str), vs = [.ref p, .ref aw, .ref ab] ∧ H p = some (.ins cCond dx []) ∧ H aw = some (.tup (sV w)) ∧ H ab = some (.tup (sV b)) ∧ CondOk w b ∧
  ∀ H', Frm [p] H H' → H' p = some (.ins cCond dx (condFs aw ab)) → Q .non H'
theorem sc_cinit : FnScope ["self", "holding", "failing", "part", "names", "index", "name", "is_late"] ["self", "holding", "failing"] (defScope s_Condition_init) := ⟨rfl, rfl, rfl, by decide +kernel, rfl, by decide +kernel, by decide +kernel⟩
theorem condFs_eq (aw ab : Addr) : putF "barred" (V.ref ab) (putF "wanted" (V.ref aw) []) = condFs aw ab := by kernel_rfl
theorem ok_cond_init (T : Txt K mg) : Okd P w K mg base CX0 2 594 ["self", "holding", "failing"] spCond := by
  obtain ⟨fd, F⟩ := T.d_Condition_init
  refine ⟨fd, F.ok sc_cinit (fun vs H Q E h => ?_) (fun cdv A outer s H vs Q E hr h => ?_), F.binds fun _ _ _ _ _ _ us hl => match us, hl with | [_, _, _], _ => rfl, F.kp⟩
  · obtain ⟨p, dx, aw, ab, w, b, rfl, _⟩ := h
    rfl
  · obtain ⟨p, dx, aw, ab, w, b, rfl, hp, haw, hab, ok, k⟩ := h
    have nd := sc_cinit.nd
    obtain ⟨t8, g8⟩ := T.i_MAX_NAMES
    refine ⟨_, pss_cons (ps_for PassesOwn.never rfl (pi_enumT (by rfl) T.f_enumerate (pa_cons (pe_tup (pa_cons (pv 1) (pa_cons (pv 2) pa_nil))) pa_nil)) (pg_tup rfl (pgs_cons (pg_name (i := 3) nd rfl (.inl rfl)) (pgs_cons (pg_name (i := 4) nd rfl (.inl rfl)) pgs_nil)))
        (pss_one (ps_for PassesOwn.never rfl (pi_enumT (by rfl) T.f_enumerate (pa_cons (pv 4) pa_nil)) (pg_tup rfl (pgs_cons (pg_name (i := 5) nd rfl (.inl rfl)) (pgs_cons (pg_name (i := 6) nd rfl (.inl rfl)) pgs_nil)))
          (pss_cons (ps_set (i := 7) nd rfl (.inl rfl) (pe_and (pe_cmpR op_gt (pv 5) pe_int (nomark _)) (pe_and (pc (ok_is_name T) hr T.g_is_name pass0 (pa_cons (pv 6) pa_nil))
              (pe_one (pe_cmpR op_le_str (pv 6) (pe_ix ix_tup (pv 4) (pe_op op_sub (pv 5) pe_int) (fun _ _ => rfl)) (nomark _))))))
          (pss_cons (ps_if (PW.pt (pw_or (pt_not (pt_val (pc (ok_is_name T) hr T.g_is_name pass0 (pa_cons (pv 6) pa_nil)))) (pw_or (pt_val (pv 7))
              (pw_or1 (pt_cmpR op_ge (pe_op op_add (pe_op op_mul (pv 3) (pe_callB call_len_seq (by rfl) T.f_len PySem.boot_len (pa_cons (pv 1) pa_nil))) (pv 5)) (pe_glob (v := .int 8) (by rfl) g8 ⟨_, rfl⟩) (nomark _))))))
            (pss_one ps_never) pss_nil)
          (pss_one (ps_if (PW.pt (pw_and (pt_cmpR op_eq (pv 3) pe_int (nomark _)) (pw_and1 (pt_cmpR op_in_seq (pv 6) (pv 1) (by rfl)))))
            (pss_one ps_never) pss_nil)))))))
      (pss_cons (ps_fld (pv 0) (pv 1) rfl) (pss_one (ps_fld (pv 0) (pv 2) rfl))), ?_⟩
    refine ⟨_, rfl, _, rfl, by show 2 ≤ sizeLine; decide, fun tp ntp => ?_⟩
    have s0 := same_upd (o := HO.tup [V.ref aw, V.ref ab]) ntp
    have etp : (upd H tp (.tup [V.ref aw, V.ref ab])) tp = some (.tup [V.ref aw, V.ref ab]) := upd_same
    refine ⟨tp, _, rfl, .of etp, for_it (walk_enumT (xs := [V.ref aw, V.ref ab])) (fun i σ H' => ∃ v3 v4 v5 v6 v7, σ = [some (.ref p), some (.ref aw), some (.ref ab), v3, v4, v5, v6, v7] ∧ Same (upd H tp (.tup [V.ref aw, V.ref ab])) H')
      ⟨none, none, none, none, none, rfl, Same.refl _⟩ (fun i σ H' _ ⟨_, _, _, _, _, _, s1⟩ => .of (s1 _ _ etp)) ?_ ?_⟩
    · rintro i x σ H1 H2 hi ⟨v3, v4, v5, v6, v7, rfl, s1⟩ ⟨T1, z, y, rfl, hT1, rfl, ez, ey⟩
      cases ez
      obtain ⟨an, l, rfl, hl, hn, ha, h8, hno⟩ : ∃ (an : Addr) (l : List Str), y = .ref an ∧ H an = some (.tup (sV l)) ∧ (∀ x ∈ l, NmOk x) ∧ Asc l ∧ (∀ j, j < l.length → i * w.length + j < 8) ∧ (i = 1 → ∀ x ∈ l, x ∉ w) := by
        have hl := ok.len
        match i, hi with
        | 0, _ => exact ⟨aw, w, (Option.some.inj ey).symm, haw, ok.nw, ok.aw, fun j hj => by omega, fun z => by cases z⟩
        | 1, _ => exact ⟨ab, b, (Option.some.inj ey).symm, hab, ok.nb, ok.ab, fun j hj => by omega, fun _ => ok.no⟩
      have s2 := same_trans (same_trans s0 s1) (same_upd (o := HO.tup [V.int (i : Nat), V.ref an]) hT1)
      refine ⟨T1, _, rfl, .of upd_same, rfl, _, _, rfl, _, _, rfl, rfl, ?_⟩
      refine ⟨_, rfl, an, _, rfl, .of (s2 _ _ hl), for_it (walk_enumT (xs := sV l)) (fun j σ H' => ∃ v5 v6 v7, σ = [some (.ref p), some (.ref aw), some (.ref ab), some (.int (i : Nat)), some (.ref an), v5, v6, v7] ∧ Same (upd H1 T1 (.tup [V.int (i : Nat), V.ref an])) H')
        ⟨v5, v6, v7, rfl, Same.refl _⟩ (fun j σ H' _ ⟨_, _, _, _, s3⟩ => .of (s3 _ _ (s2 _ _ hl))) ?_ ?_⟩
      · rintro j x σ H3 H4 hj ⟨v5, v6, v7, rfl, s3⟩ ⟨T2, z, y, rfl, hT2, rfl, ez, ey2⟩
        cases ez
        obtain ⟨nm, en, rfl⟩ := sV_get ey2
        have s4 := same_trans s3 (same_upd (o := HO.tup [V.int (j : Nat), V.str nm]) hT2)
        have s5 := same_trans s2 s4
        have hjl : j < l.length := by simpa using hj
        have hok := hn nm (List.mem_of_getElem? en)
        refine ⟨T2, _, rfl, .of upd_same, rfl, _, _, rfl, _, _, rfl, rfl, ?_⟩
        have hsum := h8 j hjl
        have hi2 : i < 2 := hi
        refine ⟨_, rfl, _, _, rfl, rfl, _, rfl, ?_⟩
        refine ite2 (fun hc => ?_) (fun hc => ?_)
        · have hj0 : 0 < j := by have := of_decide_eq_true hc; omega
          have hp1 : j - 1 < l.length := by omega
          have ep : l[j - 1]? = some l[j - 1] := List.getElem?_eq_getElem hp1
          have lt := ha (j - 1) l[j - 1] nm ep (by rw [show j - 1 + 1 = j by omega]; exact en)
          refine ⟨_, rfl, nm, rfl, hok, fun H5 s6 => ⟨_, rfl, iteT ?_⟩⟩
          refine ⟨_, rfl, _, rfl, _, rfl, _, _, rfl, rfl, an, sV l, ((j : Nat) : Int) - 1, .str l[j - 1], rfl, rfl, .of (s6 _ _ (s5 _ _ hl)), ?_, _, _, rfl, rfl, ?_⟩
          · have z : ((j : Nat) : Int) - 1 = ((j - 1 : Nat) : Int) := by omega
            rw [z]
            exact atI_nat (by rw [List.getElem?_map, ep]; rfl)
          rw [decide_eq_true lt]
          refine ⟨_, rfl, nm, rfl, hok, fun H6 s7 => ⟨true, rfl, iteF ⟨_, rfl, false, rfl, iteF ?_⟩⟩⟩
          have s8 := same_trans s4 (same_trans s6 s7)
          have s9 := same_trans s5 (same_trans s6 s7)
          refine ⟨_, rfl, _, rfl, aw, _, rfl, .inr (.of (s9 _ _ haw)), _, _, rfl, rfl, .inl ⟨by omega, by omega⟩, _, rfl, _, _, rfl, rfl, _, _, rfl, rfl, _, rfl, ?_⟩
          rw [decide_eq_false (by rw [List.length_map]; omega)]
          refine iteF ⟨_, rfl, rfl, _, rfl, ?_⟩
          refine ite2 (fun hc2 => ?_) (fun hc2 => ?_)
          · have hi1 : i = 1 := by have := V.int.inj (of_decide_eq_true hc2); omega
            refine ⟨_, rfl, _, rfl, aw, _, rfl, .inr (.of (s9 _ _ haw)), rfl, flat_sV _, _, rfl, ?_⟩
            rw [if_neg (by decide), in_sV, decide_eq_false (hno hi1 nm (List.mem_of_getElem? en))]
            exact iteF ⟨_, _, _, rfl, s8⟩
          · exact iteF ⟨_, _, _, rfl, s8⟩
        · refine ⟨_, rfl, nm, rfl, hok, fun H6 s7 => ⟨true, rfl, iteF ⟨_, rfl, false, rfl, iteF ?_⟩⟩⟩
          have s8 := same_trans s4 s7
          have s9 := same_trans s5 s7
          refine ⟨_, rfl, _, rfl, aw, _, rfl, .inr (.of (s9 _ _ haw)), _, _, rfl, rfl, .inl ⟨by omega, by omega⟩, _, rfl, _, _, rfl, rfl, _, _, rfl, rfl, _, rfl, ?_⟩
          rw [decide_eq_false (by rw [List.length_map]; omega)]
          refine iteF ⟨_, rfl, rfl, _, rfl, ?_⟩
          refine ite2 (fun hc2 => ?_) (fun hc2 => ?_)
          · have hi1 : i = 1 := by have := V.int.inj (of_decide_eq_true hc2); omega
            refine ⟨_, rfl, _, rfl, aw, _, rfl, .inr (.of (s9 _ _ haw)), rfl, flat_sV _, _, rfl, ?_⟩
            rw [if_neg (by decide), in_sV, decide_eq_false (hno hi1 nm (List.mem_of_getElem? en))]
            exact iteF ⟨_, _, _, rfl, s8⟩
          · exact iteF ⟨_, _, _, rfl, s8⟩
      · rintro σ H3 ⟨v5, v6, v7, rfl, s3⟩
        exact ⟨_, _, _, _, _, rfl, same_trans s1 (same_trans (same_upd hT1) s3)⟩
    · rintro σ H1 ⟨v3, v4, v5, v6, v7, rfl, s1⟩
      have s2 := same_trans s0 s1
      refine ⟨_, rfl, _, rfl, p, cCond, dx, [], rfl, s2 _ _ hp, T.c_Condition, T.n_Condition_wanted, by show 0 < 1000; decide, ?_⟩
      refine ⟨_, rfl, _, rfl, p, cCond, dx, _, rfl, upd_same, T.c_Condition, T.n_Condition_barred, by show 1 < 1000; decide, ?_⟩
      refine k _ (fun c o e hc => ?_) ?_
      · have hc' : c ≠ p := fun z => hc (List.mem_singleton.mpr z)
        rw [upd_ne hc', upd_ne hc']
        exact s2 _ _ e
      · rw [condFs_eq]
        exact upd_same
end
end Sc
set_option Elab.async false
set_option maxRecDepth 100000
set_option linter.all false
set_option maxHeartbeats 1000000
namespace Sc
open PySem PySem.Spec L2
open PyProof.Rows hiding St
section
variable {X : Cx} {e : Expr} {pos : Pos} {ta : TE}
theorem pe_propR {CX : CXT} {C p g : Addr} {f : Str} {k : Nat} {ps : List Str} {sp : Sp} {E : XK} (he : PE X e ta) (c : Cls X.K C) (hp : PropOf X.K C f p g) (G : Okd X.prog X.w X.K X.mg X.base CX k g ps sp) (hr : Room (k + 1) X.A) (hx : Passes CX X.nox E) (R : V → Hp → VK → Prop)
    (hR : ∀ y H Q, R y H Q → ∃ (a dx : Addr) (fs : List (Str × V)), y = .ref a ∧ H a = some (.ins C dx fs) ∧ sp [.ref a] H Q E)
    (hab : attributeBase e f X.env (eval e X.env) = eval e X.env := by rfl) : PE X (.Attribute e f pos) (tR R ta) := by
  obtain ⟨fd, F, b, kp⟩ := G
  refine ⟨fun pins s σ H Q I h => attr_of hab (thn (he.run pins s σ H _ I h) fun u s1 z => ?_)⟩
  obtain ⟨y, H1, I1, r, q⟩ := z
  obtain ⟨a, dx, fs, rfl, ea, k⟩ := hR _ _ _ q
  cases r
  exact getprop_ok I1 ea c hp F hr b .nil hx k
end
section
variable {P : Program} {w : World} {K : PySem.W.Frag} {mg : Str → Option Value} {base : Heap}
def spCNames : Sp := fun vs H Q _ => ∃ (c : Addr) (w b : List Str), vs = [.ref c] ∧ CondAt H (.ref c) w b ∧ w.length + b.length < 64 ∧ ∀ a H' ys, Same H H' → H' a = some (.tup (sV ys)) → ys.Perm (w ++ b) → Q (.ref a) H'
theorem ok_cnames (T : Txt K mg) : Okd P w K mg base CX0 1 617 ["self"] spCNames := by
  obtain ⟨fd, F⟩ := T.d_Condition_names
  have sc : FnScope ["self"] ["self"] (defScope s_Condition_names) := ⟨rfl, rfl, rfl, by decide +kernel, rfl, by decide +kernel, by decide +kernel⟩
  refine ⟨fd, F.ok sc (fun vs H Q E h => ?_) (fun cdv A outer s H vs Q E hr h => ?_), F.binds fun _ _ _ _ _ _ us hl => match us, hl with | [_], _ => rfl, F.kp⟩
  · obtain ⟨c, w, b, rfl, _⟩ := h
    rfl
  · obtain ⟨c, w, b, rfl, hc, hl, k⟩ := h
    obtain ⟨c', dc, aw, ab, ec, h1, h2, h3⟩ := hc
    cases ec
    refine ⟨_, pss_one (ps_ret (pe_callTy call_tuple_of (by rfl) T.f_tuple (by decide +kernel) (pa_cons (pe_callB cr_sortedST (by rfl) T.f_sorted (by decide +kernel) (pa_cons (pe_op op_catA (pe_fld (pv 0) rfl) (pe_fld (pv 0) rfl)) pa_nil)) pa_nil))), ?_⟩
    have lz : (sV w).length + (sV b).length ≤ sizeLine := by rw [List.length_map, List.length_map, sizeLine_eq]; omega
    -- the joined tuple stands somewhere
    have fin : ∀ (a : Addr) (H1 : Hp), Same H H1 → H1 a = some (.tup (sV (w ++ b))) → ∃ (a' : Addr) (xs : List Str), [V.ref a] = [V.ref a'] ∧ SqT K H1 a' (sV xs) ∧ xs.length < 64 ∧ ∀ (ys : List Str) (p : Addr), ys.Perm xs → sortedS ys = true → H1 p = none →
        ∃ (p' : Addr) (zs : List V), [V.ref p] = [V.ref p'] ∧ ((SqL K (upd H1 p (.lst (sV ys))) p' zs ∧ ∀ l, (upd H1 p (.lst (sV ys))) l = none → Q (.ref l) (upd (upd H1 p (.lst (sV ys))) l (.tup zs))) ∨ (SqT K (upd H1 p (.lst (sV ys))) p' zs ∧ Q (.ref p') (upd H1 p (.lst (sV ys))))) := by
      intro a H1 s1 ha
      refine ⟨a, w ++ b, rfl, .of ha, by rw [List.length_append]; exact hl, fun ys p hp _ np => ⟨p, sV ys, rfl, .inl ⟨.of upd_same, fun l nl => k l _ ys ?_ upd_same hp⟩⟩⟩
      have s2 := same_trans s1 (same_upd (o := HO.lst (sV ys)) np)
      exact same_trans s2 (same_upd nl)
    refine ⟨_, rfl, c, cCond, dc, _, _, rfl, h1, T.c_Condition, T.n_Condition_wanted, (show _ = some (V.ref aw) by kernel_rfl), _, rfl, c, cCond, dc, _, _, rfl, h1, T.c_Condition, T.n_Condition_barred, (show _ = some (V.ref ab) by kernel_rfl), aw, ab, sV w, sV b, rfl, rfl, .of h2, .of h3, lz, ?_, ?_, ?_⟩
    · intro e
      have ew : w = [] := List.map_eq_nil_iff.mp e
      subst ew
      exact fin ab H (Same.refl _) h3
    · intro _ e
      have eb : b = [] := List.map_eq_nil_iff.mp e
      subst eb
      exact fin aw H (Same.refl _) (by rw [List.append_nil]; exact h2)
    · intro _ _ p np
      exact fin p _ (same_upd np) (by rw [upd_same, ← List.map_append])
/-- == of conditions -/
def CondEq (a b : Addr) (H : Hp) : Prop := ∃ w f, CondAt H (.ref a) w f ∧ CondAt H (.ref b) w f
theorem ok_cond_eq (T : Txt K mg) : Okd P w K mg base CX0 1 642 ["self", "other"] (spEq CondEq) := by
  obtain ⟨fd, F⟩ := T.d_Condition_eq
  have sc : FnScope ["self", "other"] ["self", "other"] (defScope s_Condition_eq) := ⟨rfl, rfl, rfl, by decide +kernel, rfl, by decide +kernel, by decide +kernel⟩
  refine ⟨fd, F.ok sc (fun vs H Q E h => ?_) (fun cdv A outer s H vs Q E hr h => ?_), F.binds fun _ _ _ _ _ _ us hl => match us, hl with | [_, _], _ => rfl, F.kp⟩
  · obtain ⟨a, b, rfl, _⟩ := h
    rfl
  · obtain ⟨a, b, rfl, ⟨wl, fl, h1, h2⟩, k⟩ := h
    obtain ⟨_, d1, w1, b1, e1, p1, p2, p3⟩ := h1
    obtain ⟨_, d2, w2, b2, e2, q1, q2, q3⟩ := h2
    cases e1
    cases e2
    refine ⟨_, pss_cons (ps_if (pt_not (pt_val (pe_callB call_isi (by rfl) T.f_isinstance (by decide +kernel) (pa_cons (pv 1) (pa_cons (pe_glob (v := .ref cCond) (by rfl) T.g_Condition rfl) pa_nil))))) (pss_one ps_never) pss_nil)
      (pss_one (ps_ret (pe_and (pe_cmpR (op_eqTS hr.units0) (pe_fld (pv 0) rfl) (pe_fld (pv 1) rfl) (nomark _)) (pe_one (pe_cmpR (op_eqTS hr.units0) (pe_fld (pv 0) rfl) (pe_fld (pv 1) rfl) (nomark _)))))), ?_⟩
    refine ⟨_, rfl, _, _, _, _, true, rfl, .own cCond, .base (.ins q1 T.c_Condition T.y_Condition.ha T.y_Condition.hn T.y_Condition.ht T.y_Condition.hm), T.k_Condition, true, rfl, iteF ?_⟩
    refine ⟨_, rfl, a, cCond, _, _, _, rfl, p1, T.c_Condition, T.n_Condition_wanted, (show _ = some (V.ref w1) by kernel_rfl), _, rfl, b, cCond, _, _, _, rfl, q1, T.c_Condition, T.n_Condition_wanted, (show _ = some (V.ref w2) by kernel_rfl), w1, w2, wl, wl, rfl, rfl, .of p2, .of q2, _, rfl, ?_⟩
    rw [decide_eq_true rfl]
    refine iteT ⟨_, rfl, a, cCond, _, _, _, rfl, p1, T.c_Condition, T.n_Condition_barred, (show _ = some (V.ref b1) by kernel_rfl), _, rfl, b, cCond, _, _, _, rfl, q1, T.c_Condition, T.n_Condition_barred, (show _ = some (V.ref b2) by kernel_rfl), b1, b2, fl, fl, rfl, rfl, .of p3, .of q3, ?_⟩
    rw [decide_eq_true rfl]
    exact k H (Ext.rfl')
end
section
variable {X : Cx} {e : Expr} {pos : Pos} {ta : TE}
def rCNm : V → Hp → VK → Prop := fun y H Q => ∃ w b, CondAt H y w b ∧ w.length + b.length < 64 ∧ ∀ a H' ys, Same H H' → H' a = some (.tup (sV ys)) → ys.Perm (w ++ b) → Q (.ref a) H'
theorem pe_cnames (T : Txt X.K X.mg) (he : PE X e ta) (hr : Room 2 X.A) (hab : attributeBase e "names" X.env (eval e X.env) = eval e X.env := by rfl) : PE X (.Attribute e "names" pos) (tR rCNm ta) :=
  pe_propR he T.c_Condition T.p_Condition_names (ok_cnames T) hr (E := E0) pass0 rCNm (fun y H Q h => by
    obtain ⟨w, b, hc, hl, k⟩ := h
    obtain ⟨c, dc, aw, ab, rfl, h1, h2, h3⟩ := id hc
    exact ⟨c, dc, _, rfl, h1, c, w, b, rfl, hc, hl, k⟩) hab
end
/-- a condition is made -/
theorem mkCond {H : Hp} {Q : VK} {E : XK} {aw ab : Addr} {w b : List Str} (haw : H aw = some (.tup (sV w))) (hab : H ab = some (.tup (sV b))) (ok : CondOk w b) (k : ∀ (c : Addr) (H' : Hp), Same H H' → CondAt H' (.ref c) w b → Q (V.ref c) H') :
    ∀ x dx, H x = none → H dx = none → dx ≠ x → spCond (.ref x :: ([.ref aw, .ref ab] ++ [])) (upd (upd H dx (.own x)) x (.ins cCond dx [])) (fun v H2 => v = .non ∧ Q (.ref x) H2) E := by
  intro x dx nx ndx ne
  have s1 : Same H (upd (upd H dx (.own x)) x (.ins cCond dx [])) := same_new (same_upd ndx) nx
  refine ⟨x, dx, aw, ab, w, b, rfl, upd_same, s1 _ _ haw, s1 _ _ hab, ok, fun H' fr hx => ⟨rfl, k x H' (fun c o e => ?_) ⟨x, dx, aw, ab, rfl, hx, ?_, ?_⟩⟩⟩
  · exact fr c o (s1 c o e) (fun z => by rw [List.mem_singleton.mp z] at e; rw [nx] at e; cases e)
  · exact fr aw _ (s1 _ _ haw) (fun z => by rw [List.mem_singleton.mp z] at haw; rw [nx] at haw; cases haw)
  · exact fr ab _ (s1 _ _ hab) (fun z => by rw [List.mem_singleton.mp z] at hab; rw [nx] at hab; cases hab)
end Sc
set_option Elab.async false
set_option maxRecDepth 100000
set_option linter.all false
set_option maxHeartbeats 1000000
namespace Sc
open PySem PySem.Spec L2
open PyProof.Rows hiding St
section
variable {P : Program} {w : World} {K : PySem.W.Frag} {mg : Str → Option Value} {base : Heap}
def spRule : Sp := fun vs H Q _ => ∃ (p dx c ai : Addr) (n r : Str), vs = [.ref p, .str n, .ref c, .str r, .ref ai] ∧ H p = some (.ins cRule dx []) ∧ NmOk n ∧ NmOk r ∧
  ∀ H', Frm [p] H H' → H' p = some (.ins cRule dx (ruleFs n c r ai)) → Q .non H'
theorem ruleFs_eq (n : Str) (c : Addr) (r : Str) (ai : Addr) : putF "inner" (V.ref ai) (putF "own_ruling" (V.str r) (putF "own_condition" (V.ref c) (putF "own_name" (V.str n) []))) = ruleFs n c r ai := by kernel_rfl
theorem sc_rinit : FnScope ["self", "name", "condition", "ruling", "exceptions"] ["self", "name", "condition", "ruling", "exceptions"] (defScope s_Rule_init) := ⟨rfl, rfl, rfl, by decide +kernel, rfl, by decide +kernel, by decide +kernel⟩
theorem ok_rule_init (T : Txt K mg) : Okd P w K mg base CX0 2 325 ["self", "name", "condition", "ruling", "exceptions"] spRule := by
  obtain ⟨fd, F⟩ := T.d_Rule_init
  refine ⟨fd, F.ok sc_rinit (fun vs H Q E h => ?_) (fun cdv A outer s H vs Q E hr h => ?_), F.binds fun _ _ _ _ _ _ us hl => match us, hl with | [_, _, _, _, _], _ => rfl, F.kp⟩
  · obtain ⟨p, dx, c, ai, n, r, rfl, _⟩ := h
    rfl
  · obtain ⟨p, dx, c, ai, n, r, rfl, hp, hn, hrr, k⟩ := h
    refine ⟨_, pss_cons (ps_if (pt_not (pt_val (pc (ok_is_name T) hr T.g_is_name pass0 (pa_cons (pv 1) pa_nil)))) (pss_one ps_never) pss_nil)
      (pss_cons (ps_if (pt_not (pt_val (pc (ok_is_name T) hr T.g_is_name pass0 (pa_cons (pv 3) pa_nil)))) (pss_one ps_never) pss_nil)
      (pss_cons (ps_fld (pv 0) (pv 1) rfl) (pss_cons (ps_fld (pv 0) (pv 2) rfl) (pss_cons (ps_fld (pv 0) (pv 3) rfl) (pss_one (ps_fld (pv 0) (pv 4) rfl)))))), ?_⟩
    refine ⟨_, rfl, n, rfl, hn, fun H1 s1 => ⟨true, rfl, iteF ?_⟩⟩
    refine ⟨_, rfl, r, rfl, hrr, fun H2 s2 => ⟨true, rfl, iteF ?_⟩⟩
    have s3 := same_trans s1 s2
    refine ⟨_, rfl, _, rfl, p, cRule, dx, [], rfl, s3 _ _ hp, T.c_Rule, T.n_Rule_own_name, (by show 0 < 1000; decide), ?_⟩
    refine ⟨_, rfl, _, rfl, p, cRule, dx, _, rfl, upd_same, T.c_Rule, T.n_Rule_own_condition, (by show 1 < 1000; decide), ?_⟩
    refine ⟨_, rfl, _, rfl, p, cRule, dx, _, rfl, upd_same, T.c_Rule, T.n_Rule_own_ruling, Nat.lt_of_le_of_lt (Nat.le_trans (length_putF _ _ _) (Nat.succ_le_succ (length_putF _ _ _))) (by show 2 < 1000; decide), ?_⟩
    refine ⟨_, rfl, _, rfl, p, cRule, dx, _, rfl, upd_same, T.c_Rule, T.n_Rule_inner, Nat.lt_of_le_of_lt (Nat.le_trans (length_putF _ _ _) (Nat.succ_le_succ (Nat.le_trans (length_putF _ _ _) (Nat.succ_le_succ (length_putF _ _ _))))) (by show 3 < 1000; decide), ?_⟩
    refine k _ (fun b o e hb => ?_) ?_
    · have hb' : b ≠ p := fun z => hb (List.mem_singleton.mpr z)
      rw [upd_ne hb', upd_ne hb', upd_ne hb', upd_ne hb']
      exact s3 _ _ e
    · rw [ruleFs_eq]
      exact upd_same
end
/-- a rule is made -/
theorem mkRule {H : Hp} {Q : VK} {E : XK} {c ai : Addr} {n r : Str} {w b : List Str} {vs : List V} {i : List RT} (hc : CondAt H (.ref c) w b) (hai : H ai = some (.tup vs)) (hi : RulesAt H vs i) (hn : NmOk n) (hr : NmOk r)
    (k : ∀ (a : Addr) (H' : Hp), Same H H' → RuleAt H' (.ref a) (.mk n w b r i) → Q (V.ref a) H') :
    ∀ x dx, H x = none → H dx = none → dx ≠ x → spRule (.ref x :: ([.str n, .ref c, .str r, .ref ai] ++ [])) (upd (upd H dx (.own x)) x (.ins cRule dx [])) (fun v H2 => v = .non ∧ Q (.ref x) H2) E := by
  intro x dx nx ndx ne
  have s1 : Same H (upd (upd H dx (.own x)) x (.ins cRule dx [])) := same_new (same_upd ndx) nx
  refine ⟨x, dx, c, ai, n, r, rfl, upd_same, hn, hr, fun H' fr hx => ⟨rfl, ?_⟩⟩
  have s2 : Same H H' := fun d o e => fr d o (s1 d o e) (fun z => by rw [List.mem_singleton.mp z] at e; rw [nx] at e; cases e)
  exact k x H' s2 (.mk hx (CondAt.mono (Same.kpI s2) hc) (s2 _ _ hai) (RulesAt.mono (Same.kpI s2) hi))
/-! ### == of rules -/
def RuleEq (d : Nat) (a b : Addr) (H : Hp) : Prop := ∃ rt : RT, rt.dep d ∧ RuleAt H (.ref a) rt ∧ RuleAt H (.ref b) rt
theorem mon_cond : Mon (DIns cCond CondEq) := mon_ins fun a b H H' e h => by
  obtain ⟨w, f, h1, h2⟩ := h
  exact ⟨w, f, CondAt.mono (Same.kpI e) h1, CondAt.mono (Same.kpI e) h2⟩
theorem mon_rule (d : Nat) : Mon (DIns cRule (RuleEq d)) := mon_ins fun a b H H' e h => by
  obtain ⟨r, hd, h1, h2⟩ := h
  exact ⟨r, hd, RuleAt.mono (Same.kpI e) h1, RuleAt.mono (Same.kpI e) h2⟩
/-- two rows of the same rules are equal item by item -/
theorem prs_rules {H : Hp} {d : Nat} : ∀ {rs : List RT} {vs us : List V}, depL d rs → RulesAt H vs rs → RulesAt H us rs → Prs (DIns cRule (RuleEq d)) vs us H
  | [], _, _, _, .nil, .nil => Prs.nil
  | r :: rs, _, _, hd, .cons h1 h2, .cons g1 g2 => by
    simp only [depL] at hd
    refine Prs.cons ?_ (prs_rules hd.2 h2 g2)
    cases h1 with
    | mk a1 a2 a3 a4 =>
      cases g1 with
      | mk b1 b2 b3 b4 => exact ⟨_, _, _, _, _, _, rfl, rfl, a1, b1, _, hd.1, .mk a1 a2 a3 a4, .mk b1 b2 b3 b4⟩
abbrev DItem (K : PySem.W.Frag) (d : Nat) : Eqv := fun x y H => DFlat x y H ∨ (DIns cCond CondEq x y H ∨ DTup K (DIns cRule (RuleEq d)) x y H)
theorem mon_item (K : PySem.W.Frag) (d : Nat) : Mon (DItem K d) := Mon.or mon_flat (Mon.or mon_cond (mon_tup (mon_rule d)))
section
variable {P : Program} {w : World} {K : PySem.W.Frag} {mg : Str → Option Value} {base : Heap}
theorem ok_rule_eq (T : Txt K mg) : ∀ d : Nat, Okd P w K mg base CX0 (3 * d + 1) 384 ["self", "other"] (spEq (RuleEq d)) := by
  intro d
  have sc : FnScope ["self", "other", "mine"] ["self", "other"] (defScope s_Rule_eq) := ⟨rfl, rfl, rfl, by decide +kernel, rfl, by decide +kernel, by decide +kernel⟩
  induction d with
  | zero =>
    obtain ⟨fd, F⟩ := T.d_Rule_eq
    refine ⟨fd, F.ok (k := 0) sc (fun vs H Q E h => ?_) (fun cdv A outer s H vs Q E hr h => ?_), F.binds fun _ _ _ _ _ _ us hl => match us, hl with | [_, _], _ => rfl, F.kp⟩
    · obtain ⟨a, b, rfl, _⟩ := h
      rfl
    · obtain ⟨a, b, rfl, ⟨rt, hd, _⟩, _⟩ := h
      exact False.elim (by unfold RT.dep at hd; exact hd)
  | succ d ih =>
    obtain ⟨fd, F⟩ := T.d_Rule_eq
    refine ⟨fd, F.ok (k := 3 * d + 3) sc (fun vs H Q E h => ?_) (fun cdv A outer s H vs Q E hr h => ?_), F.binds fun _ _ _ _ _ _ us hl => match us, hl with | [_, _], _ => rfl, F.kp⟩
    · obtain ⟨a, b, rfl, _⟩ := h
      rfl
    · obtain ⟨a, b, rfl, ⟨rt, hd, h1, h2⟩, k⟩ := h
      obtain ⟨fdr, Fr, br, _⟩ := ih
      obtain ⟨fdc, Fc, bc, _⟩ := ok_cond_eq (P := P) (w := w) (base := base) T
      have nd := sc.nd
      refine ⟨_, pss_cons (ps_if (pt_not (pt_val (pe_callB call_isi (by rfl) T.f_isinstance (by decide +kernel) (pa_cons (pv 1) (pa_cons (pe_glob (v := .ref cRule) (by rfl) T.g_Rule rfl) pa_nil))))) (pss_one ps_never) pss_nil)
        (pss_cons (ps_set (i := 2) nd rfl (.inl rfl) (pe_tup (pa_cons (pe_fld (pv 0) rfl) (pa_cons (pe_fld (pv 0) rfl) (pa_cons (pe_fld (pv 0) rfl) (pa_cons (pe_fld (pv 0) rfl) pa_nil))))))
        (pss_one (ps_ret (pe_cmpR (op_eqG (n := 3 * d + 3) (rcG_tup (mon_item _ d) ((EqG.or (EqG.mono eqG_flat (Nat.zero_le (3 * d + 2))) (EqG.or (EqG.mono (eqG_ins Fc T.e_Condition.1 T.e_Condition.2 bc pass0) (by omega))
            (EqG.mono (eqG_tup (mon_rule d) (eqG_ins Fr T.e_Rule.1 T.e_Rule.2 br pass0)) (by omega)))) : EqG _ (3 * d + 2) (DItem _ d))) hr)
          (pv 2) (pe_tup (pa_cons (pe_fld (pv 1) rfl) (pa_cons (pe_fld (pv 1) rfl) (pa_cons (pe_fld (pv 1) rfl) (pa_cons (pe_fld (pv 1) rfl) pa_nil))))) (nomark _))))), ?_⟩
      obtain ⟨n, wl, fl, r, i⟩ := rt
      have hd' : depL d i := by simp only [RT.dep] at hd; exact hd
      cases h1 with
      | @mk _ d1 c1 i1 _ _ _ _ _ vs1 a1 a2 a3 a4 =>
      cases h2 with
      | @mk _ d2 c2 i2 _ _ _ _ _ vs2 b1 b2 b3 b4 =>
      refine ⟨_, rfl, _, _, _, _, true, rfl, .own cRule, .base (.ins b1 T.c_Rule T.y_Rule.ha T.y_Rule.hn T.y_Rule.ht T.y_Rule.hm), T.k_Rule, true, rfl, iteF ?_⟩
      refine ⟨_, rfl, a, cRule, _, _, _, rfl, a1, T.c_Rule, T.n_Rule_own_name, (show _ = some (V.str n) by kernel_rfl), _, rfl, a, cRule, _, _, _, rfl, a1, T.c_Rule, T.n_Rule_own_condition, (show _ = some (V.ref c1) by kernel_rfl),
        _, rfl, a, cRule, _, _, _, rfl, a1, T.c_Rule, T.n_Rule_own_ruling, (show _ = some (V.str r) by kernel_rfl), _, rfl, a, cRule, _, _, _, rfl, a1, T.c_Rule, T.n_Rule_inner, (show _ = some (V.ref i1) by kernel_rfl), (by show 4 ≤ sizeLine; decide), fun p np => ?_⟩
      have s1 := same_upd (o := HO.tup [V.str n, V.ref c1, V.str r, V.ref i1]) np
      have b1' := s1 _ _ b1
      refine ⟨_, rfl, _, rfl, b, cRule, _, _, _, rfl, b1', T.c_Rule, T.n_Rule_own_name, (show _ = some (V.str n) by kernel_rfl), _, rfl, b, cRule, _, _, _, rfl, b1', T.c_Rule, T.n_Rule_own_condition, (show _ = some (V.ref c2) by kernel_rfl),
        _, rfl, b, cRule, _, _, _, rfl, b1', T.c_Rule, T.n_Rule_own_ruling, (show _ = some (V.str r) by kernel_rfl), _, rfl, b, cRule, _, _, _, rfl, b1', T.c_Rule, T.n_Rule_inner, (show _ = some (V.ref i2) by kernel_rfl), (by show 4 ≤ sizeLine; decide), fun q nq => ?_⟩
      have s2 := same_trans s1 (same_upd (o := HO.tup [V.str n, V.ref c2, V.str r, V.ref i2]) nq)
      have e1 : (upd (upd H p (.tup [V.str n, V.ref c1, V.str r, V.ref i1])) q (.tup [V.str n, V.ref c2, V.str r, V.ref i2])) p = some (.tup [V.str n, V.ref c1, V.str r, V.ref i1]) := by
        rw [upd_ne (ne_of_none upd_same nq)]
        exact upd_same
      have k2 := Same.kpI s2
      refine ⟨⟨p, q, _, _, rfl, rfl, .of e1, .of upd_same, Prs.cons (.inl ⟨rfl, rfl, by show (n == n) = true; exact beq_self_eq_true n⟩) (Prs.cons (.inr (.inl ?_)) (Prs.cons (.inl ⟨rfl, rfl, by show (r == r) = true; exact beq_self_eq_true r⟩) (Prs.cons (.inr (.inr ?_)) Prs.nil)))⟩, fun H' e => k H' (same_trans s2 e)⟩
      · obtain ⟨_, dc1, w1, f1, e1, p1, p2, p3⟩ := CondAt.mono k2 a2
        obtain ⟨_, dc2, w2, f2, e2, q1, q2, q3⟩ := CondAt.mono k2 b2
        cases e1
        cases e2
        exact ⟨_, _, _, _, _, _, rfl, rfl, p1, q1, wl, fl, ⟨_, _, _, _, rfl, p1, p2, p3⟩, ⟨_, _, _, _, rfl, q1, q2, q3⟩⟩
      · exact ⟨i1, i2, vs1, vs2, rfl, rfl, .of (s2 _ _ a3), .of (s2 _ _ b3), prs_rules hd' (RulesAt.mono k2 a4) (RulesAt.mono k2 b4)⟩
end
end Sc
set_option Elab.async false
set_option maxRecDepth 100000
set_option linter.all false
set_option maxHeartbeats 1000000
namespace Sc
open PySem PySem.Spec L2
open PyProof.Rows hiding St
/-! ### all rules of a book, in order -/
abbrev Row3 : Type := RT × List RT × Nat
mutual
def rowsM1 (outer : List RT) (i : Nat) : RT → List Row3
  | .mk n w b r inner => (.mk n w b r inner, outer, i) :: rowsMA (outer ++ [.mk n w b r inner]) 0 inner
def rowsMA (outer : List RT) (i : Nat) : List RT → List Row3
  | [] => []
  | r :: rs => rowsM1 outer i r ++ rowsMA outer (i + 1) rs
end
theorem rowsM1_eq (outer : List RT) (i : Nat) (r : RT) : rowsM1 outer i r = (r, outer, i) :: rowsMA (outer ++ [r]) 0 r.inner := by
  cases r
  simp only [rowsM1, RT.inner]
theorem rowsMA_snoc (outer : List RT) : ∀ (l : List RT) (k : Nat) (r : RT), rowsMA outer k (l ++ [r]) = rowsMA outer k l ++ rowsM1 outer (k + l.length) r
  | [], k, r => by simp [rowsMA]
  | x :: l, k, r => by
    simp only [List.cons_append, rowsMA, List.append_assoc, List.length_cons]
    rw [rowsMA_snoc outer l (k + 1) r, show k + 1 + l.length = k + (l.length + 1) by omega]
def RowE (H : Hp) (v : V) (e : Row3) : Prop := ∃ (t : Addr) (rv : V) (ol : Addr) (ov : List V), v = .ref t ∧ H t = some (.tup [rv, .ref ol, .int (e.2.2 : Nat)]) ∧ RuleAt H rv e.1 ∧ H ol = some (.lst ov) ∧ RulesAt H ov e.2.1
inductive RowsE (H : Hp) : List V → List Row3 → Prop
  | nil : RowsE H [] []
  | cons {v : V} {vs : List V} {e : Row3} {es : List Row3} : RowE H v e → RowsE H vs es → RowsE H (v :: vs) (e :: es)
theorem RowE.mono {H H' : Hp} (k : LamX.ExtN H H') {v : V} {e : Row3} (h : RowE H v e) : RowE H' v e := by
  obtain ⟨t, rv, ol, ov, e1, h1, h2, h3, h4⟩ := h
  exact ⟨t, rv, ol, ov, e1, (ExtN.kpI k).tup h1, RuleAt.mono (ExtN.kpI k) h2, k _ _ h3 (fun _ z => nomatch z), RulesAt.mono (ExtN.kpI k) h4⟩
theorem RowsE.mono {H H' : Hp} (k : LamX.ExtN H H') : ∀ {vs : List V} {es : List Row3}, RowsE H vs es → RowsE H' vs es
  | _, _, .nil => .nil
  | _, _, .cons h1 h2 => .cons (h1.mono k) (h2.mono k)
theorem RowsE.len {H : Hp} : ∀ {vs : List V} {es : List Row3}, RowsE H vs es → vs.length = es.length
  | _, _, .nil => rfl
  | _, _, .cons _ h => congrArg Nat.succ h.len
theorem RowsE.app {H : Hp} : ∀ {vs us : List V} {es fs : List Row3}, RowsE H vs es → RowsE H us fs → RowsE H (vs ++ us) (es ++ fs)
  | _, _, _, _, .nil, h => h
  | _, _, _, _, .cons h1 h2, h => .cons h1 (h2.app h)
theorem RowsE.get {H : Hp} : ∀ {vs : List V} {es : List Row3} {i : Nat} {v : V}, RowsE H vs es → vs[i]? = some v → ∃ e, es[i]? = some e ∧ RowE H v e
  | _, _, _, _, .nil, e => nomatch e
  | _, _, 0, _, .cons h _, e => ⟨_, rfl, by cases e; exact h⟩
  | _, _, i + 1, _, .cons _ h, e => h.get (i := i) (by simpa using e)
theorem rules_mem {H : Hp} : ∀ {vs : List V} {rs : List RT} {v : V}, RulesAt H vs rs → v ∈ vs → ∃ r, RuleAt H v r
  | _, _, _, .nil, h => nomatch h
  | _, _, _, .cons h1 h2, h => by
    rcases List.mem_cons.mp h with e | e
    · subst e
      exact ⟨_, h1⟩
    · exact rules_mem h2 e
/-- a list of rows is no list of rules -/
theorem row_ne {H : Hp} {p ol : Addr} {v : V} {xs : List V} {e : Row3} {ov : List V} {o : List RT} (hp : H p = some (.lst xs)) (hm : v ∈ xs) (hv : RowE H v e) (ho : H ol = some (.lst ov)) (hr : RulesAt H ov o) : ol ≠ p := by
  intro z
  subst z
  rw [hp] at ho
  cases ho
  obtain ⟨t, rv, _, _, rfl, h1, _⟩ := hv
  obtain ⟨r, h⟩ := rules_mem hr hm
  cases h with
  | mk a1 _ _ _ =>
    rw [h1] at a1
    cases a1
theorem RowE.upd {H : Hp} {p : Addr} {xs ys : List V} {v : V} {e : Row3} (hp : H p = some (.lst xs)) (h : RowE H v e) (hx : ∀ ol ov o, H ol = some (.lst ov) → RulesAt H ov o → ol ≠ p) : RowE (upd H p (.lst ys)) v e := by
  obtain ⟨t, rv, ol, ov, e1, h1, h2, h3, h4⟩ := h
  have kp : KpI H (L2.upd H p (.lst ys)) := fun b o q m => by
    by_cases z : b = p
    · subst z
      rw [hp] at q
      cases q
      exact False.elim m
    · rw [upd_ne z]
      exact q
  exact ⟨t, rv, ol, ov, e1, kp.tup h1, RuleAt.mono kp h2, by rw [upd_ne (hx ol ov _ h3 h4)]; exact h3, RulesAt.mono kp h4⟩
theorem RowsE.upd {H : Hp} {p : Addr} {xs ys : List V} (hp : H p = some (.lst xs)) (hx : ∀ ol ov o, H ol = some (.lst ov) → RulesAt H ov o → ol ≠ p) : ∀ {vs : List V} {es : List Row3}, RowsE H vs es → RowsE (upd H p (.lst ys)) vs es
  | _, _, .nil => .nil
  | _, _, .cons h1 h2 => .cons (h1.upd hp hx) (RowsE.upd hp hx h2)
/-- the list's own rows stay when it is written -/
theorem RowsE.updSelf {H : Hp} {p : Addr} {ys : List V} {vs : List V} {es : List Row3} (hp : H p = some (.lst vs)) (h : RowsE H vs es) : RowsE (L2.upd H p (.lst ys)) vs es := by
  cases h with
  | nil => exact .nil
  | cons h1 h2 => exact RowsE.upd hp (fun ol ov o a b => row_ne hp (List.mem_cons_self ..) h1 a b) (.cons h1 h2)
/-- nesting, with room for one call more -/
def depN (d : Nat) (rs : List RT) : Prop := ∃ e, d = e + 1 ∧ depL e rs
theorem depN_inner {d : Nat} {r : RT} (h : r.dep d) : depN d r.inner := by
  cases r with
  | mk n w b rr i =>
    cases d with
    | zero => exact False.elim (by unfold RT.dep at h; exact h)
    | succ d => exact ⟨d, rfl, by simp only [RT.dep] at h; exact h⟩
section
variable {P : Program} {w : World} {K : PySem.W.Frag} {mg : Str → Option Value} {base : Heap}
def spRowsOf (d : Nat) : Sp := fun vs H Q _ => ∃ (ar ao : Addr) (rv ov : List V) (rs outer : List RT), vs = [.ref ar, .ref ao] ∧ H ar = some (.tup rv) ∧ RulesAt H rv rs ∧ depN d rs ∧ H ao = some (.lst ov) ∧ RulesAt H ov outer ∧ outer.length + d ≤ 100 ∧ (rowsMA outer 0 rs).length ≤ 1000 ∧
  ∀ H' p us, Same H H' → H p = none → H' p = some (.lst us) → RowsE H' us (rowsMA outer 0 rs) → Q (.ref p) H'
theorem rows_mono {outer : List RT} : ∀ (l l2 : List RT) (k : Nat), (rowsMA outer k l).length ≤ (rowsMA outer k (l ++ l2)).length
  | [], _, _ => by simp [rowsMA]
  | x :: l, l2, k => by
    simp only [List.cons_append, rowsMA, List.length_append]
    have := rows_mono (outer := outer) l l2 (k + 1)
    omega
theorem kpI_list {H : Hp} {p : Addr} {xs ys : List V} (hp : H p = some (.lst xs)) : KpI H (upd H p (.lst ys)) := fun b o q m => by
  by_cases z : b = p
  · subst z
    rw [hp] at q
    cases q
    exact False.elim m
  · rw [upd_ne z]
    exact q
theorem sc_rows : FnScope ["rules", "outer", "found", "number", "rule"] ["rules", "outer"] (defScope s_rows_of) := ⟨rfl, rfl, rfl, by decide +kernel, rfl, by decide +kernel, by decide +kernel⟩
theorem ok_rows_of (T : Txt K mg) : ∀ d : Nat, Okd P w K mg base CX0 (d + 1) 398 ["rules", "outer"] (spRowsOf d) := by
  intro d
  have nd := sc_rows.nd
  induction d with
  | zero =>
    obtain ⟨fd, F⟩ := T.d_rows_of
    refine ⟨fd, F.ok (k := 0) sc_rows (fun vs H Q E h => ?_) (fun cdv A outer s H vs Q E hr h => ?_), F.binds fun _ _ _ _ _ _ us hl => match us, hl with | [_, _], _ => rfl, F.kp⟩
    · obtain ⟨_, _, _, _, _, _, rfl, _⟩ := h
      rfl
    · obtain ⟨_, _, _, _, _, _, _, _, _, ⟨e, he, _⟩, _⟩ := h
      cases he
  | succ d ih =>
    obtain ⟨fd, F⟩ := T.d_rows_of
    refine ⟨fd, F.ok (k := d + 1) sc_rows (fun vs H Q E h => ?_) (fun cdv A outer s H vs Q E hr h => ?_), F.binds fun _ _ _ _ _ _ us hl => match us, hl with | [_, _], _ => rfl, F.kp⟩
    · obtain ⟨_, _, _, _, _, _, rfl, _⟩ := h
      rfl
    · obtain ⟨ar, ao, rv, ov, rs, out, rfl, har, hrs, ⟨e, he, hdep⟩, hao, hout, hol, hlen, k⟩ := h
      cases he
      refine ⟨_, pss_cons (ps_set (i := 2) nd rfl (.inl rfl) (pe_lst pa_nil))
        (pss_cons (ps_for PassesOwn.never rfl (pi_enumT (by rfl) T.f_enumerate (pa_cons (pv 0) pa_nil)) (pg_tup rfl (pgs_cons (pg_name (i := 3) nd rfl (.inl rfl)) (pgs_cons (pg_name (i := 4) nd rfl (.inl rfl)) pgs_nil)))
          (pss_cons (ps_expr (pe_bm PySem.F.plainAttrs_list PySem.F.slot_list_append PySem.F.type_list_append mt_append (pv 2) (pa_cons (pe_tup (pa_cons (pv 4) (pa_cons (pv 1) (pa_cons (pv 3) pa_nil)))) pa_nil)))
          (pss_one (ps_expr (pe_bm PySem.F.plainAttrs_list PySem.F.slot_list_extend PySem.F.type_list_extend mt_extend (pv 2) (pa_cons (pc ih hr T.g_rows_of pass0 (pa_cons (pe_rinner T (pv 4)) (pa_cons (pe_op op_cat (pv 1) (pe_lst (pa_cons (pv 4) pa_nil))) pa_nil))) pa_nil))))))
        (pss_one (ps_ret (pv 2)))), ?_⟩
      refine ⟨by show 0 ≤ sizeLine; decide, fun p np => ?_⟩
      have s0 := same_upd (o := HO.lst []) np
      refine ⟨_, rfl, ar, _, rfl, .of (s0 _ _ har), for_it (walk_enumT (xs := rv)) (fun i σ H' => ∃ v3 v4 us, σ = [some (.ref ar), some (.ref ao), some (.ref p), v3, v4] ∧ Same H H' ∧ H' p = some (.lst us) ∧ RowsE H' us (rowsMA out 0 (rs.take i)))
        ⟨none, none, [], rfl, s0, upd_same, .nil⟩ (fun i σ H' _ ⟨_, _, _, _, s1, _⟩ => .of (s1 _ _ har)) ?_ ?_⟩
      · rintro i x σ H1 H2 hi ⟨v3, v4, us, rfl, s1, hp, hR⟩ ⟨T1, z, y, rfl, hT1, rfl, ez, ey⟩
        cases ez
        obtain ⟨rt, ert, hrt⟩ := hrs.get ey
        have q2 := same_upd (o := HO.tup [V.int (i : Nat), y]) hT1
        have s2 := same_trans s1 q2
        have hpa := q2 _ _ hp
        have hR2 := RowsE.mono (Same.extN q2) hR
        have etake : rs.take (i + 1) = rs.take i ++ [rt] := by
          rw [List.take_succ, ert]
          rfl
        have hil : i < rs.length := (List.getElem?_eq_some_iff.mp ert).1
        have hrow : rowsMA out 0 (rs.take (i + 1)) = rowsMA out 0 (rs.take i) ++ ((rt, out, i) :: rowsMA (out ++ [rt]) 0 rt.inner) := by
          rw [etake, rowsMA_snoc, rowsM1_eq, show 0 + (rs.take i).length = i by simp; omega]
        have hle : (rowsMA out 0 (rs.take (i + 1))).length ≤ 1000 := by
          have h1 := rows_mono (outer := out) (rs.take (i + 1)) (rs.drop (i + 1)) 0
          rw [List.take_append_drop] at h1
          omega
        have hle2 : us.length + (1 + (rowsMA (out ++ [rt]) 0 rt.inner).length) ≤ 1000 := by
          rw [hrow] at hle
          simp only [List.length_append, List.length_cons] at hle
          have := hR.len
          omega
        have ho2 : ov.length = out.length := hout.len
        refine ⟨T1, _, rfl, .of upd_same, rfl, _, _, rfl, _, _, rfl, rfl, ?_⟩
        refine ⟨_, rfl, .inl ⟨rfl, _, SqL.of hpa⟩, _, rfl, _, rfl, _, rfl, by show 3 ≤ sizeLine; decide, fun t nt => ⟨p, us, .ref t, rfl, rfl, same_upd nt _ _ hpa, by rw [sizeLine_eq]; omega, ?_⟩⟩
        have q3 := same_upd (o := HO.tup [y, V.ref ao, V.int (i : Nat)]) nt
        have hpb := q3 _ _ hpa
        have s3 := same_trans s2 q3
        have hRb : RowsE (upd (upd (upd H1 T1 (.tup [V.int (i : Nat), y])) t (.tup [y, V.ref ao, V.int (i : Nat)])) p (.lst (us ++ [V.ref t]))) (us ++ [V.ref t]) (rowsMA out 0 (rs.take i) ++ [(rt, out, i)]) := by
          refine RowsE.app (RowsE.updSelf hpb (RowsE.mono (Same.extN q3) hR2)) (.cons ⟨t, y, ao, ov, rfl, ?_, ?_, ?_, ?_⟩ .nil)
          · rw [upd_ne (fun z => by rw [z] at nt; rw [nt] at hpa; cases hpa)]
            exact upd_same
          · exact RuleAt.mono (KpI.trans (Same.kpI s3) (kpI_list hpb)) hrt
          · rw [upd_ne (ne_of_none hao np)]
            exact s3 _ _ hao
          · exact RulesAt.mono (KpI.trans (Same.kpI s3) (kpI_list hpb)) hout
        have s4 : Same H (upd (upd (upd H1 T1 (.tup [V.int (i : Nat), y])) t (.tup [y, V.ref ao, V.int (i : Nat)])) p (.lst (us ++ [V.ref t]))) := same_new s3 np
        generalize hHc : upd (upd (upd H1 T1 (.tup [V.int (i : Nat), y])) t (.tup [y, V.ref ao, V.int (i : Nat)])) p (.lst (us ++ [V.ref t])) = Hc at hRb s4
        have hpc : Hc p = some (.lst (us ++ [V.ref t])) := by rw [← hHc]; exact upd_same
        have hrc := RuleAt.mono (Same.kpI s4) hrt
        refine ⟨_, rfl, .inl ⟨rfl, _, SqL.of hpc⟩, _, rfl, rt, hrc, fun ai ivs hai hin => ?_⟩
        refine ⟨_, rfl, _, rfl, by show 1 ≤ sizeLine; decide, fun q nq => ?_⟩
        have q5 := same_upd (o := HO.lst [y]) nq
        refine ⟨ao, q, ov, [y], rfl, rfl, q5 _ _ (s4 _ _ hao), upd_same, by simp; rw [sizeLine_eq]; omega, fun q2' nq2 => ?_⟩
        have q6 := same_trans q5 (same_upd (o := HO.lst (ov ++ [y])) nq2)
        have s6 := same_trans s4 q6
        refine ⟨ai, q2', ivs, ov ++ [y], rt.inner, out ++ [rt], rfl, q6 _ _ hai, RulesAt.mono (Same.kpI q6) hin, depN_inner (depL_get hdep ert), upd_same, RulesAt.app (RulesAt.mono (Same.kpI s6) hout) (.cons (RuleAt.mono (Same.kpI s6) hrt) .nil), by simp; omega, by omega, fun Hf p2 us2 sf np2 hp2 hR3 => ?_⟩
        have q7 := same_trans q6 sf
        have hpf := q7 _ _ hpc
        have hl3 := hR3.len
        refine ⟨p, p2, us ++ [V.ref t], us2, rfl, rfl, hpf, hp2, by simp; rw [sizeLine_eq]; omega, ?_⟩
        refine ⟨_, _, us ++ [V.ref t] ++ us2, rfl, same_new (same_trans s4 q7) np, upd_same, ?_⟩
        rw [hrow]
        have hRc := RowsE.mono (Same.extN q7) hRb
        have e2 : rowsMA out 0 (rs.take i) ++ (rt, out, i) :: rowsMA (out ++ [rt]) 0 rt.inner = (rowsMA out 0 (rs.take i) ++ [(rt, out, i)]) ++ rowsMA (out ++ [rt]) 0 rt.inner := by simp
        rw [e2]
        obtain ⟨er, her, hrow3⟩ := hRc.get (i := us.length) (v := V.ref t) (by simp)
        exact RowsE.upd hpf (fun ol ov o a b => row_ne hpf (List.mem_append_right _ (List.mem_singleton.mpr rfl)) hrow3 a b) (hRc.app hR3)
      · rintro σ H1 ⟨v3, v4, us, rfl, s1, hp, hR⟩
        rw [show rv.length = rs.length from hrs.len, List.take_length] at hR
        exact ⟨_, rfl, k _ p us s1 np hp hR⟩
end
end Sc
set_option Elab.async false
set_option maxRecDepth 100000
set_option linter.all false
set_option maxHeartbeats 1000000
namespace Sc
open PySem PySem.Spec L2
open PyProof.Rows hiding St
/-- what a book's rules must be -/
structure RowsOk (facts : List Str) (rows : List Row3) : Prop where
  nd : (rows.map (·.1.n)).Nodup
  cond : ∀ e ∈ rows, ∀ x ∈ e.1.w ++ e.1.b, x ∈ facts
  len : ∀ e ∈ rows, e.1.w.length + e.1.b.length < 64
  dep : ∀ e ∈ rows, e.2.1.length ≤ 5
  many : rows.length ≤ 60
  top : ∀ e ∈ rows, e.2.1 = [] → e.2.2 < 40
section
variable {P : Program} {w : World} {K : PySem.W.Frag} {mg : Str → Option Value} {base : Heap}
def spVal : Sp := fun vs H Q _ => ∃ (bk dx af ar aR : Addr) (facts : List Str) (l : Str) (us : List V) (rows : List Row3), vs = [.ref bk] ∧ H bk = some (.ins cBook dx (bookFs af ar l aR)) ∧ H af = some (.tup (sV facts)) ∧ H aR = some (.lst us) ∧ RowsE H us rows ∧ RowsOk facts rows ∧
  ∀ H', Same H H' → Q .non H'
theorem sc_val : FnScope ["self", "met", "index", "rule", "outer", "number", "name"] ["self"] (defScope s_Book_validate_rows) := ⟨rfl, rfl, rfl, by decide +kernel, rfl, by decide +kernel, by decide +kernel⟩
theorem ok_validate_rows (T : Txt K mg) : Okd P w K mg base CX0 3 417 ["self"] spVal := by
  obtain ⟨fd, F⟩ := T.d_Book_validate_rows
  refine ⟨fd, F.ok sc_val (fun vs H Q E h => ?_) (fun cdv A outer s H vs Q E hr h => ?_), F.binds fun _ _ _ _ _ _ us hl => match us, hl with | [_], _ => rfl, F.kp⟩
  · obtain ⟨bk, dx, af, ar, aR, facts, l, us, rows, rfl, _⟩ := h
    rfl
  · obtain ⟨bk, dx, af, ar, aR, facts, l, us, rows, rfl, hbk, haf, haR, hR, ok, k⟩ := h
    have nd := sc_val.nd
    obtain ⟨t5, g5⟩ := T.i_MAX_OPEN
    obtain ⟨t60, g60⟩ := T.i_MAX_RULES
    obtain ⟨t40, g40⟩ := T.i_MAX_OUTERMOST
    refine ⟨_, pss_cons (ps_set (i := 1) nd rfl (.inl rfl) (pe_lst pa_nil))
      (pss_one (ps_for PassesOwn.never rfl (pi_enum (by rfl) T.f_enumerate (pa_cons (pe_fld (pv 0) rfl) pa_nil)) (pg_tup rfl (pgs_cons (pg_name (i := 2) nd rfl (.inl rfl)) (pgs_cons (pg_tup rfl (pgs_cons (pg_name (i := 3) nd rfl (.inl rfl)) (pgs_cons (pg_name (i := 4) nd rfl (.inl rfl)) (pgs_cons (pg_name (i := 5) nd rfl (.inl rfl)) pgs_nil)))) pgs_nil)))
        (pss_cons (ps_if (pt_cmpR op_in_seq (pe_rname T (pv 3) hr) (pv 1) (by rfl)) (pss_one ps_never) pss_nil)
        (pss_cons (ps_if (pt_cmpR (op_neL0 hr.units0) (pe_lc (own := [("name", 6)]) (tt := tTest (tOp (rIn K true) (tVar 6) (tFld K (tVar 0) "all_facts"))) rfl nd (pi_tup (pe_cnames T (pe_rcond T (pv 3) hr) hr)) (blkOk_by (N := ["self", "met", "index", "rule", "outer", "number", "name"]) (sc := defScope s_Book_validate_rows) (by decide +kernel))
            (fun _ _ _ _ _ => pg_name (i := 6) nd rfl (.inl rfl)) (fun _ _ _ _ _ => pts_one (pt_cmpR op_notIn_seq (pv 6) (pe_fld (pv 0) rfl) (by rfl))) (fun _ _ _ _ _ => pv 6)) (pe_lst pa_nil) (nomark _)) (pss_one ps_never) pss_nil)
        (pss_cons (ps_if (pt_cmpR op_gt (pe_callB call_len_seq (by rfl) T.f_len PySem.boot_len (pa_cons (pv 4) pa_nil)) (pe_glob (v := .int 5) (by rfl) g5 ⟨_, rfl⟩) (nomark _)) (pss_one ps_never) pss_nil)
        (pss_cons (ps_if (PW.pt (pw_or (pt_cmpR op_ge (pv 2) (pe_glob (v := .int 60) (by rfl) g60 ⟨_, rfl⟩) (nomark _)) (pw_or1 (PW.pt (pw_and (pt_cmpR (op_eqL0 hr.units0) (pv 4) (pe_lst pa_nil) (nomark _)) (pw_and1 (pt_cmpR op_ge (pv 5) (pe_glob (v := .int 40) (by rfl) g40 ⟨_, rfl⟩) (nomark _)))))))) (pss_one ps_never) pss_nil)
        (pss_one (ps_expr (pe_bm PySem.F.plainAttrs_list PySem.F.slot_list_append PySem.F.type_list_append mt_append (pv 1) (pa_cons (pe_rname T (pv 3) hr) pa_nil)))))))))), ?_⟩
    refine ⟨by show 0 ≤ sizeLine; decide, fun m nm => ?_⟩
    have s0 := same_upd (o := HO.lst []) nm
    refine ⟨_, rfl, bk, cBook, dx, _, _, rfl, s0 _ _ hbk, T.c_Book, T.n_Book_rows, (show _ = some (V.ref aR) by kernel_rfl), aR, us, rfl, .of (s0 _ _ haR), ?_⟩
    refine for_it (walk_enum (xs := us)) (fun i σ H' => ∃ v2 v3 v4 v5 v6, σ = [some (.ref bk), some (.ref m), v2, v3, v4, v5, v6] ∧ Same H H' ∧ H' m = some (.lst (sV ((rows.take i).map (·.1.n)))))
      ⟨none, none, none, none, none, rfl, s0, upd_same⟩ (fun i σ H' _ ⟨_, _, _, _, _, _, s1, _⟩ => .of (s1 _ _ haR)) ?_ ?_
    · rintro i x σ H1 H2 hi ⟨v2, v3, v4, v5, v6, rfl, s1, hm⟩ ⟨T1, z, y, rfl, hT1, rfl, ez, ey⟩
      cases ez
      obtain ⟨e, ee, he⟩ := hR.get ey
      have hmem := List.mem_of_getElem? ee
      have q2 := same_upd (o := HO.tup [V.int (i : Nat), y]) hT1
      have s2 := same_trans s1 q2
      obtain ⟨t, rv, ol, ov, rfl, h1, h2, h3, h4⟩ := RowE.mono (Same.extN s2) he
      generalize hHa : upd H1 T1 (.tup [V.int (i : Nat), V.ref t]) = Ha at q2 s2 h1 h2 h3 h4
      have hT : Ha T1 = some (.tup [V.int (i : Nat), V.ref t]) := by rw [← hHa]; exact upd_same
      have hma := q2 _ _ hm
      have hil : i < rows.length := (List.getElem?_eq_some_iff.mp ee).1
      have hmany := ok.many
      have hfresh : e.1.n ∉ (rows.take i).map (·.1.n) := by
        intro hx
        have hnd := ok.nd
        rw [← List.take_append_drop i rows, List.map_append] at hnd
        have hd : rows.drop i = e :: rows.drop (i + 1) := by
          rw [List.drop_eq_getElem_cons hil]
          rw [List.getElem?_eq_getElem hil] at ee
          cases ee
          rfl
        rw [hd, List.map_cons] at hnd
        exact (List.nodup_append.mp hnd).2.2 _ hx _ (List.mem_cons_self ..) rfl
      refine ⟨T1, _, rfl, .of hT, rfl, _, _, rfl, _, _, rfl, ⟨t, _, rfl, .of h1, rfl, _, _, rfl, _, _, rfl, _, _, rfl, rfl, rfl, ?_⟩⟩
      refine ⟨_, rfl, e.1, h2, _, rfl, m, _, rfl, .inl (.of hma), rfl, flat_sV _, _, rfl, ?_⟩
      rw [if_neg (by decide), in_sV, decide_eq_false hfresh]
      refine iteF ⟨_, rfl, e.1, h2, fun cv hcv => ⟨e.1.w, e.1.b, hcv, ok.len e hmem, fun an Hb ys s3 hys perm => ⟨an, rfl, ⟨_, .of hys⟩, fun D nD => ?_⟩⟩⟩
      refine lc_go (walk_tup (xs := sV ys)) (by rw [List.length_map, perm.length_eq, List.length_append, sizeLine_eq]; have := ok.len e hmem; omega) nD (fun H3 s => .of (s _ _ hys)) (fun _ acc _ => acc = []) (fun _ _ _ _ _ h => h) rfl ?_ ?_
      · rintro j x H3 H4 acc Kt Kf hj s4 rfl ⟨rfl, ex⟩ _ kf
        obtain ⟨nm2, en, rfl⟩ := sV_get ex
        have s5 := same_trans s2 (same_trans s3 s4)
        refine ⟨rfl, _, rfl, _, rfl, bk, cBook, dx, _, _, rfl, s5 _ _ hbk, T.c_Book, T.n_Book_all_facts, (show _ = some (V.ref af) by kernel_rfl), af, _, rfl, .inr (.of (s5 _ _ haf)), rfl, flat_sV _, _, rfl, ?_⟩
        rw [if_pos rfl, in_sV, decide_eq_true (ok.cond e hmem nm2 (perm.mem_iff.mp (List.mem_of_getElem? en)))]
        exact iteF (kf _ (Same.refl _) rfl)
      · rintro H3 acc s4 hD rfl
        refine ⟨by show 0 ≤ sizeLine; decide, fun p np => ⟨D, p, [], rfl, rfl, .of (same_upd np _ _ hD), .of upd_same, _, rfl, iteF ?_⟩⟩
        have s5 := same_trans s3 (same_trans s4 (same_upd (o := HO.lst []) np))
        refine ⟨_, rfl, ol, ov, rfl, .inl (.of (s5 _ _ h3)), _, _, rfl, rfl, _, rfl, ?_⟩
        have hd5 := ok.dep e hmem
        rw [decide_eq_false (by rw [h4.len]; omega)]
        refine iteF ⟨_, rfl, _, _, rfl, rfl, _, rfl, ?_⟩
        rw [decide_eq_false (by omega)]
        refine iteF ⟨_, rfl, by show 0 ≤ sizeLine; decide, fun p2 np2 => ⟨ol, p2, ov, rfl, rfl, .of (same_upd np2 _ _ (s5 _ _ h3)), .of upd_same, _, rfl, ?_⟩⟩
        have s6 := same_trans s5 (same_upd (o := HO.lst []) np2)
        have s7 := same_trans s2 s6
        have hmb := s6 _ _ hma
        have ends : Same H (upd (upd (upd H3 p (.lst [])) p2 (.lst [])) m (.lst (sV ((rows.take i).map (·.1.n)) ++ [V.str e.1.n]))) := same_new s7 nm
        have enew : sV ((rows.take i).map (·.1.n)) ++ [V.str e.1.n] = sV ((rows.take (i + 1)).map (·.1.n)) := by
          rw [List.take_succ, ee, List.map_append]
          simp
        have hsz : (sV ((rows.take i).map (·.1.n))).length < sizeLine := by
          rw [List.length_map, List.length_map, List.length_take, sizeLine_eq]
          omega
        cases ov with
        | nil =>
          have eo : e.2.1 = [] := by
            cases hx : e.2.1 with
            | nil => rfl
            | cons a b => rw [hx] at h4; cases h4
          have h40 := ok.top e hmem eo
          refine iteT ⟨_, rfl, _, _, rfl, rfl, _, rfl, ?_⟩
          rw [decide_eq_false (by omega)]
          refine iteF ⟨_, rfl, .inl ⟨rfl, _, SqL.of hmb⟩, _, rfl, e.1, RuleAt.mono (Same.kpI s6) h2, m, _, _, rfl, rfl, hmb, hsz, ?_⟩
          exact ⟨_, _, _, _, _, rfl, ends, by rw [← enew]; exact upd_same⟩
        | cons a b =>
          refine iteF (iteF ⟨_, rfl, .inl ⟨rfl, _, SqL.of hmb⟩, _, rfl, e.1, RuleAt.mono (Same.kpI s6) h2, m, _, _, rfl, rfl, hmb, hsz, ?_⟩)
          exact ⟨_, _, _, _, _, rfl, ends, by rw [← enew]; exact upd_same⟩
    · rintro σ H1 ⟨v2, v3, v4, v5, v6, rfl, s1, hm⟩
      exact k _ s1
end
end Sc
set_option Elab.async false
set_option maxRecDepth 100000
set_option linter.all false
set_option maxHeartbeats 1000000
namespace Sc
open PySem PySem.Spec L2
open PyProof.Rows hiding St
/-- what never changes stays, but for books -/
def KpB (H H' : Hp) : Prop := ∀ b o, H b = some o → (match o with | .tup _ => True | .ins C _ _ => C ≠ cBook | _ => False) → H' b = some o
theorem KpB.tup {H H' : Hp} (k : KpB H H') {a : Addr} {xs : List V} (h : H a = some (.tup xs)) : H' a = some (.tup xs) := k a _ h trivial
section
variable {H H' : Hp}
theorem CondAt.monoB (k : KpB H H') {v : V} {w b : List Str} (h : CondAt H v w b) : CondAt H' v w b := by
  obtain ⟨c, dc, aw, ab, e, h1, h2, h3⟩ := h
  exact ⟨c, dc, aw, ab, e, k _ _ h1 (show cCond ≠ cBook by decide), k.tup h2, k.tup h3⟩
mutual
theorem RuleAt.monoB (k : KpB H H') : ∀ {v : V} {r : RT}, RuleAt H v r → RuleAt H' v r
  | _, _, .mk h1 h2 h3 h4 => .mk (k _ _ h1 (show cRule ≠ cBook by decide)) (CondAt.monoB k h2) (k.tup h3) (RulesAt.monoB k h4)
theorem RulesAt.monoB (k : KpB H H') : ∀ {vs : List V} {rs : List RT}, RulesAt H vs rs → RulesAt H' vs rs
  | _, _, .nil => .nil
  | _, _, .cons h1 h2 => .cons (RuleAt.monoB k h1) (RulesAt.monoB k h2)
end
end
theorem kpB_upd {H : Hp} {p dx : Addr} {fs : List (Str × V)} {o : HO} (hp : H p = some (.ins cBook dx fs)) : KpB H (upd H p o) := fun b u q m => by
  by_cases z : b = p
  · subst z
    rw [hp] at q
    cases q
    exact absurd rfl m
  · rw [upd_ne z]
    exact q
theorem Same.kpB {H H' : Hp} (k : Same H H') : KpB H H' := fun b o h _ => k b o h
theorem KpB.trans {H H1 H2 : Hp} (a : KpB H H1) (b : KpB H1 H2) : KpB H H2 := fun c o h m => b c o (a c o h m) m
theorem RowsE.updB {H : Hp} {p dx : Addr} {fs : List (Str × V)} {o : HO} (hp : H p = some (.ins cBook dx fs)) : ∀ {vs : List V} {es : List Row3}, RowsE H vs es → RowsE (L2.upd H p o) vs es
  | _, _, .nil => .nil
  | _, _, .cons h1 h2 => by
    refine .cons ?_ (RowsE.updB hp h2)
    obtain ⟨t, rv, ol, ov, e, a1, a2, a3, a4⟩ := h1
    exact ⟨t, rv, ol, ov, e, (kpB_upd hp).tup a1, RuleAt.monoB (kpB_upd hp) a2, by rw [upd_ne (fun z => by rw [z, hp] at a3; cases a3)]; exact a3, RulesAt.monoB (kpB_upd hp) a4⟩
def BookAt (H : Hp) (v : V) (facts : List Str) (rules : List RT) (l : Str) : Prop := ∃ (a dx af ar aR : Addr) (rv us : List V), v = .ref a ∧ H a = some (.ins cBook dx (bookFs af ar l aR)) ∧ H af = some (.tup (sV facts)) ∧ H ar = some (.tup rv) ∧ RulesAt H rv rules ∧
  H aR = some (.lst us) ∧ RowsE H us (rowsMA [] 0 rules)
theorem BookAt.mono {H H' : Hp} (k : LamX.ExtN H H') {v : V} {facts : List Str} {rules : List RT} {l : Str} (h : BookAt H v facts rules l) : BookAt H' v facts rules l := by
  obtain ⟨a, dx, af, ar, aR, rv, us, e, h1, h2, h3, h4, h5, h6⟩ := h
  have ki := ExtN.kpI k
  exact ⟨a, dx, af, ar, aR, rv, us, e, ki.ins h1, ki.tup h2, ki.tup h3, RulesAt.mono ki h4, k _ _ h5 (fun _ z => nomatch z), h6.mono k⟩
/-- what a book's parts must be -/
structure BookOk (facts : List Str) (rules : List RT) (l : Str) : Prop where
  f : FactsOk facts
  d : depN 5 rules
  r : RowsOk facts (rowsMA [] 0 rules)
  n : NmOk l
section
variable {P : Program} {w : World} {K : PySem.W.Frag} {mg : Str → Option Value} {base : Heap}
def spBook : Sp := fun vs H Q _ => ∃ (p dx af ar : Addr) (facts : List Str) (rv : List V) (rules : List RT) (l : Str), vs = [.ref p, .ref af, .ref ar, .str l] ∧ H p = some (.ins cBook dx []) ∧ H af = some (.tup (sV facts)) ∧ H ar = some (.tup rv) ∧ RulesAt H rv rules ∧ BookOk facts rules l ∧
  ∀ H', Frm [p] H H' → BookAt H' (.ref p) facts rules l → Q .non H'
theorem sc_binit : FnScope ["self", "facts", "rules", "ruling"] ["self", "facts", "rules", "ruling"] (defScope s_Book_init) := ⟨rfl, rfl, rfl, by decide +kernel, rfl, by decide +kernel, by decide +kernel⟩
theorem bookFs_eq (af ar aR : Addr) (l : Str) : putF "rows" (V.ref aR) (putF "last_ruling" (V.str l) (putF "outermost" (V.ref ar) (putF "all_facts" (V.ref af) []))) = bookFs af ar l aR := by kernel_rfl
theorem ok_book_init (T : Txt K mg) : Okd P w K mg base CX0 7 412 ["self", "facts", "rules", "ruling"] spBook := by
  obtain ⟨fd, F⟩ := T.d_Book_init
  refine ⟨fd, F.ok (k := 6) sc_binit (fun vs H Q E h => ?_) (fun cdv A outer s H vs Q E hr h => ?_), F.binds fun _ _ _ _ _ _ us hl => match us, hl with | [_, _, _, _], _ => rfl, F.kp⟩
  · obtain ⟨p, dx, af, ar, facts, rv, rules, l, rfl, _⟩ := h
    rfl
  · obtain ⟨p, dx, af, ar, facts, rv, rules, l, rfl, hp, haf, har, hrs, ok, k⟩ := h
    obtain ⟨fdv, Fv, bv, _⟩ := ok_validate_rows (P := P) (w := w) (base := base) T
    refine ⟨_, pss_cons (ps_expr (pc (ok_validate_facts T) (hr.mono (by decide)) T.g_validate_facts pass0 (pa_cons (pv 1) pa_nil)))
      (pss_cons (ps_fld (pv 0) (pv 1) rfl) (pss_cons (ps_fld (pv 0) (pv 2) rfl) (pss_cons (ps_fld (pv 0) (pv 3) rfl)
      (pss_cons (ps_fld (pv 0) (pc (ok_rows_of T 5) (hr.mono (by decide)) T.g_rows_of pass0 (pa_cons (pv 2) (pa_cons (pe_lst pa_nil) pa_nil))) rfl)
      (pss_cons (ps_expr (pe_meth0 (pv 0) T.c_Book T.t_validate_rows Fv (hr.mono (by decide)) bv .nil pass0))
      (pss_one (ps_if (pt_not (pt_val (pc (ok_is_name T) (hr.mono (by decide)) T.g_is_name pass0 (pa_cons (pv 3) pa_nil)))) (pss_one ps_never) pss_nil))))))), ?_⟩
    refine ⟨_, rfl, af, facts, rfl, haf, ok.f, fun H1 s1 => ?_⟩
    have hp1 := s1 _ _ hp
    refine ⟨_, rfl, _, rfl, p, cBook, dx, [], rfl, hp1, T.c_Book, T.n_Book_all_facts, (by show 0 < 1000; decide), ?_⟩
    refine ⟨_, rfl, _, rfl, p, cBook, dx, _, rfl, upd_same, T.c_Book, T.n_Book_outermost, (by show 1 < 1000; decide), ?_⟩
    refine ⟨_, rfl, _, rfl, p, cBook, dx, _, rfl, upd_same, T.c_Book, T.n_Book_last_ruling, Nat.lt_of_le_of_lt (Nat.le_trans (length_putF _ _ _) (Nat.succ_le_succ (length_putF _ _ _))) (by show 2 < 1000; decide), ?_⟩
    rw [upd_upd, upd_upd]
    have kb1 : KpB H1 (upd H1 p (.ins cBook dx (putF "last_ruling" (V.str l) (putF "outermost" (V.ref ar) (putF "all_facts" (V.ref af) []))))) := kpB_upd hp1
    have f1 : Frm [p] H (upd H1 p (.ins cBook dx (putF "last_ruling" (V.str l) (putF "outermost" (V.ref ar) (putF "all_facts" (V.ref af) []))))) := fun b o e hb => by
      rw [upd_ne (fun z => hb (List.mem_singleton.mpr z))]
      exact s1 _ _ e
    generalize hHa : upd H1 p (.ins cBook dx (putF "last_ruling" (V.str l) (putF "outermost" (V.ref ar) (putF "all_facts" (V.ref af) [])))) = Ha at kb1 f1
    have hpa : Ha p = some (.ins cBook dx (putF "last_ruling" (V.str l) (putF "outermost" (V.ref ar) (putF "all_facts" (V.ref af) [])))) := by rw [← hHa]; exact upd_same
    have kba := (Same.kpB s1).trans kb1
    refine ⟨_, rfl, by show 0 ≤ sizeLine; decide, fun q nq => ?_⟩
    have s2 := same_upd (o := HO.lst []) nq
    have kbb := kba.trans (Same.kpB s2)
    have hmany := ok.r.many
    refine ⟨ar, q, rv, [], rules, [], rfl, kbb.tup har, RulesAt.monoB kbb hrs, ok.d, upd_same, .nil, by show 0 + 5 ≤ 100; decide, by omega, fun Hb aR us s3 naR haR hRE => ?_⟩
    have s4 := same_trans s2 s3
    have hpb := s4 _ _ hpa
    refine ⟨_, rfl, p, cBook, dx, _, rfl, hpb, T.c_Book, T.n_Book_rows, Nat.lt_of_le_of_lt (Nat.le_trans (length_putF _ _ _) (Nat.succ_le_succ (Nat.le_trans (length_putF _ _ _) (Nat.succ_le_succ (length_putF _ _ _))))) (by show 3 < 1000; decide), ?_⟩
    rw [bookFs_eq]
    have kbc := (kba.trans (Same.kpB s4)).trans (kpB_upd (o := HO.ins cBook dx (bookFs af ar l aR)) hpb)
    have fc : Frm [p] H (upd Hb p (.ins cBook dx (bookFs af ar l aR))) := fun b o e hb => by
      rw [upd_ne (fun z => hb (List.mem_singleton.mpr z))]
      exact s4 _ _ (f1 _ _ e hb)
    have hREc : RowsE (upd Hb p (.ins cBook dx (bookFs af ar l aR))) us (rowsMA [] 0 rules) := RowsE.updB hpb hRE
    have haRc : (upd Hb p (.ins cBook dx (bookFs af ar l aR))) aR = some (.lst us) := by
      rw [upd_ne (fun z => by rw [z, hpb] at haR; cases haR)]
      exact haR
    generalize hHc : upd Hb p (.ins cBook dx (bookFs af ar l aR)) = Hc at kbc fc hREc haRc
    have hpc : Hc p = some (.ins cBook dx (bookFs af ar l aR)) := by rw [← hHc]; exact upd_same
    refine ⟨_, rfl, p, dx, _, rfl, hpc, by kernel_rfl, p, dx, af, ar, aR, facts, l, us, _, rfl, hpc, kbc.tup haf, haRc, hREc, ok.r, fun H4 s5 => ?_⟩
    refine ⟨_, rfl, l, rfl, ok.n, fun H5 s6 => ⟨true, rfl, iteF ?_⟩⟩
    have s7 := same_trans s5 s6
    have kbf := kbc.trans (Same.kpB s7)
    exact k H5 (fun b o e hb => s7 _ _ (fc _ _ e hb)) ⟨p, dx, af, ar, aR, rv, us, rfl, s7 _ _ hpc, kbf.tup haf, kbf.tup har, RulesAt.monoB kbf hrs, s7 _ _ haRc, hREc.mono (Same.extN s7)⟩
end
end Sc
set_option Elab.async false
set_option maxRecDepth 100000
set_option linter.all false
set_option maxHeartbeats 1000000
namespace Sc
open PySem PySem.Spec L2
open PyProof.Rows hiding St
theorem PS.nox {X : Cx} {st : Stmt} {t : TS} (h : PS X.nox st t) : PS X st t :=
  ⟨fun pins s σ H D I hw => wpAny_mono (h.run pins s σ H D (I.wish _) hw) (fun _ _ q => q.unwish) fun _ _ z => z.elim⟩
/-- a book is made -/
theorem mkBook {H : Hp} {Q : VK} {E : XK} {af ar : Addr} {facts : List Str} {rv : List V} {rules : List RT} {l : Str} (haf : H af = some (.tup (sV facts))) (har : H ar = some (.tup rv)) (hr : RulesAt H rv rules) (ok : BookOk facts rules l)
    (k : ∀ (a : Addr) (H' : Hp), Same H H' → BookAt H' (.ref a) facts rules l → Q (V.ref a) H') :
    ∀ x dx, H x = none → H dx = none → dx ≠ x → spBook (.ref x :: ([.ref af, .ref ar, .str l] ++ [])) (upd (upd H dx (.own x)) x (.ins cBook dx [])) (fun v H2 => v = .non ∧ Q (.ref x) H2) E := by
  intro x dx nx ndx ne
  have s1 : Same H (upd (upd H dx (.own x)) x (.ins cBook dx [])) := same_new (same_upd ndx) nx
  refine ⟨x, dx, af, ar, facts, rv, rules, l, rfl, upd_same, s1 _ _ haf, s1 _ _ har, RulesAt.mono (Same.kpI s1) hr, ok, fun H' fr hb => ⟨rfl, k x H' (fun c o e => ?_) hb⟩⟩
  exact fr c o (s1 c o e) (fun z => by rw [List.mem_singleton.mp z] at e; rw [nx] at e; cases e)
section
variable {X : Cx} {e : Expr} {pos : Pos} {ta : TE}
def rBF : V → Hp → VK → Prop := fun y H Q => ∃ facts rules l, BookAt H y facts rules l ∧ ∀ a, H a = some (.tup (sV facts)) → Q (.ref a) H
def rBR : V → Hp → VK → Prop := fun y H Q => ∃ facts rules l, BookAt H y facts rules l ∧ ∀ a rv, H a = some (.tup rv) → RulesAt H rv rules → Q (.ref a) H
def rBL : V → Hp → VK → Prop := fun y H Q => ∃ facts rules l, BookAt H y facts rules l ∧ Q (.str l) H
def rBRows : V → Hp → VK → Prop := fun y H Q => ∃ facts rules l, BookAt H y facts rules l ∧ ∀ a us, H a = some (.lst us) → RowsE H us (rowsMA [] 0 rules) → Q (.ref a) H
theorem pe_bfacts (T : Txt X.K X.mg) (he : PE X e ta) (hr : Room 2 X.A) (hab : attributeBase e "facts" X.env (eval e X.env) = eval e X.env := by rfl) : PE X (.Attribute e "facts" pos) (tR rBF ta) :=
  pe_getA he T.c_Book T.p_Book_facts (ok_bfacts T) hr rBF (fun y H Q h => by
    obtain ⟨facts, rules, l, ⟨a, dx, af, ar, aR, rv, us, rfl, h1, h2, h3, h4, h5, h6⟩, k⟩ := h
    exact ⟨a, dx, _, .ref af, rfl, h1, by kernel_rfl, k af h2⟩) hab
theorem pe_brules (T : Txt X.K X.mg) (he : PE X e ta) (hr : Room 2 X.A) (hab : attributeBase e "rules" X.env (eval e X.env) = eval e X.env := by rfl) : PE X (.Attribute e "rules" pos) (tR rBR ta) :=
  pe_getA he T.c_Book T.p_Book_rules (ok_brules T) hr rBR (fun y H Q h => by
    obtain ⟨facts, rules, l, ⟨a, dx, af, ar, aR, rv, us, rfl, h1, h2, h3, h4, h5, h6⟩, k⟩ := h
    exact ⟨a, dx, _, .ref ar, rfl, h1, by kernel_rfl, k ar rv h3 h4⟩) hab
theorem pe_bruling (T : Txt X.K X.mg) (he : PE X e ta) (hr : Room 2 X.A) (hab : attributeBase e "ruling" X.env (eval e X.env) = eval e X.env := by rfl) : PE X (.Attribute e "ruling" pos) (tR rBL ta) :=
  pe_getA he T.c_Book T.p_Book_ruling (ok_bruling T) hr rBL (fun y H Q h => by
    obtain ⟨facts, rules, l, ⟨a, dx, af, ar, aR, rv, us, rfl, h1, h2, h3, h4, h5, h6⟩, k⟩ := h
    exact ⟨a, dx, _, .str l, rfl, h1, by kernel_rfl, k⟩) hab
/-- book.rows, the attribute itself -/
theorem pe_brows (T : Txt X.K X.mg) (he : PE X e ta) (hab : attributeBase e "rows" X.env (eval e X.env) = eval e X.env := by rfl) : PE X (.Attribute e "rows" pos) (tR rBRows ta) := by
  refine ⟨fun pins s σ H Q I h => attr_of hab (thn (he.run pins s σ H _ I h) fun u s1 z => ?_)⟩
  obtain ⟨y, H1, I1, r, q⟩ := z
  obtain ⟨facts, rules, l, ⟨a, dx, af, ar, aR, rv, us, rfl, h1, h2, h3, h4, h5, h6⟩, k⟩ := q
  cases r
  exact getattr_ok I1 h1 T.c_Book T.n_Book_rows (by kernel_rfl) fun u s' I' ru => ⟨_, _, I', ru, k _ _ h5 h6⟩
end
section
variable {P : Program} {w : World} {K : PySem.W.Frag} {mg : Str → Option Value} {base : Heap}
/-! ### Book.names -/
def spBNames : Sp := fun vs H Q _ => ∃ (b : Addr) (facts : List Str) (rules : List RT) (l : Str), vs = [.ref b] ∧ BookAt H (.ref b) facts rules l ∧ (rowsMA [] 0 rules).length ≤ 1000 ∧
  ∀ H' D, Same H H' → H D = none → H' D = some (.lst (sV ((rowsMA [] 0 rules).map (·.1.n)))) → Q (.ref D) H'
theorem ok_bnames (T : Txt K mg) : Okd P w K mg base CX0 3 446 ["self"] spBNames := by
  obtain ⟨fd, F⟩ := T.d_Book_names
  have sc : FnScope ["self", "row"] ["self"] (defScope s_Book_names) := ⟨rfl, rfl, rfl, by decide +kernel, rfl, by decide +kernel, by decide +kernel⟩
  refine ⟨fd, F.ok sc (fun vs H Q E h => ?_) (fun cdv A outer s H vs Q E hr h => ?_), F.binds fun _ _ _ _ _ _ us hl => match us, hl with | [_], _ => rfl, F.kp⟩
  · obtain ⟨b, facts, rules, l, rfl, _⟩ := h
    rfl
  · obtain ⟨b, facts, rules, l, rfl, hb, hl, k⟩ := h
    refine ⟨_, pss_one (ps_ret (pe_lc (own := [("row", 1)]) (te := tR rNm (tOp (rIxT K) (tVar 1) (tC (.int 0)))) rfl sc.nd (pi_list (pe_brows T (pv 0))) (blkOk_by (N := ["self", "row"]) (sc := defScope s_Book_names) (by decide +kernel))
      (fun _ _ _ _ _ => pg_name (i := 1) sc.nd rfl (.inl rfl)) (fun _ _ _ _ _ => pts_nil) (fun _ _ _ _ _ => pe_rname T (pe_ix ix_tup (pv 1) pe_int (fun _ _ => rfl)) hr))), ?_⟩
    refine ⟨_, rfl, facts, rules, l, hb, fun aR us haR hR => ⟨aR, rfl, ⟨us, .of haR⟩, fun D nD => ?_⟩⟩
    refine lc_go (walk_list (xs := us)) (by rw [hR.len, sizeLine_eq]; omega) nD (fun H3 s => .of (s _ _ haR)) (fun i acc _ => acc = sV (((rowsMA [] 0 rules).take i).map (·.1.n))) (fun _ _ _ _ _ h => h) rfl ?_ ?_
    · rintro i x H3 H4 acc Kt Kf hi s4 rfl ⟨rfl, ex⟩ kt _
      obtain ⟨e, ee, he⟩ := hR.get ex
      obtain ⟨t, rv, ol, ov, rfl, h1, h2, h3, h4⟩ := RowE.mono (Same.extN s4) he
      refine ⟨rfl, yes_ok ⟨_, rfl, t, _, 0, rv, rfl, rfl, .of h1, rfl, e.1, h2, kt _ _ (Same.refl _) ?_⟩⟩
      rw [List.take_succ, ee, List.map_append]
      simp
    · rintro H3 acc s4 hD rfl
      rw [hR.len, List.take_length] at hD
      exact k _ D s4 nD hD
/-! ### Book.row_of -/
def spRowOf : Sp := fun vs H Q E => ∃ (b : Addr) (nm : Str) (facts : List Str) (rules : List RT) (l : Str), vs = [.ref b, .str nm] ∧ BookAt H (.ref b) facts rules l ∧
  (∀ (e : Row3) H' v, e ∈ rowsMA [] 0 rules → e.1.n = nm → Same H H' → RowE H' v e → Q v H') ∧ (nm ∉ (rowsMA [] 0 rules).map (·.1.n) → ∀ H', Same H H' → E (.ref 173) none H')
theorem ok_row_of (T : Txt K mg) : Okd P w K mg base (L2.CX P w) 3 460 ["self", "name"] spRowOf := by
  obtain ⟨fd, F⟩ := T.d_Book_row_of
  have sc : FnScope ["self", "name", "row"] ["self", "name"] (defScope s_Book_row_of) := ⟨rfl, rfl, rfl, by decide +kernel, rfl, by decide +kernel, by decide +kernel⟩
  refine ⟨fd, F.okX sc (fun vs H Q E h => ?_) (fun cdv A outer s H vs Q E hr h => ?_), F.binds fun _ _ _ _ _ _ us hl => match us, hl with | [_, _], _ => rfl, F.kp⟩
  · obtain ⟨b, nm, facts, rules, l, rfl, _⟩ := h
    rfl
  · obtain ⟨b, nm, facts, rules, l, rfl, hb, kf, kn⟩ := h
    have x := T.x_UnknownRule
    refine ⟨_, pss_cons (PS.nox (ps_for PassesOwn.never rfl (pi_list (pe_brows T (pv 0))) (pg_name (i := 2) sc.nd rfl (.inl rfl))
        (pss_one (ps_if (pt_cmpR op_eq (pe_rname T (pe_ix ix_tup (pv 2) pe_int (fun _ _ => rfl)) hr) (pv 1) (nomark _)) (pss_one (ps_ret (pv 2))) pss_nil))))
      (pss_one (ps_raise rfl (takes_of rfl rfl rfl rfl) (pmk_own PySem.F.excBase_ValueError x.h1 T.g_UnknownRule x.h2 (raises_own x.h3 x.h4) (by exact rfl)))), ?_⟩
    refine ⟨_, rfl, facts, rules, l, hb, fun aR us haR hR => ⟨aR, rfl, ⟨us, .of haR⟩, for_it (walk_list (xs := us)) (fun i σ H' => ∃ v, σ = [some (.ref b), some (.str nm), v] ∧ Same H H' ∧ nm ∉ ((rowsMA [] 0 rules).take i).map (·.1.n)) ⟨none, rfl, Same.refl _, by simp⟩ (fun i σ H' _ ⟨_, _, s1, _⟩ => .of (s1 _ _ haR)) ?_ ?_⟩⟩
    · rintro i x σ H3 H4 hi ⟨v, rfl, s1, hno⟩ ⟨rfl, ex⟩
      obtain ⟨e, ee, he⟩ := hR.get ex
      have he2 := RowE.mono (Same.extN s1) he
      obtain ⟨t, rv, ol, ov, rfl, h1, h2, h3, h4⟩ := id he2
      refine ⟨_, rfl, t, _, 0, rv, rfl, rfl, .of h1, rfl, e.1, h2, _, rfl, rfl, _, rfl, ?_⟩
      refine ite2 (fun hc => ?_) (fun hc => ?_)
      · have hn : e.1.n = nm := V.str.inj (of_decide_eq_true hc)
        exact ⟨_, rfl, kf e _ _ (List.mem_of_getElem? ee) hn s1 he2⟩
      · refine ⟨_, rfl, s1, ?_⟩
        rw [List.take_succ, ee, List.map_append, List.mem_append]
        rintro (z | z)
        · exact hno z
        · have z2 : nm = e.1.n := by simpa using z
          exact hc (decide_eq_true (by rw [z2]))
    · rintro σ H3 ⟨v, rfl, s1, hno⟩
      rw [hR.len, List.take_length] at hno
      exact kn hno _ s1
/-! ### == of books -/
def BookEq (d : Nat) (a b : Addr) (H : Hp) : Prop := ∃ (facts : List Str) (rules : List RT) (l : Str), depL d rules ∧ BookAt H (.ref a) facts rules l ∧ BookAt H (.ref b) facts rules l
theorem prs_strs {H : Hp} : ∀ l : List Str, Prs DFlat (sV l) (sV l) H
  | [] => Prs.nil
  | x :: l => Prs.cons ⟨rfl, rfl, by show (x == x) = true; exact beq_self_eq_true x⟩ (prs_strs l)
abbrev DItemB (K : PySem.W.Frag) (d : Nat) : Eqv := fun x y H => DFlat x y H ∨ (DTup K DFlat x y H ∨ DTup K (DIns cRule (RuleEq d)) x y H)
theorem mon_itemB (K : PySem.W.Frag) (d : Nat) : Mon (DItemB K d) := Mon.or mon_flat (Mon.or (mon_tup mon_flat) (mon_tup (mon_rule d)))
theorem ok_book_eq (T : Txt K mg) (d : Nat) : Okd P w K mg base CX0 (3 * d + 4) 516 ["self", "other"] (spEq (BookEq d)) := by
  have sc : FnScope ["self", "other", "mine"] ["self", "other"] (defScope s_Book_eq) := ⟨rfl, rfl, rfl, by decide +kernel, rfl, by decide +kernel, by decide +kernel⟩
  obtain ⟨fd, F⟩ := T.d_Book_eq
  refine ⟨fd, F.ok (k := 3 * d + 3) sc (fun vs H Q E h => ?_) (fun cdv A outer s H vs Q E hr h => ?_), F.binds fun _ _ _ _ _ _ us hl => match us, hl with | [_, _], _ => rfl, F.kp⟩
  · obtain ⟨a, b, rfl, _⟩ := h
    rfl
  · obtain ⟨a, b, rfl, ⟨facts, rules, l, hd, h1, h2⟩, k⟩ := h
    obtain ⟨fdr, Fr, br, _⟩ := ok_rule_eq (P := P) (w := w) (base := base) T d
    obtain ⟨_, d1, f1, r1, R1, rv1, us1, e1, a1, a2, a3, a4, a5, a6⟩ := h1
    obtain ⟨_, d2, f2, r2, R2, rv2, us2, e2, b1, b2, b3, b4, b5, b6⟩ := h2
    cases e1
    cases e2
    have nd := sc.nd
    refine ⟨_, pss_cons (ps_if (pt_not (pt_val (pe_callB call_isi (by rfl) T.f_isinstance (by decide +kernel) (pa_cons (pv 1) (pa_cons (pe_glob (v := .ref cBook) (by rfl) T.g_Book rfl) pa_nil))))) (pss_one ps_never) pss_nil)
      (pss_cons (ps_set (i := 2) nd rfl (.inl rfl) (pe_tup (pa_cons (pe_fld (pv 0) rfl) (pa_cons (pe_fld (pv 0) rfl) (pa_cons (pe_fld (pv 0) rfl) pa_nil)))))
      (pss_one (ps_ret (pe_cmpR (op_eqG (n := 3 * d + 3) (rcG_tup (mon_itemB _ d) ((EqG.or (EqG.mono eqG_flat (Nat.zero_le (3 * d + 2))) (EqG.or (EqG.mono (eqG_tup mon_flat eqG_flat) (by omega))
          (eqG_tup (mon_rule d) (eqG_ins Fr T.e_Rule.1 T.e_Rule.2 br pass0)))) : EqG _ (3 * d + 2) (DItemB _ d))) hr)
        (pv 2) (pe_tup (pa_cons (pe_fld (pv 1) rfl) (pa_cons (pe_fld (pv 1) rfl) (pa_cons (pe_fld (pv 1) rfl) pa_nil)))) (nomark _))))), ?_⟩
    refine ⟨_, rfl, _, _, _, _, true, rfl, .own cBook, .base (.ins b1 T.c_Book T.y_Book.ha T.y_Book.hn T.y_Book.ht T.y_Book.hm), T.k_Book, true, rfl, iteF ?_⟩
    refine ⟨_, rfl, a, cBook, _, _, _, rfl, a1, T.c_Book, T.n_Book_all_facts, (show _ = some (V.ref f1) by kernel_rfl), _, rfl, a, cBook, _, _, _, rfl, a1, T.c_Book, T.n_Book_outermost, (show _ = some (V.ref r1) by kernel_rfl),
      _, rfl, a, cBook, _, _, _, rfl, a1, T.c_Book, T.n_Book_last_ruling, (show _ = some (V.str l) by kernel_rfl), (by show 3 ≤ sizeLine; decide), fun p np => ?_⟩
    have s1 := same_upd (o := HO.tup [V.ref f1, V.ref r1, V.str l]) np
    have b1' := s1 _ _ b1
    refine ⟨_, rfl, _, rfl, b, cBook, _, _, _, rfl, b1', T.c_Book, T.n_Book_all_facts, (show _ = some (V.ref f2) by kernel_rfl), _, rfl, b, cBook, _, _, _, rfl, b1', T.c_Book, T.n_Book_outermost, (show _ = some (V.ref r2) by kernel_rfl),
      _, rfl, b, cBook, _, _, _, rfl, b1', T.c_Book, T.n_Book_last_ruling, (show _ = some (V.str l) by kernel_rfl), (by show 3 ≤ sizeLine; decide), fun q nq => ?_⟩
    have s2 := same_trans s1 (same_upd (o := HO.tup [V.ref f2, V.ref r2, V.str l]) nq)
    have e1 : (upd (upd H p (.tup [V.ref f1, V.ref r1, V.str l])) q (.tup [V.ref f2, V.ref r2, V.str l])) p = some (.tup [V.ref f1, V.ref r1, V.str l]) := by
      rw [upd_ne (ne_of_none upd_same nq)]
      exact upd_same
    have k2 := Same.kpI s2
    refine ⟨⟨p, q, _, _, rfl, rfl, .of e1, .of upd_same, Prs.cons (.inr (.inl ⟨f1, f2, _, _, rfl, rfl, .of (s2 _ _ a2), .of (s2 _ _ b2), prs_strs facts⟩)) (Prs.cons (.inr (.inr ⟨r1, r2, rv1, rv2, rfl, rfl, .of (s2 _ _ a3), .of (s2 _ _ b3), prs_rules hd (RulesAt.mono k2 a4) (RulesAt.mono k2 b4)⟩))
      (Prs.cons (.inl ⟨rfl, rfl, by show (l == l) = true; exact beq_self_eq_true l⟩) Prs.nil))⟩, fun H' e => k H' (same_trans s2 e)⟩
/-! ### with_inner -/
def spWithInner : Sp := fun vs H Q _ => ∃ (rv : V) (ai : Addr) (r : RT) (ivs : List V) (i : List RT), vs = [rv, .ref ai] ∧ RuleAt H rv r ∧ H ai = some (.tup ivs) ∧ RulesAt H ivs i ∧ NmOk r.n ∧ NmOk r.r ∧
  ∀ H' a, Same H H' → RuleAt H' (.ref a) (.mk r.n r.w r.b r.r i) → Q (.ref a) H'
theorem ok_with_inner (T : Txt K mg) : Okd P w K mg base CX0 4 537 ["rule", "inner"] spWithInner := by
  obtain ⟨fd, F⟩ := T.d_with_inner
  have sc : FnScope ["rule", "inner"] ["rule", "inner"] (defScope s_with_inner) := ⟨rfl, rfl, rfl, by decide +kernel, rfl, by decide +kernel, by decide +kernel⟩
  refine ⟨fd, F.ok (k := 3) sc (fun vs H Q E h => ?_) (fun cdv A outer s H vs Q E hr h => ?_), F.binds fun _ _ _ _ _ _ us hl => match us, hl with | [_, _], _ => rfl, F.kp⟩
  · obtain ⟨rv, ai, r, ivs, i, rfl, _⟩ := h
    rfl
  · obtain ⟨rv, ai, r, ivs, i, rfl, h1, h2, h3, hn, hrr, k⟩ := h
    have hr2 : Room 2 _ := hr.mono (by decide)
    refine ⟨_, pss_one (ps_ret (pmk T.m_Rule (ok_rule_init T) hr T.g_Rule pass0 (pa_cons (pe_rname T (pv 0) hr2) (pa_cons (pe_rcond T (pv 0) hr2) (pa_cons (pe_rruling T (pv 0) hr2) (pa_cons (pv 1) pa_nil)))))), ?_⟩
    refine ⟨_, rfl, r, h1, _, rfl, r, h1, fun cv hcv => ?_⟩
    obtain ⟨c, dc, aw, ab, rfl, _⟩ := id hcv
    exact ⟨_, rfl, r, h1, _, rfl, mkRule hcv h2 h3 hn hrr fun a H' s hra => k H' a s hra⟩
end
end Sc
set_option Elab.async false
set_option maxRecDepth 100000
set_option linter.all false
set_option maxHeartbeats 2000000
namespace Sc
open PySem PySem.Spec L2
open PyProof.Rows hiding St
/-! d.update(a list of pairs) -/
section
variable {X : Cx}
theorem pairs_of2 {pins : List (Addr × Obj)} {σ : St} {H : Hp} {s : Shared} (I : Inv X pins σ H s) : ∀ {ps : List Addr} {kvs : List (Key × V)}, Paired (fun p kv => H p = some (.tup [kV kv.1, kv.2])) ps kvs →
    ∃ (prs : List (Key × Value)) (vps : List (Value × Value)), KV kvs prs ∧ prs.length = ps.length ∧ vps.length = ps.length ∧ ∀ (j : Nat) (k v : Value), vps[j]? = some (k, v) → ∃ (b : Addr) (key : Key), ps[j]? = some b ∧ prs[j]? = some (key, v) ∧ IsTup s.heap b #[k, v] ∧ keyIs key k = true
  | _, _, .nil => ⟨[], [], .nil, rfl, rfl, fun j k v e => by simp at e⟩
  | _, _, .cons (a := p) (b := kv) h t => by
    obtain ⟨prs, vps, r, l1, l2, hp⟩ := pairs_of2 I t
    obtain ⟨its, rv, ht, _⟩ := I.tuple (.of h)
    obtain ⟨u, y, rfl, ru, ry⟩ := vals2 rv
    refine ⟨(kv.1, y) :: prs, (u, y) :: vps, .cons ⟨rfl, ry⟩ r, congrArg Nat.succ l1, congrArg Nat.succ l2, fun j k v e => ?_⟩
    cases j with
    | zero =>
      have e' : (u, y) = (k, v) := Option.some.inj e
      cases e'
      exact ⟨p, kv.1, rfl, rfl, ht, kV_is (P := X.prog) (w := X.w) ru⟩
    | succ j =>
      obtain ⟨b, key, e1, e2, e3, e4⟩ := hp j k v (by simpa using e)
      exact ⟨b, key, by simpa using e1, by simpa using e2, e3, e4⟩
def rUpdP : V → List V → Hp → VK → Prop := fun x xs H Q => ∃ (d a : Addr) (k0 : List (Key × V)) (ps : List Addr) (kvs : List (Key × V)), x = .ref d ∧ xs = [.ref a] ∧ H d = some (.dK k0) ∧ H a = some (.lst (ps.map V.ref)) ∧ Paired (fun p kv => H p = some (.tup [kV kv.1, kv.2])) ps kvs ∧
  k0.length + kvs.length ≤ sizeLine ∧ Q .non (upd H d (.dK (mergeK k0 kvs)))
theorem mt_updateP (hcalm : X.calm = true) : MtR X "dict.update" rUpdP := by
  intro pins s σ H x xs v us Q I rx rs h
  obtain ⟨d, a, k0, ps, kvs, rfl, rfl, hd, ha, hp, hz, q⟩ := h
  cases rx
  obtain ⟨u, rfl, ru⟩ := vals1 rs
  cases ru
  obtain ⟨its, n, rv, hob, _⟩ := I.lst ha
  have ei := refs_at rv
  subst ei
  obtain ⟨prs, vps, rel, l1, l2, hpr⟩ := pairs_of2 I hp
  obtain ⟨z1, z2, vs0, rel0, dd⟩ := (show ObjOk X.prog X.w H s.heap d (.dK k0) from I.hok d _ hd)
  have lk := rel.length
  have l0 := rel0.length
  have hal : ∀ j b, ps[j]? = some b → ps.getD j 0 = b := fun j b e => by simp [List.getD, e]
  refine call_update_pairs (knd := mixKind X.prog X.w) (acc := vs0) (kvs := prs) (PairArg.list a (ps.map Value.ref).toArray (fun j => ps.getD j 0) vps) (I.ok.hd hcalm)
    ⟨⟨_, n, hob, rfl, rfl, rfl⟩, by simp [l2], fun j k v e => ?_⟩ ?_ ⟨by rw [l1, l2], fun j k v e => ?_⟩ dd (by rw [l2, ← l1, ← lk, ← l0]; exact hz) fun h' tk hm hk => ?_
  · obtain ⟨b, key, e1, e2, e3, e4⟩ := hpr j k v e
    refine ⟨?_, .inl ?_⟩
    · show (ps.map Value.ref).toArray[j]? = some (Value.ref (ps.getD j 0))
      rw [hal j b e1]
      simp [e1]
    · show s.heap.IsTuple (ps.getD j 0) #[k, v]
      rw [hal j b e1]
      exact e3
  · intro hm
    rcases List.mem_cons.mp hm with e | hm
    · rw [e, ha] at hd
      cases hd
    · obtain ⟨j, hj, e⟩ := List.mem_map.mp hm
      have hjl : j < ps.length := by have := List.mem_range.mp hj; omega
      obtain ⟨kv, _, hkv⟩ := paired_get hp (List.getElem?_eq_getElem hjl)
      rw [hal j _ (List.getElem?_eq_getElem hjl)] at e
      rw [e, hd] at hkv
      cases hkv
  · obtain ⟨b, key, e1, e2, e3, e4⟩ := hpr j k v e
    exact ⟨key, e2, e4⟩
  · have hlen : (mergeK k0 kvs).length ≤ sizeLine := Nat.le_trans (length_mergeK kvs k0) hz
    refine ⟨.non, upd H d (.dK (mergeK k0 kvs)), I.write (t' := tk) (e := d) (by rw [hd]; trivial) (.inl rfl) (fun b u hb e => hk b u hb (fun z => nomatch z) e) (hm.imp fun _ z => z.choose_spec.choose_spec.1)
      (show ObjOk X.prog X.w _ _ _ (.dK (mergeK k0 kvs)) from ⟨hlen, z2, merged vs0 prs, KV.merge rel rel0, hm⟩), rfl, q⟩
end
end Sc
set_option Elab.async false
set_option maxRecDepth 100000
set_option linter.all false
set_option maxHeartbeats 1000000
namespace Sc
open PySem PySem.Spec L2
open PyProof.Rows hiding St
/-! ### dicts of texts as sets -/
abbrev tV (x : Str) : Key × V := (Sum.inr x, V.bl true)
structure KD (kvs : List (Key × V)) (l : List Str) : Prop where
  e : kvs.map (·.1) = l.map Sum.inr
  nd : l.Nodup
theorem KD.mem {kvs : List (Key × V)} {l : List Str} (h : KD kvs l) (x : Str) : (valV kvs (Sum.inr x)).isSome = decide (x ∈ l) := by
  rw [← valV_any, Bool.eq_iff_iff, decide_eq_true_iff, List.any_eq_true]
  constructor
  · rintro ⟨p, hp, e⟩
    have m : p.1 ∈ kvs.map (·.1) := List.mem_map_of_mem hp
    rw [of_decide_eq_true e, h.e] at m
    obtain ⟨y, hy, ey⟩ := List.mem_map.mp m
    cases ey
    exact hy
  · intro m
    have m2 : (Sum.inr x : Key) ∈ kvs.map (·.1) := by rw [h.e]; exact List.mem_map_of_mem m
    obtain ⟨p, hp, e⟩ := List.mem_map.mp m2
    exact ⟨p, hp, decide_eq_true e⟩
theorem KD.put {kvs : List (Key × V)} {l : List Str} (h : KD kvs l) (x : Str) : ∃ l', KD (putK kvs (Sum.inr x) (.bl true)) l' ∧ (∀ y, y ∈ l' ↔ y ∈ l ∨ y = x) ∧ l'.length ≤ l.length + 1 := by
  cases e : valV kvs (Sum.inr x) with
  | some v =>
    have hm : x ∈ l := by
      have z := h.mem x
      rw [e] at z
      exact of_decide_eq_true z.symm
    refine ⟨l, ⟨?_, h.nd⟩, fun y => ⟨.inl, fun z => z.elim id fun z => z ▸ hm⟩, Nat.le_succ _⟩
    have ha : (kvs.any fun kv => decide (kv.1 = Sum.inr x)) = true := by rw [valV_any, e]; rfl
    unfold putK
    rw [if_pos ha, List.map_map, ← h.e]
    refine List.map_congr_left fun p _ => ?_
    show (if p.1 = Sum.inr x then (p.1, V.bl true) else p).1 = p.1
    split <;> rfl
  | none =>
    have hm : x ∉ l := by
      intro z
      have q := h.mem x
      rw [e, decide_eq_true z] at q
      cases q
    refine ⟨l ++ [x], ⟨?_, ?_⟩, fun y => by simp, by simp⟩
    · rw [putK_new _ e, List.map_append, h.e, List.map_append]
      rfl
    · exact List.nodup_append.mpr ⟨h.nd, by simp, fun a ha b hb => by
        rw [List.mem_singleton.mp hb]
        exact fun z => hm (z ▸ ha)⟩
theorem KD.merge : ∀ (xs : List Str) {kvs : List (Key × V)} {l : List Str}, KD kvs l → ∃ l', KD (mergeK kvs (xs.map tV)) l' ∧ (∀ y, y ∈ l' ↔ y ∈ l ∨ y ∈ xs) ∧ l'.length ≤ l.length + xs.length
  | [], kvs, l, h => ⟨l, h, fun y => by simp, Nat.le_refl _⟩
  | x :: xs, kvs, l, h => by
    obtain ⟨l1, h1, m1, n1⟩ := h.put x
    obtain ⟨l2, h2, m2, n2⟩ := KD.merge xs h1
    refine ⟨l2, h2, fun y => ?_, by simp; omega⟩
    rw [m2, m1, List.mem_cons, or_assoc]
/-- tuples of texts, one after another -/
inductive TupsAt (H : Hp) : List V → List (List Str) → Prop
  | nil : TupsAt H [] []
  | cons {a : Addr} {vs : List V} {c : List Str} {cs : List (List Str)} : H a = some (.tup (sV c)) → TupsAt H vs cs → TupsAt H (.ref a :: vs) (c :: cs)
/-- what the facts that hold in the first case are -/
def MetOk (rs : List RT) (cs : List (List Str)) : Prop :=
  ((∃ x, x ∈ rs.flatMap RT.w ∧ x ∈ rs.flatMap RT.b) ∧ cs = []) ∨ ((¬ ∃ x, x ∈ rs.flatMap RT.w ∧ x ∈ rs.flatMap RT.b) ∧ ∃ ys, cs = [ys] ∧ ys.Nodup ∧ sortedS ys = true ∧ ∀ x, x ∈ ys ↔ x ∈ rs.flatMap RT.w)
theorem paired_snoc {α β : Type} {F : α → β → Prop} {a : α} {b : β} (h : F a b) : ∀ {l : List α} {m : List β}, Paired F l m → Paired F (l ++ [a]) (m ++ [b])
  | _, _, .nil => .cons h .nil
  | _, _, .cons h1 h2 => .cons h1 (paired_snoc h h2)
theorem pairs_mono {Ha Hb : Hp} (m : ∀ a xs, Ha a = some (HO.tup xs) → Hb a = some (HO.tup xs)) : ∀ {ps : List Addr} {kvs : List (Key × V)}, Paired (fun p kv => Ha p = some (HO.tup [kV kv.1, kv.2])) ps kvs → Paired (fun p kv => Hb p = some (HO.tup [kV kv.1, kv.2])) ps kvs
  | _, _, .nil => .nil
  | _, _, .cons h t => .cons (m _ _ h) (pairs_mono m t)
theorem same_lock {Hn H3 : Hp} {d : Addr} {od : Obj} {u : HO} (hd : Hn d = some u) (s : Same (upd Hn d (.frz od u)) H3) : Same Hn (upd H3 d u) := fun b o e => by
  by_cases z : b = d
  · subst z
    rw [hd] at e
    cases e
    exact upd_same
  · rw [upd_ne z]
    exact s b o (by rw [upd_ne z]; exact e)
theorem flat_take {rs : List RT} {i : Nat} {r : RT} (f : RT → List Str) (e : rs[i]? = some r) : (rs.take (i + 1)).flatMap f = (rs.take i).flatMap f ++ f r := by
  rw [List.take_succ, e]
  simp
theorem flat_le {rs : List RT} (f : RT → List Str) (i : Nat) : ((rs.take i).flatMap f).length ≤ (rs.flatMap f).length := by
  have h : rs.flatMap f = (rs.take i).flatMap f ++ (rs.drop i).flatMap f := by rw [← List.flatMap_append, List.take_append_drop]
  rw [h, List.length_append]
  omega
section
variable {P : Program} {w : World} {K : PySem.W.Frag} {mg : Str → Option Value} {base : Heap}
def spMet : Sp := fun vs H Q _ => ∃ (ol : Addr) (us : List V) (rs : List RT), vs = [.ref ol] ∧ H ol = some (.lst us) ∧ RulesAt H us rs ∧ (rs.flatMap RT.w).length < 64 ∧ (rs.flatMap RT.b).length < 64 ∧
  ∀ H' p cs css, Same H H' → H p = none → H' p = some (.lst cs) → TupsAt H' cs css → MetOk rs css → Q (.ref p) H'
theorem sc_met : FnScope ["rules", "wanted", "barred", "rule", "name"] ["rules"] (defScope s_met_together) := ⟨rfl, rfl, rfl, by decide +kernel, rfl, by decide +kernel, by decide +kernel⟩
theorem ok_met (T : Txt K mg) : Okd P w K mg base CX0 3 563 ["rules"] spMet := by
  obtain ⟨fd, F⟩ := T.d_met_together
  refine ⟨fd, F.ok sc_met (fun vs H Q E h => ?_) (fun cdv A outer s H vs Q E hr h => ?_), F.binds fun _ _ _ _ _ _ us hl => match us, hl with | [_], _ => rfl, F.kp⟩
  · obtain ⟨ol, us, rs, rfl, _⟩ := h
    rfl
  · obtain ⟨ol, us, rs, rfl, hol, hrs, hw64, hb64, k⟩ := h
    have nd := sc_met.nd
    have hu := hu_of hr
    refine ⟨_, pss_cons (ps_asg (pe_tup (pa_cons pe_dnewK (pa_cons pe_dnewK pa_nil))) (pg_tup rfl (pgs_cons (pg_name (i := 1) nd rfl (.inl rfl)) (pgs_cons (pg_name (i := 2) nd rfl (.inr rfl)) pgs_nil))))
      (pss_cons (ps_for PassesOwn.never rfl (pi_list (pv 0)) (pg_name (i := 3) nd rfl (.inl rfl))
        (pss_cons (ps_expr (pe_bm PySem.F.plainAttrs_dict PySem.F.slot_dict_update PySem.F.type_dict_update (mt_updateP rfl) (pv 1) (pa_cons (pe_lc (own := [("name", 4)]) (te := tTup (tCons (tVar 4) (tCons (tC (.bl true)) tNil))) rfl nd (pi_tup (pe_holding T (pe_rcond T (pv 3) hr) hr)) (blkOk_by (N := ["rules", "wanted", "barred", "rule", "name"]) (sc := defScope s_met_together) (by decide +kernel))
            (fun _ _ _ _ _ => pg_name (i := 4) nd rfl (.inl rfl)) (fun _ _ _ _ _ => pts_nil) (fun _ _ _ _ _ => pe_tup (pa_cons (pv 4) (pa_cons pe_bl pa_nil)))) pa_nil)))
        (pss_one (ps_expr (pe_bm PySem.F.plainAttrs_dict PySem.F.slot_dict_update PySem.F.type_dict_update (mt_updateP rfl) (pv 2) (pa_cons (pe_lc (own := [("name", 4)]) (te := tTup (tCons (tVar 4) (tCons (tC (.bl true)) tNil))) rfl nd (pi_tup (pe_failing T (pe_rcond T (pv 3) hr) hr)) (blkOk_by (N := ["rules", "wanted", "barred", "rule", "name"]) (sc := defScope s_met_together) (by decide +kernel))
            (fun _ _ _ _ _ => pg_name (i := 4) nd rfl (.inl rfl)) (fun _ _ _ _ _ => pts_nil) (fun _ _ _ _ _ => pe_tup (pa_cons (pv 4) (pa_cons pe_bl pa_nil)))) pa_nil))))))
      (pss_one (ps_ret (pe_ifExp (pt_cmpR (op_eqL0 hr.units0) (pe_lock (pe_lc (own := [("name", 4)]) rfl nd (pi_keys (pv 1)) (blkOk_by (N := ["rules", "wanted", "barred", "rule", "name"]) (sc := defScope s_met_together) (by decide +kernel))
            (fun _ _ _ _ _ => pg_name (i := 4) nd rfl (.inl rfl)) (fun _ _ _ _ _ => pts_one (pt_cmp (pc_din hu (pv 4) (pv 2)))) (fun _ _ _ _ _ => pv 4))) (pe_lst pa_nil) (nomark _))
          (pe_lst (pa_cons (pe_callTy call_tuple_of (by rfl) T.f_tuple (by decide +kernel) (pa_cons (pe_callB (call_sortedD rfl) (by rfl) T.f_sorted (by decide +kernel) (pa_cons (pv 1) pa_nil)) pa_nil)) pa_nil)) (pe_lst pa_nil))))), ?_⟩
    refine fun d1 nd1 => fun d2 nd2 => ⟨by show 2 ≤ sizeLine; decide, fun t nt => ?_⟩
    have n21 : d2 ≠ d1 := fun z => by rw [z, upd_same] at nd2; cases nd2
    have q1 := same_upd (o := HO.dK []) nd1
    have nd2' : H d2 = none := q1.free nd2
    have q2 := same_trans q1 (same_upd (o := HO.dK []) nd2)
    have q3 := same_trans q2 (same_upd (o := HO.tup [V.ref d1, V.ref d2]) nt)
    refine ⟨t, _, rfl, .of upd_same, rfl, _, _, rfl, _, _, rfl, rfl, ?_⟩
    have i1 : (upd (upd (upd H d1 (.dK [])) d2 (.dK [])) t (.tup [V.ref d1, V.ref d2])) d1 = some (.dK []) := by
      refine same_upd nt _ _ ?_
      rw [upd_ne n21.symm]
      exact upd_same
    have i2 : (upd (upd (upd H d1 (.dK [])) d2 (.dK [])) t (.tup [V.ref d1, V.ref d2])) d2 = some (.dK []) := same_upd nt _ _ upd_same
    generalize hHa : upd (upd (upd H d1 (.dK [])) d2 (.dK [])) t (.tup [V.ref d1, V.ref d2]) = Ha at q3 i1 i2
    refine ⟨_, rfl, ol, rfl, ⟨us, .of (q3 _ _ hol)⟩, for_it (walk_list (xs := us)) (fun i σ H' => ∃ v3 v4 k1 k2 l1 l2, σ = [some (.ref ol), some (.ref d1), some (.ref d2), v3, v4] ∧ Same H H' ∧ H' d1 = some (.dK k1) ∧ H' d2 = some (.dK k2) ∧ KD k1 l1 ∧ KD k2 l2 ∧
        (∀ x, x ∈ l1 ↔ x ∈ (rs.take i).flatMap RT.w) ∧ (∀ x, x ∈ l2 ↔ x ∈ (rs.take i).flatMap RT.b) ∧ l1.length ≤ ((rs.take i).flatMap RT.w).length ∧ l2.length ≤ ((rs.take i).flatMap RT.b).length)
      ⟨none, none, [], [], [], [], rfl, q3, i1, i2, ⟨rfl, .nil⟩, ⟨rfl, .nil⟩, fun x => by simp, fun x => by simp, Nat.le_refl _, Nat.le_refl _⟩ (fun i σ H' _ ⟨_, _, _, _, _, _, _, s1, _⟩ => .of (s1 _ _ hol)) ?_ ?_⟩
    · rintro i x σ H1 H2 hi ⟨v3, v4, k1, k2, l1, l2, rfl, s1, e1, e2, kd1, kd2, m1, m2, n1, n2⟩ ⟨rfl, ex⟩
      obtain ⟨rt, ert, hrt⟩ := hrs.get ex
      have hrt1 := RuleAt.mono (Same.kpI s1) hrt
      have b1 := flat_le (rs := rs) RT.w (i + 1)
      have b2 := flat_le (rs := rs) RT.b (i + 1)
      rw [flat_take RT.w ert, List.length_append] at b1
      rw [flat_take RT.b ert, List.length_append] at b2
      have lk1 : k1.length = l1.length := by simpa using congrArg List.length kd1.e
      have lk2 : k2.length = l2.length := by simpa using congrArg List.length kd2.e
      refine ⟨_, rfl, .inr (.inr (.inl ⟨rfl, .inl ⟨k1, e1⟩⟩)), ⟨_, rfl, rt, hrt1, fun cv hcv => ⟨rt.w, rt.b, hcv, fun aw haw => ⟨aw, rfl, ⟨_, .of haw⟩, fun D nD => ?_⟩⟩⟩⟩
      refine lc_go (walk_tup (xs := sV rt.w)) (by rw [List.length_map, sizeLine_eq]; omega) nD (fun H3 s => .of (s _ _ haw)) (fun j acc H' => ∃ ps : List Addr, acc = ps.map V.ref ∧ Paired (fun p kv => H' p = some (.tup [kV kv.1, kv.2])) ps ((rt.w.take j).map tV))
        (fun j acc Hx Hy kp ⟨ps, ea, hp⟩ => ⟨ps, ea, pairs_mono (fun _ _ z => kp.tup z) hp⟩) ⟨[], rfl, .nil⟩ ?_ ?_
      · rintro j y H3 H4 acc Kt Kf hj s4 ⟨ps, rfl, hp⟩ ⟨rfl, ey⟩ kt _
        obtain ⟨nm, en, rfl⟩ := sV_get ey
        refine ⟨rfl, yes_ok ⟨_, rfl, by show 2 ≤ sizeLine; decide, fun p np => kt (.ref p) _ (same_upd np) ⟨ps ++ [p], by simp, ?_⟩⟩⟩
        rw [List.take_succ, en, List.map_append]
        exact paired_snoc (F := fun (q : Addr) (kv : Key × V) => upd H4 p (HO.tup [V.str nm, .bl true]) q = some (HO.tup [kV kv.1, kv.2])) upd_same (pairs_mono (fun _ _ z => same_upd np _ _ z) hp)
      · rintro H3 acc s4 hD ⟨ps, rfl, hp⟩
        rw [show (sV rt.w).length = rt.w.length by simp, List.take_length] at hp
        refine ⟨d1, D, k1, ps, _, rfl, rfl, s4 _ _ e1, hD, hp, by simp; rw [sizeLine_eq]; omega, ?_⟩
        obtain ⟨l1', kd1', m1', n1'⟩ := KD.merge rt.w kd1
        have s5 : Same H (upd H3 d1 (.dK (mergeK k1 (rt.w.map tV)))) := same_new (same_trans s1 s4) nd1
        have e2' : (upd H3 d1 (.dK (mergeK k1 (rt.w.map tV)))) d2 = some (.dK k2) := by rw [upd_ne n21]; exact s4 _ _ e2
        have e1' : (upd H3 d1 (.dK (mergeK k1 (rt.w.map tV)))) d1 = some (.dK (mergeK k1 (rt.w.map tV))) := upd_same
        generalize hHb : upd H3 d1 (.dK (mergeK k1 (rt.w.map tV))) = Hb at s5 e2' e1'
        refine ⟨_, rfl, .inr (.inr (.inl ⟨rfl, .inl ⟨k2, e2'⟩⟩)), ⟨_, rfl, rt, RuleAt.mono (Same.kpI s5) hrt, fun cv hcv => ⟨rt.w, rt.b, hcv, fun ab hab => ⟨ab, rfl, ⟨_, .of hab⟩, fun D2 nD2 => ?_⟩⟩⟩⟩
        refine lc_go (walk_tup (xs := sV rt.b)) (by rw [List.length_map, sizeLine_eq]; omega) nD2 (fun H3 s => .of (s _ _ hab)) (fun j acc H' => ∃ ps : List Addr, acc = ps.map V.ref ∧ Paired (fun p kv => H' p = some (.tup [kV kv.1, kv.2])) ps ((rt.b.take j).map tV))
          (fun j acc Hx Hy kp ⟨ps, ea, hp⟩ => ⟨ps, ea, pairs_mono (fun _ _ z => kp.tup z) hp⟩) ⟨[], rfl, .nil⟩ ?_ ?_
        · rintro j y H3 H4 acc Kt Kf hj s4 ⟨ps, rfl, hp⟩ ⟨rfl, ey⟩ kt _
          obtain ⟨nm, en, rfl⟩ := sV_get ey
          refine ⟨rfl, yes_ok ⟨_, rfl, by show 2 ≤ sizeLine; decide, fun p np => kt (.ref p) _ (same_upd np) ⟨ps ++ [p], by simp, ?_⟩⟩⟩
          rw [List.take_succ, en, List.map_append]
          exact paired_snoc (F := fun (q : Addr) (kv : Key × V) => upd H4 p (HO.tup [V.str nm, .bl true]) q = some (HO.tup [kV kv.1, kv.2])) upd_same (pairs_mono (fun _ _ z => same_upd np _ _ z) hp)
        · rintro H5 acc s6 hD2 ⟨ps2, rfl, hp2⟩
          rw [show (sV rt.b).length = rt.b.length by simp, List.take_length] at hp2
          refine ⟨d2, D2, k2, ps2, _, rfl, rfl, s6 _ _ e2', hD2, hp2, by simp; rw [sizeLine_eq]; omega, ?_⟩
          obtain ⟨l2', kd2', m2', n2'⟩ := KD.merge rt.b kd2
          refine ⟨_, _, _, _, l1', l2', rfl, same_new (same_trans s5 s6) nd2', by rw [upd_ne n21.symm]; exact s6 _ _ e1', upd_same, kd1', kd2', fun x => ?_, fun x => ?_, ?_, ?_⟩
          · rw [m1', m1, flat_take RT.w ert, List.mem_append]
          · rw [m2', m2, flat_take RT.b ert, List.mem_append]
          · rw [flat_take RT.w ert, List.length_append]
            omega
          · rw [flat_take RT.b ert, List.length_append]
            omega
    · rintro σ H1 ⟨v3, v4, k1, k2, l1, l2, rfl, s1, e1, e2, kd1, kd2, m1, m2, n1, n2⟩
      rw [show us.length = rs.length from hrs.len, List.take_length] at m1 m2 n1 n2
      have lk1 : k1.length = l1.length := by simpa using congrArg List.length kd1.e
      refine ⟨d1, _, e1, trivial, fun od => ?_⟩
      refine ⟨_, rfl, d1, od, rfl, .inl ⟨k1, upd_same, fun D nD => ?_⟩⟩
      have d2l : (upd H1 d1 (.frz od (.dK k1))) d2 = some (.dK k2) := by rw [upd_ne n21]; exact e2
      refine lc_go (walk_keys (kvs := k1)) (by rw [lk1, sizeLine_eq]; omega) nD (fun H3 s => s _ _ upd_same) (fun j acc _ => acc = sV ((l1.take j).filter fun x => decide (x ∈ l2))) (fun _ _ _ _ _ h => h) rfl ?_ ?_
      · rintro j y H3 H4 acc Kt Kf hj s4 rfl ⟨rfl, key, v, ek, rfl⟩ kt kf
        have hk : (k1.map (·.1))[j]? = some key := by rw [List.getElem?_map, ek]; rfl
        rw [kd1.e, List.getElem?_map] at hk
        obtain ⟨x, ex, rfl⟩ := Option.map_eq_some_iff.mp hk
        refine ⟨rfl, _, rfl, _, rfl, d2, _, rfl, DGet.k (k := Sum.inr x) (s4 _ _ d2l), _, rfl, ?_⟩
        rw [kd2.mem]
        by_cases hx : x ∈ l2
        · rw [decide_eq_true hx]
          refine iteT ⟨_, rfl, kt _ _ (Same.refl _) ?_⟩
          rw [List.take_succ, ex, List.filter_append]
          simp [hx, kV]
        · rw [decide_eq_false hx]
          refine iteF (kf _ (Same.refl _) ?_)
          rw [List.take_succ, ex, List.filter_append]
          simp [hx]
      · rintro H3 acc s4 hD rfl
        refine ⟨s4 _ _ upd_same, ?_⟩
        have sl := same_lock e1 s4
        have s5 := same_trans s1 sl
        have hDd : D ≠ d1 := fun z => by rw [z, s4 _ _ upd_same] at hD; cases hD
        have hD' : (upd H3 d1 (.dK k1)) D = some (.lst (sV ((l1.take k1.length).filter fun x => decide (x ∈ l2)))) := by rw [upd_ne hDd]; exact hD
        have e1z : (upd H3 d1 (.dK k1)) d1 = some (.dK k1) := upd_same
        generalize hHz : upd H3 d1 (.dK k1) = Hz at sl s5 hD' e1z
        rw [lk1, List.take_length] at hD'
        refine ⟨by show 0 ≤ sizeLine; decide, fun p np => ⟨D, p, _, rfl, rfl, .of (same_upd np _ _ hD'), .of upd_same, _, rfl, ?_⟩⟩
        have s6 := same_trans s5 (same_upd (o := HO.lst []) np)
        by_cases hcf : ∃ x, x ∈ rs.flatMap RT.w ∧ x ∈ rs.flatMap RT.b
        · have hne : (sV (l1.filter fun x => decide (x ∈ l2))).isEmpty = false := by
            obtain ⟨x, hx1, hx2⟩ := hcf
            have hm : x ∈ l1.filter fun x => decide (x ∈ l2) := List.mem_filter.mpr ⟨(m1 x).mpr hx1, decide_eq_true ((m2 x).mpr hx2)⟩
            cases hl : l1.filter fun x => decide (x ∈ l2) with
            | nil => rw [hl] at hm; cases hm
            | cons a b => rfl
          rw [hne]
          exact iteF ⟨by show 0 ≤ sizeLine; decide, fun q nq => k _ q [] [] (same_trans s6 (same_upd nq)) (s6.free nq) upd_same .nil (.inl ⟨hcf, rfl⟩)⟩
        · have hem : (sV (l1.filter fun x => decide (x ∈ l2))).isEmpty = true := by
            cases hl : l1.filter fun x => decide (x ∈ l2) with
            | nil => rfl
            | cons a b =>
              have hm : a ∈ l1.filter fun x => decide (x ∈ l2) := by rw [hl]; exact List.mem_cons_self ..
              obtain ⟨h1, h2⟩ := List.mem_filter.mp hm
              exact absurd ⟨a, (m1 a).mp h1, (m2 a).mp (of_decide_eq_true h2)⟩ hcf
          rw [hem]
          refine iteT ⟨_, rfl, d1, k1, l1, rfl, .of (same_upd np _ _ e1z), kd1.e, by omega, fun ys a perm srt na => ⟨a, sV ys, rfl, .inl ⟨.of upd_same, fun t2 nt2 => ⟨by show 1 ≤ sizeLine; decide, fun q nq => ?_⟩⟩⟩⟩
          have s7 := same_trans s6 (same_trans (same_upd (o := HO.lst (sV ys)) na) (same_upd (o := HO.tup (sV ys)) nt2))
          exact k _ q [.ref t2] [ys] (same_trans s7 (same_upd nq)) (s7.free nq) upd_same (.cons (same_upd nq _ _ upd_same) .nil) (.inr ⟨hcf, ys, rfl, perm.nodup_iff.mpr kd1.nd, srt, fun x => by rw [perm.mem_iff, m1]⟩)
end
end Sc
set_option Elab.async false
set_option linter.all false
namespace Sc
open PySem PySem.Spec L2
open PyProof.Rows hiding St
/-! ### sorted texts, plainly -/
def Lx (a b : Str) : Prop := a.cps.toList < b.cps.toList
theorem Lx.irr {a : Str} (h : Lx a a) : False := List.lt_irrefl _ h
theorem Lx.trans {a b c : Str} (h : Lx a b) (g : Lx b c) : Lx a c := List.lt_trans h g
theorem Lx.asymm {a b : Str} (h : Lx a b) (g : Lx b a) : False := (h.trans g).irr
theorem Lx.tri {a b : Str} (h : ¬ Lx a b) (g : ¬ Lx b a) : a = b := by
  have e : a.cps.toList = b.cps.toList := List.le_antisymm (List.not_lt.mp g) (List.not_lt.mp h)
  cases a
  cases b
  congr 1
  exact Array.toList_inj.mp e
theorem asc_cons {x : Str} {l : List Str} (h : Asc (x :: l)) : Asc l := fun i a b e1 e2 => h (i + 1) a b (by simpa using e1) (by simpa using e2)
theorem asc_head : ∀ {l : List Str} {x : Str}, Asc (x :: l) → ∀ y ∈ l, Lx x y
  | [], _, _, _, m => nomatch m
  | z :: l, x, h, y, m => by
    have h1 : Lx x z := h 0 x z rfl rfl
    rcases List.mem_cons.mp m with e | m
    · rw [e]
      exact h1
    · exact h1.trans (asc_head (asc_cons h) y m)
theorem asc_pw : ∀ {l : List Str}, Asc l → l.Pairwise Lx
  | [], _ => .nil
  | _ :: _, h => .cons (asc_head h) (asc_pw (asc_cons h))
theorem pw_asc : ∀ {l : List Str}, l.Pairwise Lx → Asc l
  | [], _, _, _, _, e, _ => nomatch e
  | _ :: [], _, _, _, _, _, e2 => by simp at e2
  | x :: y :: l, h, 0, a, b, e1, e2 => by
    cases e1
    cases e2
    exact List.rel_of_pairwise_cons h (List.mem_cons_self ..)
  | x :: y :: l, h, i + 1, a, b, e1, e2 => pw_asc (List.pairwise_cons.mp h).2 i a b (by simpa using e1) (by simpa using e2)
theorem pw_nodup {l : List Str} (h : l.Pairwise Lx) : l.Nodup := h.imp fun z e => by subst e; exact z.irr
theorem asc_nodup {l : List Str} (h : Asc l) : l.Nodup := pw_nodup (asc_pw h)
theorem asc_sub {l m : List Str} (h : Asc l) (s : m.Sublist l) : Asc m := pw_asc ((asc_pw h).sublist s)
theorem pw_sorted {l : List Str} (h : l.Pairwise Lx) : sortedS l = true := sortedS_of_pairwise l (h.imp fun z => by
  rw [ltCps_eq]
  exact decide_eq_false fun g => Lx.asymm z g)
theorem asc_filter {l : List Str} (h : Asc l) (p : Str → Bool) : sortedS (l.filter p) = true := pw_sorted ((asc_pw h).sublist List.filter_sublist)
/-- what sortedS says, place by place -/
theorem rising_ge : ∀ {l : List Str} {x : Str}, risingS x l = true → ∀ y ∈ l, ¬ Lx y x
  | [], _, _, _, m => nomatch m
  | z :: l, x, h, y, m => by
    unfold risingS at h
    rw [Bool.and_eq_true, ltCps_eq, Bool.not_eq_true', decide_eq_false_iff_not] at h
    rcases List.mem_cons.mp m with e | m
    · rw [e]
      exact h.1
    · intro q
      have h2 := rising_ge h.2 y m
      by_cases hz : Lx x z
      · exact h2 (q.trans hz)
      · exact h2 (Lx.tri hz h.1 ▸ q)
theorem rising_tail {l : List Str} {x : Str} (h : risingS x l = true) : sortedS l = true := by
  cases l with
  | nil => rfl
  | cons y l =>
    unfold risingS at h
    rw [Bool.and_eq_true] at h
    exact h.2
theorem sorted_pw : ∀ {l : List Str}, sortedS l = true → l.Nodup → l.Pairwise Lx
  | [], _, _ => .nil
  | x :: l, h, n => by
    have nn := List.nodup_cons.mp n
    refine .cons (fun y m => ?_) (sorted_pw (rising_tail h) nn.2)
    have h1 := rising_ge (show risingS x l = true from h) y m
    by_cases hz : Lx x y
    · exact hz
    · exact absurd (Lx.tri hz h1 ▸ m) nn.1
/-- strictly rising lists with the same members are equal -/
theorem pw_uniq {α : Type} {R : α → α → Prop} (irr : ∀ a, ¬ R a a) (asy : ∀ a b, R a b → ¬ R b a) : ∀ {l m : List α}, l.Pairwise R → m.Pairwise R → (∀ x, x ∈ l ↔ x ∈ m) → l = m
  | [], [], _, _, _ => rfl
  | [], y :: m, _, _, e => nomatch (e y).mpr (List.mem_cons_self ..)
  | x :: l, [], _, _, e => nomatch (e x).mp (List.mem_cons_self ..)
  | x :: l, y :: m, hl, hm, e => by
    have hl' := List.pairwise_cons.mp hl
    have hm' := List.pairwise_cons.mp hm
    have exy : x = y := by
      rcases List.mem_cons.mp ((e x).mp (List.mem_cons_self ..)) with z | z
      · exact z
      · rcases List.mem_cons.mp ((e y).mpr (List.mem_cons_self ..)) with z2 | z2
        · exact z2.symm
        · exact absurd (hm'.1 x z) (asy _ _ (hl'.1 y z2))
    subst exy
    congr 1
    refine pw_uniq irr asy hl'.2 hm'.2 fun z => ⟨fun h => ?_, fun h => ?_⟩
    · rcases List.mem_cons.mp ((e z).mp (List.mem_cons_of_mem _ h)) with q | q
      · exact absurd (q ▸ hl'.1 z h) (irr _)
      · exact q
    · rcases List.mem_cons.mp ((e z).mpr (List.mem_cons_of_mem _ h)) with q | q
      · exact absurd (q ▸ hm'.1 z h) (irr _)
      · exact q
theorem sorted_uniq {l m : List Str} (hl : sortedS l = true) (hm : sortedS m = true) (nl : l.Nodup) (nm : m.Nodup) (e : ∀ x, x ∈ l ↔ x ∈ m) : l = m :=
  pw_uniq (fun _ => Lx.irr) (fun _ _ => Lx.asymm) (sorted_pw hl nl) (sorted_pw hm nm) e
end Sc
set_option Elab.async false
set_option maxRecDepth 100000
set_option linter.all false
set_option maxHeartbeats 1000000
namespace Sc
open PySem PySem.Spec L2
open PyProof.Rows hiding St
/-- the facts that hold in the first case that meets all -/
def metM (facts : List Str) (rs : List RT) : List (List Str) := if (rs.flatMap RT.w).any (fun x => decide (x ∈ rs.flatMap RT.b)) then [] else [facts.filter fun x => decide (x ∈ rs.flatMap RT.w)]
abbrev Tri : Type := Str × Str × List Str
def hitM (e f : Row3) : Bool := decide (e.2.1.map RT.n = f.2.1.map RT.n) && (decide (e.2.2 < f.2.2) && !decide (e.1.r = f.1.r))
def oneM (facts : List Str) (e f : Row3) : List Tri := if hitM e f then (metM facts (e.2.1 ++ [e.1, f.1])).map fun c => (e.1.n, f.1.n, c) else []
def clashM (facts : List Str) (rows : List Row3) : List Tri := rows.flatMap fun e => rows.flatMap (oneM facts e)
/-- triples in the heap -/
inductive TrisAt (H : Hp) : List V → List Tri → Prop
  | nil : TrisAt H [] []
  | cons {t c : Addr} {a b : Str} {cs : List Str} {vs : List V} {ts : List Tri} : H t = some (.tup [.str a, .str b, .ref c]) → H c = some (.tup (sV cs)) → TrisAt H vs ts → TrisAt H (.ref t :: vs) ((a, b, cs) :: ts)
theorem TrisAt.mono {H H' : Hp} (k : KpI H H') : ∀ {vs : List V} {ts : List Tri}, TrisAt H vs ts → TrisAt H' vs ts
  | _, _, .nil => .nil
  | _, _, .cons h1 h2 h3 => .cons (k.tup h1) (k.tup h2) (TrisAt.mono k h3)
theorem TrisAt.app {H : Hp} : ∀ {vs us : List V} {ts ss : List Tri}, TrisAt H vs ts → TrisAt H us ss → TrisAt H (vs ++ us) (ts ++ ss)
  | _, _, _, _, .nil, h => h
  | _, _, _, _, .cons h1 h2 h3, h => .cons h1 h2 (h3.app h)
theorem TrisAt.len {H : Hp} : ∀ {vs : List V} {ts : List Tri}, TrisAt H vs ts → vs.length = ts.length
  | _, _, .nil => rfl
  | _, _, .cons _ _ h => congrArg Nat.succ h.len
theorem TupsAt.get {H : Hp} : ∀ {vs : List V} {cs : List (List Str)} {i : Nat} {v : V}, TupsAt H vs cs → vs[i]? = some v → ∃ a c, v = .ref a ∧ cs[i]? = some c ∧ H a = some (.tup (sV c))
  | _, _, _, _, .nil, e => nomatch e
  | _, _, 0, _, .cons h _, e => ⟨_, _, by cases e; rfl, rfl, h⟩
  | _, _, i + 1, _, .cons _ h, e => h.get (i := i) (by simpa using e)
theorem TupsAt.len {H : Hp} : ∀ {vs : List V} {cs : List (List Str)}, TupsAt H vs cs → vs.length = cs.length
  | _, _, .nil => rfl
  | _, _, .cons _ h => congrArg Nat.succ h.len
theorem met_uniq {facts : List Str} {rs : List RT} {cs : List (List Str)} (hf : Asc facts) (hw : ∀ r ∈ rs, ∀ x ∈ r.w, x ∈ facts) (h : MetOk rs cs) : cs = metM facts rs := by
  have e : (rs.flatMap RT.w).any (fun x => decide (x ∈ rs.flatMap RT.b)) = true ↔ ∃ x, x ∈ rs.flatMap RT.w ∧ x ∈ rs.flatMap RT.b := by
    rw [List.any_eq_true]
    exact ⟨fun ⟨x, h1, h2⟩ => ⟨x, h1, of_decide_eq_true h2⟩, fun ⟨x, h1, h2⟩ => ⟨x, h1, decide_eq_true h2⟩⟩
  unfold metM
  rcases h with ⟨h, rfl⟩ | ⟨h, ys, rfl, nd, so, m⟩
  · rw [if_pos (e.mpr h)]
  · rw [if_neg (fun z => h (e.mp z))]
    congr 1
    refine sorted_uniq so (asc_filter hf _) nd ((asc_nodup hf).sublist List.filter_sublist) fun x => ?_
    rw [m, List.mem_filter, decide_eq_true_iff]
    refine ⟨fun z => ⟨?_, z⟩, And.right⟩
    obtain ⟨r, hr, hx⟩ := List.mem_flatMap.mp z
    exact hw r hr x hx
theorem metM_len (facts : List Str) (rs : List RT) : (metM facts rs).length ≤ 1 := by
  unfold metM
  split <;> simp
theorem oneM_len (facts : List Str) (e f : Row3) : (oneM facts e f).length ≤ 1 := by
  unfold oneM
  split
  · simpa using metM_len _ _
  · simp
theorem fm_len {α β : Type} {k : Nat} {f : α → List β} (h : ∀ x, (f x).length ≤ k) : ∀ l : List α, (l.flatMap f).length ≤ l.length * k
  | [] => by simp
  | x :: l => by
    rw [List.flatMap_cons, List.length_append, List.length_cons, Nat.succ_mul]
    have := h x
    have := fm_len h l
    omega
theorem fm_take {α β : Type} {f : α → List β} {l : List α} {i : Nat} {x : α} (e : l[i]? = some x) : (l.take (i + 1)).flatMap f = (l.take i).flatMap f ++ f x := by
  rw [List.take_succ, e]
  simp
/-- what holds of the rows of a book, for its clashes -/
structure ClOk (facts : List Str) (rows : List Row3) : Prop where
  asc : Asc facts
  sub : ∀ e ∈ rows, ∀ r ∈ e.1 :: e.2.1, ∀ x ∈ r.w, x ∈ facts
  wl : ∀ e ∈ rows, ∀ r ∈ e.1 :: e.2.1, r.w.length ≤ 8
  bl : ∀ e ∈ rows, ∀ r ∈ e.1 :: e.2.1, r.b.length ≤ 8
  ol : ∀ e ∈ rows, e.2.1.length ≤ 4
  many : rows.length ≤ 60
theorem fm_le {rs : List RT} {f : RT → List Str} (hl : rs.length ≤ 6) (h : ∀ r ∈ rs, (f r).length ≤ 8) : (rs.flatMap f).length < 64 := by
  have : ∀ l : List RT, (∀ r ∈ l, (f r).length ≤ 8) → (l.flatMap f).length ≤ l.length * 8 := by
    intro l
    induction l with
    | nil => intro _; simp
    | cons a l ih =>
      intro h
      rw [List.flatMap_cons, List.length_append, List.length_cons]
      have := h a (List.mem_cons_self ..)
      have := ih fun r hr => h r (List.mem_cons_of_mem _ hr)
      omega
  have := this rs h
  omega
section
variable {P : Program} {w : World} {K : PySem.W.Frag} {mg : Str → Option Value} {base : Heap}
def spClashes : Sp := fun vs H Q _ => ∃ (b : Addr) (facts : List Str) (rules : List RT) (l : Str), vs = [.ref b] ∧ BookAt H (.ref b) facts rules l ∧ ClOk facts (rowsMA [] 0 rules) ∧
  ∀ H' p us, Same H H' → H p = none → H' p = some (.lst us) → TrisAt H' us (clashM facts (rowsMA [] 0 rules)) → Q (.ref p) H'
abbrev nClashes : List Str := ["book", "found", "one", "outer", "number", "other", "around", "later", "is_beside", "rule", "case"]
theorem sc_clashes : FnScope nClashes ["book"] (defScope s_clashes) := ⟨rfl, rfl, rfl, by decide +kernel, rfl, by decide +kernel, by decide +kernel⟩
theorem ok_clashes (T : Txt K mg) : Okd P w K mg base CX0 4 568 ["book"] spClashes := by
  obtain ⟨fd, F⟩ := T.d_clashes
  refine ⟨fd, F.ok (k := 3) sc_clashes (fun vs H Q E h => ?_) (fun cdv A outer s H vs Q E hr h => ?_), F.binds fun _ _ _ _ _ _ us hl => match us, hl with | [_], _ => rfl, F.kp⟩
  · obtain ⟨b, facts, rules, l, rfl, _⟩ := h
    rfl
  · obtain ⟨b, facts, rules, l, rfl, hb, ok, k⟩ := h
    have nd := sc_clashes.nd
    have hu := hu_of hr
    have hr2 : Room 2 _ := hr.mono (by decide)
    refine ⟨_, pss_cons (ps_set (i := 1) nd rfl (.inl rfl) (pe_lst pa_nil))
      (pss_cons (ps_for PassesOwn.never rfl (pi_list (pe_fld (pv 0) rfl)) (pg_tup rfl (pgs_cons (pg_name (i := 2) nd rfl (.inr rfl)) (pgs_cons (pg_name (i := 3) nd rfl (.inl rfl)) (pgs_cons (pg_name (i := 4) nd rfl (.inl rfl)) pgs_nil))))
        (pss_one (ps_for PassesOwn.never rfl (pi_list (pe_fld (pv 0) rfl)) (pg_tup rfl (pgs_cons (pg_name (i := 5) nd rfl (.inr rfl)) (pgs_cons (pg_name (i := 6) nd rfl (.inl rfl)) (pgs_cons (pg_name (i := 7) nd rfl (.inl rfl)) pgs_nil))))
          (pss_cons (ps_set (i := 8) nd rfl (.inl rfl) (pe_and (pe_cmpR (op_eqLS hr.units0)
              (pe_lc (own := [("rule", 9)]) (te := tR rNm (tVar 9)) rfl nd (pi_list (pv 3)) (blkOk_by (N := nClashes) (sc := defScope s_clashes) (by decide +kernel)) (fun _ _ _ _ _ => pg_name (i := 9) nd rfl (.inl rfl)) (fun _ _ _ _ _ => pts_nil) (fun _ _ _ _ _ => pe_rname T (pv 9) hr2))
              (pe_lc (own := [("rule", 9)]) (te := tR rNm (tVar 9)) rfl nd (pi_list (pv 6)) (blkOk_by (N := nClashes) (sc := defScope s_clashes) (by decide +kernel)) (fun _ _ _ _ _ => pg_name (i := 9) nd rfl (.inl rfl)) (fun _ _ _ _ _ => pts_nil) (fun _ _ _ _ _ => pe_rname T (pv 9) hr2)) (nomark _))
              (pe_one (pe_cmpR op_lt (pv 4) (pv 7) (nomark _)))))
          (pss_one (ps_if (PW.pt (pw_and (pt_val (pv 8)) (pw_and1 (pt_cmpR op_ne (pe_rruling T (pv 2) hr2) (pe_rruling T (pv 5) hr2) (nomark _)))))
            (pss_one (ps_expr (pe_bm PySem.F.plainAttrs_list PySem.F.slot_list_extend PySem.F.type_list_extend mt_extend (pv 1) (pa_cons
              (pe_lc (own := [("case", 10)]) (te := tTup (tCons (tR rNm (tVar 2)) (tCons (tR rNm (tVar 5)) (tCons (tVar 10) tNil)))) rfl nd (pi_list (pc (ok_met T) hr T.g_met_together pass0 (pa_cons (pe_op op_cat (pv 3) (pe_lst (pa_cons (pv 2) (pa_cons (pv 5) pa_nil)))) pa_nil)))
                (blkOk_by (N := nClashes) (sc := defScope s_clashes) (by decide +kernel)) (fun _ _ _ _ _ => pg_name (i := 10) nd rfl (.inl rfl)) (fun _ _ _ _ _ => pts_nil)
                (fun _ _ _ _ _ => pe_tup (pa_cons (pe_rname T (pv 2) hr2) (pa_cons (pe_rname T (pv 5) hr2) (pa_cons (pv 10) pa_nil))))) pa_nil)))) pss_nil))))))
      (pss_one (ps_ret (pv 1)))), ?_⟩
    refine ⟨by show 0 ≤ sizeLine; decide, fun p np => ?_⟩
    have s0 := same_upd (o := HO.lst []) np
    obtain ⟨_, dx, af, ar, aR, rv, us, eb, h1, h2, h3, h4, h5, h6⟩ := hb
    cases eb
    generalize hrows : rowsMA [] 0 rules = rows at h6 ok k
    have hrl := h6.len
    have hmany := ok.many
    refine ⟨_, rfl, b, cBook, dx, _, _, rfl, s0 _ _ h1, T.c_Book, T.n_Book_rows, (show _ = some (V.ref aR) by kernel_rfl), aR, rfl, ⟨us, .of (s0 _ _ h5)⟩, for_it (walk_list (xs := us)) (fun i σ H' => ∃ v2 v3 v4 v5 v6 v7 v8 v9 v10 acc, σ = [some (.ref b), some (.ref p), v2, v3, v4, v5, v6, v7, v8, v9, v10] ∧ Same H H' ∧ H' p = some (.lst acc) ∧
        TrisAt H' acc ((rows.take i).flatMap fun e => rows.flatMap (oneM facts e))) ⟨none, none, none, none, none, none, none, none, none, [], rfl, s0, upd_same, .nil⟩ (fun i σ H' _ ⟨_, _, _, _, _, _, _, _, _, _, _, s1, _⟩ => .of (s1 _ _ h5)) ?_ ?_⟩
    · rintro i x σ H1 H2 hi ⟨v2, v3, v4, v5, v6, v7, v8, v9, v10, acc0, rfl, s1, hp, hT⟩ ⟨rfl, ex⟩
      obtain ⟨e, ee, he⟩ := h6.get ex
      obtain ⟨t, rv1, ol, ov, rfl, t1, t2, t3, t4⟩ := id he
      have em : e ∈ rows := List.mem_of_getElem? ee
      have hil : i < rows.length := (List.getElem?_eq_some_iff.mp ee).1
      refine ⟨t, _, rfl, .of (s1 _ _ t1), rfl, _, _, rfl, _, _, rfl, _, _, rfl, rfl, ?_⟩
      refine ⟨_, rfl, b, cBook, dx, _, _, rfl, s1 _ _ h1, T.c_Book, T.n_Book_rows, (show _ = some (V.ref aR) by kernel_rfl), aR, rfl, ⟨us, .of (s1 _ _ h5)⟩, for_it (walk_list (xs := us)) (fun j σ H' => ∃ v5 v6 v7 v8 v9 v10 acc, σ = [some (.ref b), some (.ref p), some rv1, some (.ref ol), some (.int (e.2.2 : Nat)), v5, v6, v7, v8, v9, v10] ∧ Same H H' ∧ H' p = some (.lst acc) ∧
        TrisAt H' acc (((rows.take i).flatMap fun e => rows.flatMap (oneM facts e)) ++ (rows.take j).flatMap (oneM facts e))) ⟨v5, v6, v7, v8, v9, v10, acc0, rfl, s1, hp, by simpa using hT⟩ (fun j σ H' _ ⟨_, _, _, _, _, _, _, _, s2, _⟩ => .of (s2 _ _ h5)) ?_ ?_⟩
      · rintro j y σ H1 H2 hj ⟨v5, v6, v7, v8, v9, v10, acc, rfl, s2, hp, hT⟩ ⟨rfl, ey⟩
        obtain ⟨f, ef, hf⟩ := h6.get ey
        obtain ⟨u, rv2, ol2, ov2, rfl, u1, u2, u3, u4⟩ := id hf
        have fm : f ∈ rows := List.mem_of_getElem? ef
        have hjl : j < rows.length := (List.getElem?_eq_some_iff.mp ef).1
        have hlen := hT.len
        have hbig : (((rows.take i).flatMap fun e => rows.flatMap (oneM facts e)) ++ (rows.take j).flatMap (oneM facts e)).length ≤ 4000 := by
          rw [List.length_append]
          have q1 := fm_len (f := oneM facts e) (fun f => oneM_len facts e f) (rows.take j)
          have q2 := fm_len (f := fun e => rows.flatMap (oneM facts e)) (fun e => fm_len (f := oneM facts e) (fun f => oneM_len facts e f) rows) (rows.take i)
          rw [List.length_take] at q1 q2
          have q3 : min i rows.length * (rows.length * 1) ≤ 60 * 60 := Nat.mul_le_mul (by omega) (by omega)
          omega
        rw [fm_take ef, ← List.append_assoc]
        refine ⟨u, _, rfl, .of (s2 _ _ u1), rfl, _, _, rfl, _, _, rfl, _, _, rfl, rfl, ?_⟩
        have o1 := ok.ol e em
        have o2 := ok.ol f fm
        refine ⟨_, rfl, ol, rfl, ⟨ov, .of (s2 _ _ t3)⟩, fun D nD => ?_⟩
        refine lc_go (walk_list (xs := ov)) (by rw [t4.len, sizeLine_eq]; omega) nD (fun H3 s => .of (s _ _ (s2 _ _ t3))) (fun k acc _ => acc = sV ((e.2.1.take k).map RT.n)) (fun _ _ _ _ _ h => h) rfl ?_ ?_
        · rintro k2 y H3 H4 acc Kt Kf hk s4 rfl ⟨rfl, ez⟩ kt _
          obtain ⟨r, er, hrr⟩ := t4.get ez
          refine ⟨rfl, yes_ok ⟨_, rfl, r, RuleAt.mono (Same.kpI (same_trans s2 s4)) hrr, kt _ _ (Same.refl _) ?_⟩⟩
          rw [List.take_succ, er, List.map_append]
          simp
        · rintro H3 acc2 s3 hD rfl
          rw [t4.len, List.take_length] at hD
          have s23 := same_trans s2 s3
          refine ⟨_, rfl, ol2, rfl, ⟨ov2, .of (s23 _ _ u3)⟩, fun D2 nD2 => ?_⟩
          refine lc_go (walk_list (xs := ov2)) (by rw [u4.len, sizeLine_eq]; omega) nD2 (fun H3 s => .of (s _ _ (s23 _ _ u3))) (fun k acc _ => acc = sV ((f.2.1.take k).map RT.n)) (fun _ _ _ _ _ h => h) rfl ?_ ?_
          · rintro k2 y H4 H5 acc Kt Kf hk s4 rfl ⟨rfl, ez⟩ kt _
            obtain ⟨r, er, hrr⟩ := u4.get ez
            refine ⟨rfl, yes_ok ⟨_, rfl, r, RuleAt.mono (Same.kpI (same_trans s23 s4)) hrr, kt _ _ (Same.refl _) ?_⟩⟩
            rw [List.take_succ, er, List.map_append]
            simp
          · rintro H4 acc3 s4 hD2 rfl
            rw [u4.len, List.take_length] at hD2
            have s5 := same_trans s23 s4
            have s35 := same_trans s3 s4
            have hpz := s35 _ _ hp
            have hTz := TrisAt.mono (Same.kpI s35) hT
            refine ⟨D, D2, _, _, rfl, rfl, .of (s4 _ _ hD), .of hD2, _, rfl, ?_⟩
            by_cases c1 : e.2.1.map RT.n = f.2.1.map RT.n
            · rw [decide_eq_true c1]
              refine iteT ⟨_, rfl, _, rfl, _, _, rfl, rfl, ?_⟩
              show gName 8 (V.bl (decide (((e.2.2 : Nat) : Int) < ((f.2.2 : Nat) : Int)))) _ _ _
              by_cases c2 : e.2.2 < f.2.2
              · rw [show decide (((e.2.2 : Nat) : Int) < ((f.2.2 : Nat) : Int)) = true from decide_eq_true (by omega)]
                refine ⟨_, rfl, _, rfl, iteT ?_⟩
                refine ⟨_, rfl, e.1, RuleAt.mono (Same.kpI s5) t2, _, rfl, f.1, RuleAt.mono (Same.kpI s5) u2, rfl, _, rfl, ?_⟩
                by_cases c3 : e.1.r = f.1.r
                · rw [show (!decide (V.str e.1.r = V.str f.1.r)) = false by rw [c3]; simp]
                  refine iteF ⟨_, _, _, _, _, _, _, rfl, s5, hpz, ?_⟩
                  have e0 : oneM facts e f = [] := by unfold oneM hitM; simp [c3]
                  rw [e0, List.append_nil]
                  exact hTz
                · rw [show (!decide (V.str e.1.r = V.str f.1.r)) = true by rw [decide_eq_false (fun z => c3 (V.str.inj z))]; rfl]
                  refine iteT ⟨_, rfl, .inl ⟨rfl, _, SqL.of hpz⟩, _, rfl, _, rfl, _, rfl, by show 2 ≤ sizeLine; decide, fun q nq => ?_⟩
                  have s6 := same_upd (o := HO.lst [rv1, rv2]) nq
                  have s56 := same_trans s5 s6
                  refine ⟨ol, q, ov, [rv1, rv2], rfl, rfl, s56 _ _ t3, upd_same, by simp [t4.len]; rw [sizeLine_eq]; omega, fun q2 nq2 => ?_⟩
                  have s7 := same_upd (o := HO.lst (ov ++ [rv1, rv2])) nq2
                  have s67 := same_trans s6 s7
                  have s57 := same_trans s56 s7
                  have mem3 : ∀ r ∈ e.2.1 ++ [e.1, f.1], r ∈ e.1 :: e.2.1 ∨ r ∈ f.1 :: f.2.1 := fun r hr => by
                    rcases List.mem_append.mp hr with z | z
                    · exact .inl (List.mem_cons_of_mem _ z)
                    · rcases List.mem_cons.mp z with z | z
                      · exact .inl (z ▸ List.mem_cons_self ..)
                      · exact .inr ((List.mem_singleton.mp z) ▸ List.mem_cons_self ..)
                  have l3 : (e.2.1 ++ [e.1, f.1]).length ≤ 6 := by simp; omega
                  refine ⟨q2, ov ++ [rv1, rv2], e.2.1 ++ [e.1, f.1], rfl, upd_same, RulesAt.app (RulesAt.mono (Same.kpI s57) t4) (.cons (RuleAt.mono (Same.kpI s57) t2) (.cons (RuleAt.mono (Same.kpI s57) u2) .nil)),
                    fm_le l3 (fun r hr => (mem3 r hr).elim (ok.wl e em r) (ok.wl f fm r)), fm_le l3 (fun r hr => (mem3 r hr).elim (ok.bl e em r) (ok.bl f fm r)), fun H5 p5 cs css s8 np5 hp5 hT5 hM => ?_⟩
                  have hcss := met_uniq ok.asc (fun r hr => (mem3 r hr).elim (ok.sub e em r) (ok.sub f fm r)) hM
                  have hone : oneM facts e f = css.map fun c => (e.1.n, f.1.n, c) := by
                    unfold oneM
                    rw [if_pos (by unfold hitM; simp [c1, c2, c3]), hcss]
                  have hcl : css.length ≤ 1 := hcss ▸ metM_len _ _
                  have s68 := same_trans s67 s8
                  have s58 := same_trans s57 s8
                  refine ⟨p5, rfl, ⟨cs, .of hp5⟩, fun D3 nD3 => ?_⟩
                  refine lc_go (walk_list (xs := cs)) (by rw [hT5.len, sizeLine_eq]; omega) nD3 (fun H3 s => .of (s _ _ hp5)) (fun k acc Hx => TrisAt Hx acc ((css.take k).map fun c => (e.1.n, f.1.n, c))) (fun _ _ _ _ kp h => h.mono kp) .nil ?_ ?_
                  · rintro k2 y H6 H7 acc Kt Kf hk s9 hTr ⟨rfl, ez⟩ kt _
                    obtain ⟨ac, c, rfl, ec, hc⟩ := hT5.get ez
                    have s59 := same_trans s58 s9
                    refine ⟨rfl, yes_ok ⟨_, rfl, e.1, RuleAt.mono (Same.kpI s59) t2, _, rfl, f.1, RuleAt.mono (Same.kpI s59) u2, _, rfl, by show 3 ≤ sizeLine; decide, fun t3 nt3 => kt (.ref t3) _ (same_upd nt3) ?_⟩⟩
                    rw [List.take_succ, ec, List.map_append]
                    exact (hTr.mono (Same.kpI (same_upd nt3))).app (.cons upd_same (same_upd nt3 _ _ (s9 _ _ hc)) .nil)
                  · rintro H6 acc4 s9 hD3 hTr
                    rw [hT5.len, List.take_length, ← hone] at hTr
                    have s69 := same_trans s68 s9
                    have hTl := hTr.len
                    have hp6 := s69 _ _ hpz
                    have h1l := oneM_len facts e f
                    refine ⟨p, D3, acc, acc4, rfl, rfl, hp6, hD3, by rw [sizeLine_eq]; omega, _, _, _, _, _, _, acc ++ acc4, rfl, same_new (same_trans s58 s9) np, upd_same, ?_⟩
                    exact ((hTz.mono (Same.kpI s69)).app hTr).mono (kpI_list hp6)
              · rw [show decide (((e.2.2 : Nat) : Int) < ((f.2.2 : Nat) : Int)) = false from decide_eq_false (by omega)]
                refine ⟨_, rfl, _, rfl, iteF (iteF ⟨_, _, _, _, _, _, _, rfl, s5, hpz, ?_⟩)⟩
                have e0 : oneM facts e f = [] := by unfold oneM hitM; simp [c2]
                rw [e0, List.append_nil]
                exact hTz
            · rw [decide_eq_false c1]
              refine iteF ⟨_, rfl, _, rfl, iteF (iteF ⟨_, _, _, _, _, _, _, rfl, s5, hpz, ?_⟩)⟩
              have e0 : oneM facts e f = [] := by unfold oneM hitM; simp [c1]
              rw [e0, List.append_nil]
              exact hTz
      · rintro σ H3 ⟨v5, v6, v7, v8, v9, v10, acc, rfl, s2, hp, hT⟩
        refine ⟨_, _, _, _, _, _, _, _, _, acc, rfl, s2, hp, ?_⟩
        rw [hrl, List.take_length] at hT
        rw [fm_take ee]
        exact hT
    · rintro σ H3 ⟨v2, v3, v4, v5, v6, v7, v8, v9, v10, acc, rfl, s1, hp, hT⟩
      rw [hrl, List.take_length] at hT
      exact ⟨_, rfl, k _ p acc s1 np hp hT⟩
end
end Sc
set_option Elab.async false
set_option maxRecDepth 100000
set_option linter.all false
set_option maxHeartbeats 1000000
namespace Sc
open PySem PySem.Spec L2
open PyProof.Rows hiding St
/-! ### all rules of a tree -/
mutual
def allT (p : RT → Prop) : RT → Prop
  | .mk n w b r i => p (.mk n w b r i) ∧ allL p i
def allL (p : RT → Prop) : List RT → Prop
  | [] => True
  | r :: rs => allT p r ∧ allL p rs
end
theorem allT_iff {p : RT → Prop} {r : RT} : allT p r ↔ p r ∧ allL p r.inner := by
  cases r
  simp only [allT, RT.inner]
theorem allL_iff {p : RT → Prop} : ∀ {rs : List RT}, allL p rs ↔ ∀ r ∈ rs, allT p r
  | [] => by simp [allL]
  | r :: rs => by
    simp only [allL, List.mem_cons, forall_eq_or_imp]
    rw [allL_iff]
theorem allL_get {p : RT → Prop} {rs : List RT} {i : Nat} {r : RT} (h : allL p rs) (e : rs[i]? = some r) : p r ∧ allL p r.inner := allT_iff.mp (allL_iff.mp h r (List.mem_of_getElem? e))
/-! ### the mirror of a swap -/
def swapAt (l : List RT) (k : Nat) : List RT := match l[k]?, l[k + 1]? with
  | some a, some b => (l.set k b).set (k + 1) a
  | _, _ => l
def stepM (nm : Str) (o : List RT) (k : Nat) (l : List RT) : List RT := if o[k]?.map RT.n = some nm then swapAt l k else l
def loopM (nm : Str) (o : List RT) : Nat → List RT → List RT
  | 0, l => l
  | k + 1, l => stepM nm o k (loopM nm o k l)
mutual
def swap1 (nm : Str) : RT → RT
  | .mk n w b r i => .mk n w b r (loopM nm i (i.length - 1) (swapL nm i))
def swapL (nm : Str) : List RT → List RT
  | [] => []
  | r :: rs => swap1 nm r :: swapL nm rs
end
def swapA (nm : Str) (l : List RT) : List RT := loopM nm l (l.length - 1) (swapL nm l)
theorem swap1_eq (nm : Str) (r : RT) : swap1 nm r = .mk r.n r.w r.b r.r (swapA nm r.inner) := by
  cases r
  simp only [swap1, RT.n, RT.w, RT.b, RT.r, RT.inner, swapA]
theorem swapL_map (nm : Str) : ∀ l : List RT, swapL nm l = l.map (swap1 nm)
  | [] => by simp [swapL]
  | r :: rs => by simp [swapL, swapL_map nm rs]
theorem swapL_length (nm : Str) (l : List RT) : (swapL nm l).length = l.length := by rw [swapL_map, List.length_map]
theorem swapAt_length (l : List RT) (k : Nat) : (swapAt l k).length = l.length := by
  unfold swapAt
  split <;> simp
theorem stepM_length (nm : Str) (o : List RT) (k : Nat) (l : List RT) : (stepM nm o k l).length = l.length := by
  unfold stepM
  split
  · exact swapAt_length l k
  · rfl
theorem loopM_length (nm : Str) (o : List RT) : ∀ (k : Nat) (l : List RT), (loopM nm o k l).length = l.length
  | 0, _ => rfl
  | k + 1, l => by rw [loopM, stepM_length, loopM_length nm o k l]
theorem swapA_length (nm : Str) (l : List RT) : (swapA nm l).length = l.length := by rw [swapA, loopM_length, swapL_length]
/-! ### in the heap -/
theorem RulesAt.set {H : Hp} {v : V} {r : RT} : ∀ {vs : List V} {rs : List RT} (i : Nat), RulesAt H vs rs → RuleAt H v r → RulesAt H (vs.set i v) (rs.set i r)
  | _, _, _, .nil, _ => .nil
  | _, _, 0, .cons _ h2, h => .cons h h2
  | _, _, i + 1, .cons h1 h2, h => .cons h1 (h2.set i h)
theorem RulesAt.get' {H : Hp} {vs : List V} {rs : List RT} {i : Nat} (h : RulesAt H vs rs) (hi : i < rs.length) : ∃ v r, vs[i]? = some v ∧ rs[i]? = some r ∧ RuleAt H v r := by
  have hl := h.len
  have e : vs[i]? = some (vs[i]'(by omega)) := List.getElem?_eq_getElem _
  obtain ⟨r, er, hr⟩ := h.get e
  exact ⟨_, r, e, er, hr⟩
abbrev swOk (r : RT) : Prop := NmOk r.n ∧ NmOk r.r ∧ r.inner.length ≤ 60
/-- a range from nought -/
theorem walk_rng {n : Nat} : Walk (Itr 0 n) n (fun _ => True) (fun i H x H' => H' = H ∧ x = .int (i : Nat)) :=
  walk_range.mono (fun _ h => h) fun i H x H' _ _ h => ⟨h.1, by rw [h.2]; show V.int (0 + (i : Int)) = _; rw [Int.zero_add]⟩
theorem ixN_nat {n i : Nat} (h : i < n) : ixN n (i : Int) = some i := by
  unfold ixN
  rw [if_pos (by omega), if_pos (by omega)]
  rfl
theorem atI_nat {α : Type} (xs : List α) (i : Nat) : atI xs (i : Int) = xs[i]? := by
  unfold atI
  by_cases h : i < xs.length
  · rw [ixN_nat h]
    rfl
  · rw [List.getElem?_eq_none (by omega)]
    unfold ixN
    rw [if_pos (by omega), if_neg (by omega)]
    rfl
section
variable {P : Program} {w : World} {K : PySem.W.Frag} {mg : Str → Option Value} {base : Heap}
def spSwR (d : Nat) : Sp := fun vs H Q _ => ∃ (ar : Addr) (nm : Str) (rv : List V) (rs : List RT), vs = [.ref ar, .str nm] ∧ H ar = some (.tup rv) ∧ RulesAt H rv rs ∧ depN d rs ∧ allL swOk rs ∧ rs.length ≤ 60 ∧
  ∀ H' a us, Same H H' → H' a = some (.tup us) → RulesAt H' us (swapA nm rs) → Q (.ref a) H'
abbrev nSwR : List Str := ["rules", "name", "found", "place", "rule"]
theorem sc_swR : FnScope nSwR ["rules", "name"] (defScope s_swapped_rules) := ⟨rfl, rfl, rfl, by decide +kernel, rfl, by decide +kernel, by decide +kernel⟩
theorem ok_swR (T : Txt K mg) : ∀ d : Nat, Okd P w K mg base CX0 (d + 5) 573 ["rules", "name"] (spSwR d) := by
  intro d
  have nd := sc_swR.nd
  induction d with
  | zero =>
    obtain ⟨fd, F⟩ := T.d_swapped_rules
    refine ⟨fd, F.ok (k := 4) sc_swR (fun vs H Q E h => ?_) (fun cdv A outer s H vs Q E hr h => ?_), F.binds fun _ _ _ _ _ _ us hl => match us, hl with | [_, _], _ => rfl, F.kp⟩
    · obtain ⟨_, _, _, _, rfl, _⟩ := h
      rfl
    · obtain ⟨_, _, _, _, _, _, _, ⟨e, he, _⟩, _⟩ := h
      cases he
  | succ d ih =>
    obtain ⟨fd, F⟩ := T.d_swapped_rules
    refine ⟨fd, F.ok (k := d + 5) sc_swR (fun vs H Q E h => ?_) (fun cdv A outer s H vs Q E hr h => ?_), F.binds fun _ _ _ _ _ _ us hl => match us, hl with | [_, _], _ => rfl, F.kp⟩
    · obtain ⟨_, _, _, _, rfl, _⟩ := h
      rfl
    · obtain ⟨ar, nm, rv, rs, rfl, har, hrs, ⟨e, he, hdep⟩, hall, hlen, k⟩ := h
      cases he
      have hr2 : Room 2 _ := hr.mono (by omega)
      have hl := hrs.len
      refine ⟨_, pss_cons (ps_setLc (i := 2) (own := [("rule", 4)]) (te := tCall spWithInner [] E0 (tCons (tVar 4) (tCons (tCall (spSwR d) [] E0 (tCons (tR rInn (tVar 4)) (tCons (tVar 1) tNil))) tNil))) rfl nd rfl rfl (sw_true rfl rfl rfl rfl) (pi_tup (pv 0)) (blkOk_by (N := nSwR) (sc := defScope s_swapped_rules) (by decide +kernel))
          (fun _ _ _ _ _ => pg_name (i := 4) nd rfl (.inl rfl)) (fun _ _ _ _ _ => pts_nil) (fun _ _ _ _ _ => pc (ok_with_inner T) (hr.mono (by omega)) T.g_with_inner pass0 (pa_cons (pv 4) (pa_cons (pc ih hr T.g_swapped_rules pass0 (pa_cons (pe_rexc T (pv 4) hr2) (pa_cons (pv 1) pa_nil))) pa_nil))))
        (pss_cons (ps_for PassesOwn.never rfl (pi_range1 (by rfl) T.f_range (pa_cons (pe_op op_sub (pe_callB call_len_seq (by rfl) T.f_len PySem.boot_len (pa_cons (pv 2) pa_nil)) pe_int) pa_nil)) (pg_name (i := 3) nd rfl (.inl rfl))
          (pss_one (ps_if (pt_cmpR op_eq (pe_rname T (pe_ix ix_tup (pv 0) (pv 3) (fun _ _ => rfl)) hr2) (pv 1) (nomark _))
            (pss_one (ps_asg (pe_tup (pa_cons (pe_ix ix_list (pv 2) (pe_op op_add (pv 3) pe_int) (fun _ _ => rfl)) (pa_cons (pe_ix ix_list (pv 2) (pv 3) (fun _ _ => rfl)) pa_nil))) (pg_tup rfl (pgs_cons (pg_sub (pv 2) (pv 3) set_list) (pgs_cons (pg_sub (pv 2) (pe_op op_add (pv 3) pe_int) set_list) pgs_nil))))) pss_nil)))
        (pss_one (ps_ret (pe_callTy call_tuple_of (by rfl) T.f_tuple (by decide +kernel) (pa_cons (pv 2) pa_nil))))), ?_⟩
      refine ⟨_, rfl, ar, rfl, ⟨_, .of har⟩, fun D nD => ?_⟩
      refine lc_go (walk_tup (xs := rv)) (by rw [hl, sizeLine_eq]; omega) nD (fun H3 s => .of (s _ _ har)) (fun i acc Hx => RulesAt Hx acc ((rs.take i).map (swap1 nm))) (fun _ _ _ _ kp h => RulesAt.mono kp h) .nil ?_ ?_
      · rintro i y H3 H4 acc Kt Kf hi s4 hR ⟨rfl, ey⟩ kt _
        obtain ⟨r, er, hrr⟩ := hrs.get ey
        have hr4 := RuleAt.mono (Same.kpI s4) hrr
        obtain ⟨⟨n1, n2, n3⟩, hall2⟩ := allL_get hall er
        refine ⟨rfl, yes_ok ⟨_, rfl, _, rfl, r, hr4, fun ai ivs hai hin => ⟨_, rfl, ai, nm, ivs, r.inner, rfl, hai, hin, depN_inner (depL_get hdep er), hall2, n3, fun H5 a us s5 ha hRa => ⟨y, a, r, us, swapA nm r.inner, rfl, RuleAt.mono (Same.kpI s5) hr4, ha, hRa, n1, n2, fun H6 a2 s6 hra =>
          kt (.ref a2) _ (same_trans s5 s6) ?_⟩⟩⟩⟩
        rw [List.take_succ, er, List.map_append]
        refine (RulesAt.mono (Same.kpI (same_trans s5 s6)) hR).app (.cons ?_ .nil)
        rw [swap1_eq]
        exact hra
      · rintro H3 acc s4 hD hR
        rw [hl, List.take_length, ← swapL_map] at hR
        have al := hR.len
        rw [swapL_length] at al
        refine ⟨_, rfl, D, acc, rfl, .inl (.of hD), _, _, rfl, rfl, ?_⟩
        refine ⟨_, rfl, by omega, by omega, for_it walk_rng (fun i σ H' => ∃ v3 v4 acc, σ = [some (.ref ar), some (.str nm), some (.ref D), v3, v4] ∧ KpI H H' ∧ Frm [D] H H' ∧ H' D = some (.lst acc) ∧ RulesAt H' acc (loopM nm rs i (swapL nm rs)))
          ⟨none, none, acc, rfl, Same.kpI s4, Frm.of s4, hD, hR⟩ (fun _ _ _ _ _ => trivial) ?_ ?_⟩
        · rintro i x σ H4 H5 hi ⟨v3, v4, acc4, rfl, ki, fr, hD4, hR4⟩ ⟨rfl, rfl⟩
          have hi2 : i + 1 < rs.length := by omega
          have al4 := hR4.len
          rw [loopM_length, swapL_length] at al4
          obtain ⟨vo, ro, evo, ero, hro⟩ := hrs.get' (show i < rs.length by omega)
          refine ⟨_, rfl, _, rfl, ar, rv, i, vo, rfl, rfl, .of (ki.tup har), by rw [atI_nat]; exact evo, ro, RuleAt.mono ki hro, _, rfl, rfl, _, rfl, ite2 (fun hc => ?_) (fun hc => ?_)⟩
          · have hnm : ro.n = nm := V.str.inj (of_decide_eq_true hc)
            obtain ⟨v1, r1, ev1, er1, h1⟩ := hR4.get' (i := i) (by rw [loopM_length, swapL_length]; omega)
            obtain ⟨v2, r2, ev2, er2, h2⟩ := hR4.get' (i := i + 1) (by rw [loopM_length, swapL_length]; omega)
            refine ⟨_, rfl, _, rfl, _, _, rfl, rfl, D, acc4, _, v2, rfl, rfl, .of hD4, by rw [show ((i : Int) + 1) = ((i + 1 : Nat) : Int) by omega, atI_nat]; exact ev2, _, rfl, _, rfl, D, acc4, _, v1, rfl, rfl, .of hD4, by rw [atI_nat]; exact ev1, by show 2 ≤ sizeLine; decide, fun t nt => ?_⟩
            have st := same_upd (o := HO.tup [v2, v1]) nt
            have hD5 := st _ _ hD4
            refine ⟨t, _, rfl, .of upd_same, rfl, _, _, rfl, ⟨_, rfl, _, rfl, D, acc4, _, i, rfl, rfl, hD5, ixN_nat (by omega), _, _, rfl, ⟨_, rfl, _, rfl, _, _, rfl, rfl, D, _, _, i + 1, rfl, rfl, upd_same, ?_, rfl, ?_⟩⟩⟩
            · rw [show ((i : Int) + 1) = ((i + 1 : Nat) : Int) by omega]
              exact ixN_nat (by rw [List.length_set]; omega)
            · rw [upd_upd]
              refine ⟨_, _, _, rfl, ki.trans ((Same.kpI st).trans (kpI_list hD5)), fun b o q hb => ?_, upd_same, ?_⟩
              · rw [upd_ne (fun z => hb (List.mem_singleton.mpr z))]
                exact st _ _ (fr _ _ q hb)
              · have hk := ((Same.kpI st).trans (kpI_list (ys := (acc4.set i v2).set (i + 1) v1) hD5))
                have e2 : loopM nm rs (i + 1) (swapL nm rs) = ((loopM nm rs i (swapL nm rs)).set i r2).set (i + 1) r1 := by
                  rw [loopM, stepM, if_pos (by rw [ero, ← hnm]; rfl), swapAt, er1, er2]
                rw [e2]
                exact ((RulesAt.mono hk hR4).set i (RuleAt.mono hk h2)).set (i + 1) (RuleAt.mono hk h1)
          · refine ⟨_, _, acc4, rfl, ki, fr, hD4, ?_⟩
            rw [loopM, stepM, if_neg]
            · exact hR4
            · rw [ero]
              intro z
              exact hc (decide_eq_true (congrArg V.str (Option.some.inj z)))
        · rintro σ H4 ⟨v3, v4, acc4, rfl, ki, fr, hD4, hR4⟩
          have e3 : ((acc.length : Int) - 1).toNat = rs.length - 1 := by omega
          rw [e3] at hR4
          refine ⟨_, rfl, D, acc4, rfl, .inl ⟨.of hD4, fun a na => k _ a acc4 (fun b o q => ?_) upd_same (RulesAt.mono (Same.kpI (same_upd na)) hR4)⟩⟩
          have hb : b ≠ D := fun z => by rw [z] at q; rw [nD] at q; cases q
          have q4 := fr _ _ q (fun z => hb (List.mem_singleton.mp z))
          exact same_upd na _ _ q4
end
end Sc
set_option Elab.async false
set_option maxRecDepth 100000
set_option linter.all false
set_option maxHeartbeats 1000000
namespace Sc
open PySem PySem.Spec L2
open PyProof.Rows hiding St
/-- the rules beside a row's rule -/
def sibs (rules : List RT) (e : Row3) : List RT := match e.2.1.getLast? with
  | some r => r.inner
  | none => rules
section
variable {P : Program} {w : World} {K : PySem.W.Frag} {mg : Str → Option Value} {base : Heap}
def spSwapped : Sp := fun vs H Q E => ∃ (b : Addr) (nm : Str) (facts : List Str) (rules : List RT) (l : Str), vs = [.ref b, .str nm] ∧ BookAt H (.ref b) facts rules l ∧ depN 5 rules ∧ allL swOk rules ∧ rules.length ≤ 60 ∧ BookOk facts (swapA nm rules) l ∧
  (nm ∉ (rowsMA [] 0 rules).map (·.1.n) → ∀ H', Same H H' → E (.ref 173) none H') ∧
  ∀ e, e ∈ rowsMA [] 0 rules → e.1.n = nm → (e.2.2 + 1 = (sibs rules e).length → ∀ H', Same H H' → E (.ref 266) none H') ∧
    (e.2.2 + 1 ≠ (sibs rules e).length → ∀ H' a, Same H H' → BookAt H' (.ref a) facts (swapA nm rules) l → Q (.ref a) H')
abbrev nSwp : List Str := ["book", "name", "rule", "outer", "number", "beside"]
theorem sc_swp : FnScope nSwp ["book", "name"] (defScope s_swapped) := ⟨rfl, rfl, rfl, by decide +kernel, rfl, by decide +kernel, by decide +kernel⟩
theorem ok_swapped (T : Txt K mg) : Okd P w K mg base (L2.CX P w) 11 580 ["book", "name"] spSwapped := by
  obtain ⟨fd, F⟩ := T.d_swapped
  have nd := sc_swp.nd
  refine ⟨fd, F.okX (k := 10) sc_swp (fun vs H Q E h => ?_) (fun cdv A outer s H vs Q E hr h => ?_), F.binds fun _ _ _ _ _ _ us hl => match us, hl with | [_, _], _ => rfl, F.kp⟩
  · obtain ⟨b, nm, facts, rules, l, rfl, _⟩ := h
    rfl
  · obtain ⟨b, nm, facts, rules, l, rfl, hb, hd, hall, hlen, ok, kU, kE⟩ := h
    have x := T.x_NoNeighbor
    have hr2 : Room 2 _ := hr.mono (by decide)
    refine ⟨_, pss_cons (ps_asg (pmeth (pv 0) T.c_Book T.t_row_of (ok_row_of T) (hr.mono (by decide)) (passes_call (takes_of rfl rfl rfl rfl) (fun _ _ _ _ h => h)) (pa_cons (pv 1) pa_nil))
        (pg_tup rfl (pgs_cons (pg_name (i := 2) nd rfl (.inl rfl)) (pgs_cons (pg_name (i := 3) nd rfl (.inl rfl)) (pgs_cons (pg_name (i := 4) nd rfl (.inl rfl)) pgs_nil)))))
      (pss_cons (ps_set (i := 5) nd rfl (.inl rfl) (pe_ifExp (pt_cmpR (op_neL0 hr.units0) (pv 3) (pe_lst pa_nil) (nomark _)) (pe_rexc T (pe_ix ix_list (pv 3) (pe_un un_neg pe_int) (fun _ _ => rfl)) hr2) (pe_brules T (pv 0) hr2)))
      (pss_cons (ps_if (pt_cmpR op_eq (pv 4) (pe_op op_sub (pe_callB call_len_seq (by rfl) T.f_len PySem.boot_len (pa_cons (pv 5) pa_nil)) pe_int) (nomark _))
        (pss_one (ps_raise rfl (takes_of rfl rfl rfl rfl) (pmk_own PySem.F.excBase_ValueError x.h1 T.g_NoNeighbor x.h2 (raises_own x.h3 x.h4) (by exact rfl)))) pss_nil)
      (pss_one (ps_ret (pmk T.m_Book (ok_book_init T) (hr.mono (by decide)) T.g_Book pass0 (pa_cons (pe_bfacts T (pv 0) hr2) (pa_cons (pc (ok_swR T 5) hr T.g_swapped_rules pass0 (pa_cons (pe_brules T (pv 0) hr2) (pa_cons (pv 1) pa_nil))) (pa_cons (pe_bruling T (pv 0) hr2) pa_nil)))))))), ?_⟩
    obtain ⟨_, dx, af, ar, aR, rv0, us, eb, b1, b2, b3, b4, b5, b6⟩ := id hb
    cases eb
    refine ⟨_, rfl, b, dx, _, rfl, b1, by kernel_rfl, _, rfl, b, nm, facts, rules, l, rfl, hb, fun e H1 v he hn s1 hE => ?_, kU⟩
    obtain ⟨k1, k2⟩ := kE e he hn
    obtain ⟨t, rv, ol, ov, rfl, h1, h2, h3, h4⟩ := hE
    refine ⟨t, _, rfl, .of h1, rfl, _, _, rfl, _, _, rfl, _, _, rfl, rfl, ?_⟩
    refine ⟨_, rfl, by show 0 ≤ sizeLine; decide, fun p np => ⟨ol, p, ov, rfl, rfl, .of (same_upd np _ _ h3), .of upd_same, _, rfl, ?_⟩⟩
    have s2 := same_trans s1 (same_upd (o := HO.lst []) np)
    have h3' := same_upd (o := HO.lst []) np _ _ h3
    have h4' := RulesAt.mono (Same.kpI (same_upd (o := HO.lst []) np)) h4
    generalize hH2 : upd H1 p (.lst []) = H2 at s2 h3' h4'
    have bk2 := BookAt.mono (Same.extN s2) hb
    have fin : ∀ v2 v3 v4 v5, e.2.2 + 1 ≠ (sibs rules e).length → tRet (tMake cBook spBook [] E0 (tCons (tR rBF (tVar 0)) (tCons (tCall (spSwR 5) [] E0 (tCons (tR rBR (tVar 0)) (tCons (tVar 1) tNil))) (tCons (tR rBL (tVar 0)) tNil)))) { nx := fun _ H' => Q .non H', rt := Q } [some (.ref b), some (.str nm), v2, v3, v4, v5] H2 := by
      intro v2 v3 v4 v5 hne
      refine ⟨_, rfl, facts, rules, l, bk2, fun af2 haf => ⟨_, rfl, facts, rules, l, bk2, fun ar2 rv2 har hra => ⟨_, rfl, ar2, nm, rv2, rules, rfl, har, hra, hd, hall, hlen, fun H3 a us2 s3 ha hR => ⟨_, rfl, facts, rules, l, BookAt.mono (Same.extN s3) bk2, ?_⟩⟩⟩⟩
      exact mkBook (s3 _ _ haf) ha hR ok fun a2 H4 s4 hbk => k2 hne H4 a2 (same_trans (same_trans s2 s3) s4) hbk
    by_cases he0 : e.2.1 = []
    · have o0 : ov = [] := List.eq_nil_of_length_eq_zero (by rw [h4.len, he0]; rfl)
      subst o0
      refine iteF ⟨_, rfl, facts, rules, l, bk2, fun a rv2 ha hra => ?_⟩
      have hs : sibs rules e = rules := by unfold sibs; rw [he0]; rfl
      have hl2 := hra.len
      refine ⟨_, rfl, _, rfl, a, rv2, rfl, .inr (.of ha), _, _, rfl, rfl, rfl, _, rfl, ite2 (fun hc => ?_) (fun hc => ?_)⟩
      · have hc2 := V.int.inj (of_decide_eq_true hc)
        exact k1 (by rw [hs]; omega) _ s2
      · exact fin _ _ _ _ fun z => hc (decide_eq_true (congrArg V.int (by rw [hs] at z; omega)))
    · have ol1 := h4.len
      have ope : 0 < e.2.1.length := List.length_pos_iff.mpr he0
      obtain ⟨vl, rl, evl, erl, hrl⟩ := h4'.get' (i := e.2.1.length - 1) (by omega)
      have hne : (!ov.isEmpty) = true := by
        cases ov with
        | nil => simp at ol1; omega
        | cons _ _ => rfl
      rw [hne]
      have hs : sibs rules e = rl.inner := by unfold sibs; rw [List.getLast?_eq_getElem?, erl]
      refine iteT ⟨_, rfl, _, rfl, ol, ov, -1, vl, rfl, rfl, .of h3', ?_, rl, hrl, fun a rv2 ha hra => ?_⟩
      · unfold atI ixN
        rw [if_neg (by omega), if_pos (by omega)]
        show ov[((-1 : Int) + (ov.length : Nat)).toNat]? = _
        rw [← evl]
        congr 1
        omega
      · have hl2 := hra.len
        refine ⟨_, rfl, _, rfl, a, rv2, rfl, .inr (.of ha), _, _, rfl, rfl, rfl, _, rfl, ite2 (fun hc => ?_) (fun hc => ?_)⟩
        · have hc2 := V.int.inj (of_decide_eq_true hc)
          exact k1 (by rw [hs]; omega) _ s2
        · exact fin _ _ _ _ fun z => hc (decide_eq_true (congrArg V.int (by rw [hs] at z; omega)))
end
end Sc
set_option Elab.async false
set_option maxRecDepth 100000
set_option linter.all false
set_option maxHeartbeats 1000000
namespace Sc
open PySem PySem.Spec L2
open PyProof.Rows hiding St
/-! ### the law's draws -/
abbrev iV (l : List Int) : List V := l.map V.int
/-- a source of draws: its list at a, its cells at c -/
def Src (H : Hp) (a c : Addr) : Prop := a ≠ c ∧ ∃ (st : Int) (k : Nat) (ns : List Int), H a = some (.lst [.int st, .ref c, .int (k : Nat)]) ∧ H c = some (.lst (iV ns)) ∧ ns.length ≤ 63
theorem iV_get {l : List Int} {i : Nat} {v : V} (h : (iV l)[i]? = some v) : ∃ x, l[i]? = some x ∧ v = .int x := by
  rw [List.getElem?_map] at h
  cases e : l[i]? with
  | none => rw [e] at h; cases h
  | some x => rw [e] at h; exact ⟨x, rfl, (Option.some.inj h).symm⟩
theorem Src.frm {H H' : Hp} {a c : Addr} (h : Src H a c) {S : List Addr} (f : Frm S H H') (ha : a ∉ S) (hc : c ∉ S) : Src H' a c := by
  obtain ⟨n, st, k, ns, h1, h2, h3⟩ := h
  exact ⟨n, st, k, ns, f _ _ h1 ha, f _ _ h2 hc, h3⟩
theorem Src.same {H H' : Hp} {a c : Addr} (h : Src H a c) (f : Same H H') : Src H' a c := h.frm (S := []) (Frm.of f) (by simp) (by simp)
/-- what never changes stays behind a draw -/
theorem Src.kpI {H H' : Hp} {a c : Addr} (h : Src H a c) (f : Frm [a, c] H H') : KpI H H' := fun b o e m => f b o e fun z => by
  obtain ⟨_, st, k, ns, h1, h2, _⟩ := h
  rcases List.mem_cons.mp z with z | z
  · subst z
    rw [h1] at e
    cases e
    exact m
  · rw [List.mem_singleton.mp z, h2] at e
    cases e
    exact m
section
variable {P : Program} {w : World} {K : PySem.W.Frag} {mg : Str → Option Value} {base : Heap}
def spMix (K : PySem.W.Frag) : Sp := fun vs H Q _ => ∃ (sc : Addr) (seed : Int) (ns : List Int), vs = [.ref sc, .int seed] ∧ (∀ H', Same H H' → SqL K H' sc (iV ns)) ∧ ns.length ≤ 63 ∧ ∀ H' a c, Same H H' → H a = none → H c = none → Src H' a c → Q (.ref a) H'
abbrev nMix : List Str := ["_law_script", "_law_seed", "_law_state", "_law_cell"]
theorem sc_mix : FnScope nMix ["_law_script", "_law_seed"] (defScope s_law_mix) := ⟨rfl, rfl, rfl, by decide +kernel, rfl, by decide +kernel, by decide +kernel⟩
theorem ok_mix (T : Txt K mg) : Okd P w K mg base CX0 1 663 ["_law_script", "_law_seed"] (spMix K) := by
  obtain ⟨fd, F⟩ := T.d_law_mix
  have nd := sc_mix.nd
  refine ⟨fd, F.ok (k := 0) sc_mix (fun vs H Q E h => ?_) (fun cdv A outer s H vs Q E hr h => ?_), F.binds fun _ _ _ _ _ _ us hl => match us, hl with | [_, _], _ => rfl, F.kp⟩
  · obtain ⟨sc, seed, ns, rfl, _⟩ := h
    rfl
  · obtain ⟨sc, seed, ns, rfl, hsc, hlen, k⟩ := h
    refine ⟨_, pss_cons (ps_set (i := 2) nd rfl (.inl rfl) (pv 1))
      (pss_cons (ps_for PassesOwn.never rfl (pi_list (pv 0)) (pg_name (i := 3) nd rfl (.inl rfl))
        (pss_one (ps_set (i := 2) nd rfl (.inl rfl) (pe_op op_mod (pe_callTy call_int1 (by rfl) T.f_int (by decide +kernel) (pa_cons (pe_op op_add (pe_op op_add (pe_op op_mul (pv 2) pe_int) (pe_op op_mod (pe_callTy call_int1 (by rfl) T.f_int (by decide +kernel) (pa_cons (pv 3) pa_nil)) pe_int)) pe_int) pa_nil)) pe_int))))
      (pss_one (ps_ret (pe_lst (pa_cons (pv 2) (pa_cons (pe_callTy call_list_of (by rfl) T.f_list (by decide +kernel) (pa_cons (pv 0) pa_nil)) (pa_cons pe_int pa_nil))))))), ?_⟩
    refine ⟨_, rfl, _, rfl, sc, rfl, ⟨_, hsc _ (Same.refl _)⟩, for_it (walk_list (xs := iV ns)) (fun i σ H' => H' = H ∧ ∃ st v3, σ = [some (.ref sc), some (.int seed), some (.int st), v3]) ⟨rfl, _, _, rfl⟩ (fun i σ H' _ h => by rw [h.1]; exact hsc _ (Same.refl _)) ?_ ?_⟩
    · rintro i x σ H1 H2 hi ⟨rfl, st, v3, rfl⟩ ⟨rfl, ex⟩
      obtain ⟨n, en, rfl⟩ := iV_get ex
      refine ⟨_, rfl, _, _, rfl, rfl, .inr (by decide), _, rfl, .inl ⟨n, rfl, _, _, rfl, rfl, (by show (0 : Int) < 2147483629; decide), _, _, rfl, rfl, _, _, rfl, rfl, .inl ⟨_, rfl, _, _, rfl, rfl, (by show (0 : Int) < 2147483647; decide), rfl, _, _, rfl⟩⟩⟩
    · rintro σ H1 ⟨rfl, st, v3, rfl⟩
      refine ⟨_, rfl, _, rfl, sc, _, rfl, .inl (hsc _ (Same.refl _)), fun c nc => ⟨by show 3 ≤ sizeLine; decide, fun a na => ?_⟩⟩
      have ac : a ≠ c := fun z => by rw [z, upd_same] at na; cases na
      refine k _ a c (same_trans (same_upd nc) (same_upd na)) ((same_upd nc).free na) nc ⟨ac, st, 0, ns, upd_same, ?_, hlen⟩
      rw [upd_ne ac.symm]
      exact upd_same
/-! ### the next number -/
def spNext : Sp := fun vs H Q _ => ∃ (a c : Addr) (lim : Int), vs = [.ref a, .int lim] ∧ Src H a c ∧ 0 < lim ∧ lim < 1073741824 ∧ ∀ H' (r : Nat), (r : Int) < lim → Frm [a, c] H H' → Src H' a c → Q (.int (r : Nat)) H'
abbrev nNext : List Str := ["_law_h", "_law_limit", "_law_cell"]
theorem sc_next : FnScope nNext ["_law_h", "_law_limit"] (defScope s_law_next) := ⟨rfl, rfl, rfl, by decide +kernel, rfl, by decide +kernel, by decide +kernel⟩
theorem ok_next (T : Txt K mg) : Okd P w K mg base CX0 1 670 ["_law_h", "_law_limit"] spNext := by
  obtain ⟨fd, F⟩ := T.d_law_next
  have nd := sc_next.nd
  refine ⟨fd, F.ok (k := 0) sc_next (fun vs H Q E h => ?_) (fun cdv A outer s H vs Q E hr h => ?_), F.binds fun _ _ _ _ _ _ us hl => match us, hl with | [_, _], _ => rfl, F.kp⟩
  · obtain ⟨a, c, lim, rfl, _⟩ := h
    rfl
  · obtain ⟨a, c, lim, rfl, ⟨hac, st, kk, ns, ha, hc, hlen⟩, h0, h30, k⟩ := h
    refine ⟨_, pss_cons (ps_set (i := 2) nd rfl (.inl rfl) (pe_ix ix_list (pe_op op_cat (pe_ix ix_list (pv 0) pe_int (fun _ _ => rfl)) (pe_lst (pa_cons pe_int pa_nil)))
        (pe_op op_mod (pe_callTy call_int1 (by rfl) T.f_int (by decide +kernel) (pa_cons (pe_ix ix_list (pv 0) pe_int (fun _ _ => rfl)) pa_nil)) (pe_callB (call_max2 rfl) (by rfl) T.f_max (by decide +kernel) (pa_cons pe_int (pa_cons (pe_callB call_len_seq (by rfl) T.f_len PySem.boot_len (pa_cons (pe_ix ix_list (pv 0) pe_int (fun _ _ => rfl)) pa_nil)) pa_nil)))) (fun _ _ => rfl)))
      (pss_cons (ps_if (pt_cmpR op_ge (pv 2) (pe_op op_pow pe_int pe_int) (nomark _))
        (pss_cons (ps_asg (pe_op op_fdiv (pv 2) (pv 1)) (pg_sub (pe_ix ix_list (pv 0) pe_int (fun _ _ => rfl)) (pe_op op_mod (pe_callTy call_int1 (by rfl) T.f_int (by decide +kernel) (pa_cons (pe_ix ix_list (pv 0) pe_int (fun _ _ => rfl)) pa_nil)) (pe_callB call_len_seq (by rfl) T.f_len PySem.boot_len (pa_cons (pe_ix ix_list (pv 0) pe_int (fun _ _ => rfl)) pa_nil))) set_list))
          (pss_one (ps_ret (pe_op op_mod (pe_callTy call_int1 (by rfl) T.f_int (by decide +kernel) (pa_cons (pv 2) pa_nil)) (pv 1))))) pss_nil)
      (pss_cons (ps_asg (pe_op op_mod (pe_callTy call_int1 (by rfl) T.f_int (by decide +kernel) (pa_cons (pe_op op_add (pe_op op_add (pe_op op_mul (pe_ix ix_list (pv 0) pe_int (fun _ _ => rfl)) pe_int) (pe_op op_mul (pv 2) pe_int)) pe_int) pa_nil)) pe_int) (pg_sub (pv 0) pe_int set_list))
      (pss_cons (ps_asg (pe_op op_add (pe_ix ix_list (pv 0) pe_int (fun _ _ => rfl)) pe_int) (pg_sub (pv 0) pe_int set_list))
      (pss_one (ps_ret (pe_op op_mod (pe_callTy call_int1 (by rfl) T.f_int (by decide +kernel) (pa_cons (pe_op op_fdiv (pe_ix ix_list (pv 0) pe_int (fun _ _ => rfl)) pe_int) pa_nil)) (pv 1))))))), ?_⟩
    obtain ⟨m, hm, hm0, hm1⟩ : ∃ m : Nat, (if ((iV ns).length : Int) > 1 then ((iV ns).length : Int) else 1) = (m : Int) ∧ 0 < m ∧ (ns = [] ∧ m = 1 ∨ m = ns.length) := by
      rw [List.length_map]
      by_cases h : (ns.length : Int) > 1
      · exact ⟨ns.length, by rw [if_pos h], by omega, .inr rfl⟩
      · refine ⟨1, by rw [if_neg h]; rfl, by decide, ?_⟩
        cases ns with
        | nil => exact .inl ⟨rfl, rfl⟩
        | cons x l => exact .inr (by have : (x :: l).length = l.length + 1 := rfl; omega)
    have hj : kk % m < m := Nat.mod_lt _ hm0
    obtain ⟨cv, ecv, hcv⟩ : ∃ cv : Int, (iV ns ++ [V.int 0])[kk % m]? = some (.int cv) ∧ (ns = [] → cv = 0) := by
      rcases hm1 with ⟨rfl, rfl⟩ | rfl
      · exact ⟨0, by rw [Nat.mod_one]; rfl, fun _ => rfl⟩
      · refine ⟨ns[kk % ns.length], ?_, fun z => ?_⟩
        · rw [List.getElem?_append_left (by rw [List.length_map]; exact hj), List.getElem?_map, List.getElem?_eq_getElem hj]
          rfl
        · rw [z] at hm0
          exact absurd hm0 (by decide)
    refine ⟨_, rfl, a, _, 1, .ref c, rfl, rfl, .of ha, rfl, by show 1 ≤ sizeLine; decide, fun p np => ?_⟩
    have s1 := same_upd (o := HO.lst [V.int 0]) np
    refine ⟨c, p, iV ns, [.int 0], rfl, rfl, s1 _ _ hc, upd_same, by simp; rw [sizeLine_eq]; omega, fun q nq => ?_⟩
    have s2 := same_trans s1 (same_upd (o := HO.lst (iV ns ++ [V.int 0])) nq)
    have hq : (upd (upd H p (.lst [V.int 0])) q (.lst (iV ns ++ [V.int 0]))) q = some (.lst (iV ns ++ [V.int 0])) := upd_same
    generalize hHa : upd (upd H p (.lst [V.int 0])) q (.lst (iV ns ++ [V.int 0])) = Ha at s2 hq
    have ha2 := s2 _ _ ha
    have hc2 := s2 _ _ hc
    refine ⟨_, rfl, a, _, 2, .int (kk : Nat), rfl, rfl, .of ha2, rfl, .inl ⟨_, rfl, _, rfl, a, _, 1, .ref c, rfl, rfl, .of ha2, rfl, c, _, rfl, .inl (.of hc2), _, _, rfl, ?_⟩⟩
    rw [hm]
    refine ⟨_, _, rfl, rfl, by omega, q, _, _, .int cv, rfl, rfl, .of hq, by rw [show ((kk : Int) % (m : Int)) = ((kk % m : Nat) : Int) by omega, atI_nat]; exact ecv, ?_⟩
    refine ⟨_, rfl, _, _, rfl, rfl, ⟨by decide, by decide, by decide⟩, _, _, rfl, rfl, _, rfl, ite2 (fun hg => ?_) (fun hg => ?_)⟩
    · have hgc : (10 : Int) ^ 18 ≤ cv := of_decide_eq_true hg
      have hnl : ns ≠ [] := fun z => by rw [hcv z] at hgc; exact absurd hgc (by decide)
      have hmn : m = ns.length := hm1.elim (fun z => absurd z.1 hnl) id
      subst hmn
      refine ⟨_, rfl, _, rfl, _, _, rfl, rfl, ⟨h0, h30⟩, _, rfl, a, _, 1, .ref c, rfl, rfl, .of ha2, rfl, _, rfl, a, _, 2, _, rfl, rfl, .of ha2, rfl, .inl ⟨_, rfl, _, rfl, a, _, 1, _, rfl, rfl, .of ha2, rfl, c, _, rfl, .inl (.of hc2), _, _, rfl, rfl, by rw [List.length_map]; omega, c, _, _, kk % ns.length, rfl, rfl, hc2, ?_, ?_⟩⟩
      · rw [List.length_map, show ((kk : Int) % (ns.length : Int)) = ((kk % ns.length : Nat) : Int) by omega]
        exact ixN_nat hj
      · refine ⟨_, rfl, .inl ⟨_, rfl, _, rfl, _, _, rfl, rfl, h0, ?_⟩⟩
        obtain ⟨r, hr⟩ := Int.eq_ofNat_of_zero_le (Int.emod_nonneg cv (by omega : lim ≠ 0))
        have hr2 := Int.emod_lt_of_pos cv h0
        have e : (iV ns).set (kk % ns.length) (.int (cv / lim)) = iV (ns.set (kk % ns.length) (cv / lim)) := List.map_set.symm
        show Q (.int (cv % lim)) _
        rw [hr, e]
        refine k _ r (by omega) (fun b o e hb => ?_) ⟨hac, st, kk, _, ?_, upd_same, by rw [List.length_set]; exact hlen⟩
        · rw [upd_ne (fun z => hb (by rw [z]; simp))]
          exact s2 _ _ e
        · rw [upd_ne hac]
          exact ha2
    · refine ⟨_, rfl, a, _, 0, .int st, rfl, rfl, .of ha2, rfl, _, _, rfl, rfl, .inr (by decide), _, rfl, _, _, rfl, rfl, .inr (by decide), _, _, rfl, rfl, _, _, rfl, rfl, .inl ⟨_, rfl, _, _, rfl, rfl, (by show (0 : Int) < 2147483647; decide), _, rfl, a, _, _, 0, rfl, rfl, ha2, rfl, ?_⟩⟩
      refine ⟨_, rfl, a, _, 2, .int (kk : Nat), rfl, rfl, .of upd_same, rfl, _, _, rfl, rfl, _, rfl, a, _, _, 2, rfl, rfl, upd_same, rfl, ?_⟩
      rw [upd_upd]
      refine ⟨_, rfl, a, _, 0, _, rfl, rfl, .of upd_same, rfl, _, _, rfl, rfl, ⟨by decide, by decide⟩, .inl ⟨_, rfl, _, rfl, _, _, rfl, rfl, h0, ?_⟩⟩
      obtain ⟨st2, est⟩ : ∃ st2, st2 = (st * 48271 + cv * 69621 + 11) % 2147483647 := ⟨_, rfl⟩
      rw [show (fun i j : Int => V.int (i % j)) (st * 48271 + cv * 69621 + 11) 2147483647 = V.int st2 by rw [est]]
      try rw [← est]
      obtain ⟨r, hr⟩ := Int.eq_ofNat_of_zero_le (Int.emod_nonneg (st2 / 7) (by omega : lim ≠ 0))
      have hr2 := Int.emod_lt_of_pos (st2 / 7) h0
      show Q (.int (st2 / 7 % lim)) _
      rw [hr]
      refine k _ r (by omega) (fun b o e hb => ?_) ⟨hac, st2, kk + 1, ns, upd_same, ?_, hlen⟩
      · rw [upd_ne (fun z => hb (by rw [z]; simp))]
        exact s2 _ _ e
      · rw [upd_ne hac.symm]
        exact hc2
end
end Sc
set_option Elab.async false
set_option maxRecDepth 100000
set_option linter.all false
set_option maxHeartbeats 1000000
namespace Sc
open PySem PySem.Spec L2
open PyProof.Rows hiding St
def ALLF : List Str := ["age", "bad", "cold", "dear", "early", "first", "good", "hot", "idle", "just", "keen", "late"]
theorem erase_sV : ∀ (l : List Str) (k : Nat), (sV l).eraseIdx k = sV (l.eraseIdx k)
  | [], _ => rfl
  | _ :: _, 0 => rfl
  | x :: l, k + 1 => congrArg (V.str x :: ·) (erase_sV l k)
theorem Src.ne {H : Hp} {a c p : Addr} (h : Src H a c) (n : H p = none) : p ≠ a ∧ p ≠ c := by
  obtain ⟨_, st, k, ns, h1, h2, _⟩ := h
  exact ⟨(fun z => by rw [z, h1] at n; cases n), (fun z => by rw [z, h2] at n; cases n)⟩
theorem Src.upd {H : Hp} {a c p : Addr} {o : HO} (h : Src H a c) (n1 : p ≠ a) (n2 : p ≠ c) : Src (L2.upd H p o) a c := by
  obtain ⟨n, st, k, ns, h1, h2, h3⟩ := h
  exact ⟨n, st, k, ns, by rw [upd_ne n1.symm]; exact h1, by rw [upd_ne n2.symm]; exact h2, h3⟩
theorem Frm.upd {S : List Addr} {H H' : Hp} {p : Addr} {o : HO} (f : Frm S H H') (n : H p = none) : Frm S H (L2.upd H' p o) := fun b u e hb => by
  rw [upd_ne (ne_of_none e n)]
  exact f b u e hb
theorem Frm.then {S : List Addr} {H H1 H2 : Hp} (f : Frm S H H1) (g : Same H1 H2) : Frm S H H2 := f.trans (Frm.of g)
theorem Frm.at {S : List Addr} {H H' : Hp} (f : Frm S H H') {b : Addr} {o : HO} (e : H b = some o) (hb : b ∉ S := by simp) : H' b = some o := f b o e hb
theorem nin2 {a c p : Addr} (h : p ≠ a ∧ p ≠ c) : p ∉ [a, c] := fun z => by
  rcases List.mem_cons.mp z with z | z
  · exact h.1 z
  · exact h.2 (List.mem_singleton.mp z)
theorem sV_snoc (l : List Str) (x : Str) : sV (l ++ [x]) = sV l ++ [V.str x] := List.map_append
/-- a tuple is no part of a source -/
theorem Src.nt {H : Hp} {a c p : Addr} {xs : List V} (h : Src H a c) (e : H p = some (.tup xs)) : p ∉ [a, c] := by
  obtain ⟨_, st, k, ns, h1, h2, _⟩ := h
  exact nin2 ⟨(fun z => by rw [← z, e] at h1; cases h1), (fun z => by rw [← z, e] at h2; cases h2)⟩
section
variable {P : Program} {w : World} {K : PySem.W.Frag} {mg : Str → Option Value} {base : Heap}
def spFacts : Sp := fun vs H Q _ => ∃ (a c : Addr) (n : Nat), vs = [.ref a, .int (n : Nat)] ∧ Src H a c ∧ n ≤ 12 ∧ ∀ H' t fs, Frm [a, c] H H' → Src H' a c → H' t = some (.tup (sV fs)) → fs.Sublist ALLF → fs.length = n → Q (.ref t) H'
abbrev nFacts : List Str := ["_law_h", "_law_count", "_law_some"]
theorem sc_facts : FnScope nFacts ["_law_h", "_law_count"] (defScope s_law_facts) := ⟨rfl, rfl, rfl, by decide +kernel, rfl, by decide +kernel, by decide +kernel⟩
theorem ok_facts (T : Txt K mg) : Okd P w K mg base CX0 2 689 ["_law_h", "_law_count"] spFacts := by
  obtain ⟨fd, F⟩ := T.d_law_facts
  have nd := sc_facts.nd
  refine ⟨fd, F.ok (k := 1) sc_facts (fun vs H Q E h => ?_) (fun cdv A outer s H vs Q E hr h => ?_), F.binds fun _ _ _ _ _ _ us hl => match us, hl with | [_, _], _ => rfl, F.kp⟩
  · obtain ⟨a, c, n, rfl, _⟩ := h
    rfl
  · obtain ⟨a, c, n, rfl, hs, hn, k⟩ := h
    refine ⟨_, pss_cons (ps_set (i := 2) nd rfl (.inl rfl) (pe_lst (pa_cons pe_str (pa_cons pe_str (pa_cons pe_str (pa_cons pe_str (pa_cons pe_str (pa_cons pe_str (pa_cons pe_str (pa_cons pe_str (pa_cons pe_str (pa_cons pe_str (pa_cons pe_str (pa_cons pe_str pa_nil))))))))))))))
      (pss_cons (ps_while PassesOwn.never (pt_cmpR op_gt (pe_callB call_len_seq (by rfl) T.f_len PySem.boot_len (pa_cons (pv 2) pa_nil)) (pv 1) (nomark _))
        (pss_one (ps_expr (pe_bm PySem.F.plainAttrs_list PySem.F.slot_list_pop PySem.F.type_list_pop mt_popAt (pv 2) (pa_cons (pc (ok_next T) hr T.g_law_next pass0 (pa_cons (pv 0) (pa_cons (pe_callB call_len_seq (by rfl) T.f_len PySem.boot_len (pa_cons (pv 2) pa_nil)) pa_nil))) pa_nil)))))
      (pss_one (ps_ret (pe_callTy call_tuple_of (by rfl) T.f_tuple (by decide +kernel) (pa_cons (pv 2) pa_nil))))), ?_⟩
    refine ⟨by show 12 ≤ sizeLine; decide, fun p np => ?_⟩
    have pne := hs.ne np
    refine ⟨fun m σ H' => ∃ fs, σ = [some (.ref a), some (.int (n : Nat)), some (.ref p)] ∧ Frm [a, c] H H' ∧ Src H' a c ∧ H' p = some (.lst (sV fs)) ∧ fs.Sublist ALLF ∧ n ≤ fs.length ∧ fs.length = m, ⟨12, ALLF, rfl, Frm.of (same_upd np), hs.same (same_upd np), upd_same, List.Sublist.refl _, hn, rfl⟩, ?_⟩
    rintro m σ H1 ⟨fs, rfl, fr, hs1, hp, sub, hle, rfl⟩
    refine ⟨_, rfl, p, _, rfl, .inl (.of hp), _, rfl, _, _, rfl, rfl, _, rfl, ?_⟩
    have hl12 : fs.length ≤ 12 := sub.length_le
    rw [List.length_map]
    refine ite2 (fun hc => ?_) (fun hc => ?_)
    · have hc2 : (n : Int) < (fs.length : Int) := of_decide_eq_true hc
      refine ⟨_, fun σ' H' h => h, ?_⟩
      refine ⟨_, rfl, .inl ⟨rfl, _, SqL.of hp⟩, _, rfl, _, rfl, p, _, rfl, .inl (.of hp), a, c, _, rfl, hs1, by rw [List.length_map]; omega, by rw [List.length_map]; omega, fun H2 r hr fr2 hs2 => ?_⟩
      rw [List.length_map] at hr
      have hp2 : H2 p = some (.lst (sV fs)) := fr2.at hp (nin2 pne)
      have hrl : r < fs.length := by omega
      refine ⟨p, _, _, r, .str fs[r], rfl, rfl, hp2, by omega, by omega, (ixN_seq (ixN_nat (by rw [List.length_map]; exact hrl))).1, by rw [List.getElem?_map, List.getElem?_eq_getElem hrl]; rfl, ?_⟩
      rw [erase_sV]
      refine ⟨_, ?_, fs.eraseIdx r, rfl, (fr.trans fr2).upd np, hs2.upd pne.1 pne.2, upd_same, (List.eraseIdx_sublist ..).trans sub, ?_, rfl⟩
      · rw [List.length_eraseIdx_of_lt hrl]
        omega
      · rw [List.length_eraseIdx_of_lt hrl]
        omega
    · have hc2 : ¬ (n : Int) < (fs.length : Int) := fun z => hc (decide_eq_true z)
      refine ⟨_, rfl, p, _, rfl, .inl ⟨.of hp, fun t nt => k _ t fs (fr.then (same_upd nt)) (hs1.same (same_upd nt)) upd_same sub (by omega)⟩⟩
/-! ### what must hold, what must fail -/
def spParts : Sp := fun vs H Q _ => ∃ (a c af : Addr) (fs : List Str) (most : Nat), vs = [.ref a, .ref af, .int (most : Nat)] ∧ Src H a c ∧ H af = some (.tup (sV fs)) ∧ fs.Nodup ∧ fs.length ≤ 12 ∧ most ≤ 3 ∧
  ∀ H' t tw tb wl bl, Frm [a, c] H H' → Src H' a c → H' t = some (.tup [.ref tw, .ref tb]) → H' tw = some (.tup (sV wl)) → H' tb = some (.tup (sV bl)) → wl.Sublist fs → bl.Sublist fs → (∀ x ∈ bl, x ∉ wl) → wl.length + bl.length ≤ 3 → Q (.ref t) H'
abbrev nParts : List Str := ["_law_h", "_law_facts_here", "_law_most", "_law_wanted", "_law_barred", "_law_fact", "_law_kind"]
theorem sc_parts : FnScope nParts ["_law_h", "_law_facts_here", "_law_most"] (defScope s_law_parts) := ⟨rfl, rfl, rfl, by decide +kernel, rfl, by decide +kernel, by decide +kernel⟩
theorem ok_parts (T : Txt K mg) : Okd P w K mg base CX0 2 696 ["_law_h", "_law_facts_here", "_law_most"] spParts := by
  obtain ⟨fd, F⟩ := T.d_law_parts
  have nd := sc_parts.nd
  refine ⟨fd, F.ok (k := 1) sc_parts (fun vs H Q E h => ?_) (fun cdv A outer s H vs Q E hr h => ?_), F.binds fun _ _ _ _ _ _ us hl => match us, hl with | [_, _, _], _ => rfl, F.kp⟩
  · obtain ⟨a, c, af, fs, most, rfl, _⟩ := h
    rfl
  · obtain ⟨a, c, af, fs, most, rfl, hs, haf, fnd, hlen, hmost, k⟩ := h
    refine ⟨_, pss_cons (ps_par (i := 3) (j := 4) rfl nd rfl rfl (by decide) rfl rfl (pa_cons (pe_lst pa_nil) (pa_cons (pe_lst pa_nil) pa_nil)) (by rfl))
      (pss_cons (ps_for PassesOwn.never rfl (pi_tup (pv 1)) (pg_name (i := 5) nd rfl (.inl rfl))
        (pss_cons (ps_set (i := 6) nd rfl (.inl rfl) (pc (ok_next T) hr T.g_law_next pass0 (pa_cons (pv 0) (pa_cons (pe_op op_add pe_int (pe_op op_fdiv (pe_op op_mul pe_int (pe_callB call_len_seq (by rfl) T.f_len PySem.boot_len (pa_cons (pv 1) pa_nil))) (pe_callB (call_max2 rfl) (by rfl) T.f_max (by decide +kernel) (pa_cons pe_int (pa_cons (pv 2) pa_nil))))) pa_nil))))
        (pss_one (ps_if (PW.pt (pw_and (pt_cmpR op_lt (pv 6) pe_int (nomark _)) (pw_and1 (pt_cmpR op_lt (pe_op op_add (pe_callB call_len_seq (by rfl) T.f_len PySem.boot_len (pa_cons (pv 3) pa_nil)) (pe_callB call_len_seq (by rfl) T.f_len PySem.boot_len (pa_cons (pv 4) pa_nil)))
              (pe_callB (call_min2 rfl) (by rfl) T.f_min (by decide +kernel) (pa_cons pe_int (pa_cons (pv 2) pa_nil))) (nomark _)))))
          (pss_one (ps_expr (pe_bm PySem.F.plainAttrs_list PySem.F.slot_list_append PySem.F.type_list_append mt_append (pe_ix ix_list (pe_lst (pa_cons (pv 3) (pa_cons (pv 4) pa_nil))) (pv 6) (fun _ _ => rfl)) (pa_cons (pv 5) pa_nil)))) pss_nil))))
      (pss_one (ps_ret (pe_tup (pa_cons (pe_callTy call_tuple_of (by rfl) T.f_tuple (by decide +kernel) (pa_cons (pv 3) pa_nil)) (pa_cons (pe_callTy call_tuple_of (by rfl) T.f_tuple (by decide +kernel) (pa_cons (pv 4) pa_nil)) pa_nil)))))), ?_⟩
    refine ⟨by show 0 ≤ sizeLine; decide, fun p np => ⟨by show 0 ≤ sizeLine; decide, fun q nq => ⟨_, _, rfl, ?_⟩⟩⟩
    have s1 := same_upd (o := HO.lst []) np
    have nq0 := s1.free nq
    have pq : p ≠ q := fun z => by rw [z, upd_same] at nq; cases nq
    have pne := hs.ne np
    have qne := hs.ne nq0
    have s2 := same_trans s1 (same_upd (o := HO.lst []) nq)
    have hp0 : (upd (upd H p (.lst [])) q (.lst [])) p = some (.lst []) := by rw [upd_ne pq]; exact upd_same
    have hq0 : (upd (upd H p (.lst [])) q (.lst [])) q = some (.lst []) := upd_same
    generalize hHa : upd (upd H p (.lst [])) q (.lst []) = Ha at s2 hp0 hq0
    refine ⟨_, rfl, af, rfl, ⟨_, .of (s2 _ _ haf)⟩, for_it (walk_tup (xs := sV fs)) (fun i σ H' => ∃ v5 v6 wl bl, σ = [some (.ref a), some (.ref af), some (.int (most : Nat)), some (.ref p), some (.ref q), v5, v6] ∧ Frm [a, c] H H' ∧ Src H' a c ∧ H' p = some (.lst (sV wl)) ∧ H' q = some (.lst (sV bl)) ∧
        wl.Sublist (fs.take i) ∧ bl.Sublist (fs.take i) ∧ (∀ x ∈ bl, x ∉ wl) ∧ wl.length + bl.length ≤ 3) ⟨none, none, [], [], rfl, Frm.of s2, hs.same s2, hp0, hq0, List.nil_sublist _, List.nil_sublist _, (fun x h _ => by cases h), Nat.zero_le _⟩ (fun i σ H' _ h => ?_) ?_ ?_⟩
    · obtain ⟨_, _, _, _, _, fr, _⟩ := h
      exact .of (fr.at haf (hs.nt haf))
    · rintro i x σ H1 H2 hi ⟨v5, v6, wl, bl, rfl, fr, hs1, hp, hq, sw, sb, dj, l3⟩ ⟨rfl, ex⟩
      obtain ⟨fn, en, rfl⟩ := sV_get ex
      have hfa : af ∉ [a, c] := hs.nt haf
      have haf1 := fr.at haf hfa
      have etk : fs.take (i + 1) = fs.take i ++ [fn] := by rw [List.take_succ, en]; rfl
      have fresh : fn ∉ fs.take i := by
        intro m
        have hnd : (fs.take (i + 1)).Nodup := fnd.sublist (List.take_sublist ..)
        rw [etk] at hnd
        exact (List.nodup_append.mp hnd).2.2 fn m fn (List.mem_singleton.mpr rfl) rfl
      have up : ∀ {l : List Str}, l.Sublist (fs.take i) → l.Sublist (fs.take (i + 1)) := fun h => by
        rw [etk]
        exact h.trans (List.sublist_append_left ..)
      have up2 : ∀ {l : List Str}, l.Sublist (fs.take i) → (l ++ [fn]).Sublist (fs.take (i + 1)) := fun h => by
        rw [etk]
        exact h.append (List.Sublist.refl _)
      obtain ⟨m, hm, hm0⟩ : ∃ m : Nat, (if (most : Int) > 1 then (most : Int) else 1) = (m : Int) ∧ 0 < m ∧ m ≤ 3 := by
        by_cases h : (most : Int) > 1
        · exact ⟨most, by rw [if_pos h], by omega, hmost⟩
        · exact ⟨1, by rw [if_neg h]; rfl, by decide, by decide⟩
      refine ⟨_, rfl, _, rfl, af, _, rfl, .inr (.of haf1), _, _, rfl, rfl, .inr (by rw [List.length_map]; omega), _, rfl, _, _, rfl, ?_⟩
      rw [hm]
      have q0 : (0 : Int) ≤ 2 * (fs.length : Int) / (m : Int) := Int.ediv_nonneg (by omega) (by omega)
      have q1 : 2 * (fs.length : Int) / (m : Int) ≤ 2 * (fs.length : Int) := Int.ediv_le_self _ (by omega)
      refine ⟨_, _, rfl, rfl, ⟨by omega, by omega⟩, _, _, rfl, rfl, a, c, _, rfl, hs1, by rw [List.length_map]; omega, by rw [List.length_map]; omega, fun H3 r hr fr3 hs3 => ?_⟩
      have hp3 : H3 p = some (.lst (sV wl)) := fr3.at hp (nin2 pne)
      have hq3 : H3 q = some (.lst (sV bl)) := fr3.at hq (nin2 qne)
      have fr13 := fr.trans fr3
      refine ⟨_, rfl, _, _, rfl, rfl, _, rfl, ite2 (fun hc => ?_) (fun hc => iteF ⟨_, _, wl, bl, rfl, fr13, hs3, hp3, hq3, up sw, up sb, dj, l3⟩)⟩
      have hr2 : r < 2 := by have : (r : Int) < 2 := of_decide_eq_true hc; omega
      refine ⟨_, rfl, p, _, rfl, .inl (.of hp3), _, rfl, q, _, rfl, .inl (.of hq3), _, _, rfl, rfl, _, rfl, _, _, rfl, _, _, rfl, rfl, _, rfl, ite2 (fun hc2 => ?_) (fun hc2 => ⟨_, _, wl, bl, rfl, fr13, hs3, hp3, hq3, up sw, up sb, dj, l3⟩)⟩
      have hc3 : ((sV wl).length : Int) + ((sV bl).length : Int) < (if (most : Int) < 8 then (most : Int) else 8) := of_decide_eq_true hc2
      rw [List.length_map, List.length_map, if_pos (by omega)] at hc3
      refine ⟨_, rfl, _, rfl, by show 2 ≤ sizeLine; decide, fun t nt => ?_⟩
      have s4 := same_upd (o := HO.lst [V.ref p, V.ref q]) nt
      have hp4 := s4 _ _ hp3
      have hq4 := s4 _ _ hq3
      have fr4 := fr13.then s4
      have hs4 := hs3.same s4
      have ht4 : (upd H3 t (.lst [V.ref p, V.ref q])) t = some (.lst [V.ref p, V.ref q]) := upd_same
      generalize hHb : upd H3 t (.lst [V.ref p, V.ref q]) = Hb at hp4 hq4 fr4 hs4 ht4
      rcases (show r = 0 ∨ r = 1 by omega) with rfl | rfl
      · refine ⟨_, rfl, t, _, _, .ref p, rfl, rfl, .of ht4, by rw [atI_nat]; rfl, .inl ⟨rfl, _, SqL.of hp4⟩, _, rfl, p, _, _, rfl, rfl, hp4, by rw [List.length_map, sizeLine_eq]; omega, ?_⟩
        refine ⟨_, _, wl ++ [fn], bl, rfl, fr4.upd np, hs4.upd pne.1 pne.2, by rw [sV_snoc]; exact upd_same, by rw [upd_ne pq.symm]; exact hq4, up2 sw, up sb, fun x hx hw => ?_, by simp; omega⟩
        rcases List.mem_append.mp hw with z | z
        · exact dj x hx z
        · rw [List.mem_singleton.mp z] at hx
          exact fresh (sb.mem hx)
      · refine ⟨_, rfl, t, _, _, .ref q, rfl, rfl, .of ht4, by rw [atI_nat]; rfl, .inl ⟨rfl, _, SqL.of hq4⟩, _, rfl, q, _, _, rfl, rfl, hq4, by rw [List.length_map, sizeLine_eq]; omega, ?_⟩
        refine ⟨_, _, wl, bl ++ [fn], rfl, fr4.upd nq0, hs4.upd qne.1 qne.2, by rw [upd_ne pq]; exact hp4, by rw [sV_snoc]; exact upd_same, up sw, up2 sb, fun x hx hw => ?_, by simp; omega⟩
        rcases List.mem_append.mp hx with z | z
        · exact dj x z hw
        · rw [List.mem_singleton.mp z] at hw
          exact fresh (sw.mem hw)
    · rintro σ H1 ⟨v5, v6, wl, bl, rfl, fr, hs1, hp, hq, sw, sb, dj, l3⟩
      rw [List.length_map, List.take_length] at sw sb
      refine ⟨_, rfl, p, _, rfl, .inl ⟨.of hp, fun tw ntw => ⟨_, rfl, q, _, rfl, .inl ⟨.of (same_upd ntw _ _ hq), fun tb ntb => ⟨by show 2 ≤ sizeLine; decide, fun t nt => ?_⟩⟩⟩⟩⟩
      have s5 := same_upd (o := HO.tup (sV wl)) ntw
      have s6 := same_upd (o := HO.tup (sV bl)) ntb
      have s7 := same_upd (o := HO.tup [V.ref tw, V.ref tb]) nt
      have s57 := same_trans s5 (same_trans s6 s7)
      exact k _ t tw tb wl bl (fr.then s57) (hs1.same s57) upd_same (s7 _ _ (s6 _ _ upd_same)) (s7 _ _ upd_same) sw sb dj l3
end
end Sc
set_option Elab.async false
set_option maxRecDepth 100000
set_option linter.all false
set_option maxHeartbeats 1000000
namespace Sc
open PySem PySem.Spec L2
open PyProof.Rows hiding St
/-- xs[i] by values, i from nought -/
def rGetL : V → V → Hp → VK → Prop := fun o i H Q => ∃ (p : Addr) (xs : List V) (k : Nat) (v : V), o = .ref p ∧ i = .int (k : Nat) ∧ H p = some (.lst xs) ∧ xs[k]? = some v ∧ Q v H
theorem get_list {X : Cx} : PGet X rGetL := by
  intro pins s σ H o i ov iv Q I ro ri h
  obtain ⟨p, xs, k, v, rfl, rfl, hp, e, q⟩ := h
  cases ro
  obtain ⟨t, rfl⟩ := ri
  obtain ⟨its, r, pl, hz⟩ := I.list (SqL.of hp)
  obtain ⟨w, ew, rw'⟩ := r.get e
  have hl := r.length
  have hk : k < xs.length := (List.getElem?_eq_some_iff.mp e).1
  have hn := line63
  exact wpAny_getItem_list pl.isList (by omega) (by omega) (by simpa using ew) ⟨v, H, I, rw', q⟩
theorem asg_join {te : TE} {g : TG} {u : TS} {D : Ends} {σ : St} {H : Hp} (R : V → Hp → Prop) (h1 : ∀ C : V → Hp → Prop, (∀ x H', R x H' → C x H') → te σ H C) (h2 : ∀ x H', R x H' → g x σ H' (u D)) : tSeq (tAsg te g) u D σ H := h1 _ h2
/-- behind name = .. the next name = .. meets a common end -/
theorem name_join {i : Nat} {x : V} {te : TE} {g : TG} {u : TS} {D : Ends} {σ : St} {H : Hp} (R : V → Hp → Prop) (h1 : ∀ C : V → Hp → Prop, (∀ x H', R x H' → C x H') → te (σ.set i (some x)) H C) (h2 : ∀ y H', R y H' → g y (σ.set i (some x)) H' (u D)) :
    gName i x σ H (tSeq (tAsg te g) u D) := h1 _ h2
theorem Frm.weak {S S' : List Addr} {H H' : Hp} (f : Frm S H H') (h : ∀ x ∈ S, x ∈ S') : Frm S' H H' := fun b o e hb => f b o e fun z => hb (h b z)
theorem Frm.w3 {a c d : Addr} {H H' : Hp} (f : Frm [a, c] H H') : Frm [a, c, d] H H' := f.weak fun x h => by
  rcases List.mem_cons.mp h with z | z
  · rw [z]; exact List.mem_cons_self ..
  · rw [List.mem_singleton.mp z]; exact List.mem_cons_of_mem _ (List.mem_cons_self ..)
theorem nin3 {a c d p : Addr} (h : p ∉ [a, c]) (n : p ≠ d) : p ∉ [a, c, d] := fun z => by
  rcases List.mem_cons.mp z with z | z
  · exact h (z ▸ List.mem_cons_self ..)
  · rcases List.mem_cons.mp z with z | z
    · exact h (z ▸ List.mem_cons_of_mem _ (List.mem_cons_self ..))
    · exact n (List.mem_singleton.mp z)
/-- what never changes stays behind draws with a counter -/
theorem Src.kp3 {H H' : Hp} {a c d : Addr} {xs : List V} (h : Src H a c) (e : H d = some (.lst xs)) (f : Frm [a, c, d] H H') : KpI H H' := fun b o q m => f b o q (nin3 (fun z => by
  obtain ⟨_, st, k, ns, h1, h2, _⟩ := h
  rcases List.mem_cons.mp z with z | z
  · rw [z, h1] at q
    cases q
    exact m
  · rw [List.mem_singleton.mp z, h2] at q
    cases q
    exact m) (fun z => by
  rw [z, e] at q
  cases q
  exact m))
theorem Src.nt3 {H : Hp} {a c d p : Addr} {xs ys : List V} (h : Src H a c) (e : H d = some (.lst ys)) (q : H p = some (.tup xs)) : p ∉ [a, c, d] := nin3 (h.nt q) (fun z => by rw [z, e] at q; cases q)
/-! ### drawn rules -/
def ABC : Str := "abcdefghijklmnopqrstuvwxyz"
def nmR (i : Nat) : Str := ("r" : Str) ++ ⟨#[ABC.cps.getD i 0]⟩
def RUL : List Str := ["pay", "warn", "free", "none"]
mutual
def nms1 : RT → List Str
  | .mk n _ _ _ i => n :: nmsL i
def nmsL : List RT → List Str
  | [] => []
  | r :: rs => nms1 r ++ nmsL rs
end
theorem nmsL_snoc : ∀ (l : List RT) (r : RT), nmsL (l ++ [r]) = nmsL l ++ nms1 r
  | [], r => by simp [nmsL]
  | x :: l, r => by simp only [List.cons_append, nmsL, nmsL_snoc l r, List.append_assoc]
/-- a drawn rule -/
structure Drn (fs : List Str) (r : RT) : Prop where
  w : r.w.Sublist fs
  b : r.b.Sublist fs
  dj : ∀ x ∈ r.b, x ∉ r.w
  l3 : r.w.length + r.b.length ≤ 3
  rr : r.r ∈ RUL
  i3 : r.inner.length ≤ 3
/-- drawn rules: the counter went from n to m -/
structure Drw (fs : List Str) (d wide n m : Nat) (rs : List RT) : Prop where
  le : n ≤ m
  m24 : m ≤ 24
  nm : nmsL rs = (List.range' n (m - n)).map nmR
  dep : depL d rs
  all : allL (Drn fs) rs
  len : rs.length ≤ wide
theorem depL_snoc {d : Nat} : ∀ {l : List RT} {r : RT}, depL d l → r.dep d → depL d (l ++ [r])
  | [], r, _, h => by simp only [List.nil_append, depL]; exact ⟨h, trivial⟩
  | x :: l, r, hl, h => by
    simp only [depL] at hl
    simp only [List.cons_append, depL]
    exact ⟨hl.1, depL_snoc hl.2 h⟩
theorem allL_snoc {p : RT → Prop} {l : List RT} {r : RT} (hl : allL p l) (h : allT p r) : allL p (l ++ [r]) := allL_iff.mpr fun x hx => by
  rcases List.mem_append.mp hx with z | z
  · exact allL_iff.mp hl x z
  · rw [List.mem_singleton.mp z]
    exact h
theorem Drw.snoc {fs : List Str} {d wide n m k w2 : Nat} {rs i : List RT} {w b : List Str} {r : Str} (h : Drw fs (d + 1) wide n m rs) (hm : m < 24) (hw : w.Sublist fs) (hb : b.Sublist fs) (dj : ∀ x ∈ b, x ∉ w) (l3 : w.length + b.length ≤ 3) (hr : r ∈ RUL) (hi : Drw fs d 3 (m + 1) k i) (hl : rs.length + 1 ≤ w2) :
    Drw fs (d + 1) w2 n k (rs ++ [.mk (nmR m) w b r i]) where
  le := Nat.le_trans h.le (Nat.le_trans (Nat.le_succ _) hi.le)
  m24 := hi.m24
  nm := by
    have e1 := h.le
    have e2 := hi.le
    rw [nmsL_snoc, h.nm]
    simp only [nms1]
    rw [hi.nm, show k - n = (m - n) + (1 + (k - (m + 1))) by omega, ← List.range'_append_1, List.map_append]
    congr 1
    rw [show n + (m - n) = m by omega, show 1 + (k - (m + 1)) = (k - (m + 1)) + 1 by omega, List.range'_succ, List.map_cons]
  dep := depL_snoc h.dep (by simp only [RT.dep]; exact hi.dep)
  all := allL_snoc h.all (allT_iff.mpr ⟨⟨hw, hb, dj, l3, hr, hi.len⟩, hi.all⟩)
  len := by rw [List.length_append]; exact hl
theorem Drw.nil {fs : List Str} {d wide n : Nat} (h : n ≤ 24) : Drw fs d wide n n [] := ⟨Nat.le_refl _, h, by simp [nmsL], trivial, trivial, Nat.zero_le _⟩
section
variable {P : Program} {w : World} {K : PySem.W.Frag} {mg : Str → Option Value} {base : Heap}
def spDraw (d : Nat) : Sp := fun vs H Q _ => ∃ (a c af cc : Addr) (fs : List Str) (wide n : Nat), vs = [.ref a, .ref af, .ref cc, .int (d : Nat), .int (wide : Nat)] ∧ Src H a c ∧ H af = some (.tup (sV fs)) ∧ fs.Nodup ∧ fs.length ≤ 12 ∧ H cc = some (.lst [.int (n : Nat)]) ∧ cc ≠ a ∧ cc ≠ c ∧ n ≤ 24 ∧ 0 < d ∧ wide ≤ 6 ∧
  ∀ H' t us rs m, Frm [a, c, cc] H H' → Src H' a c → H' cc = some (.lst [.int (m : Nat)]) → H' t = some (.tup us) → RowsAt H' us rs → Drw fs d wide n m rs → Q (.ref t) H'
abbrev nDraw : List Str := ["_law_h", "_law_facts_here", "_law_counter", "_law_deep", "_law_wide", "_law_found", "_law_k", "_law_name", "_law_wanted", "_law_barred", "_law_ruling", "_law_inner"]
theorem sc_draw : FnScope nDraw ["_law_h", "_law_facts_here", "_law_counter", "_law_deep", "_law_wide"] (defScope s_law_rules) := ⟨rfl, rfl, rfl, by decide +kernel, rfl, by decide +kernel, by decide +kernel⟩
theorem ok_draw (T : Txt K mg) : ∀ d : Nat, Okd P w K mg base CX0 (d + 3) 703 ["_law_h", "_law_facts_here", "_law_counter", "_law_deep", "_law_wide"] (spDraw d) := by
  intro d
  have nd := sc_draw.nd
  induction d with
  | zero =>
    obtain ⟨fd, F⟩ := T.d_law_rules
    refine ⟨fd, F.ok (k := 2) sc_draw (fun vs H Q E h => ?_) (fun cdv A outer s H vs Q E hr h => ?_), F.binds fun _ _ _ _ _ _ us hl => match us, hl with | [_, _, _, _, _], _ => rfl, F.kp⟩
    · obtain ⟨_, _, _, _, _, _, _, rfl, _⟩ := h
      rfl
    · obtain ⟨_, _, _, _, _, _, _, _, _, _, _, _, _, _, _, _, h0, _⟩ := h
      exact absurd h0 (Nat.lt_irrefl 0)
  | succ d ih =>
    obtain ⟨fd, F⟩ := T.d_law_rules
    refine ⟨fd, F.ok (k := d + 3) sc_draw (fun vs H Q E h => ?_) (fun cdv A outer s H vs Q E hr h => ?_), F.binds fun _ _ _ _ _ _ us hl => match us, hl with | [_, _, _, _, _], _ => rfl, F.kp⟩
    · obtain ⟨_, _, _, _, _, _, _, rfl, _⟩ := h
      rfl
    · obtain ⟨a, c, af, cc, fs, wide, n, rfl, hs, haf, fnd, flen, hcc, cca, ccc, hn, _, hwide, k⟩ := h
      have hr1 : Room 1 _ := hr.mono (by omega)
      have hr2 : Room 2 _ := hr.mono (by omega)
      have next := ok_next (P := P) (w := w) (base := base) T
      refine ⟨_, pss_cons (ps_set (i := 5) nd rfl (.inl rfl) (pe_lst pa_nil))
        (pss_cons (ps_for PassesOwn.never rfl (pi_range1 (by rfl) T.f_range (pa_cons (pc next hr1 T.g_law_next pass0 (pa_cons (pv 0) (pa_cons (pe_op op_add (pv 4) pe_int) pa_nil))) pa_nil)) (pg_name (i := 6) nd rfl (.inl rfl))
          (pss_one (ps_if (pt_cmpR op_lt (pe_ix ix_list (pv 2) pe_int (fun _ _ => rfl)) pe_int (nomark _))
            (pss_cons (ps_set (i := 7) nd rfl (.inl rfl) (pe_op op_add_str pe_str (pe_ix ix_str pe_str (pe_ix ix_list (pv 2) pe_int (fun _ _ => rfl)) (fun _ _ => rfl))))
            (pss_cons (ps_augS (pv 2) pe_int get_list pe_int ip_add set_list)
            (pss_cons (ps_asg (pc (ok_parts T) hr2 T.g_law_parts pass0 (pa_cons (pv 0) (pa_cons (pv 1) (pa_cons (pe_op op_add pe_int (pc next hr1 T.g_law_next pass0 (pa_cons (pv 0) (pa_cons pe_int pa_nil)))) pa_nil)))) (pg_tup rfl (pgs_cons (pg_name (i := 8) nd rfl (.inl rfl)) (pgs_cons (pg_name (i := 9) nd rfl (.inl rfl)) pgs_nil))))
            (pss_cons (ps_set (i := 10) nd rfl (.inl rfl) (pe_ix ix_list (pe_lst (pa_cons pe_str (pa_cons pe_str (pa_cons pe_str (pa_cons pe_str pa_nil))))) (pc next hr1 T.g_law_next pass0 (pa_cons (pv 0) (pa_cons pe_int pa_nil))) (fun _ _ => rfl)))
            (pss_cons (ps_set (i := 11) nd rfl (.inl rfl) (pe_ifExp (PW.pt (pw_and (pt_cmpR op_gt (pv 3) pe_int (nomark _)) (pw_and1 (pt_cmpR op_eq (pc next hr1 T.g_law_next pass0 (pa_cons (pv 0) (pa_cons pe_int pa_nil))) pe_int (nomark _)))))
                (pc ih hr T.g_law_rules pass0 (pa_cons (pv 0) (pa_cons (pv 1) (pa_cons (pv 2) (pa_cons (pe_op op_sub (pv 3) pe_int) (pa_cons pe_int pa_nil)))))) (pe_tup pa_nil)))
            (pss_one (ps_expr (pe_bm PySem.F.plainAttrs_list PySem.F.slot_list_append PySem.F.type_list_append mt_append (pv 5) (pa_cons (pe_tup (pa_cons (pv 7) (pa_cons (pv 8) (pa_cons (pv 9) (pa_cons (pv 10) (pa_cons (pv 11) pa_nil)))))) pa_nil)))))))))
            pss_nil)))
        (pss_one (ps_ret (pe_callTy call_tuple_of (by rfl) T.f_tuple (by decide +kernel) (pa_cons (pv 5) pa_nil))))), ?_⟩
      refine ⟨by show 0 ≤ sizeLine; decide, fun p np => ?_⟩
      have pne := hs.ne np
      have pcc : p ≠ cc := fun z => by rw [z, hcc] at np; cases np
      have p3 : p ∉ [a, c, cc] := nin3 (nin2 pne) pcc
      have s0 := same_upd (o := HO.lst []) np
      refine ⟨_, rfl, _, rfl, _, _, rfl, rfl, a, c, _, rfl, hs.same s0, by omega, by omega, fun H0 cnt hcnt fr0 hs0 => ⟨_, rfl, by omega, by omega, ?_⟩⟩
      have hp0 : H0 p = some (.lst []) := fr0.at upd_same (nin2 pne)
      have fr00 : Frm [a, c, cc] H H0 := ((Frm.of s0).trans fr0.w3)
      refine for_it walk_rng (fun i σ H' => ∃ v6 v7 v8 v9 v10 v11 us rs m, σ = [some (.ref a), some (.ref af), some (.ref cc), some (.int ((d + 1 : Nat) : Int)), some (.int (wide : Nat)), some (.ref p), v6, v7, v8, v9, v10, v11] ∧ Frm [a, c, cc] H H' ∧ Src H' a c ∧ H' cc = some (.lst [.int (m : Nat)]) ∧ H' p = some (.lst us) ∧
        RowsAt H' us rs ∧ Drw fs (d + 1) i n m rs) ⟨none, none, none, none, none, none, [], [], n, rfl, fr00, hs0, fr0.at (s0 _ _ hcc) (nin2 ⟨cca, ccc⟩), hp0, .nil, Drw.nil hn⟩ (fun _ _ _ _ _ => trivial) ?_ ?_
      · rintro i x σ H1 H2 hi ⟨v6, v7, v8, v9, v10, v11, us, rs, m, rfl, fr, hs1, hc1, hp1, hR, hD⟩ ⟨rfl, rfl⟩
        have hi6 : i < 7 := by omega
        have hul := hR.len
        have hrl := hD.len
        refine ⟨_, rfl, cc, _, 0, .int (m : Nat), rfl, rfl, .of hc1, rfl, _, _, rfl, rfl, _, rfl, ite2 (fun hm => ?_) (fun hm => ⟨_, _, _, _, _, _, us, rs, m, rfl, fr, hs1, hc1, hp1, hR, { hD with len := Nat.le_succ_of_le hD.len }⟩)⟩
        have hm24 : m < 24 := by have : (m : Int) < 24 := of_decide_eq_true hm; omega
        refine ⟨_, rfl, cc, _, 0, .int (m : Nat), rfl, rfl, .of hc1, rfl, ABC, _, ABC.cps.getD m 0, rfl, rfl, by decide +kernel, ?_, _, _, rfl, rfl, ?_, ?_⟩
        · rw [atI_nat]
          have : m < ABC.cps.size := Nat.lt_trans hm24 (by decide +kernel)
          simp [Array.getD, this]
        · show ("r" : Str).length + 1 ≤ sizeLine
          decide +kernel
        refine ⟨_, rfl, cc, _, 0, .int (m : Nat), rfl, rfl, hc1, rfl, _, _, rfl, rfl, cc, _, _, 0, rfl, rfl, hc1, rfl, ?_⟩
        have haf1 : H2 af = some (.tup (sV fs)) := fr.at haf (hs.nt3 hcc haf)
        have kpa : KpI H2 (upd H2 cc (.lst [.int ((m : Int) + 1)])) := kpI_list hc1
        have fra : Frm [a, c, cc] H2 (upd H2 cc (.lst [.int ((m : Int) + 1)])) := fun b o e hb => by
          rw [upd_ne (fun z => hb (by rw [z]; simp))]
          exact e
        have hsa : Src (upd H2 cc (.lst [.int ((m : Int) + 1)])) a c := hs1.upd cca ccc
        have hca : (upd H2 cc (.lst [.int ((m : Int) + 1)])) cc = some (.lst [.int ((m + 1 : Nat) : Int)]) := upd_same
        show tSeq _ _ _ _ (upd H2 cc (.lst [.int ((m : Int) + 1)]))
        generalize hHa : upd H2 cc (.lst [.int ((m : Int) + 1)]) = Ha at kpa fra hsa hca
        have hpa := fra.at hp1 p3
        refine ⟨_, rfl, _, rfl, _, rfl, a, c, _, rfl, hsa, by decide, by decide, fun H3 r1 hr1 fr3 hs3 => ⟨_, _, rfl, rfl, a, c, af, fs, 1 + r1, ?_, hs3, (fr3.at (kpa.tup haf1) (hsa.nt (kpa.tup haf1))), fnd, flen, by omega, fun H4 t4 tw tb wl bl fr4 hs4 ht4 htw htb sw sb dj l3 => ?_⟩⟩
        · show [V.ref a, V.ref af, V.int ((1 : Int) + (r1 : Int))] = _
          rw [show (1 : Int) + (r1 : Int) = ((1 + r1 : Nat) : Int) by omega]
        refine ⟨t4, _, rfl, .of ht4, rfl, _, _, rfl, _, _, rfl, rfl, ?_⟩
        refine ⟨by show 4 ≤ sizeLine; decide, fun q nq => ?_⟩
        have s5 := same_upd (o := HO.lst [V.str "pay", V.str "warn", V.str "free", V.str "none"]) nq
        have hs5 := hs4.same s5
        have hq5 : (upd H4 q (.lst [V.str "pay", V.str "warn", V.str "free", V.str "none"])) q = some (.lst (sV RUL)) := upd_same
        have qne := hs4.ne nq
        generalize hHb : upd H4 q (.lst [V.str "pay", V.str "warn", V.str "free", V.str "none"]) = Hb at s5 hs5 hq5
        refine ⟨_, rfl, a, c, _, rfl, hs5, by decide, by decide, fun H6 r2 hr2 fr6 hs6 => ?_⟩
        have hr24 : r2 < RUL.length := by show r2 < 4; omega
        refine ⟨q, _, _, .str RUL[r2], rfl, rfl, .of (fr6.at hq5 (nin2 qne)), by rw [atI_nat, List.getElem?_map, List.getElem?_eq_getElem hr24]; rfl, ?_⟩
        have fra4 : Frm [a, c] Ha H4 := fr3.trans fr4
        have fr46 : Frm [a, c] H4 H6 := (Frm.of s5).trans fr6
        have fra6 : Frm [a, c] Ha H6 := fra4.trans fr46
        have kp46 : KpI H4 H6 := hs4.kpI fr46
        have kpa6 : KpI Ha H6 := hsa.kpI fra6
        have haf6 := kpa6.tup (kpa.tup haf1)
        have hc6 : H6 cc = some (.lst [.int ((m + 1 : Nat) : Int)]) := fra6.at hca (nin2 ⟨cca, ccc⟩)
        have hp6 := fra6.at hpa (nin2 pne)
        dsimp only
        refine name_join (fun x H8 => ∃ ai vsi ri kk, x = .ref ai ∧ Frm [a, c, cc] H6 H8 ∧ Src H8 a c ∧ H8 cc = some (.lst [.int (kk : Nat)]) ∧ H8 ai = some (.tup vsi) ∧ RowsAt H8 vsi ri ∧ Drw fs d 3 (m + 1) kk ri) (fun C hC => ?_) ?_
        · have emp : ∀ H7, Frm [a, c] H6 H7 → Src H7 a c → tTup tNil [some (.ref a)] H7 C := fun H7 fr7 hs7 => ⟨by show 0 ≤ sizeLine; decide, fun t7 nt7 => hC _ _ ⟨t7, [], [], m + 1, rfl, fr7.w3.then (same_upd nt7), hs7.same (same_upd nt7), same_upd nt7 _ _ (fr7.at hc6 (nin2 ⟨cca, ccc⟩)), upd_same, .nil, Drw.nil (by omega)⟩⟩
          refine ⟨_, rfl, _, _, rfl, rfl, _, rfl, ite2 (fun hd => ?_) (fun hd => iteF (emp H6 Frm.rfl' hs6))⟩
          have hd1 : 0 < d := by have : (1 : Int) < ((d + 1 : Nat) : Int) := of_decide_eq_true hd; omega
          refine ⟨_, rfl, a, c, _, rfl, hs6, by decide, by decide, fun H7 r3 hr3 fr7 hs7 => ⟨rfl, _, rfl, ite2 (fun hz => ?_) (fun hz => emp H7 fr7 hs7)⟩⟩
          refine ⟨_, rfl, _, rfl, _, rfl, _, rfl, _, _, rfl, rfl, a, c, af, cc, fs, 3, m + 1, ?_, hs7, (hs6.kpI fr7).tup haf6, fnd, flen, fr7.at hc6 (nin2 ⟨cca, ccc⟩), cca, ccc, by omega, hd1, by decide, fun H8 t8 us8 rs8 m8 fr8 hs8 hc8 ht8 hR8 hD8 => hC _ _ ⟨t8, us8, rs8, m8, rfl, fr7.w3.trans fr8, hs8, hc8, ht8, hR8, hD8⟩⟩
          show [V.ref a, V.ref af, V.ref cc, V.int (((d + 1 : Nat) : Int) - 1), V.int 3] = _
          rw [show ((d + 1 : Nat) : Int) - 1 = (d : Int) by omega]
          rfl
        · rintro x H8 ⟨ai, vsi, ri, kk, rfl, fr8, hs8, hc8, hai, hRi, hDi⟩
          have kp8 := hs6.kp3 hc6 fr8
          have hp8 := fr8.at hp6 p3
          refine ⟨_, rfl, .inl ⟨rfl, _, SqL.of hp8⟩, _, rfl, _, rfl, _, rfl, _, rfl, _, rfl, by show 5 ≤ sizeLine; decide, fun t9 nt9 => ?_⟩
          have s9 := same_upd (o := HO.tup [V.str (nmR m), V.ref tw, V.ref tb, V.str RUL[r2], V.ref ai]) nt9
          have hp9 := s9 _ _ hp8
          refine ⟨p, us, .ref t9, rfl, rfl, hp9, by rw [sizeLine_eq]; omega, ?_⟩
          have kz := (Same.kpI s9).trans (kpI_list (ys := us ++ [V.ref t9]) hp9)
          have k48 := (kp46.trans kp8).trans kz
          refine ⟨_, _, _, _, _, _, us ++ [.ref t9], rs ++ [.mk (nmR m) wl bl RUL[r2] ri], kk, rfl, ?_, (hs8.same s9).upd pne.1 pne.2, ?_, upd_same, (hR.mono (kpa.trans (kpa6.trans (kp8.trans kz)))).app (.cons (.mk ?_ (k48.tup htw) (k48.tup htb) (kz.tup hai) (hRi.mono kz)) .nil), hD.snoc hm24 sw sb dj l3 (List.getElem_mem _) hDi (by omega)⟩
          · exact ((fr.trans fra).trans (fra6.w3.trans (fr8.then s9))).upd np
          · rw [upd_ne pcc.symm]
            exact s9 _ _ hc8
          · exact (kpI_list hp9).tup upd_same
      · rintro σ H1 ⟨v6, v7, v8, v9, v10, v11, us, rs, m, rfl, fr, hs1, hc1, hp1, hR, hD⟩
        refine ⟨_, rfl, p, us, rfl, .inl ⟨.of hp1, fun t nt => k _ t us rs m (fr.then (same_upd nt)) (hs1.same (same_upd nt)) (same_upd nt _ _ hc1) upd_same (hR.mono (Same.kpI (same_upd nt))) { hD with len := Nat.le_trans hD.len (by omega) }⟩⟩
end
end Sc
set_option Elab.async false
set_option maxRecDepth 100000
set_option linter.all false
set_option maxHeartbeats 1000000
namespace Sc
open PySem PySem.Spec L2
open PyProof.Rows hiding St
theorem RowAt.inv {H : Hp} {v : V} {r : RT} (h : RowAt H v r) : ∃ (a aw ab ai : Addr) (vs : List V), v = .ref a ∧ H a = some (.tup [.str r.n, .ref aw, .ref ab, .str r.r, .ref ai]) ∧ H aw = some (.tup (sV r.w)) ∧ H ab = some (.tup (sV r.b)) ∧ H ai = some (.tup vs) ∧ RowsAt H vs r.inner := by
  cases h with
  | mk h1 h2 h3 h4 h5 => exact ⟨_, _, _, _, _, rfl, h1, h2, h3, h4, h5⟩
theorem RT.eta (r : RT) : RT.mk r.n r.w r.b r.r r.inner = r := by cases r; rfl
abbrev cOk (r : RT) : Prop := NmOk r.n ∧ NmOk r.r ∧ CondOk r.w r.b ∧ r.inner.length ≤ 60
theorem dep_inner {d : Nat} {r : RT} (h : r.dep d) : ∃ e, d = e + 1 ∧ depL e r.inner := by
  cases r with
  | mk n w b rr i =>
    cases d with
    | zero => exact False.elim (by unfold RT.dep at h; exact h)
    | succ d => exact ⟨d, rfl, by simp only [RT.dep] at h; exact h⟩
theorem mkCondA {H : Hp} {R : Addr → Hp → Prop} {E : XK} {aw ab : Addr} {w b : List Str} (haw : H aw = some (.tup (sV w))) (hab : H ab = some (.tup (sV b))) (ok : CondOk w b) (k : ∀ (c : Addr) (H' : Hp), Same H H' → CondAt H' (.ref c) w b → R c H') :
    ∀ x dx, H x = none → H dx = none → dx ≠ x → spCond (.ref x :: ([.ref aw, .ref ab] ++ [])) (upd (upd H dx (.own x)) x (.ins cCond dx [])) (fun v H2 => v = .non ∧ R x H2) E := by
  intro x dx nx ndx ne
  obtain ⟨p, dx', aw', ab', w', b', e, h1, h2, h3, h4, h5⟩ := mkCond (Q := fun v H' => ∀ c, v = .ref c → R c H') (E := E) haw hab ok (fun c H' s hc c' e => by cases e; exact k c H' s hc) x dx nx ndx ne
  exact ⟨p, dx', aw', ab', w', b', e, h1, h2, h3, h4, fun H' fr hx => ⟨rfl, (h5 H' fr hx).2 x rfl⟩⟩
theorem spRule_mono {vs : List V} {H : Hp} {Q Q' : VK} {E : XK} (h : spRule vs H Q E) (m : ∀ v H', Q v H' → Q' v H') : spRule vs H Q' E := by
  obtain ⟨p, dx, c, ai, n, r, e, h1, h2, h3, h4⟩ := h
  exact ⟨p, dx, c, ai, n, r, e, h1, h2, h3, fun H' a b => m _ _ (h4 H' a b)⟩
theorem mkRuleA {H : Hp} {R : Addr → Hp → Prop} {E : XK} {c ai : Addr} {n r : Str} {w b : List Str} {vs : List V} {i : List RT} (hc : CondAt H (.ref c) w b) (hai : H ai = some (.tup vs)) (hi : RulesAt H vs i) (hn : NmOk n) (hr : NmOk r)
    (k : ∀ (a : Addr) (H' : Hp), Same H H' → RuleAt H' (.ref a) (.mk n w b r i) → R a H') :
    ∀ x dx, H x = none → H dx = none → dx ≠ x → spRule (.ref x :: ([.str n, .ref c, .str r, .ref ai] ++ [])) (upd (upd H dx (.own x)) x (.ins cRule dx [])) (fun v H2 => v = .non ∧ R x H2) E := by
  intro x dx nx ndx ne
  have h := mkRule (Q := fun v H' => ∀ c, v = .ref c → R c H') (E := E) hc hai hi hn hr (fun c H' s hc c' e => by cases e; exact k c H' s hc) x dx nx ndx ne
  refine spRule_mono h fun v H2 z => ⟨z.1, z.2 x rfl⟩
section
variable {P : Program} {w : World} {K : PySem.W.Frag} {mg : Str → Option Value} {base : Heap}
/-! ### the rule of a drawn one -/
def spLRule (d : Nat) : Sp := fun vs H Q _ => ∃ (v : V) (r : RT), vs = [v] ∧ RowAt H v r ∧ r.dep d ∧ allT cOk r ∧ ∀ H' a, Same H H' → RuleAt H' (.ref a) r → Q (.ref a) H'
abbrev nLRule : List Str := ["_law_row", "_law_one"]
theorem sc_lrule : FnScope nLRule ["_law_row"] (defScope s_law_rule) := ⟨rfl, rfl, rfl, by decide +kernel, rfl, by decide +kernel, by decide +kernel⟩
theorem ok_lrule (T : Txt K mg) : ∀ d : Nat, Okd P w K mg base CX0 (d + 4) 708 ["_law_row"] (spLRule d) := by
  intro d
  have nd := sc_lrule.nd
  induction d with
  | zero =>
    obtain ⟨fd, F⟩ := T.d_law_rule
    refine ⟨fd, F.ok (k := 3) sc_lrule (fun vs H Q E h => ?_) (fun cdv A outer s H vs Q E hr h => ?_), F.binds fun _ _ _ _ _ _ us hl => match us, hl with | [_], _ => rfl, F.kp⟩
    · obtain ⟨_, _, rfl, _⟩ := h
      rfl
    · obtain ⟨_, _, _, _, hd, _⟩ := h
      obtain ⟨e, he, _⟩ := dep_inner hd
      cases he
  | succ d ih =>
    obtain ⟨fd, F⟩ := T.d_law_rule
    refine ⟨fd, F.ok (k := d + 4) sc_lrule (fun vs H Q E h => ?_) (fun cdv A outer s H vs Q E hr h => ?_), F.binds fun _ _ _ _ _ _ us hl => match us, hl with | [_], _ => rfl, F.kp⟩
    · obtain ⟨_, _, rfl, _⟩ := h
      rfl
    · obtain ⟨v, r, rfl, hv, hd, hall, k⟩ := h
      have hr3 : Room 3 _ := hr.mono (by omega)
      obtain ⟨e, he, hdi⟩ := dep_inner hd
      cases he
      obtain ⟨⟨n1, n2, n3, n4⟩, hin⟩ := allT_iff.mp hall
      obtain ⟨a, aw, ab, ai, vs, rfl, h1, h2, h3, h4, h5⟩ := RowAt.inv hv
      have hvl := h5.len
      refine ⟨_, pss_one (ps_ret (pmk T.m_Rule (ok_rule_init T) hr3 T.g_Rule pass0 (pa_cons (pe_ix ix_tup (pv 0) pe_int (fun _ _ => rfl)) (pa_cons (pmk T.m_Condition (ok_cond_init T) hr3 T.g_Condition pass0 (pa_cons (pe_ix ix_tup (pv 0) pe_int (fun _ _ => rfl)) (pa_cons (pe_ix ix_tup (pv 0) pe_int (fun _ _ => rfl)) pa_nil)))
        (pa_cons (pe_ix ix_tup (pv 0) pe_int (fun _ _ => rfl)) (pa_cons (pe_callTy call_tuple_of (by rfl) T.f_tuple (by decide +kernel) (pa_cons (pe_lc (own := [("_law_one", 1)]) (te := tCall (spLRule d) [] E0 (tCons (tVar 1) tNil)) rfl nd (pi_tup (pe_ix ix_tup (pv 0) pe_int (fun _ _ => rfl))) (blkOk_by (N := nLRule) (sc := defScope s_law_rule) (by decide +kernel))
          (fun _ _ _ _ _ => pg_name (i := 1) nd rfl (.inl rfl)) (fun _ _ _ _ _ => pts_nil) (fun _ _ _ _ _ => pc ih hr T.g_law_rule pass0 (pa_cons (pv 1) pa_nil))) pa_nil)) pa_nil)))))), ?_⟩
      refine ⟨_, rfl, a, _, 0, _, rfl, rfl, .of h1, rfl, _, rfl, a, _, 1, _, rfl, rfl, .of h1, rfl, _, rfl, a, _, 2, _, rfl, rfl, .of h1, rfl, mkCondA h2 h3 n3 fun c H1 s1 hc => ?_⟩
      have h1' := s1 _ _ h1
      have h4' := s1 _ _ h4
      refine ⟨_, rfl, a, _, 3, _, rfl, rfl, .of h1', rfl, _, rfl, a, _, 4, _, rfl, rfl, .of h1', rfl, ai, rfl, ⟨_, .of h4'⟩, fun D nD => ?_⟩
      refine lc_go (walk_tup (xs := vs)) (by rw [hvl, sizeLine_eq]; omega) nD (fun H3 s => .of (s _ _ h4')) (fun i acc Hx => RulesAt Hx acc (r.inner.take i)) (fun _ _ _ _ kp h => RulesAt.mono kp h) .nil ?_ ?_
      · rintro i y H3 H4 acc Kt Kf hi s4 hR ⟨rfl, ey⟩ kt _
        obtain ⟨q, eq, hq⟩ := h5.get ey
        have hqa := allL_iff.mp hin q (List.mem_of_getElem? eq)
        refine ⟨rfl, yes_ok ⟨_, rfl, y, q, rfl, hq.mono (Same.kpI (same_trans s1 s4)), depL_get hdi eq, hqa, fun H5 a5 s5 hra => kt _ _ s5 ?_⟩⟩
        rw [List.take_succ, eq]
        exact (RulesAt.mono (Same.kpI s5) hR).app (.cons hra .nil)
      · rintro H3 acc s4 hD hR
        rw [hvl, List.take_length] at hR
        refine ⟨D, acc, rfl, .inl ⟨.of hD, fun t nt => ?_⟩⟩
        have s5 := same_upd (o := HO.tup acc) nt
        have s45 := same_trans s4 s5
        exact mkRuleA (hc.mono (Same.kpI s45)) upd_same (hR.mono (Same.kpI s5)) n1 n2 fun a6 H6 s6 hra => k _ a6 (same_trans s1 (same_trans s45 s6)) (by rw [RT.eta] at hra; exact hra)
/-! ### the book -/
def spLBook : Sp := fun vs H Q _ => ∃ (af ar : Addr) (fs : List Str) (rv : List V) (rs : List RT) (l : Str), vs = [.ref af, .ref ar, .str l] ∧ H af = some (.tup (sV fs)) ∧ H ar = some (.tup rv) ∧ RowsAt H rv rs ∧ depL 3 rs ∧ allL cOk rs ∧ rs.length ≤ 60 ∧ BookOk fs rs l ∧
  ∀ H' a, Same H H' → BookAt H' (.ref a) fs rs l → Q (.ref a) H'
abbrev nLBook : List Str := ["_law_facts_here", "_law_rules_here", "_law_last", "_law_row"]
theorem sc_lbook : FnScope nLBook ["_law_facts_here", "_law_rules_here", "_law_last"] (defScope s_law_book) := ⟨rfl, rfl, rfl, by decide +kernel, rfl, by decide +kernel, by decide +kernel⟩
theorem ok_lbook (T : Txt K mg) : Okd P w K mg base CX0 9 713 ["_law_facts_here", "_law_rules_here", "_law_last"] spLBook := by
  obtain ⟨fd, F⟩ := T.d_law_book
  have nd := sc_lbook.nd
  refine ⟨fd, F.ok (k := 8) sc_lbook (fun vs H Q E h => ?_) (fun cdv A outer s H vs Q E hr h => ?_), F.binds fun _ _ _ _ _ _ us hl => match us, hl with | [_, _, _], _ => rfl, F.kp⟩
  · obtain ⟨_, _, _, _, _, _, rfl, _⟩ := h
    rfl
  · obtain ⟨af, ar, fs, rv, rs, l, rfl, haf, har, hrs, hd, hall, hlen, ok, k⟩ := h
    have hvl := hrs.len
    refine ⟨_, pss_one (ps_ret (pmk T.m_Book (ok_book_init T) hr T.g_Book pass0 (pa_cons (pv 0) (pa_cons (pe_callTy call_tuple_of (by rfl) T.f_tuple (by decide +kernel) (pa_cons (pe_lc (own := [("_law_row", 3)]) (te := tCall (spLRule 3) [] E0 (tCons (tVar 3) tNil)) rfl nd (pi_tup (pv 1)) (blkOk_by (N := nLBook) (sc := defScope s_law_book) (by decide +kernel))
          (fun _ _ _ _ _ => pg_name (i := 3) nd rfl (.inl rfl)) (fun _ _ _ _ _ => pts_nil) (fun _ _ _ _ _ => pc (ok_lrule T 3) (hr.mono (by decide)) T.g_law_rule pass0 (pa_cons (pv 3) pa_nil))) pa_nil)) (pa_cons (pv 2) pa_nil))))), ?_⟩
    refine ⟨_, rfl, _, rfl, ar, rfl, ⟨_, .of har⟩, fun D nD => ?_⟩
    refine lc_go (walk_tup (xs := rv)) (by rw [hvl, sizeLine_eq]; omega) nD (fun H3 s => .of (s _ _ har)) (fun i acc Hx => RulesAt Hx acc (rs.take i)) (fun _ _ _ _ kp h => RulesAt.mono kp h) .nil ?_ ?_
    · rintro i y H3 H4 acc Kt Kf hi s4 hR ⟨rfl, ey⟩ kt _
      obtain ⟨q, eq, hq⟩ := hrs.get ey
      refine ⟨rfl, yes_ok ⟨_, rfl, y, q, rfl, hq.mono (Same.kpI s4), depL_get hd eq, allL_iff.mp hall q (List.mem_of_getElem? eq), fun H5 a5 s5 hra => kt _ _ s5 ?_⟩⟩
      rw [List.take_succ, eq]
      exact (RulesAt.mono (Same.kpI s5) hR).app (.cons hra .nil)
    · rintro H3 acc s4 hD hR
      rw [hvl, List.take_length] at hR
      refine ⟨D, acc, rfl, .inl ⟨.of hD, fun t nt => ⟨_, rfl, ?_⟩⟩⟩
      have s5 := same_upd (o := HO.tup acc) nt
      exact mkBook (s5 _ _ (s4 _ _ haf)) upd_same (hR.mono (Same.kpI s5)) ok fun a6 H6 s6 hb => k _ a6 (same_trans s4 (same_trans s5 s6)) hb
/-! ### does a case meet a rule -/
def meetM (r : RT) (cs : List Str) : Bool := r.w.all (fun x => decide (x ∈ cs)) && r.b.all (fun x => !decide (x ∈ cs))
theorem fil_emp {l : List Str} {p q : Str → Bool} (h : ∀ x, p x = !q x) : (sV (l.filter p)).isEmpty = l.all q := by
  induction l with
  | nil => rfl
  | cons a l ih =>
    rw [List.filter_cons, List.all_cons, h a]
    cases q a with
    | true => simpa using ih
    | false => rfl
def spMeets : Sp := fun vs H Q _ => ∃ (v : V) (ac : Addr) (r : RT) (cs : List Str), vs = [v, .ref ac] ∧ RowAt H v r ∧ H ac = some (.tup (sV cs)) ∧ r.w.length ≤ 60 ∧ r.b.length ≤ 60 ∧ ∀ H', Same H H' → Q (.bl (meetM r cs)) H'
abbrev nMeets : List Str := ["_law_row", "_law_case_here", "_law_missing", "_law_name"]
theorem sc_meets : FnScope nMeets ["_law_row", "_law_case_here"] (defScope s_law_meets) := ⟨rfl, rfl, rfl, by decide +kernel, rfl, by decide +kernel, by decide +kernel⟩
theorem ok_meets (T : Txt K mg) : Okd P w K mg base CX0 1 718 ["_law_row", "_law_case_here"] spMeets := by
  obtain ⟨fd, F⟩ := T.d_law_meets
  have nd := sc_meets.nd
  refine ⟨fd, F.ok (k := 0) sc_meets (fun vs H Q E h => ?_) (fun cdv A outer s H vs Q E hr h => ?_), F.binds fun _ _ _ _ _ _ us hl => match us, hl with | [_, _], _ => rfl, F.kp⟩
  · obtain ⟨_, _, _, _, rfl, _⟩ := h
    rfl
  · obtain ⟨v, ac, r, cs, rfl, hv, hac, lw, lb, k⟩ := h
    obtain ⟨a, aw, ab, ai, vs, rfl, h1, h2, h3, h4, h5⟩ := RowAt.inv hv
    refine ⟨_, pss_cons (ps_setLc (i := 2) (own := [("_law_name", 3)]) (tt := tTest (tOp (rIn K true) (tVar 3) (tVar 1))) rfl nd rfl rfl (sw_true rfl rfl rfl rfl) (pi_tup (pe_ix ix_tup (pv 0) pe_int (fun _ _ => rfl))) (blkOk_by (N := nMeets) (sc := defScope s_law_meets) (by decide +kernel))
          (fun _ _ _ _ _ => pg_name (i := 3) nd rfl (.inl rfl)) (fun _ _ _ _ _ => pts_one (pt_cmpR op_notIn_seq (pv 3) (pv 1) (by rfl))) (fun _ _ _ _ _ => pv 3))
      (pss_one (ps_ret (pe_and (pe_cmpR (op_eqL0 hr.units0) (pv 2) (pe_lst pa_nil) (nomark _)) (pe_one (pe_cmpR (op_eqL0 hr.units0) (pe_lc (own := [("_law_name", 3)]) (tt := tTest (tOp (rIn K false) (tVar 3) (tVar 1))) rfl nd (pi_tup (pe_ix ix_tup (pv 0) pe_int (fun _ _ => rfl))) (blkOk_by (N := nMeets) (sc := defScope s_law_meets) (by decide +kernel))
          (fun _ _ _ _ _ => pg_name (i := 3) nd rfl (.inl rfl)) (fun _ _ _ _ _ => pts_one (pt_cmpR op_in_seq (pv 3) (pv 1) (by rfl))) (fun _ _ _ _ _ => pv 3)) (pe_lst pa_nil) (nomark _)))))), ?_⟩
    refine ⟨_, rfl, a, _, 1, _, rfl, rfl, .of h1, rfl, aw, rfl, ⟨_, .of h2⟩, fun D nD => ?_⟩
    refine lc_go (walk_tup (xs := sV r.w)) (by rw [List.length_map, sizeLine_eq]; omega) nD (fun H3 s => .of (s _ _ h2)) (fun i acc Hx => acc = sV ((r.w.take i).filter fun x => !decide (x ∈ cs))) (fun _ _ _ _ _ h => h) rfl ?_ ?_
    · rintro i y H3 H4 acc Kt Kf hi s4 rfl ⟨rfl, ey⟩ kt kf
      obtain ⟨x, ex, rfl⟩ := sV_get ey
      refine ⟨rfl, _, rfl, _, rfl, ac, _, rfl, .inr (.of (s4 _ _ hac)), rfl, flat_sV _, _, rfl, ?_⟩
      rw [if_pos rfl, in_sV]
      by_cases hx : x ∈ cs
      · rw [decide_eq_true hx]
        refine iteF (kf _ (Same.refl _) ?_)
        rw [List.take_succ, ex, List.filter_append]
        simp [hx]
      · rw [decide_eq_false hx]
        refine iteT ⟨_, rfl, kt _ _ (Same.refl _) ?_⟩
        rw [List.take_succ, ex, List.filter_append]
        simp [hx]
    · rintro H3 acc s4 hD rfl
      rw [List.length_map, List.take_length] at hD
      refine ⟨_, rfl, by show 0 ≤ sizeLine; decide, fun p np => ⟨D, p, _, rfl, rfl, .of (same_upd np _ _ hD), .of upd_same, _, rfl, ?_⟩⟩
      have s5 := same_trans s4 (same_upd (o := HO.lst []) np)
      have e1 : (sV (r.w.filter fun x => !decide (x ∈ cs))).isEmpty = r.w.all fun x => decide (x ∈ cs) := fil_emp fun x => rfl
      rw [e1]
      unfold meetM at k
      cases hw : r.w.all fun x => decide (x ∈ cs) with
      | false => exact iteF (by rw [hw, Bool.false_and] at k; exact k _ s5)
      | true =>
        rw [hw, Bool.true_and] at k
        refine iteT ⟨_, rfl, a, _, 2, _, rfl, rfl, .of (s5 _ _ h1), rfl, ab, rfl, ⟨_, .of (s5 _ _ h3)⟩, fun D2 nD2 => ?_⟩
        refine lc_go (walk_tup (xs := sV r.b)) (by rw [List.length_map, sizeLine_eq]; omega) nD2 (fun H3 s => .of (s _ _ (s5 _ _ h3))) (fun i acc Hx => acc = sV ((r.b.take i).filter fun x => decide (x ∈ cs))) (fun _ _ _ _ _ h => h) rfl ?_ ?_
        · rintro i y H4 H5 acc Kt Kf hi s6 rfl ⟨rfl, ey⟩ kt kf
          obtain ⟨x, ex, rfl⟩ := sV_get ey
          refine ⟨rfl, _, rfl, _, rfl, ac, _, rfl, .inr (.of (s6 _ _ (s5 _ _ hac))), rfl, flat_sV _, _, rfl, ?_⟩
          rw [if_neg (by decide), in_sV]
          by_cases hx : x ∈ cs
          · rw [decide_eq_true hx]
            refine iteT ⟨_, rfl, kt _ _ (Same.refl _) ?_⟩
            rw [List.take_succ, ex, List.filter_append]
            simp [hx]
          · rw [decide_eq_false hx]
            refine iteF (kf _ (Same.refl _) ?_)
            rw [List.take_succ, ex, List.filter_append]
            simp [hx]
        · rintro H4 acc s6 hD2 rfl
          rw [List.length_map, List.take_length] at hD2
          refine ⟨by show 0 ≤ sizeLine; decide, fun q nq => ⟨D2, q, _, rfl, rfl, .of (same_upd nq _ _ hD2), .of upd_same, ?_⟩⟩
          have e2 : (sV (r.b.filter fun x => decide (x ∈ cs))).isEmpty = r.b.all fun x => !decide (x ∈ cs) := fil_emp fun x => by rw [Bool.not_not]
          rw [e2]
          exact k _ (same_trans s5 (same_trans s6 (same_upd nq)))
/-! ### cases -/
def caseM (fs : List Str) (N : Nat) : List Str := ((List.range fs.length).filter fun k => decide (N / 2 ^ k % 2 = 1)).filterMap (fs[·]?)
def spCase : Sp := fun vs H Q _ => ∃ (af : Addr) (fs : List Str) (N : Nat), vs = [.ref af, .int (N : Nat)] ∧ H af = some (.tup (sV fs)) ∧ fs.length ≤ 12 ∧ ∀ H' t, Same H H' → H' t = some (.tup (sV (caseM fs N))) → Q (.ref t) H'
abbrev nCase : List Str := ["_law_facts_here", "_law_number", "_law_k"]
theorem sc_case : FnScope nCase ["_law_facts_here", "_law_number"] (defScope s_law_case) := ⟨rfl, rfl, rfl, by decide +kernel, rfl, by decide +kernel, by decide +kernel⟩
theorem ok_case (T : Txt K mg) : Okd P w K mg base CX0 1 737 ["_law_facts_here", "_law_number"] spCase := by
  obtain ⟨fd, F⟩ := T.d_law_case
  have nd := sc_case.nd
  refine ⟨fd, F.ok (k := 0) sc_case (fun vs H Q E h => ?_) (fun cdv A outer s H vs Q E hr h => ?_), F.binds fun _ _ _ _ _ _ us hl => match us, hl with | [_, _], _ => rfl, F.kp⟩
  · obtain ⟨_, _, _, rfl, _⟩ := h
    rfl
  · obtain ⟨af, fs, N, rfl, haf, hlen, k⟩ := h
    refine ⟨_, pss_one (ps_ret (pe_callTy call_tuple_of (by rfl) T.f_tuple (by decide +kernel) (pa_cons (pe_lc (own := [("_law_k", 2)]) (te := tOp (rIxT K) (tVar 0) (tVar 2)) rfl nd (pi_range1 (by rfl) T.f_range (pa_cons (pe_callB call_len_seq (by rfl) T.f_len PySem.boot_len (pa_cons (pv 0) pa_nil)) pa_nil)) (blkOk_by (N := nCase) (sc := defScope s_law_case) (by decide +kernel))
          (fun _ _ _ _ _ => pg_name (i := 2) nd rfl (.inl rfl)) (fun _ _ _ _ _ => pts_one (pt_cmpR op_eq (pe_op op_mod (pe_callTy call_int1 (by rfl) T.f_int (by decide +kernel) (pa_cons (pe_op op_shr (pv 1) (pv 2)) pa_nil)) pe_int) pe_int (nomark _))) (fun _ _ _ _ _ => pe_ix ix_tup (pv 0) (pv 2) (fun _ _ => rfl))) pa_nil))), ?_⟩
    refine ⟨_, rfl, af, _, rfl, .inr (.of haf), _, rfl, by rw [List.length_map]; omega, by rw [List.length_map]; omega, fun D nD => ?_⟩
    rw [show (((sV fs).length : Nat) : Int).toNat = fs.length by rw [List.length_map]; rfl]
    refine lc_go (walk_rng (n := fs.length)) (by rw [sizeLine_eq]; omega) nD (fun _ _ => trivial) (fun i acc Hx => acc = sV (((List.range i).filter fun k => decide (N / 2 ^ k % 2 = 1)).filterMap (fs[·]?))) (fun _ _ _ _ _ h => h) rfl ?_ ?_
    · rintro i y H3 H4 acc Kt Kf hi s4 rfl ⟨rfl, rfl⟩ kt kf
      refine ⟨rfl, _, rfl, _, rfl, _, _, rfl, rfl, by show (0 : Int) ≤ (i : Int); omega, .inl ⟨_, rfl, _, _, rfl, rfl, by show (0 : Int) < 2; decide, rfl, _, rfl, ?_⟩⟩
      have e1 : decide (V.int ((N : Int) / 2 ^ ((i : Int)).toNat % 2) = V.int 1) = decide (N / 2 ^ i % 2 = 1) := by
        rw [Bool.eq_iff_iff, decide_eq_true_iff, decide_eq_true_iff, show ((i : Int)).toNat = i from rfl]
        have e2 : (N : Int) / 2 ^ i % 2 = ((N / 2 ^ i % 2 : Nat) : Int) := by
          rw [Int.natCast_emod, Int.natCast_ediv, Int.natCast_pow]
          rfl
        rw [e2]
        exact ⟨fun z => by have := V.int.inj z; omega, fun z => by rw [z]; rfl⟩
      show if decide (V.int ((N : Int) / 2 ^ ((i : Int)).toNat % 2) = V.int 1) = true then _ else _
      rw [e1]
      have en : fs[i]? = some fs[i] := List.getElem?_eq_getElem hi
      refine ite2 (fun hb => ?_) (fun hb => ?_)
      · refine ⟨_, rfl, _, rfl, af, _, i, .str fs[i], rfl, rfl, .of (s4 _ _ haf), by rw [atI_nat, List.getElem?_map, en]; rfl, kt _ _ (Same.refl _) ?_⟩
        rw [List.range_succ, List.filter_append, List.filterMap_append]
        simp [of_decide_eq_true hb, en]
      · refine kf _ (Same.refl _) ?_
        rw [List.range_succ, List.filter_append, List.filterMap_append]
        simp only [List.filter_cons, List.filter_nil, hb]
        simp
    · rintro H3 acc s4 hD rfl
      exact ⟨D, _, rfl, .inl ⟨.of hD, fun t nt => k _ t (same_trans s4 (same_upd nt)) upd_same⟩⟩
def everyM (fs : List Str) : List (List Str) := (List.range (2 ^ fs.length)).map (caseM fs)
theorem TupsAt.mono {H H' : Hp} (k : KpI H H') : ∀ {vs : List V} {cs : List (List Str)}, TupsAt H vs cs → TupsAt H' vs cs
  | _, _, .nil => .nil
  | _, _, .cons h1 h2 => .cons (k.tup h1) (TupsAt.mono k h2)
theorem TupsAt.app {H : Hp} : ∀ {vs us : List V} {cs ds : List (List Str)}, TupsAt H vs cs → TupsAt H us ds → TupsAt H (vs ++ us) (cs ++ ds)
  | _, _, _, _, .nil, h => h
  | _, _, _, _, .cons h1 h2, h => .cons h1 (h2.app h)
def spEvery : Sp := fun vs H Q _ => ∃ (af : Addr) (fs : List Str), vs = [.ref af] ∧ H af = some (.tup (sV fs)) ∧ fs.length ≤ 6 ∧ ∀ H' p us, Same H H' → H p = none → H' p = some (.lst us) → TupsAt H' us (everyM fs) → Q (.ref p) H'
abbrev nEvery : List Str := ["_law_facts_here", "_law_number"]
theorem sc_every : FnScope nEvery ["_law_facts_here"] (defScope s_law_every) := ⟨rfl, rfl, rfl, by decide +kernel, rfl, by decide +kernel, by decide +kernel⟩
theorem ok_every (T : Txt K mg) : Okd P w K mg base CX0 2 742 ["_law_facts_here"] spEvery := by
  obtain ⟨fd, F⟩ := T.d_law_every
  have nd := sc_every.nd
  refine ⟨fd, F.ok (k := 1) sc_every (fun vs H Q E h => ?_) (fun cdv A outer s H vs Q E hr h => ?_), F.binds fun _ _ _ _ _ _ us hl => match us, hl with | [_], _ => rfl, F.kp⟩
  · obtain ⟨_, _, rfl, _⟩ := h
    rfl
  · obtain ⟨af, fs, rfl, haf, hlen, k⟩ := h
    have hpow : 2 ^ fs.length ≤ 64 := Nat.pow_le_pow_right (by decide) hlen
    refine ⟨_, pss_one (ps_ret (pe_lc (own := [("_law_number", 1)]) (te := tCall spCase [] E0 (tCons (tVar 0) (tCons (tVar 1) tNil))) rfl nd (pi_range1 (by rfl) T.f_range (pa_cons (pe_op op_shl pe_int (pe_callB call_len_seq (by rfl) T.f_len PySem.boot_len (pa_cons (pv 0) pa_nil))) pa_nil)) (blkOk_by (N := nEvery) (sc := defScope s_law_every) (by decide +kernel))
          (fun _ _ _ _ _ => pg_name (i := 1) nd rfl (.inl rfl)) (fun _ _ _ _ _ => pts_nil) (fun _ _ _ _ _ => pc (ok_case T) hr T.g_law_case pass0 (pa_cons (pv 0) (pa_cons (pv 1) pa_nil))))), ?_⟩
    obtain ⟨M, hM⟩ : ∃ M, M = 2 ^ fs.length := ⟨_, rfl⟩
    have e1 : (1 : Int) * 2 ^ (((sV fs).length : Nat) : Int).toNat = (M : Int) := by
      rw [List.length_map, Int.one_mul, hM, Int.natCast_pow]
      rfl
    rw [← hM] at hpow
    refine ⟨_, rfl, af, _, rfl, .inr (.of haf), _, _, rfl, rfl, ⟨by omega, by rw [List.length_map]; omega, by decide⟩, _, rfl, ?_, ?_, fun D nD => ?_⟩
    · rw [e1]; omega
    · rw [e1]; omega
    · rw [show ((1 : Int) * 2 ^ (((sV fs).length : Nat) : Int).toNat).toNat = M by rw [e1]; rfl]
      refine lc_go (walk_rng (n := M)) (by rw [sizeLine_eq]; omega) nD (fun _ _ => trivial) (fun i acc Hx => TupsAt Hx acc ((List.range i).map (caseM fs))) (fun _ _ _ _ kp h => h.mono kp) .nil ?_ ?_
      · rintro i y H3 H4 acc Kt Kf hi s4 hT ⟨rfl, rfl⟩ kt kf
        refine ⟨rfl, yes_ok ⟨_, rfl, _, rfl, af, fs, i, rfl, s4 _ _ haf, by omega, fun H5 t s5 ht => kt _ _ s5 ?_⟩⟩
        rw [List.range_succ, List.map_append]
        exact (hT.mono (Same.kpI s5)).app (.cons ht .nil)
      · rintro H3 acc s4 hD hT
        exact k _ D acc s4 nD hD (by unfold everyM; rw [← hM]; exact hT)
end
end Sc
set_option Elab.async false
set_option maxRecDepth 100000
set_option linter.all false
set_option maxHeartbeats 1000000
namespace Sc
open PySem PySem.Spec L2
open PyProof.Rows hiding St
/-! ### the law's own pairs -/
def metsM (ev : List (List Str)) (rs : List RT) : List (List Str) := ev.filter fun c => rs.all (meetM · c)
def pairF (ev : List (List Str)) (outer : List RT) (r1 r2 : RT) : List Tri := if r1.r = r2.r then [] else ((metsM ev (outer ++ [r1, r2])).take 1).map fun c => (r1.n, r2.n, c)
mutual
def prs1 (ev : List (List Str)) (outer : List RT) : RT → List Tri
  | .mk n w b r i => prsL ev (outer ++ [.mk n w b r i]) i
def prsL (ev : List (List Str)) (outer : List RT) : List RT → List Tri
  | [] => []
  | r :: rs => rs.flatMap (pairF ev outer r) ++ (prs1 ev outer r ++ prsL ev outer rs)
end
theorem prs1_eq (ev : List (List Str)) (outer : List RT) (r : RT) : prs1 ev outer r = prsL ev (outer ++ [r]) r.inner := by
  cases r
  simp only [prs1, RT.inner]
theorem prsL_drop (ev : List (List Str)) (outer : List RT) {rs : List RT} {k : Nat} {r : RT} (e : rs[k]? = some r) : prsL ev outer (rs.drop k) = (rs.drop (k + 1)).flatMap (pairF ev outer r) ++ (prsL ev (outer ++ [r]) r.inner ++ prsL ev outer (rs.drop (k + 1))) := by
  obtain ⟨h, e2⟩ := List.getElem?_eq_some_iff.mp e
  rw [List.drop_eq_getElem_cons h, e2, prsL, prs1_eq]
theorem row_rule {H : Hp} {vs : List V} {rs : List RT} {i : Nat} (h : RowsAt H vs rs) (hi : i < rs.length) : ∃ v r, vs[i]? = some v ∧ rs[i]? = some r ∧ RowAt H v r := by
  have hl := h.len
  have e : vs[i]? = some (vs[i]'(by omega)) := List.getElem?_eq_getElem _
  obtain ⟨r, er, hr⟩ := h.get e
  exact ⟨_, r, e, er, hr⟩
theorem walk_rng2 {a n : Nat} : Walk (Itr (a : Int) n) n (fun _ => True) (fun i H x H' => H' = H ∧ x = .int ((a + i : Nat) : Int)) :=
  walk_range.mono (fun _ h => h) fun i H x H' _ _ h => ⟨h.1, by rw [h.2]; congr 1⟩
theorem TupsAt.take1 {H : Hp} {vs : List V} {cs : List (List Str)} (h : TupsAt H vs cs) : TupsAt H (vs.take 1) (cs.take 1) := by
  cases h with
  | nil => exact .nil
  | cons h1 h2 => exact .cons h1 .nil
theorem cut1 (xs : List V) : cutV xs none (some 1) = xs.take 1 := by
  cases xs with
  | nil => rfl
  | cons a l =>
    unfold cutV
    rw [show HT.sIx (a :: l).length 0 none = 0 from rfl, show HT.sIx (a :: l).length (a :: l).length (some 1) = 1 from ?_]
    · rfl
    · show (if (1 : Int) < 0 then ((1 : Int) + ((a :: l).length : Int)).toNat else min (1 : Int).toNat (a :: l).length) = 1
      rw [if_neg (by decide), List.length_cons]
      show min 1 (l.length + 1) = 1
      omega
abbrev lenOk (r : RT) : Prop := r.w.length ≤ 60 ∧ r.b.length ≤ 60 ∧ r.inner.length ≤ 60
section
variable {P : Program} {w : World} {K : PySem.W.Frag} {mg : Str → Option Value} {base : Heap}
def spPairs (d : Nat) : Sp := fun vs H Q _ => ∃ (ar ao ae : Addr) (rv ov eV : List V) (rs outer : List RT) (ev : List (List Str)), vs = [.ref ar, .ref ao, .ref ae] ∧ H ar = some (.tup rv) ∧ RowsAt H rv rs ∧ depN d rs ∧ allL lenOk rs ∧ rs.length ≤ 60 ∧
  H ao = some (.lst ov) ∧ RowsAt H ov outer ∧ (∀ r ∈ outer, lenOk r) ∧ outer.length + d ≤ 10 ∧ H ae = some (.lst eV) ∧ TupsAt H eV ev ∧ ev.length ≤ 100 ∧ (prsL ev outer rs).length ≤ 1000 ∧
  ∀ H' p us, Same H H' → H p = none → H' p = some (.lst us) → TrisAt H' us (prsL ev outer rs) → Q (.ref p) H'
abbrev nPairs : List Str := ["_law_rules_here", "_law_outer", "_law_every_here", "_law_found", "_law_k", "_law_j", "_law_some", "_law_met", "_law_case_here", "_law_row"]
abbrev scMet : Scope := { kind := .function, names := [(".0", .local), ("_law_case_here", .cell), ("_law_some", .cell)], isGenerator := false, isCoroutine := false }
theorem sc_pairs : FnScope nPairs ["_law_rules_here", "_law_outer", "_law_every_here"] (defScope s_law_pairs) := ⟨rfl, rfl, rfl, by decide +kernel, rfl, by decide +kernel, by decide +kernel⟩
theorem ok_pairs (T : Txt K mg) : ∀ d : Nat, Okd P w K mg base CX0 (d + 2) 747 ["_law_rules_here", "_law_outer", "_law_every_here"] (spPairs d) := by
  intro d
  have nd := sc_pairs.nd
  induction d with
  | zero =>
    obtain ⟨fd, F⟩ := T.d_law_pairs
    refine ⟨fd, F.ok (k := 1) sc_pairs (fun vs H Q E h => ?_) (fun cdv A outer s H vs Q E hr h => ?_), F.binds fun _ _ _ _ _ _ us hl => match us, hl with | [_, _, _], _ => rfl, F.kp⟩
    · obtain ⟨_, _, _, _, _, _, _, _, _, rfl, _⟩ := h
      rfl
    · obtain ⟨_, _, _, _, _, _, _, _, _, _, _, _, ⟨e, he, _⟩, _⟩ := h
      cases he
  | succ d ih =>
    obtain ⟨fd, F⟩ := T.d_law_pairs
    refine ⟨fd, F.ok (k := d + 2) sc_pairs (fun vs H Q E h => ?_) (fun cdv A outer s H vs Q E hr h => ?_), F.binds fun _ _ _ _ _ _ us hl => match us, hl with | [_, _, _], _ => rfl, F.kp⟩
    · obtain ⟨_, _, _, _, _, _, _, _, _, rfl, _⟩ := h
      rfl
    · obtain ⟨ar, ao, ae, rv, ov, eV, rs, out, ev, rfl, har, hrs, ⟨e, he, hdep⟩, hall, hlen, hao, hout, hoall, holen, hae, hev, hevl, htot, k⟩ := h
      cases he
      have hr1 : Room 1 _ := hr.mono (by omega)
      have hu0 := hr.units0
      refine ⟨_, pss_cons (ps_set (i := 3) nd rfl (.inl rfl) (pe_lst pa_nil))
        (pss_cons (ps_for PassesOwn.never rfl (pi_range1 (by rfl) T.f_range (pa_cons (pe_callB call_len_seq (by rfl) T.f_len PySem.boot_len (pa_cons (pv 0) pa_nil)) pa_nil)) (pg_name (i := 4) nd rfl (.inr rfl))
          (pss_cons (ps_for PassesOwn.never rfl (pi_range2 (by rfl) T.f_range (pa_cons (pe_op op_add (pv 4) pe_int) (pa_cons (pe_callB call_len_seq (by rfl) T.f_len PySem.boot_len (pa_cons (pv 0) pa_nil)) pa_nil))) (pg_name (i := 5) nd rfl (.inr rfl))
            (pss_one (ps_if (pt_cmpR op_ne (pe_ix ix_tup (pe_ix ix_tup (pv 0) (pv 4) (fun _ _ => rfl)) pe_int (fun _ _ => rfl)) (pe_ix ix_tup (pe_ix ix_tup (pv 0) (pv 5) (fun _ _ => rfl)) pe_int (fun _ _ => rfl)) (nomark _))
              (pss_cons (ps_set (i := 6) nd rfl (.inr rfl) (pe_op op_cat (pv 1) (pe_lst (pa_cons (pe_ix ix_tup (pv 0) (pv 4) (fun _ _ => rfl)) (pa_cons (pe_ix ix_tup (pv 0) (pv 5) (fun _ _ => rfl)) pa_nil)))))
              (pss_cons (ps_setLc (i := 7) (own := [("_law_case_here", 8)]) (tt := tTest (tOp (rEqL0 K) (tLc (iList K (tVar 6)) (gName 9) (tNot (tB (tCall spMeets [] E0 (tCons (tVar 9) (tCons (tVar 8) tNil))))) (tVar 9) [9]) (tLst tNil))) rfl nd rfl rfl (sw_true rfl rfl rfl rfl) (pi_list (pv 2)) (blkOk_by (N := nPairs) (sc := defScope s_law_pairs) (by decide +kernel))
                  (fun _ _ _ _ _ => pg_name (i := 8) nd rfl (.inr rfl))
                  (fun _ _ _ _ _ => pts_one (pt_cmpR (op_eqL0 hu0) (pe_lc (own := [("_law_row", 9)]) (tt := tNot (tB (tCall spMeets [] E0 (tCons (tVar 9) (tCons (tVar 8) tNil))))) rfl nd (pi_list (pv 6)) (blkOk_by (N := nPairs) (sc := scMet) (by decide +kernel)) (fun _ _ _ _ _ => pg_name (i := 9) nd rfl (.inl rfl))
                      (fun _ _ _ _ _ => pts_one (pt_not (pt_val (pc (ok_meets T) hr1 T.g_law_meets pass0 (pa_cons (pv 9) (pa_cons (pv 8) pa_nil)))))) (fun _ _ _ _ _ => pv 9)) (pe_lst pa_nil) (nomark _)))
                  (fun _ _ _ _ _ => pv 8))
              (pss_one (ps_expr (pe_bm PySem.F.plainAttrs_list PySem.F.slot_list_extend PySem.F.type_list_extend mt_extend (pv 3) (pa_cons
                (pe_lc (own := [("_law_case_here", 8)]) (te := tTup (tCons (tOp (rIxT K) (tOp (rIxT K) (tVar 0) (tVar 4)) (tC (.int 0))) (tCons (tOp (rIxT K) (tOp (rIxT K) (tVar 0) (tVar 5)) (tC (.int 0))) (tCons (tVar 8) tNil)))) rfl nd (pi_list (pe_slice sl_list (pv 7) po_none (po_some pe_int))) (blkOk_by (N := nPairs) (sc := defScope s_law_pairs) (by decide +kernel))
                  (fun _ _ _ _ _ => pg_name (i := 8) nd rfl (.inl rfl)) (fun _ _ _ _ _ => pts_nil)
                  (fun _ _ _ _ _ => pe_tup (pa_cons (pe_ix ix_tup (pe_ix ix_tup (pv 0) (pv 4) (fun _ _ => rfl)) pe_int (fun _ _ => rfl)) (pa_cons (pe_ix ix_tup (pe_ix ix_tup (pv 0) (pv 5) (fun _ _ => rfl)) pe_int (fun _ _ => rfl)) (pa_cons (pv 8) pa_nil))))) pa_nil)))))) pss_nil)))
          (pss_one (ps_expr (pe_bm PySem.F.plainAttrs_list PySem.F.slot_list_extend PySem.F.type_list_extend mt_extend (pv 3) (pa_cons (pc ih hr T.g_law_pairs pass0 (pa_cons (pe_ix ix_tup (pe_ix ix_tup (pv 0) (pv 4) (fun _ _ => rfl)) pe_int (fun _ _ => rfl)) (pa_cons (pe_op op_cat (pv 1) (pe_lst (pa_cons (pe_ix ix_tup (pv 0) (pv 4) (fun _ _ => rfl)) pa_nil))) (pa_cons (pv 2) pa_nil)))) pa_nil))))))
        (pss_one (ps_ret (pv 3)))), ?_⟩
      have hvl := hrs.len
      have hol := hout.len
      refine ⟨by show 0 ≤ sizeLine; decide, fun p np => ?_⟩
      have s0 := same_upd (o := HO.lst []) np
      refine ⟨_, rfl, ar, _, rfl, .inr (.of (s0 _ _ har)), _, rfl, by omega, by omega, ?_⟩
      rw [show ((rv.length : Nat) : Int).toNat = rs.length by omega]
      refine for_it walk_rng (fun i σ H' => ∃ v4 v5 v6 v7 v8 v9 acc ts, σ = [some (.ref ar), some (.ref ao), some (.ref ae), some (.ref p), v4, v5, v6, v7, v8, v9] ∧ Same H H' ∧ H' p = some (.lst acc) ∧ TrisAt H' acc ts ∧ ts ++ prsL ev out (rs.drop i) = prsL ev out rs)
        ⟨none, none, none, none, none, none, [], [], rfl, s0, upd_same, .nil, rfl⟩ (fun _ _ _ _ _ => trivial) ?_ ?_
      · rintro i x σ H1 H2 hi ⟨v4, v5, v6, v7, v8, v9, acc, ts, rfl, s1, hp, hT, htse⟩ ⟨rfl, rfl⟩
        obtain ⟨v1, r, ev1, er, hr1'⟩ := row_rule hrs hi
        obtain ⟨a1, aw1, ab1, ai1, ws1, rfl, g1, g2, g3, g4, g5⟩ := RowAt.inv hr1'
        obtain ⟨lr, hinr⟩ := allL_get hall er
        have eat : atI rv (i : Int) = some (V.ref a1) := by rw [atI_nat]; exact ev1
        rw [prsL_drop ev out er] at htse
        refine ⟨_, rfl, _, _, rfl, rfl, _, rfl, ar, _, rfl, .inr (.of (s1 _ _ har)), _, _, rfl, ⟨by omega, by omega, by omega, by omega⟩, ?_⟩
        rw [show ((rv.length : Int) - ((i : Int) + 1)).toNat = rs.length - (i + 1) by omega, show (i : Int) + 1 = ((i + 1 : Nat) : Int) by omega]
        refine for_it walk_rng2 (fun j σ H' => ∃ v5 v6 v7 v8 v9 acc ts, σ = [some (.ref ar), some (.ref ao), some (.ref ae), some (.ref p), some (.int (i : Nat)), v5, v6, v7, v8, v9] ∧ Same H H' ∧ H' p = some (.lst acc) ∧ TrisAt H' acc ts ∧
            ts ++ ((rs.drop (i + 1 + j)).flatMap (pairF ev out r) ++ (prsL ev (out ++ [r]) r.inner ++ prsL ev out (rs.drop (i + 1)))) = prsL ev out rs) ⟨v5, v6, v7, v8, v9, acc, ts, rfl, s1, hp, hT, htse⟩ (fun _ _ _ _ _ => trivial) ?_ ?_
        · rintro j x σ H3 H4 hj ⟨v5, v6, v7, v8, v9, acc, ts, rfl, s1, hp, hT, htse⟩ ⟨rfl, rfl⟩
          obtain ⟨v2, r2, ev2, er2, hr2'⟩ := row_rule hrs (show i + 1 + j < rs.length by omega)
          obtain ⟨a2, aw2, ab2, ai2, ws2, rfl, f1, f2, f3, f4, f5⟩ := RowAt.inv hr2'
          obtain ⟨lr2, _⟩ := allL_get hall er2
          have eat2 : atI rv ((i + 1 + j : Nat) : Int) = some (V.ref a2) := by rw [atI_nat]; exact ev2
          have edr : rs.drop (i + 1 + j) = r2 :: rs.drop (i + 1 + (j + 1)) := by
            obtain ⟨h, e2⟩ := List.getElem?_eq_some_iff.mp er2
            rw [List.drop_eq_getElem_cons h, e2]
            rfl
          rw [edr, List.flatMap_cons] at htse
          have htl := hT.len
          have har1 := s1 _ _ har
          refine ⟨_, rfl, _, rfl, ar, rv, _, _, rfl, rfl, .of har1, eat, a1, _, 3, .str r.r, rfl, rfl, .of (s1 _ _ g1), rfl, _, rfl, _, rfl, ar, rv, _, _, rfl, rfl, .of har1, eat2, a2, _, 3, .str r2.r, rfl, rfl, .of (s1 _ _ f1), rfl, rfl, _, rfl, ?_⟩
          by_cases hrr : r.r = r2.r
          · rw [show (!decide (V.str r.r = V.str r2.r)) = false by rw [hrr]; simp]
            refine iteF ⟨_, _, _, _, _, acc, ts, rfl, s1, hp, hT, ?_⟩
            rw [← htse, show pairF ev out r r2 = [] from if_pos hrr, List.nil_append]
          rw [show (!decide (V.str r.r = V.str r2.r)) = true by rw [decide_eq_false (fun z => hrr (V.str.inj z))]; rfl]
          refine iteT ?_
          refine ⟨_, rfl, _, rfl, _, rfl, ar, rv, _, _, rfl, rfl, .of har1, eat, _, rfl, _, rfl, ar, rv, _, _, rfl, rfl, .of har1, eat2, by show 2 ≤ sizeLine; decide, fun q nq => ?_⟩
          have s2 := same_upd (o := HO.lst [V.ref a1, V.ref a2]) nq
          refine ⟨ao, q, ov, _, rfl, rfl, s2 _ _ (s1 _ _ hao), upd_same, by simp; rw [sizeLine_eq]; omega, fun q2 nq2 => ?_⟩
          have s3 := same_trans s2 (same_upd (o := HO.lst (ov ++ [V.ref a1, V.ref a2])) nq2)
          have hq2 : (upd (upd H4 q (.lst [V.ref a1, V.ref a2])) q2 (.lst (ov ++ [V.ref a1, V.ref a2]))) q2 = some (.lst (ov ++ [V.ref a1, V.ref a2])) := upd_same
          have s13 := same_trans s1 s3
          generalize hHa : upd (upd H4 q (.lst [V.ref a1, V.ref a2])) q2 (.lst (ov ++ [V.ref a1, V.ref a2])) = Ha at s3 hq2 s13
          have hsome : RowsAt Ha (ov ++ [V.ref a1, V.ref a2]) (out ++ [r, r2]) := (hout.mono (Same.kpI s13)).app (.cons (hr1'.mono (Same.kpI s13)) (.cons (hr2'.mono (Same.kpI s13)) .nil))
          have hsl := hsome.len
          have hoall2 : ∀ y ∈ out ++ [r, r2], lenOk y := fun y hy => by
            rcases List.mem_append.mp hy with z | z
            · exact hoall y z
            · rcases List.mem_cons.mp z with z | z
              · rw [z]; exact lr
              · rw [List.mem_singleton.mp z]; exact lr2
          refine ⟨_, rfl, ae, rfl, ⟨_, .of (s13 _ _ hae)⟩, fun D nD => ?_⟩
          refine lc_go (walk_list (xs := eV)) (by rw [hev.len, sizeLine_eq]; omega) nD (fun H5 s => .of (s _ _ (s13 _ _ hae))) (fun k acc Hx => TupsAt Hx acc (metsM (ev.take k) (out ++ [r, r2]))) (fun _ _ _ _ kp h => h.mono kp) .nil ?_ ?_
          · rintro k2 y H5 H6 acc5 Kt Kf hk s5 hT5 ⟨rfl, ey⟩ kt kf
            obtain ⟨ac, c, rfl, ec, hc⟩ := hev.get ey
            have s15 := same_trans s13 s5
            have hc5 := s15 _ _ hc
            have hq5 := s5 _ _ hq2
            refine ⟨rfl, _, rfl, q2, rfl, ⟨_, .of hq5⟩, fun D2 nD2 => ?_⟩
            refine lc_go (walk_list (xs := ov ++ [V.ref a1, V.ref a2])) (by rw [hsl]; simp; rw [sizeLine_eq]; omega) nD2 (fun H7 s => .of (s _ _ hq5)) (fun k acc _ => acc.isEmpty = ((out ++ [r, r2]).take k).all (meetM · c)) (fun _ _ _ _ _ h => h) rfl ?_ ?_
            · rintro k3 z H7 H8 acc7 Kt2 Kf2 hk3 s7 hA ⟨rfl, ez⟩ kt2 kf2
              obtain ⟨y3, ey3, hy3⟩ := hsome.get ez
              have hl3 := hoall2 y3 (List.mem_of_getElem? ey3)
              have s57 := same_trans s5 s7
              refine ⟨rfl, _, rfl, _, rfl, z, ac, y3, c, rfl, hy3.mono (Same.kpI s57), s7 _ _ hc5, hl3.1, hl3.2.1, fun H9 s9 => ⟨_, rfl, ?_⟩⟩
              cases hm : meetM y3 c with
              | true =>
                refine iteF (kf2 _ s9 ?_)
                rw [List.take_succ, ey3, List.all_append, ← hA]
                simp [hm]
              | false =>
                refine iteT ⟨_, rfl, kt2 _ _ s9 ?_⟩
                rw [List.take_succ, ey3, List.all_append]
                simp [hm]
            · rintro H7 acc7 s7 hD7 hA
              rw [hsl, List.take_length] at hA
              refine ⟨by show 0 ≤ sizeLine; decide, fun q3 nq3 => ⟨D2, q3, _, rfl, rfl, .of (same_upd nq3 _ _ hD7), .of upd_same, _, rfl, ?_⟩⟩
              have s8 := same_trans s7 (same_upd (o := HO.lst []) nq3)
              have etk : metsM (ev.take (k2 + 1)) (out ++ [r, r2]) = metsM (ev.take k2) (out ++ [r, r2]) ++ (if (out ++ [r, r2]).all (meetM · c) = true then [c] else []) := by
                unfold metsM
                rw [List.take_succ, ec, List.filter_append]
                congr 1
                show List.filter _ [c] = _
                rw [List.filter_cons, List.filter_nil]
              rw [hA]
              refine ite2 (fun hb => ⟨_, rfl, kt _ _ s8 ?_⟩) (fun hb => kf _ s8 ?_)
              · rw [etk, if_pos hb]
                exact (hT5.mono (Same.kpI s8)).app (.cons (s8 _ _ hc5) .nil)
              · rw [etk, if_neg hb, List.append_nil]
                exact hT5.mono (Same.kpI s8)
          · rintro H5 acc5 s5 hD hT5
            rw [hev.len, List.take_length] at hT5
            have s15 := same_trans s13 s5
            have s35 := same_trans s3 s5
            refine ⟨_, rfl, .inl ⟨rfl, _, SqL.of (s35 _ _ hp)⟩, ?_⟩
            refine ⟨_, rfl, _, rfl, D, acc5, rfl, .of hD, fun q4 nq4 => ⟨q4, rfl, ⟨_, .of upd_same⟩, fun D3 nD3 => ?_⟩⟩
            rw [cut1]
            rw [cut1] at nD3
            have s6 := same_upd (o := HO.lst (acc5.take 1)) nq4
            have hq4 : (upd H5 q4 (.lst (acc5.take 1))) q4 = some (.lst (acc5.take 1)) := upd_same
            generalize hHb : upd H5 q4 (.lst (acc5.take 1)) = Hb at s6 hq4 nD3
            have s16 := same_trans s15 s6
            have s36 := same_trans s35 s6
            have hT6 : TupsAt Hb (acc5.take 1) ((metsM ev (out ++ [r, r2])).take 1) := (hT5.mono (Same.kpI s6)).take1
            have hl6 := hT6.len
            have epf : pairF ev out r r2 = ((metsM ev (out ++ [r, r2])).take 1).map fun c => (r.n, r2.n, c) := if_neg hrr
            have hpf1 : (pairF ev out r r2).length ≤ 1 := by rw [epf, List.length_map, List.length_take]; omega
            refine lc_go (walk_list (xs := acc5.take 1)) (by rw [List.length_take, sizeLine_eq]; omega) nD3 (fun H7 s => .of (s _ _ hq4)) (fun k acc Hx => TrisAt Hx acc ((((metsM ev (out ++ [r, r2])).take 1).take k).map fun c => (r.n, r2.n, c))) (fun _ _ _ _ kp h => h.mono kp) .nil ?_ ?_
            · rintro k2 y H7 H8 acc7 Kt Kf hk s7 hT7 ⟨rfl, ey⟩ kt _
              obtain ⟨ac, c, rfl, ec, hc⟩ := hT6.get ey
              have s17 := same_trans s16 s7
              have har7 := s17 _ _ har
              refine ⟨rfl, yes_ok ⟨_, rfl, _, rfl, ar, rv, _, _, rfl, rfl, .of har7, eat, a1, _, 0, .str r.n, rfl, rfl, .of (s17 _ _ g1), rfl, _, rfl, _, rfl, ar, rv, _, _, rfl, rfl, .of har7, eat2, a2, _, 0, .str r2.n, rfl, rfl, .of (s17 _ _ f1), rfl, _, rfl, by show 3 ≤ sizeLine; decide, fun t nt => kt (.ref t) _ (same_upd nt) ?_⟩⟩
              rw [List.take_succ, ec, List.map_append]
              exact (hT7.mono (Same.kpI (same_upd nt))).app (.cons upd_same (same_upd nt _ _ (s7 _ _ hc)) .nil)
            · rintro H7 acc7 s7 hD7 hT7
              rw [hl6, List.take_length, ← epf] at hT7
              have hl7 := hT7.len
              have s37 := same_trans s36 s7
              have hp7 := s37 _ _ hp
              have htot2 : ts.length ≤ 1000 := by
                have := congrArg List.length htse
                rw [List.length_append] at this
                omega
              refine ⟨p, D3, acc, acc7, rfl, rfl, hp7, hD7, by rw [sizeLine_eq]; omega, _, _, _, _, _, acc ++ acc7, ts ++ pairF ev out r r2, rfl, same_new (same_trans s16 s7) np, upd_same, ((hT.mono (Same.kpI s37)).app hT7).mono (kpI_list hp7), ?_⟩
              rw [List.append_assoc, ← htse]
              simp only [List.append_assoc]
        · rintro σ H3 ⟨v5, v6, v7, v8, v9, acc, ts, rfl, s1, hp, hT, htse⟩
          rw [show i + 1 + (rs.length - (i + 1)) = rs.length by omega, List.drop_length, List.flatMap_nil, List.nil_append] at htse
          have htl := hT.len
          have htot3 := congrArg List.length htse
          rw [List.length_append, List.length_append] at htot3
          have har1 := s1 _ _ har
          refine ⟨_, rfl, .inl ⟨rfl, _, SqL.of hp⟩, ?_⟩
          refine ⟨_, rfl, _, rfl, ar, rv, _, _, rfl, rfl, .of har1, eat, a1, _, 4, .ref ai1, rfl, rfl, .of (s1 _ _ g1), rfl, _, rfl, _, rfl, _, rfl, ar, rv, _, _, rfl, rfl, .of har1, eat, by show 1 ≤ sizeLine; decide, fun q nq => ?_⟩
          have s2 := same_upd (o := HO.lst [V.ref a1]) nq
          refine ⟨ao, q, ov, _, rfl, rfl, s2 _ _ (s1 _ _ hao), upd_same, by simp; rw [sizeLine_eq]; omega, fun q2 nq2 => ?_⟩
          have s3 := same_trans s2 (same_upd (o := HO.lst (ov ++ [V.ref a1])) nq2)
          have hq2 : (upd (upd H3 q (.lst [V.ref a1])) q2 (.lst (ov ++ [V.ref a1]))) q2 = some (.lst (ov ++ [V.ref a1])) := upd_same
          have s13 := same_trans s1 s3
          generalize hHa : upd (upd H3 q (.lst [V.ref a1])) q2 (.lst (ov ++ [V.ref a1])) = Ha at s3 hq2 s13
          have hk13 := Same.kpI s13
          refine ⟨_, rfl, ai1, q2, ae, ws1, ov ++ [.ref a1], eV, r.inner, out ++ [r], ev, rfl, s13 _ _ g4, g5.mono hk13, depN_inner (depL_get hdep er), hinr, lr.2.2, hq2, (hout.mono hk13).app (.cons (hr1'.mono hk13) .nil), fun y hy => ?_, by simp; omega, s13 _ _ hae, hev.mono hk13, hevl, by omega, fun H5 p5 us5 s5 np5 hp5 hT5 => ?_⟩
          · rcases List.mem_append.mp hy with z | z
            · exact hoall y z
            · rw [List.mem_singleton.mp z]
              exact lr
          · have s35 := same_trans s3 s5
            have hp6 := s35 _ _ hp
            have hl5 := hT5.len
            refine ⟨p, p5, acc, us5, rfl, rfl, hp6, hp5, by rw [sizeLine_eq]; omega, _, _, _, _, _, _, acc ++ us5, ts ++ prsL ev (out ++ [r]) r.inner, rfl, same_new (same_trans s13 s5) np, upd_same, ((hT.mono (Same.kpI s35)).app hT5).mono (kpI_list hp6), ?_⟩
            rw [List.append_assoc, ← htse]
      · rintro σ H1 ⟨v4, v5, v6, v7, v8, v9, acc, ts, rfl, s1, hp, hT, htse⟩
        rw [List.drop_length] at htse
        simp only [prsL, List.append_nil] at htse
        exact ⟨_, rfl, k _ p acc s1 np hp (htse ▸ hT)⟩
end
end Sc
set_option Elab.async false
set_option maxRecDepth 100000
set_option linter.all false
set_option maxHeartbeats 1000000
namespace Sc
open PySem PySem.Spec L2
open PyProof.Rows hiding St
/-! ### the law's own change -/
def hasIt (nm : Str) (l : List RT) : Bool := (List.range (l.length - 1)).any fun k => decide (l[k]?.map RT.n = some nm)
mutual
def dn1 (nm : Str) : RT → Bool
  | .mk _ _ _ _ i => dnL nm i || hasIt nm i
def dnL (nm : Str) : List RT → Bool
  | [] => false
  | r :: rs => dn1 nm r || dnL nm rs
end
def dnA (nm : Str) (l : List RT) : Bool := dnL nm l || hasIt nm l
theorem dn1_eq (nm : Str) (r : RT) : dn1 nm r = dnA nm r.inner := by
  cases r
  simp only [dn1, dnA, RT.inner]
theorem dnL_snoc (nm : Str) : ∀ (l : List RT) (r : RT), dnL nm (l ++ [r]) = (dnL nm l || dn1 nm r)
  | [], r => by simp [dnL]
  | x :: l, r => by simp only [List.cons_append, dnL, dnL_snoc nm l r, Bool.or_assoc]
theorem RowsAt.set {H : Hp} {v : V} {r : RT} : ∀ {vs : List V} {rs : List RT} (i : Nat), RowsAt H vs rs → RowAt H v r → RowsAt H (vs.set i v) (rs.set i r)
  | _, _, _, .nil, _ => .nil
  | _, _, 0, .cons _ h2, h => .cons h h2
  | _, _, i + 1, .cons h1 h2, h => .cons h1 (h2.set i h)
theorem set_take {α : Type} {l : List α} {f : α → α} {i : Nat} {x : α} (e : l[i]? = some x) : ((l.take i).map f ++ l.drop i).set i (f x) = (l.take (i + 1)).map f ++ l.drop (i + 1) := by
  obtain ⟨h, e2⟩ := List.getElem?_eq_some_iff.mp e
  have hl : ((l.take i).map f).length = i := by simp; omega
  rw [List.set_append_right _ _ (by omega), hl, Nat.sub_self, List.drop_eq_getElem_cons h, List.set_cons_zero, List.take_succ, e, List.map_append]
  simp
section
variable {P : Program} {w : World} {K : PySem.W.Frag} {mg : Str → Option Value} {base : Heap}
def spChg (d : Nat) : Sp := fun vs H Q _ => ∃ (ar : Addr) (nm : Str) (rv : List V) (rs : List RT), vs = [.ref ar, .str nm] ∧ H ar = some (.tup rv) ∧ RowsAt H rv rs ∧ depN d rs ∧ allL (fun r => r.inner.length ≤ 60) rs ∧ rs.length ≤ 60 ∧
  ∀ H' t a us, Same H H' → H' t = some (.tup [.ref a, .bl (dnA nm rs)]) → H' a = some (.tup us) → RowsAt H' us (swapA nm rs) → Q (.ref t) H'
abbrev nChg : List Str := ["_law_rules_here", "_law_name", "_law_found", "_law_done", "_law_k", "_law_inner", "_law_good"]
theorem sc_chg : FnScope nChg ["_law_rules_here", "_law_name"] (defScope s_law_changed) := ⟨rfl, rfl, rfl, by decide +kernel, rfl, by decide +kernel, by decide +kernel⟩
theorem ok_chg (T : Txt K mg) : ∀ d : Nat, Okd P w K mg base CX0 (d + 1) 754 ["_law_rules_here", "_law_name"] (spChg d) := by
  intro d
  have nd := sc_chg.nd
  induction d with
  | zero =>
    obtain ⟨fd, F⟩ := T.d_law_changed
    refine ⟨fd, F.ok (k := 0) sc_chg (fun vs H Q E h => ?_) (fun cdv A outer s H vs Q E hr h => ?_), F.binds fun _ _ _ _ _ _ us hl => match us, hl with | [_, _], _ => rfl, F.kp⟩
    · obtain ⟨_, _, _, _, rfl, _⟩ := h
      rfl
    · obtain ⟨_, _, _, _, _, _, _, ⟨e, he, _⟩, _⟩ := h
      cases he
  | succ d ih =>
    obtain ⟨fd, F⟩ := T.d_law_changed
    refine ⟨fd, F.ok (k := d + 1) sc_chg (fun vs H Q E h => ?_) (fun cdv A outer s H vs Q E hr h => ?_), F.binds fun _ _ _ _ _ _ us hl => match us, hl with | [_, _], _ => rfl, F.kp⟩
    · obtain ⟨_, _, _, _, rfl, _⟩ := h
      rfl
    · obtain ⟨ar, nm, rv, rs, rfl, har, hrs, ⟨e, he, hdep⟩, hall, hlen, k⟩ := h
      cases he
      have hvl := hrs.len
      refine ⟨_, pss_cons (ps_par (i := 2) (j := 3) rfl nd rfl rfl (by decide) rfl rfl (pa_cons (pe_callTy call_list_of (by rfl) T.f_list (by decide +kernel) (pa_cons (pv 0) pa_nil)) (pa_cons pe_bl pa_nil)) (by rfl))
        (pss_cons (ps_for PassesOwn.never rfl (pi_range1 (by rfl) T.f_range (pa_cons (pe_callB call_len_seq (by rfl) T.f_len PySem.boot_len (pa_cons (pv 0) pa_nil)) pa_nil)) (pg_name (i := 4) nd rfl (.inl rfl))
          (pss_cons (ps_asg (pc ih hr T.g_law_changed pass0 (pa_cons (pe_ix ix_tup (pe_ix ix_tup (pv 0) (pv 4) (fun _ _ => rfl)) pe_int (fun _ _ => rfl)) (pa_cons (pv 1) pa_nil))) (pg_tup rfl (pgs_cons (pg_name (i := 5) nd rfl (.inl rfl)) (pgs_cons (pg_name (i := 6) nd rfl (.inl rfl)) pgs_nil))))
          (pss_one (ps_asg (pe_tup (pa_cons (pe_op op_catA (pe_slice sl_tup (pe_ix ix_tup (pv 0) (pv 4) (fun _ _ => rfl)) po_none (po_some pe_int)) (pe_tup (pa_cons (pv 5) pa_nil))) (pa_cons (pe_or (pv 3) (pe_one (pv 6))) pa_nil)))
            (pg_tup rfl (pgs_cons (pg_sub (pv 2) (pv 4) set_list) (pgs_cons (pg_name (i := 3) nd rfl (.inl rfl)) pgs_nil)))))))
        (pss_cons (ps_for PassesOwn.never rfl (pi_range1 (by rfl) T.f_range (pa_cons (pe_op op_sub (pe_callB call_len_seq (by rfl) T.f_len PySem.boot_len (pa_cons (pv 0) pa_nil)) pe_int) pa_nil)) (pg_name (i := 4) nd rfl (.inl rfl))
          (pss_one (ps_if (pt_cmpR op_eq (pe_ix ix_tup (pe_ix ix_tup (pv 0) (pv 4) (fun _ _ => rfl)) pe_int (fun _ _ => rfl)) (pv 1) (nomark _))
            (pss_one (ps_asg (pe_tup (pa_cons (pe_ix ix_list (pv 2) (pe_op op_add (pv 4) pe_int) (fun _ _ => rfl)) (pa_cons (pe_ix ix_list (pv 2) (pv 4) (fun _ _ => rfl)) (pa_cons pe_bl pa_nil))))
              (pg_tup rfl (pgs_cons (pg_sub (pv 2) (pv 4) set_list) (pgs_cons (pg_sub (pv 2) (pe_op op_add (pv 4) pe_int) set_list) (pgs_cons (pg_name (i := 3) nd rfl (.inl rfl)) pgs_nil)))))) pss_nil)))
        (pss_one (ps_ret (pe_tup (pa_cons (pe_callTy call_tuple_of (by rfl) T.f_tuple (by decide +kernel) (pa_cons (pv 2) pa_nil)) (pa_cons (pv 3) pa_nil))))))), ?_⟩
      refine ⟨_, rfl, ar, _, rfl, .inr (.of har), fun D nD => ⟨_, _, rfl, ?_⟩⟩
      have s0 := same_upd (o := HO.lst rv) nD
      refine ⟨_, rfl, ar, _, rfl, .inr (.of (s0 _ _ har)), _, rfl, by omega, by omega, ?_⟩
      rw [show ((rv.length : Nat) : Int).toNat = rs.length by omega]
      refine for_it walk_rng (fun i σ H' => ∃ v4 v5 v6 acc, σ = [some (.ref ar), some (.str nm), some (.ref D), some (.bl (dnL nm (rs.take i))), v4, v5, v6] ∧ KpI H H' ∧ Frm [D] H H' ∧ H' D = some (.lst acc) ∧ RowsAt H' acc ((rs.take i).map (swap1 nm) ++ rs.drop i))
        ⟨none, none, none, rv, rfl, Same.kpI s0, Frm.of s0, upd_same, by simpa using hrs.mono (Same.kpI s0)⟩ (fun _ _ _ _ _ => trivial) ?_ ?_
      · rintro i x σ H1 H2 hi ⟨v4, v5, v6, acc, rfl, ki, fr, hD1, hR⟩ ⟨rfl, rfl⟩
        obtain ⟨v1, r, ev1, er, hr1'⟩ := row_rule hrs hi
        obtain ⟨a1, aw1, ab1, ai1, ws1, rfl, g1, g2, g3, g4, g5⟩ := RowAt.inv hr1'
        obtain ⟨lr, hinr⟩ := allL_get hall er
        have eat : atI rv (i : Int) = some (V.ref a1) := by rw [atI_nat]; exact ev1
        have har1 := ki.tup har
        refine ⟨_, rfl, _, rfl, ar, rv, _, _, rfl, rfl, .of har1, eat, a1, _, 4, .ref ai1, rfl, rfl, .of (ki.tup g1), rfl, _, rfl, ai1, nm, ws1, r.inner, rfl, ki.tup g4, g5.mono ki, depN_inner (depL_get hdep er), hinr, lr, fun H3 t3 a3 us3 s3 ht3 ha3 hR3 => ?_⟩
        refine ⟨t3, _, rfl, .of ht3, rfl, _, _, rfl, _, _, rfl, rfl, ?_⟩
        have k3 := Same.kpI s3
        have hg13 := s3 _ _ (ki.tup g1)
        refine ⟨_, rfl, _, rfl, ar, rv, _, _, rfl, rfl, .of (s3 _ _ har1), eat, _, rfl, a1, _, rfl, .of hg13, (by rintro ⟨_, z⟩; exact absurd z (show ¬ ((4 : Nat) = 5) by decide)), fun p np => ?_⟩
        have s4 := same_upd (o := HO.tup (cutV [V.str r.n, V.ref aw1, V.ref ab1, V.str r.r, V.ref ai1] none (some 4))) np
        refine ⟨_, rfl, by show 1 ≤ sizeLine; decide, fun q nq => ?_⟩
        have s5 := same_upd (o := HO.tup [V.ref a3]) nq
        refine ⟨p, q, [V.str r.n, V.ref aw1, V.ref ab1, V.str r.r], [.ref a3], rfl, rfl, .of (s5 _ _ upd_same), .of upd_same, by show 5 ≤ sizeLine; decide, fun z => (nomatch z), fun _ z => (nomatch z), fun _ _ u nu => ?_⟩
        have s6 := same_upd (o := HO.tup ([V.str r.n, V.ref aw1, V.ref ab1, V.str r.r] ++ [V.ref a3])) nu
        have s46 := same_trans s4 (same_trans s5 s6)
        have hu0 : (upd (upd (upd H3 p (.tup (cutV [V.str r.n, V.ref aw1, V.ref ab1, V.str r.r, V.ref ai1] none (some 4)))) q (.tup [V.ref a3])) u (.tup ([V.str r.n, V.ref aw1, V.ref ab1, V.str r.r] ++ [V.ref a3]))) u = some (.tup [V.str r.n, V.ref aw1, V.ref ab1, V.str r.r, V.ref a3]) := upd_same
        generalize hHa : upd (upd (upd H3 p (.tup (cutV [V.str r.n, V.ref aw1, V.ref ab1, V.str r.r, V.ref ai1] none (some 4)))) q (.tup [V.ref a3])) u (.tup ([V.str r.n, V.ref aw1, V.ref ab1, V.str r.r] ++ [V.ref a3])) = Ha at s46 hu0
        have s36 := same_trans s3 s46
        have fin : ∀ (C : V → Hp → Prop), (∀ b H', b = (dnL nm (rs.take i) || dnA nm r.inner) → H' = Ha → C (.bl b) H') → tOrV (tVar 3) (tVar 6) [some (.ref ar), some (.str nm), some (.ref D), some (.bl (dnL nm (rs.take i))), some (.int (i : Nat)), some (.ref a3), some (.bl (dnA nm r.inner))] Ha C := fun C hC => by
          refine ⟨_, rfl, _, rfl, ?_⟩
          cases hd : dnL nm (rs.take i) with
          | true => exact iteT (hC _ _ (by rw [hd]; rfl) rfl)
          | false => exact iteF ⟨_, rfl, hC _ _ (by rw [hd]; rfl) rfl⟩
        refine fin _ ?_
        rintro b H4 rfl rfl
        refine ⟨by show 2 ≤ sizeLine; decide, fun t nt => ?_⟩
        have st := same_upd (o := HO.tup [V.ref u, V.bl (dnL nm (rs.take i) || dnA nm r.inner)]) nt
        have s3t := same_trans s36 st
        have hDt := s3t _ _ hD1
        have hal := hR.len
        simp only [List.length_append, List.length_map, List.length_take, List.length_drop] at hal
        refine ⟨t, _, rfl, .of upd_same, rfl, _, _, rfl, ⟨_, rfl, _, rfl, D, acc, _, i, rfl, rfl, hDt, ixN_nat (by omega), _, _, rfl, rfl, ?_⟩⟩
        have kz := (Same.kpI s3t).trans (kpI_list (ys := acc.set i (.ref u)) hDt)
        have ksz := (Same.kpI st).trans (kpI_list (ys := acc.set i (.ref u)) hDt)
        refine ⟨some (.int (i : Nat)), some (.ref a3), some (.bl (dnA nm r.inner)), acc.set i (.ref u), ?_, ki.trans kz, fun b o e hb => ?_, upd_same, ?_⟩
        · rw [List.take_succ, er]
          show [_, _, _, _, _, _, _] = [_, _, _, some (V.bl (dnL nm (rs.take i ++ [r]))), _, _, _]
          rw [dnL_snoc, dn1_eq]
        · rw [upd_ne (fun z => hb (List.mem_singleton.mpr z))]
          exact s3t _ _ (fr _ _ e hb)
        · rw [← set_take er]
          refine (hR.mono kz).set i ?_
          rw [swap1_eq]
          have k46z := (Same.kpI s46).trans ksz
          exact .mk (ksz.tup hu0) (kz.tup (ki.tup g2)) (kz.tup (ki.tup g3)) (k46z.tup ha3) (hR3.mono k46z)
      · rintro σ H1 ⟨v4, v5, v6, acc, rfl, ki, fr, hD1, hR⟩
        rw [List.take_length, List.drop_length, List.append_nil, ← swapL_map] at hR
        rw [List.take_length]
        have har1 := ki.tup har
        refine ⟨_, rfl, ar, _, rfl, .inr (.of har1), _, _, rfl, rfl, _, rfl, by omega, by omega, ?_⟩
        rw [show ((rv.length : Int) - 1).toNat = rs.length - 1 by omega]
        refine for_it walk_rng (fun i σ H' => ∃ v4 v5 v6 acc, σ = [some (.ref ar), some (.str nm), some (.ref D), some (.bl (dnL nm rs || (List.range i).any fun k => decide (rs[k]?.map RT.n = some nm))), v4, v5, v6] ∧ KpI H H' ∧ Frm [D] H H' ∧ H' D = some (.lst acc) ∧ RowsAt H' acc (loopM nm rs i (swapL nm rs)))
          ⟨v4, v5, v6, acc, by simp, ki, fr, hD1, hR⟩ (fun _ _ _ _ _ => trivial) ?_ ?_
        · rintro i x σ H3 H4 hi ⟨v4, v5, v6, acc, rfl, ki, fr, hD4, hR4⟩ ⟨rfl, rfl⟩
          have al4 := hR4.len
          rw [loopM_length, swapL_length] at al4
          obtain ⟨v1, r, ev1, er, hr1'⟩ := row_rule hrs (show i < rs.length by omega)
          obtain ⟨a1, aw1, ab1, ai1, ws1, rfl, g1, g2, g3, g4, g5⟩ := RowAt.inv hr1'
          have eat : atI rv (i : Int) = some (V.ref a1) := by rw [atI_nat]; exact ev1
          have eany : ((List.range (i + 1)).any fun k => decide (rs[k]?.map RT.n = some nm)) = (((List.range i).any fun k => decide (rs[k]?.map RT.n = some nm)) || decide (r.n = nm)) := by
            rw [List.range_succ, List.any_append]
            congr 1
            show ((decide (rs[i]?.map RT.n = some nm)) || false) = _
            rw [er, Bool.or_false]
            show decide (some r.n = some nm) = _
            rw [Bool.eq_iff_iff, decide_eq_true_iff, decide_eq_true_iff]
            exact ⟨Option.some.inj, congrArg some⟩
          refine ⟨_, rfl, _, rfl, ar, rv, _, _, rfl, rfl, .of (ki.tup har), eat, a1, _, 0, .str r.n, rfl, rfl, .of (ki.tup g1), rfl, _, rfl, rfl, _, rfl, ite2 (fun hc => ?_) (fun hc => ?_)⟩
          · have hnm : r.n = nm := V.str.inj (of_decide_eq_true hc)
            obtain ⟨v1, r1, ev1, er1, h1⟩ := row_rule hR4 (i := i) (by rw [loopM_length, swapL_length]; omega)
            obtain ⟨v2, r2, ev2, er2, h2⟩ := row_rule hR4 (i := i + 1) (by rw [loopM_length, swapL_length]; omega)
            refine ⟨_, rfl, _, rfl, _, _, rfl, rfl, D, acc, _, v2, rfl, rfl, .of hD4, by rw [show ((i : Int) + 1) = ((i + 1 : Nat) : Int) by omega, atI_nat]; exact ev2, _, rfl, _, rfl, D, acc, _, v1, rfl, rfl, .of hD4, by rw [atI_nat]; exact ev1, by show 3 ≤ sizeLine; decide, fun t nt => ?_⟩
            have st := same_upd (o := HO.tup [v2, v1, V.bl true]) nt
            have hD5 := st _ _ hD4
            refine ⟨t, _, rfl, .of upd_same, rfl, _, _, rfl, ⟨_, rfl, _, rfl, D, acc, _, i, rfl, rfl, hD5, ixN_nat (by omega), _, _, rfl, ⟨_, rfl, _, rfl, _, _, rfl, rfl, D, _, _, i + 1, rfl, rfl, upd_same, ?_, _, _, rfl, rfl, ?_⟩⟩⟩
            · rw [show ((i : Int) + 1) = ((i + 1 : Nat) : Int) by omega]
              exact ixN_nat (by rw [List.length_set]; omega)
            · rw [upd_upd]
              refine ⟨some (.int (i : Nat)), v5, v6, _, ?_, ki.trans ((Same.kpI st).trans (kpI_list hD5)), fun b o q hb => ?_, upd_same, ?_⟩
              · rw [eany, decide_eq_true hnm, Bool.or_true, Bool.or_true]
                rfl
              · rw [upd_ne (fun z => hb (List.mem_singleton.mpr z))]
                exact st _ _ (fr _ _ q hb)
              · have hk := ((Same.kpI st).trans (kpI_list (ys := (acc.set i v2).set (i + 1) v1) hD5))
                have e2 : loopM nm rs (i + 1) (swapL nm rs) = ((loopM nm rs i (swapL nm rs)).set i r2).set (i + 1) r1 := by
                  rw [loopM, stepM, if_pos (by rw [er, ← hnm]; rfl), swapAt, er1, er2]
                rw [e2]
                exact ((RowsAt.mono hk hR4).set i (RowAt.mono hk h2)).set (i + 1) (RowAt.mono hk h1)
          · refine ⟨some (.int (i : Nat)), v5, v6, acc, ?_, ki, fr, hD4, ?_⟩
            · rw [eany, decide_eq_false (fun z => hc (decide_eq_true (congrArg V.str z))), Bool.or_false]
              rfl
            · rw [loopM, stepM, if_neg]
              · exact hR4
              · rw [er]
                intro z
                exact hc (decide_eq_true (congrArg V.str (Option.some.inj z)))
        · rintro σ H4 ⟨v4, v5, v6, acc4, rfl, ki, fr, hD4, hR4⟩
          refine ⟨_, rfl, D, acc4, rfl, .inl ⟨.of hD4, fun a na => ⟨_, rfl, by show 2 ≤ sizeLine; decide, fun t nt => ?_⟩⟩⟩
          have sa := same_upd (o := HO.tup acc4) na
          have st := same_upd (o := HO.tup [V.ref a, V.bl (dnL nm rs || hasIt nm rs)]) nt
          refine k _ t a acc4 (fun b o q => ?_) upd_same (st _ _ upd_same) (RowsAt.mono (Same.kpI (same_trans sa st)) hR4)
          have hb : b ≠ D := fun z => by rw [z] at q; rw [nD] at q; cases q
          exact st _ _ (sa _ _ (fr _ _ q (fun z => hb (List.mem_singleton.mp z))))
end
end Sc
set_option Elab.async false
set_option maxRecDepth 100000
set_option linter.all false
set_option maxHeartbeats 1000000
namespace Sc
open PySem PySem.Spec L2
open PyProof.Rows hiding St
/-! ### the same structure at every place -/
inductive Pls (H : Hp) : V → V → List V → List V → Prop
  | l {p q : Addr} {xs ys : List V} (hp : H p = some (.lst xs)) (hq : H q = some (.lst ys)) : Pls H (.ref p) (.ref q) xs ys
  | t {p q : Addr} {xs ys : List V} (hp : H p = some (.tup xs)) (hq : H q = some (.tup ys)) : Pls H (.ref p) (.ref q) xs ys
def Alk : Nat → V → V → Hp → Prop
  | 0, x, y, _ => ∃ s : Str, x = .str s ∧ y = .str s
  | n + 1, x, y, H => (∃ s : Str, x = .str s ∧ y = .str s) ∨ ∃ xs ys, Pls H x y xs ys ∧ xs.length = ys.length ∧ xs.length ≤ 5000 ∧ ∀ (i : Nat) (a b : V), xs[i]? = some a → ys[i]? = some b → Alk n a b H
theorem Pls.mono {H H' : Hp} (k : Same H H') {x y : V} {xs ys : List V} (h : Pls H x y xs ys) : Pls H' x y xs ys := by
  cases h with
  | l hp hq => exact .l (k _ _ hp) (k _ _ hq)
  | t hp hq => exact .t (k _ _ hp) (k _ _ hq)
theorem Alk.mono {H H' : Hp} (k : Same H H') : ∀ {n : Nat} {x y : V}, Alk n x y H → Alk n x y H'
  | 0, _, _, h => h
  | n + 1, _, _, .inl h => .inl h
  | n + 1, _, _, .inr ⟨xs, ys, h1, h2, h3, h4⟩ => .inr ⟨xs, ys, h1.mono k, h2, h3, fun i a b e1 e2 => Alk.mono k (h4 i a b e1 e2)⟩
theorem kitAny2 {K : PySem.W.Frag} {t u1 u2 : Value} {b : Bool} (h1 : PySem.W.kitOne K t u1 = some false) (h2 : PySem.W.kitOne K t u2 = some b) : PySem.W.kitAny K t [u1, u2] = some b := by
  unfold PySem.W.kitAny
  rw [h1]
  show PySem.W.kitAny K t [u2] = some b
  unfold PySem.W.kitAny
  rw [h2]
  cases b <;> rfl
theorem kitAny1 {K : PySem.W.Frag} {t u1 : Value} {us : List Value} (h1 : PySem.W.kitOne K t u1 = some true) : PySem.W.kitAny K t (u1 :: us) = some true := by
  unfold PySem.W.kitAny
  rw [h1]
def rLT (K : PySem.W.Frag) : R2 := fun x y H Q => rIxL K x y H Q ∨ rIxT K x y H Q
theorem ix_LT {X : Cx} : IxR X (rLT X.K) := ix_list.or ix_tup
section
variable {P : Program} {w : World} {K : PySem.W.Frag} {mg : Str → Option Value} {base : Heap}
def spAlk (n : Nat) : Sp := fun vs H Q _ => ∃ x y : V, vs = [x, y] ∧ Alk n x y H ∧ ∀ H', Same H H' → Q (.bl true) H'
abbrev nAlk : List Str := ["_law_found", "_law_due", "_law_k"]
theorem sc_alk : FnScope nAlk ["_law_found", "_law_due"] (defScope s_law_alike) := ⟨rfl, rfl, rfl, by decide +kernel, rfl, by decide +kernel, by decide +kernel⟩
theorem pls_at {H : Hp} {x y : V} {xs ys : List V} (h : Pls H x y xs ys) : ∃ p q, x = .ref p ∧ y = .ref q ∧ ((SqL K H p xs ∨ SqT K H p xs) ∧ (SqL K H q ys ∨ SqT K H q ys)) ∧
    (∀ (i : Nat) (a : V) (Q : VK), xs[i]? = some a → Q a H → rLT K x (.int (i : Nat)) H Q) ∧ (∀ (i : Nat) (a : V) (Q : VK), ys[i]? = some a → Q a H → rLT K y (.int (i : Nat)) H Q) := by
  cases h with
  | @l p q xs ys hp hq => exact ⟨p, q, rfl, rfl, ⟨.inl (.of hp), .inl (.of hq)⟩, fun i a Q e k => .inl ⟨p, xs, i, a, rfl, rfl, .of hp, by rw [atI_nat]; exact e, k⟩, fun i a Q e k => .inl ⟨q, ys, i, a, rfl, rfl, .of hq, by rw [atI_nat]; exact e, k⟩⟩
  | @t p q xs ys hp hq => exact ⟨p, q, rfl, rfl, ⟨.inr (.of hp), .inr (.of hq)⟩, fun i a Q e k => .inr ⟨p, xs, i, a, rfl, rfl, .of hp, by rw [atI_nat]; exact e, k⟩, fun i a Q e k => .inr ⟨q, ys, i, a, rfl, rfl, .of hq, by rw [atI_nat]; exact e, k⟩⟩
/-- what isinstance says of the two -/
theorem pls_ty {H : Hp} {x y : V} {xs ys : List V} (h : Pls H x y xs ys) : ∃ (t : Value) (b : Bool), (∀ H', Same H H' → TyX K H' x t ∧ TyX K H' y t) ∧ PySem.W.kitOne K t (.type "dict") = some false ∧ PySem.W.kitAny K t [.type "tuple", .type "list"] = some true ∧ PySem.W.kitOne K t (.type "list") = some b := by
  cases h with
  | l hp hq => exact ⟨.type "list", true, fun H' s => ⟨.base (.lst (s _ _ hp)), .base (.lst (s _ _ hq))⟩, kit_ty (by decide +kernel), kitAny2 (kit_ty (by decide +kernel)) (kit_ty (by decide +kernel)), kit_ty (by decide +kernel)⟩
  | t hp hq => exact ⟨.type "tuple", false, fun H' s => ⟨.base (.tup (s _ _ hp)), .base (.tup (s _ _ hq))⟩, kit_ty (by decide +kernel), kitAny1 (kit_ty (by decide +kernel)), kit_ty (by decide +kernel)⟩
theorem alk_str (T : Txt K mg) {cdv : Value} {A : Around} {outer : List Env} {s : Shared} {H : Hp} {Q : VK} {E : XK} (z : Str) (k : ∀ H', Same H H' → Q (.bl true) H') :
    ∃ t, PSs (cxOf CX0 P w K mg base nAlk "_law_alike" (defScope s_law_alike) 675 cdv A outer s H E).nox (defBody s_law_alike) t ∧ t { nx := fun _ H' => Q .non H', rt := Q } (L2.start nAlk [.str z, .str z]) H := by
  refine ⟨_, pss_cons (ps_if (pt_val (pe_callB call_isi (by rfl) T.f_isinstance (by decide +kernel) (pa_cons (pv 1) (pa_cons (pe_bltn (v := .ty "dict") (by rfl) T.f_dict (by decide +kernel) rfl) pa_nil)))) (pss_one ps_never) pss_nil)
    (pss_cons (ps_if (pt_val (pe_callB call_isiT (by rfl) T.f_isinstance (by decide +kernel) (pa_cons (pv 1) (pa_cons (pe_tup (pa_cons (pe_bltn (v := .ty "tuple") (by rfl) T.f_tuple (by decide +kernel) rfl) (pa_cons (pe_bltn (v := .ty "list") (by rfl) T.f_list (by decide +kernel) rfl) pa_nil))) pa_nil)))) pss_never pss_nil)
    (pss_cons (ps_if (PW.pt (pw_or (pt_cmp (pc_isN (pv 1))) (pw_or1 (pt_val (pe_callB call_isi (by rfl) T.f_isinstance (by decide +kernel) (pa_cons (pv 1) (pa_cons (pe_bltn (v := .ty "str") (by rfl) T.f_str (by decide +kernel) rfl) pa_nil)))))))
      (pss_one (ps_ret (pe_and (pe_cmpR op_eq (pv 0) (pv 1) (nomark _)) (pe_one (pe_cmpR op_eq (pe_callB call_isi (by rfl) T.f_isinstance (by decide +kernel) (pa_cons (pv 0) (pa_cons (pe_bltn (v := .ty "str") (by rfl) T.f_str (by decide +kernel) rfl) pa_nil)))
        (pe_callB call_isi (by rfl) T.f_isinstance (by decide +kernel) (pa_cons (pv 1) (pa_cons (pe_bltn (v := .ty "str") (by rfl) T.f_str (by decide +kernel) rfl) pa_nil))) (nomark _)))))) pss_nil)
    pss_never)), ?_⟩
  refine ⟨_, rfl, _, _, _, _, false, rfl, .ty _, .base (.str _), kit_ty (by decide +kernel), false, rfl, iteF ?_⟩
  refine ⟨_, rfl, by show 2 ≤ sizeLine; decide, fun tp ntp => ⟨_, tp, _, _, _, false, rfl, upd_same, .cons (.ty _) (.cons (.ty _) .nil), .base (.str _), kitAny2 (kit_ty (by decide +kernel)) (kit_ty (by decide +kernel)), false, rfl, iteF ?_⟩⟩
  have s1 := same_upd (o := HO.tup [V.ty "tuple", V.ty "list"]) ntp
  refine ⟨_, rfl, _, rfl, iteF ⟨_, rfl, _, _, _, _, true, rfl, .ty _, .base (.str _), kit_ty (by decide +kernel), true, rfl, iteT ?_⟩⟩
  refine ⟨_, rfl, _, rfl, rfl, _, rfl, ?_⟩
  rw [show decide (V.str z = V.str z) = true from decide_eq_true rfl]
  refine iteT ⟨_, rfl, _, _, _, _, true, rfl, .ty _, .base (.str _), kit_ty (by decide +kernel), _, rfl, _, _, _, _, true, rfl, .ty _, .base (.str _), kit_ty (by decide +kernel), rfl, ?_⟩
  exact k _ s1
theorem ok_alk (T : Txt K mg) : ∀ n : Nat, Okd P w K mg base CX0 (n + 1) 675 ["_law_found", "_law_due"] (spAlk n) := by
  intro n
  have nd := sc_alk.nd
  induction n with
  | zero =>
    obtain ⟨fd, F⟩ := T.d_law_alike
    refine ⟨fd, F.ok (k := 0) sc_alk (fun vs H Q E h => ?_) (fun cdv A outer s H vs Q E hr h => ?_), F.binds fun _ _ _ _ _ _ us hl => match us, hl with | [_, _], _ => rfl, F.kp⟩
    · obtain ⟨_, _, rfl, _⟩ := h
      rfl
    · obtain ⟨_, _, rfl, ⟨z, rfl, rfl⟩, k⟩ := h
      exact alk_str T z k
  | succ n ih =>
    obtain ⟨fd, F⟩ := T.d_law_alike
    refine ⟨fd, F.ok (k := n + 1) sc_alk (fun vs H Q E h => ?_) (fun cdv A outer s H vs Q E hr h => ?_), F.binds fun _ _ _ _ _ _ us hl => match us, hl with | [_, _], _ => rfl, F.kp⟩
    · obtain ⟨_, _, rfl, _⟩ := h
      rfl
    · obtain ⟨x, y, rfl, hA, k⟩ := h
      rcases hA with ⟨z, rfl, rfl⟩ | ⟨xs, ys, hp, hl, h5, hall⟩
      · exact alk_str T z k
      have hu0 := hr.units0
      obtain ⟨t, b, ty, kd, kt, kl⟩ := pls_ty (K := K) hp
      refine ⟨_, pss_cons (ps_if (pt_val (pe_callB call_isi (by rfl) T.f_isinstance (by decide +kernel) (pa_cons (pv 1) (pa_cons (pe_bltn (v := .ty "dict") (by rfl) T.f_dict (by decide +kernel) rfl) pa_nil)))) (pss_one ps_never) pss_nil)
        (pss_cons (ps_if (pt_val (pe_callB call_isiT (by rfl) T.f_isinstance (by decide +kernel) (pa_cons (pv 1) (pa_cons (pe_tup (pa_cons (pe_bltn (v := .ty "tuple") (by rfl) T.f_tuple (by decide +kernel) rfl) (pa_cons (pe_bltn (v := .ty "list") (by rfl) T.f_list (by decide +kernel) rfl) pa_nil))) pa_nil))))
          (pss_cons (ps_if (PW.pt (pw_or (pt_not (pt_val (pe_callB call_isiT (by rfl) T.f_isinstance (by decide +kernel) (pa_cons (pv 0) (pa_cons (pe_tup (pa_cons (pe_bltn (v := .ty "tuple") (by rfl) T.f_tuple (by decide +kernel) rfl) (pa_cons (pe_bltn (v := .ty "list") (by rfl) T.f_list (by decide +kernel) rfl) pa_nil))) pa_nil)))))
              (pw_or1 (pt_cmpR op_ne (pe_callB call_isi (by rfl) T.f_isinstance (by decide +kernel) (pa_cons (pv 0) (pa_cons (pe_bltn (v := .ty "list") (by rfl) T.f_list (by decide +kernel) rfl) pa_nil))) (pe_callB call_isi (by rfl) T.f_isinstance (by decide +kernel) (pa_cons (pv 1) (pa_cons (pe_bltn (v := .ty "list") (by rfl) T.f_list (by decide +kernel) rfl) pa_nil))) (nomark _))))) (pss_one ps_never) pss_nil)
          (pss_cons (ps_if (pt_cmpR op_ne (pe_callB call_len_seq (by rfl) T.f_len PySem.boot_len (pa_cons (pv 0) pa_nil)) (pe_callB call_len_seq (by rfl) T.f_len PySem.boot_len (pa_cons (pv 1) pa_nil)) (nomark _)) (pss_one ps_never) pss_nil)
          (pss_one (ps_ret (pe_cmpR (op_eqL0 hu0) (pe_lc (own := [("_law_k", 2)]) (tt := tNot (tB (tCall (spAlk n) [] E0 (tCons (tOp (rLT K) (tVar 0) (tVar 2)) (tCons (tOp (rLT K) (tVar 1) (tVar 2)) tNil))))) rfl nd (pi_range1 (by rfl) T.f_range (pa_cons (pe_callB call_len_seq (by rfl) T.f_len PySem.boot_len (pa_cons (pv 1) pa_nil)) pa_nil)) (blkOk_by (N := nAlk) (sc := defScope s_law_alike) (by decide +kernel))
              (fun _ _ _ _ _ => pg_name (i := 2) nd rfl (.inl rfl)) (fun _ _ _ _ _ => pts_one (pt_not (pt_val (pc ih hr T.g_law_alike pass0 (pa_cons (pe_ix ix_LT (pv 0) (pv 2) (fun _ _ => rfl)) (pa_cons (pe_ix ix_LT (pv 1) (pv 2) (fun _ _ => rfl)) pa_nil)))))) (fun _ _ _ _ _ => pv 2)) (pe_lst pa_nil) (nomark _)))))) pss_nil)
        pss_never), ?_⟩
      refine ⟨_, rfl, _, _, _, _, false, rfl, .ty _, (ty _ (Same.refl _)).2, kd, false, rfl, iteF ?_⟩
      refine ⟨_, rfl, by show 2 ≤ sizeLine; decide, fun tp ntp => ⟨_, tp, _, _, _, true, rfl, upd_same, .cons (.ty _) (.cons (.ty _) .nil), (ty _ (same_upd ntp)).2, kt, true, rfl, iteT ?_⟩⟩
      have s1 := same_upd (o := HO.tup [V.ty "tuple", V.ty "list"]) ntp
      refine ⟨_, rfl, by show 2 ≤ sizeLine; decide, fun tp2 ntp2 => ⟨_, tp2, _, _, _, true, rfl, upd_same, .cons (.ty _) (.cons (.ty _) .nil), (ty _ (same_trans s1 (same_upd ntp2))).1, kt, true, rfl, iteF ?_⟩⟩
      have s2 := same_trans s1 (same_upd (o := HO.tup [V.ty "tuple", V.ty "list"]) ntp2)
      generalize hHa : upd (upd H tp (.tup [V.ty "tuple", V.ty "list"])) tp2 (.tup [V.ty "tuple", V.ty "list"]) = Ha at s2
      refine ⟨_, rfl, _, _, _, _, b, rfl, .ty _, (ty _ s2).1, kl, _, rfl, _, _, _, _, b, rfl, .ty _, (ty _ s2).2, kl, rfl, _, rfl, ?_⟩
      rw [show (!decide (V.bl b = V.bl b)) = false by rw [decide_eq_true rfl]; rfl]
      refine iteF ?_
      obtain ⟨p, q, rfl, rfl, ⟨hp1, hq1⟩, _⟩ := pls_at (K := K) (hp.mono s2)
      refine ⟨_, rfl, p, _, rfl, hp1, _, rfl, q, _, rfl, hq1, rfl, _, rfl, ?_⟩
      rw [show (!decide (V.int (xs.length : Nat) = V.int (ys.length : Nat))) = false by rw [hl, decide_eq_true rfl]; rfl]
      refine iteF ?_
      refine ⟨_, rfl, q, _, rfl, hq1, _, rfl, by omega, by omega, fun D nD => ?_⟩
      rw [show ((ys.length : Nat) : Int).toNat = ys.length from rfl]
      refine lc_go (walk_rng (n := ys.length)) (by rw [sizeLine_eq]; omega) nD (fun _ _ => trivial) (fun _ acc _ => acc = []) (fun _ _ _ _ _ h => h) rfl ?_ ?_
      · rintro i z H3 H4 acc Kt Kf hi s4 rfl ⟨rfl, rfl⟩ kt kf
        have s24 := same_trans s2 s4
        obtain ⟨_, _, _, _, _, r1, r2⟩ := pls_at (K := K) (hp.mono s24)
        have e1 : xs[i]? = some (xs[i]'(by omega)) := List.getElem?_eq_getElem _
        have e2 : ys[i]? = some ys[i] := List.getElem?_eq_getElem hi
        refine ⟨rfl, _, rfl, _, rfl, r1 i _ _ e1 ⟨_, rfl, _, rfl, r2 i _ _ e2 ⟨_, _, rfl, (hall i _ _ e1 e2).mono s24, fun H5 s5 => ⟨true, rfl, iteF (kf _ s5 rfl)⟩⟩⟩⟩
      · rintro H3 acc s4 hD rfl
        refine ⟨by show 0 ≤ sizeLine; decide, fun e ne => ⟨D, e, [], rfl, rfl, .of (same_upd ne _ _ hD), .of upd_same, ?_⟩⟩
        exact k _ (same_trans s2 (same_trans s4 (same_upd ne)))
end
end Sc
set_option Elab.async false
set_option maxRecDepth 100000
set_option linter.all false
set_option maxHeartbeats 4000000
namespace Sc
/-! sorted of tuples (int, int, object) whose ints differ -/
section
open PySem PyProof.Rows Srt SrtO
variable {prog : Program} {w : World} {A : Around} {E : Value → Shared → Prop} {s : Shared}
def IsTri (h : Heap) (v : Value) (x y : Int) (r : Addr) : Prop := ∃ a o t u n, v = .ref a ∧ h.get? a = some o ∧ o.cls = .type "tuple" ∧ o.data = .seq #[.int x t, .int y u, .ref r] n
theorem IsTri.keeps {h h' : Heap} {v : Value} {x y : Int} {r : Addr} (p : IsTri h v x y r) (k : ∀ b o, h.get? b = some o → o.cls = .type "tuple" → h'.get? b = some o) : IsTri h' v x y r := by
  obtain ⟨a, o, t, u, n, e, ho, hc, hd⟩ := p
  exact ⟨a, o, t, u, n, e, k _ _ ho hc, hc, hd⟩
theorem tri_firsts {h : Heap} : ∀ {vs : List Value}, (∀ v ∈ vs, ∃ x y r, IsTri h v x y r) → ∃ fs : List Value, PySem.W.KatTups h vs fs ∧ fs.length = vs.length ∧ ∀ f ∈ fs, ∃ x t, f = Value.int x t
  | [], _ => ⟨[], PySem.W.KatTups.nil, rfl, fun _ hm => by simp at hm⟩
  | v :: vs, hp => by
    obtain ⟨fs, h1, h2, h3⟩ := tri_firsts (vs := vs) fun v' hm => hp v' (List.mem_cons_of_mem _ hm)
    obtain ⟨x, y, r, a, o, t, u, n, e, ho, hc, hd⟩ := hp v (List.mem_cons_self ..)
    subst e
    refine ⟨.int x t :: fs, PySem.W.KatTups.cons ho hc hd rfl h1, by rw [List.length_cons, List.length_cons, h2], fun f hm => ?_⟩
    rcases List.mem_cons.mp hm with rfl | hm
    · exact ⟨x, t, rfl⟩
    · exact h3 f hm
theorem tri_cmp {vs : List Value} {k : Value → Int × Int} {rr : Value → Addr} (hp : ∀ v ∈ vs, IsTri s.heap v (k v).1 (k v).2 (rr v)) (inj : ∀ v ∈ vs, ∀ u ∈ vs, k v = k u → v = u) : Cmp prog w A s (tuples' true) (fun p => p.1 ∈ vs) (lt2 fun v u => lexB (k v) (k u)) := by
  intro p q hm hm'
  have h1 := hp _ hm
  have h2 := hp _ hm'
  have hin := inj _ hm _ hm'
  show wpAny (model prog w) A (keyLt' (tuples' true) p.1 q.1) (fun r s' => s' = s ∧ r = lexB (k p.1) (k q.1)) (fun _ _ => False) s
  have hrr : k p.1 = k q.1 → rr p.1 = rr q.1 := fun e => by rw [hin e]
  revert hrr
  unfold lexB
  generalize rr p.1 = r at h1 ⊢
  generalize rr q.1 = r' at h2 ⊢
  rcases hk : k p.1 with ⟨x, y⟩
  rcases hk' : k q.1 with ⟨x', y'⟩
  rw [hk] at h1
  rw [hk'] at h2
  intro hrr
  obtain ⟨a, o, t, u, n, e, ho, hc, hd⟩ := h1
  obtain ⟨a', o', t', u', n', e', ho', hc', hd'⟩ := h2
  rw [e, e']
  refine PySem.W.kat_lt ho hd ho' hd' ?_
  show PySem.W.KatLex prog w A true (decide (3 < 3)) _ [(.int x t, .int x' t'), (.int y u, .int y' u'), (.ref r, .ref r')] 0 s
  refine PySem.W.kat_cons (SeqAt.EqAt.int_int x t x' t' prog w _ _ ?_)
  refine PySem.W.kat_go (fun e1 => ?_) (fun e1 => ?_)
  · have ex : x = x' := by simpa using e1
    refine PySem.W.kat_yes (PySem.W.kat_cons (SeqAt.EqAt.int_int y u y' u' prog w _ _ ?_))
    refine PySem.W.kat_go (fun e2 => ?_) (fun e2 => ?_)
    · have ey : y = y' := by simpa using e2
      have er : r = r' := hrr (by rw [ex, ey])
      have e3 : (if x = x' then decide (y < y') else decide (x < x')) = false := by
        rw [if_pos ex, ey]
        exact decide_eq_false (Int.lt_irrefl _)
      rw [er]
      refine PySem.W.kat_yes (PySem.W.kat_cons (SeqAt.EqAt.same _ prog w _ _ ?_))
      exact PySem.W.kat_yes (PySem.W.kat_nil ⟨rfl, e3.symm⟩)
    · have e3 : (if x = x' then decide (y < y') else decide (x < x')) = decide (y < y') := if_pos ex
      refine PySem.W.kat_no (PySem.W.kat_one _ _ (PyProof.Rows.lt_int ?_))
      exact (show s = s ∧ decide (y < y') = (if x = x' then decide (y < y') else decide (x < x')) from ⟨rfl, e3.symm⟩)
  · have ex : ¬ x = x' := by simpa using e1
    have e3 : (if x = x' then decide (y < y') else decide (x < x')) = decide (x < x') := if_neg ex
    exact PySem.W.kat_no (oneLt_int ⟨rfl, e3.symm⟩)
theorem tri_sortable {a : Addr} {vs : List Value} {k : Value → Int × Int} {rr : Value → Addr} (h0 : 0 < vs.length) (hp : ∀ v ∈ vs, IsTri s.heap v (k v).1 (k v).2 (rr v)) (inj : ∀ v ∈ vs, ∀ u ∈ vs, k v = k u → v = u) (ha : ∀ o, s.heap.get? a = some o → o.cls ≠ .type "tuple") : SortableO prog w A s a vs fun v u => lexB (k v) (k u) := by
  intro h' keep
  have hp' : ∀ v ∈ vs, IsTri h' v (k v).1 (k v).2 (rr v) := fun v hm => (hp v hm).keeps fun b o e c => keep b o (fun z => by subst z; exact ha o e c) e
  obtain ⟨fs, h1, h2, h3⟩ := tri_firsts fun v hm => ⟨_, _, _, hp' v hm⟩
  refine ⟨tuples' true, fun Q E hq => ?_, tri_cmp hp' inj⟩
  refine PySem.W.kat_kind (T := .type "int") h1 (by omega) (fun f hm => ?_) (by rfl) ?_
  · obtain ⟨x, t, rfl⟩ := h3 f hm
    exact PySem.W.Looks.now
  · have e : (Value.type "int" != Value.type "tuple") = true := by decide +kernel
    rw [e]
    exact hq
theorem sorted_tri {l : Addr} {vs : List Value} {k : Value → Int × Int} {rr : Value → Addr} {Q : Value → Shared → Prop} (hl : s.heap.IsList l vs.toArray) (hz : vs.length ≤ sizeLine) (hp : ∀ v ∈ vs, IsTri s.heap v (k v).1 (k v).2 (rr v)) (inj : ∀ v ∈ vs, ∀ u ∈ vs, k v = k u → v = u)
    (h : ∀ (h' : Heap) (d : Addr) (out : List Value), Srtd (fun v u => lexB (k v) (k u)) out → out.Perm vs → (∀ b o, s.heap.get? b = some o → h'.get? b = some o) → s.heap.objs.size ≤ d → (∃ n, h'.get? d = some (seqObj "list" out.toArray n)) → Q (.ref d) { s with heap := h' }) :
    wpAny (model prog w) A (call (.builtin "sorted") [.ref l]) Q E s := by
  refine sorted_ord (swo_lex k) hl hz (fun h2 h₁ a ha kk => ?_) fun out hs hb => ?_
  · refine tri_sortable (s := { s with heap := h₁ }) (by omega) (fun v hm => (hp v hm).keeps fun b o e _ => (kk b o e).2) inj fun o e => ?_
    have e' : some o = some (seqObj "list" vs.toArray 0) := e.symm.trans ha
    cases e'
    intro c
    exact absurd (Value.type.inj c) (by decide)
  · exact h _ _ out hs hb.perm (fun b o e => sortedAll_old e) (Nat.le_succ _) (sortedAll_at s.heap vs out.toArray)
end
section
open PySem PySem.Spec L2
open PyProof.Rows hiding St
variable {X : Cx}
/-- sorted(xs), xs a list of tuples (int, int, object), no two of them with the same ints -/
def rSortedTri (K : PySem.W.Frag) : List V → Hp → VK → Prop := fun vs H Q => ∃ (a : Addr) (xs : List V) (k : V → Int × Int) (rr : V → Addr), vs = [V.ref a] ∧ SqL K H a xs ∧ (∀ x ∈ xs, ∃ t, x = V.ref t ∧ H t = some (.tup [.int (k x).1, .int (k x).2, .ref (rr x)])) ∧ (∀ x ∈ xs, ∀ y ∈ xs, k x = k y → x = y) ∧
  ∀ ys p, SrtO.Srtd (ltP k) ys → ys.Perm xs → H p = none → Q (.ref p) (upd H p (.lst ys))
theorem cr_sortedTri : CallR X (.builtin "sorted") (rSortedTri X.K) := by
  intro pins s σ H vs us Q I r h
  obtain ⟨a, xs, k, rr, rfl, hs, hx, inj, q⟩ := h
  obtain ⟨its, rv, hl, hz⟩ := I.list hs
  obtain ⟨u, rfl, ru⟩ := vals1 r
  obtain rfl : u = Value.ref a := ru
  obtain ⟨e1, e2⟩ := refs_back rv fun x m => by
    obtain ⟨t, e, _⟩ := hx x m
    exact ⟨t, e⟩
  have mem : ∀ v ∈ its, backV v ∈ xs := fun v hv => by rw [e1]; exact List.mem_map_of_mem hv
  refine sorted_tri (k := fun u => k (backV u)) (rr := fun u => rr (backV u)) hl.isList (by rw [← rv.length]; exact hz) (fun v hv => ?_) (fun v hv u hu e => ?_) fun h' d out h1 h2 kp hd hn => ?_
  · obtain ⟨t, rfl⟩ := e2 v hv
    obtain ⟨t', e, ht⟩ := hx _ (mem _ hv)
    have e' : t = t' := V.ref.inj e
    subst e'
    obtain ⟨_, its2, r2, o, ho, hc, n, hd⟩ := I.hok _ _ ht
    obtain ⟨u1, us2, rfl, ri, rest⟩ : ∃ u1 us2, its2 = u1 :: us2 ∧ RelV (.int (k (backV (.ref t))).1) u1 ∧ Vals [.int (k (backV (.ref t))).2, .ref (rr (backV (.ref t)))] us2 := by
      cases r2 with
      | cons a b => exact ⟨_, _, rfl, a, b⟩
    obtain ⟨u2, u3, rfl, rj, r3⟩ := vals2 rest
    obtain ⟨t1, rfl⟩ := ri
    obtain ⟨t2, rfl⟩ := rj
    cases r3
    exact ⟨t, o, t1, t2, n, rfl, ho, hc, hd⟩
  · obtain ⟨t1, rfl⟩ := e2 v hv
    obtain ⟨t2, rfl⟩ := e2 u hu
    have := inj _ (mem _ hv) _ (mem _ hu) e
    exact congrArg Value.ref (V.ref.inj this)
  · have h3 : ∀ u ∈ out, ∃ a, u = Value.ref a := fun u hu => e2 u (h2.mem_iff.mp hu)
    obtain ⟨n, hn⟩ := hn
    have hb : (out.map backV).Perm xs := by
      rw [e1]
      exact h2.map backV
    refine ⟨.ref d, upd H d (.lst (out.map backV)), I.laid (t' := s.toks) kp hd ⟨?_, out, n, vals_back h3, hn⟩, rfl, q _ d (SrtO.srtd_map h1) hb (I.hok.fresh hd)⟩
    rw [hb.length_eq]
    exact hz
end
end Sc
set_option Elab.async false
set_option maxRecDepth 100000
set_option linter.all false
set_option maxHeartbeats 2000000
namespace Sc
/-! != of instances with an own __eq__, by the inherited object.__ne__ -/
section
open PySem PySem.W
variable {prog : Program} {w : World} {A : Around} {E : Value → Shared → Prop} {s : Shared} {K : Frag} {x C L f : Addr} {h₀ : Heap} {m : Str → Option Value} {ox : Obj} {od : Option Obj} {b : Value}
theorem ne_bind (self : Value) : bindSpecial (.builtin "object.__ne__") self = pure (.builtin "object.__ne__", [self]) := F.slot_zip_ne.bind self
theorem ne_check {M : Model} {Q : Unit → Shared → Prop} (X : K.In s.heap) (I : InstAt s.heap x ox C od) (hm : mroIn K C (.type "object") = some true) (hq : Q () s) :
    wpAny M A (checkBuiltinCall "object.__ne__" ⟨[.ref x, b], []⟩) Q E s := by
  have L0 := I.type (M := M)
  have L1 := looks_mroIn (M := M) X hm
  obtain ⟨hh, g, dr, t, os⟩ := s
  simp only [checkBuiltinCall, F.cmpKind_ne, F.cmpSplit_ne]
  refine wpAny_bind ?_
  unfold isInstance
  repeat lk
  exact hq
theorem ne_if {args : List Value} {Q : Option Value → Shared → Prop} (X : K.In s.heap) (I : InstAt s.heap x ox C od) (hs : findIn K (.ref C) "__ne__" = some (some (.builtin "object.__ne__")))
    (h : wpAny (model prog w) A (call (.builtin "object.__ne__") (.ref x :: args)) (fun v => Q (some v)) E s) : wpAny (model prog w) A (callSpecialIfBound? (.ref x) "__ne__" args) Q E s := by
  simp only [callSpecialIfBound?, bindSpecialIfBound?]
  refine wpAny_holding (wpAny_bind (wpAny_bind (wpAny_bind (I.type.here ((looks_findIn X hs).here ?_)))))
  simp only [ne_bind]
  refine wpAny_bind (wpAny_askSetting (wpAny_ite ?_))
  have fin : wpAny (model prog w) A (call (.builtin "object.__ne__") ([.ref x] ++ args) >>= fun v => pure (some v)) Q E s := wpAny_bind (wpAny_mono h (fun v s' h' => wpAny_pure h') fun _ _ h' => h')
  split
  · exact wpAny_bind (wpAny_pure (wpAny_pure fin))
  · exact wpAny_tryCatch (wpAny_bind (wpAny_pure (wpAny_pure fin)))
theorem ne_try {Q : Option Value → Shared → Prop} (hu : A.units + 1 < cLine) (X : K.In s.heap) (I : InstAt s.heap x ox C od) (hne : findIn K (.ref C) "__ne__" = some (some (.builtin "object.__ne__"))) (hs : findIn K (.ref C) "__eq__" = some (some (.ref f))) (hf : isFn K (.ref f) = true)
    (hm : mroIn K C (.type "object") = some true) (h : wpAny (model prog w) A.in1 (call (.ref f) [.ref x, b]) (fun v s' => ∃ r, v = .bool r ∧ Q (some (.bool (!r))) s') E s) : wpAny (model prog w) A (tryCompare (.ref x) "__ne__" b) Q E s := by
  unfold tryCompare
  refine wpAny_bind (ne_if X I hne (wpAny_call (codeAny_call_builtin F.slot_zip_ne.plain F.cmpEntry_ne (ne_check X I hm ?_))))
  unfold Builtin.«object.__ne__»
  show wpAny (model prog w) A.in1 _ _ _ s
  repeat (first
    | with_reducible refine wpAny_cRoomFor hu ?_
    | (refine wpAny_bind (m := callSpecialIfBound? (.ref x) (Str.ofString "__eq__") [b]) (ifBound_K X I hs hf (wpAny_mono h (fun r s' hr => by
          obtain ⟨c, rfl, hq⟩ := hr
          repeat (first | exact hq | exact wpAny_pure hq | exact wpAny_truthy_bool hq | (refine wpAny_bind (m := truthy (.bool _)) (wpAny_truthy_bool ?_)) | wp_step)) fun _ _ e => e)))
    | wp_step)
theorem ne_rich {y Cy : Addr} {Q : Value → Shared → Prop} (hu : A.units + 1 < cLine) (X : K.In s.heap) (I : InstAt s.heap x ox C od) (hb : Looks (model prog w) s.heap (typeOf (.ref y)) (.ref C)) (hne : findIn K (.ref C) "__ne__" = some (some (.builtin "object.__ne__")))
    (hs : findIn K (.ref C) "__eq__" = some (some (.ref f))) (hf : isFn K (.ref f) = true) (hm : mroIn K C (.type "object") = some true) (h : wpAny (model prog w) A.in1 (call (.ref f) [.ref x, .ref y]) (fun v s' => ∃ r, v = .bool r ∧ Q (.bool (!r)) s') E s) :
    wpAny (model prog w) A (richCompare .NotEq (.ref x) (.ref y)) Q E s := by
  unfold richCompare
  simp only [oneThing_ref]
  refine wpAny_holding (wpAny_bind (wpAny_cRoomFor (Nat.lt_of_succ_lt hu) ?_))
  rw [cmpInfo_NotEq]
  dsimp only
  refine wpAny_bind (I.type.here (wpAny_bind (hb.here ?_)))
  rw [show (Value.ref C != Value.ref C) = false from by simp]
  simp only [Bool.false_eq_true, if_false]
  refine wpAny_bind (wpAny_pure ?_)
  simp only [Bool.false_eq_true, if_false]
  refine wpAny_bind (ne_try hu X I hne hs hf hm (wpAny_mono h (fun v s' hv => ?_) fun _ _ e => e))
  obtain ⟨r, rfl, hq⟩ := hv
  exact ⟨r, rfl, wpAny_pure hq⟩
end
section
open PySem PySem.Spec L2
open PyProof.Rows hiding St
variable {X : Cx}
/-- x != y of two equal instances with an own __eq__ -/
def rNeI (C : Addr) (R : Addr → Addr → Hp → Prop) : R2 := fun x y H Q => DIns C R x y H ∧ ∀ H', Ext H H' → Q (.bl false) H'
theorem op_neI {n : Nat} {CX : CXT} {C f : Addr} {fd : FuncData} {ps : List Str} {R : Addr → Addr → Hp → Prop} {E : XK} (F : FnOk X.prog X.w X.K X.mg X.base CX n f fd ps (spEq R)) (hne : PySem.W.findIn X.K (.ref C) "__ne__" = some (some (.builtin "object.__ne__")))
    (hs : PySem.W.findIn X.K (.ref C) "__eq__" = some (some (.ref f))) (hf : PySem.W.isFn X.K (.ref f) = true) (hm : PySem.W.mroIn X.K C (.type "object") = some true) (hb : Binds X.K fd ps []) (hx : Passes CX X E) (hr : Room (n + 1) X.A) : OpR X (compareOp .NotEq) (rNeI C R) := by
  intro pins s σ H x y v u Q I rx ry ⟨d, q⟩
  obtain ⟨a, b, dx, dy, fs, gs, rfl, rfl, ha, hb', hR⟩ := d
  cases rx
  cases ry
  obtain ⟨mA, J, _⟩ := ins_get I.hok ha
  obtain ⟨mB, J', _⟩ := ins_get I.hok hb'
  obtain ⟨od, J, _⟩ := J.look
  obtain ⟨od', J', _⟩ := J'.look
  unfold compareOp
  refine ne_rich (Cy := C) (hu_of hr) I.kIn J J'.type hne hs hf hm ?_
  have hsp : spEq R [.ref a, .ref b] H (fun v H' => v = .bl true ∧ Ext H H') E := ⟨a, b, rfl, hR, fun H' e => ⟨rfl, e⟩⟩
  have e0 : Env0 X.prog X.w X.K X.mg X.base X.A.in1 X.stack s H := by
    have e := I.env0
    exact ⟨e.frames, e.mod, e.bs, e.bsz, e.funs, e.frf, e.hok, e.bare⟩
  have hl := F.len _ _ _ _ hsp
  have r2 : Vals [V.ref a, V.ref b] [Value.ref a, Value.ref b] := .cons rfl (.cons rfl .nil)
  refine wpAny_call (codeAny_mono (F.run X.A.in1 X.stack s H ⟨[.ref a, .ref b], []⟩ [.ref a, .ref b] [.ref a, .ref b] _ E hr.in1 e0 (by
    have := hb s [.ref a, .ref b] I.kIn (by simpa using hl)
    simpa using this) r2 hsp) fun r s' hq => ?_)
  cases r with
  | error e => exact hx pins σ H s e s' I hq
  | ok fl =>
    cases fl with
    | ret w =>
      obtain ⟨z, H', I', rz, ez, ex⟩ := I.after hq
      subst ez
      cases rz
      exact ⟨true, rfl, .bl false, H', I', rfl, q H' ex⟩
    | next => exact False.elim hq
    | brk => exact False.elim hq
    | cont => exact False.elim hq
end
end Sc
set_option Elab.async false
set_option maxRecDepth 100000
set_option linter.all false
set_option maxHeartbeats 2000000
namespace Sc
open PySem PySem.Spec L2
open PyProof.Rows hiding St
/-! list.count, flat items -/
section
variable {X : Cx}
def rCntF (K : PySem.W.Frag) : V → List V → Hp → VK → Prop := fun x xs H Q => ∃ (p : Addr) (ys : List V) (y : V), x = .ref p ∧ xs = [y] ∧ SqL K H p ys ∧ flatV y = true ∧ ys.all flatV = true ∧ Q (.int (ys.countP fun z => eqV z y : Nat)) H
theorem countP_eqU {x : V} : ∀ {xs : List V} {us : List Value}, Vals xs us → xs.all flatV = true → us.countP (eqU x) = xs.countP fun y => eqV y x
  | _, _, .nil, _ => rfl
  | y :: xs, u :: us, .cons r t, f => by
    rw [List.all_cons, Bool.and_eq_true] at f
    rw [List.countP_cons, List.countP_cons, countP_eqU t f.2, eqU_of r f.1]
theorem mt_countF : MtR X "list.count" (rCntF X.K) := by
  intro pins s σ H x xs v us Q I rx rxs h
  obtain ⟨p, ys, y, rfl, rfl, hs, fy, fys, q⟩ := h
  cases rx
  obtain ⟨u, rfl, ru⟩ := rxs.one
  obtain ⟨its, rv, ⟨⟨cls, dd, data, sl⟩, n, ho, hc, hdn, hd⟩, hlen⟩ := I.list hs
  simp only at hc hd
  subst hc hd
  refine call_meets PySem.F.slot_list_count ⟨_, ho, rfl⟩ PySem.F.entry_list_count (PySem.F.args_list_count_2 _ _)
    (SeqAt.list_countAt p its.toArray n dd sl u (eqU y)) ⟨ho, fun u' hu' => mem_eqAt ru fy rv fys u' (by simpa using hu'), ?_⟩
  have ec : its.toArray.toList.countP (eqU y) = ys.countP fun z => eqV z y := countP_eqU rv fys
  refine ⟨.int (ys.countP fun z => eqV z y : Nat), H, I.tok _, ⟨s.toks, ?_⟩, q⟩
  show Value.int ((its.toArray.toList.countP (eqU y) : Nat) : Int) s.toks = Value.int _ s.toks
  rw [ec]
theorem pss_when {st : List Stmt} {t : TS} {p : Prop} (h : p → PSs X st t) : PSs X st (fun D σ H => p ∧ t D σ H) :=
  ⟨fun pins s σ H D I ⟨hp, ht⟩ => (h hp).run pins s σ H D I ht⟩
end
/-! ### the law's word for an error -/
def kinds (i : Nat) : List Bool := (List.range 17).map fun k => decide (k = i)
def TTerr (C : Addr) (word : Str) : (XK → Hp → VK → Prop) → Hp → VK → Prop := fun tl H Q =>
  tl (fun cls d H' => (cls = .ref C ∧ d = none) ∧ ∀ H'' t, Same H' H'' → H'' t = some (.tup [.str word]) → Q (.ref t) H'') H (fun _ _ => False)
/-- what is known of the class: its place among the kinds -/
structure ErrC (K : PySem.W.Frag) (C : Addr) (i : Nat) : Prop where
  c : ExcC K C
  m : PySem.W.exmOne K (.ref C) (.ref 31) = some true
  v : PySem.W.kitOne K (.ref C) (.type "ValueError") = some true
  k0 : PySem.W.kitOne K (.ref C) (.ref 53) = some (decide (0 = i))
  k1 : PySem.W.kitOne K (.ref C) (.ref 74) = some (decide (1 = i))
  k2 : PySem.W.kitOne K (.ref C) (.ref 86) = some (decide (2 = i))
  k3 : PySem.W.kitOne K (.ref C) (.ref 107) = some (decide (3 = i))
  k4 : PySem.W.kitOne K (.ref C) (.ref 119) = some (decide (4 = i))
  k5 : PySem.W.kitOne K (.ref C) (.ref 140) = some (decide (5 = i))
  k6 : PySem.W.kitOne K (.ref C) (.ref 161) = some (decide (6 = i))
  k7 : PySem.W.kitOne K (.ref C) (.ref 173) = some (decide (7 = i))
  k8 : PySem.W.kitOne K (.ref C) (.ref 185) = some (decide (8 = i))
  k9 : PySem.W.kitOne K (.ref C) (.ref 197) = some (decide (9 = i))
  k10 : PySem.W.kitOne K (.ref C) (.ref 209) = some (decide (10 = i))
  k11 : PySem.W.kitOne K (.ref C) (.ref 221) = some (decide (11 = i))
  k12 : PySem.W.kitOne K (.ref C) (.ref 242) = some (decide (12 = i))
  k13 : PySem.W.kitOne K (.ref C) (.ref 254) = some (decide (13 = i))
  k14 : PySem.W.kitOne K (.ref C) (.ref 266) = some (decide (14 = i))
  k15 : PySem.W.kitOne K (.ref C) (.ref 278) = some (decide (15 = i))
  k16 : PySem.W.kitOne K (.ref C) (.ref 290) = some (decide (16 = i))
section
variable {K : PySem.W.Frag} {mg : Str → Option Value}
theorem err266 (T : Txt K mg) : ErrC K 266 14 := ⟨T.xc_NoNeighbor, T.xm_NoNeighbor, T.xv_NoNeighbor, T.xk_NoNeighbor_InvalidFacts, T.xk_NoNeighbor_InvalidCase, T.xk_NoNeighbor_InvalidNumber, T.xk_NoNeighbor_InvalidCondition, T.xk_NoNeighbor_NeverMet, T.xk_NoNeighbor_InvalidRule, T.xk_NoNeighbor_InvalidBook, T.xk_NoNeighbor_UnknownRule, T.xk_NoNeighbor_InvalidRuling,
  T.xk_NoNeighbor_UnknownFact, T.xk_NoNeighbor_NoReason, T.xk_NoNeighbor_TooMany, T.xk_NoNeighbor_InvalidChance, T.xk_NoNeighbor_OtherFacts, T.xk_NoNeighbor_NoNeighbor, T.xk_NoNeighbor_NoFacts, T.xk_NoNeighbor_AlreadyKnown⟩
theorem err173 (T : Txt K mg) : ErrC K 173 7 := ⟨T.xc_UnknownRule, T.xm_UnknownRule, T.xv_UnknownRule, T.xk_UnknownRule_InvalidFacts, T.xk_UnknownRule_InvalidCase, T.xk_UnknownRule_InvalidNumber, T.xk_UnknownRule_InvalidCondition, T.xk_UnknownRule_NeverMet, T.xk_UnknownRule_InvalidRule, T.xk_UnknownRule_InvalidBook, T.xk_UnknownRule_UnknownRule, T.xk_UnknownRule_InvalidRuling,
  T.xk_UnknownRule_UnknownFact, T.xk_UnknownRule_NoReason, T.xk_UnknownRule_TooMany, T.xk_UnknownRule_InvalidChance, T.xk_UnknownRule_OtherFacts, T.xk_UnknownRule_NoNeighbor, T.xk_UnknownRule_NoFacts, T.xk_UnknownRule_AlreadyKnown⟩
end
def WORDS : List Str := ["facts", "case", "number", "condition", "never", "rule", "book", "norule", "ruling", "fact", "reason", "many", "chance", "other", "neighbor", "nofacts", "known"]
abbrev nErr : List Str := ["_law_call", "e", "_law_kinds", "_law_names", "_law_name"]
theorem sc_err : FnScope nErr ["_law_call"] (defScope s_law_error) := ⟨rfl, rfl, rfl, by decide +kernel, rfl, by decide +kernel, by decide +kernel⟩
end Sc
set_option Elab.async false
set_option maxRecDepth 100000
set_option linter.all false
set_option maxHeartbeats 2000000
namespace Sc
open PySem PySem.Spec L2
open PyProof.Rows hiding St
abbrev kV1 (i : Nat) : List V := [.bl (decide (0 = i)), .bl (decide (1 = i)), .bl (decide (2 = i))]
abbrev kV2 (i : Nat) : List V := [.bl (decide (3 = i)), .bl (decide (4 = i)), .bl (decide (5 = i))]
abbrev kV3 (i : Nat) : List V := [.bl (decide (6 = i)), .bl (decide (7 = i)), .bl (decide (8 = i))]
abbrev kV4 (i : Nat) : List V := [.bl (decide (9 = i)), .bl (decide (10 = i)), .bl (decide (11 = i))]
abbrev kV5 (i : Nat) : List V := [.bl (decide (12 = i)), .bl (decide (13 = i)), .bl (decide (14 = i))]
abbrev kV6 (i : Nat) : List V := [.bl (decide (15 = i)), .bl (decide (16 = i))]
def kVs (i : Nat) : List V := kV1 i ++ kV2 i ++ kV3 i ++ kV4 i ++ kV5 i ++ kV6 i
structure WordOk (i : Nat) (word : Str) : Prop where
  cnt : (kVs i).countP (fun z => eqV z (.bl true)) = 1
  flat : (kVs i).all flatV = true
  at_ : (kVs i)[i]? = some (.bl true)
  before : ∀ m, m < i → (kVs i)[m]? = some (.bl false)
  wd : WORDS[i]? = some word
  n1 : inV (.str word) [.str "facts", .str "case"] = false
  n2 : word ≠ "condition"
  n3 : word ≠ "book"
  n4 : inV (.str word) [.str "rule", .str "chance"] = false
theorem word14 : WordOk 14 "neighbor" := ⟨by decide +kernel, by decide +kernel, by decide +kernel, by decide +kernel, by decide +kernel, by decide +kernel, by decide +kernel, by decide +kernel, by decide +kernel⟩
theorem word7 : WordOk 7 "norule" := ⟨by decide +kernel, by decide +kernel, by decide +kernel, by decide +kernel, by decide +kernel, by decide +kernel, by decide +kernel, by decide +kernel, by decide +kernel⟩
def TSerr (C : Addr) (word : Str) (a : Addr) (cls : Value) (d : Option Addr) : TS := fun D σ H => (cls = .ref C ∧ d = none) ∧ (1 < σ.length → σ[1]? = some (some (.ref a))) ∧ ∀ H'' t, Same H H'' → H'' t = some (.tup [.str word]) → D.rt (.ref t) H''
theorem len5 {α : Type} {l : List α} (h : l.length = 5) : ∃ a b c d e, l = [a, b, c, d, e] := by
  match l, h with
  | [a, b, c, d, e], _ => exact ⟨a, b, c, d, e, rfl⟩
theorem PSs.of {X : Cx} {st : List Stmt} {t' : TS} (h : ∀ D σ H, σ.length = X.N.length → t' D σ H → ∃ t, PSs X st t ∧ t D σ H) : PSs X st t' := ⟨fun pins s σ H D I h' => by
  obtain ⟨t, h1, h2⟩ := h D σ H I.len h'
  exact h1.run pins s σ H D I h2⟩
def errSuite : List Stmt := match defBody s_law_error with
  | .Try _ (.ExceptHandler _ _ b _ :: _) _ _ _ :: _ => b
  | _ => []
section
variable {X : Cx}
theorem err_suite (T : Txt X.K X.mg) {C : Addr} {i : Nat} {word : Str} (hC : ErrC X.K C i) (W : WordOk i word) {q : Str} {g : Addr} {cdg : Value} {s : Shared} {H : Hp} (a : Addr) (oe : Obj) (cls : Value) (d : Option Addr) (pn : List (Addr × Obj)) (hz : Zc cls d oe) (hf : ∃ vs, oe.data = .fields vs) :
    PSs (((cxOf CX0 X.prog X.w X.K X.mg X.base nErr "_law_error" (defScope s_law_error) g cdg X.A X.stack s H E0).nox).suite a ((a, oe) :: pn)) errSuite (TSerr C word a cls d) := by
  have nd := sc_err.nd
  refine PSs.of fun D σ H1 hl h => ?_
  obtain ⟨⟨rfl, rfl⟩, h1, k⟩ := h
  obtain ⟨x0, x1, x2, x3, x4, rfl⟩ := len5 hl
  have e1 := h1 (by show 1 < 5; decide)
  have e1 : x1 = some (.ref a) := Option.some.inj e1
  subst e1
  refine ⟨_, (pss_cons (ps_set (i := 2) nd rfl (.inl rfl) (pe_lst (pa_cons (pe_callB (call_isE hC.c hz hf) (by rfl) T.f_isinstance (by decide +kernel) (pa_cons (pv 1) (pa_cons (pe_glob (v := .ref 53) (by rfl) T.g_InvalidFacts rfl) pa_nil))) (pa_cons (pe_callB (call_isE hC.c hz hf) (by rfl) T.f_isinstance (by decide +kernel) (pa_cons (pv 1) (pa_cons (pe_glob (v := .ref 74) (by rfl) T.g_InvalidCase rfl) pa_nil))) (pa_cons (pe_callB (call_isE hC.c hz hf) (by rfl) T.f_isinstance (by decide +kernel) (pa_cons (pv 1) (pa_cons (pe_glob (v := .ref 86) (by rfl) T.g_InvalidNumber rfl) pa_nil))) pa_nil)))))
      (pss_cons (ps_expr (pe_bm PySem.F.plainAttrs_list PySem.F.slot_list_extend PySem.F.type_list_extend mt_extend (pv 2) (pa_cons (pe_lst (pa_cons (pe_callB (call_isE hC.c hz hf) (by rfl) T.f_isinstance (by decide +kernel) (pa_cons (pv 1) (pa_cons (pe_glob (v := .ref 107) (by rfl) T.g_InvalidCondition rfl) pa_nil))) (pa_cons (pe_callB (call_isE hC.c hz hf) (by rfl) T.f_isinstance (by decide +kernel) (pa_cons (pv 1) (pa_cons (pe_glob (v := .ref 119) (by rfl) T.g_NeverMet rfl) pa_nil))) (pa_cons (pe_callB (call_isE hC.c hz hf) (by rfl) T.f_isinstance (by decide +kernel) (pa_cons (pv 1) (pa_cons (pe_glob (v := .ref 140) (by rfl) T.g_InvalidRule rfl) pa_nil))) pa_nil)))) pa_nil)))
      (pss_cons (ps_expr (pe_bm PySem.F.plainAttrs_list PySem.F.slot_list_extend PySem.F.type_list_extend mt_extend (pv 2) (pa_cons (pe_lst (pa_cons (pe_callB (call_isE hC.c hz hf) (by rfl) T.f_isinstance (by decide +kernel) (pa_cons (pv 1) (pa_cons (pe_glob (v := .ref 161) (by rfl) T.g_InvalidBook rfl) pa_nil))) (pa_cons (pe_callB (call_isE hC.c hz hf) (by rfl) T.f_isinstance (by decide +kernel) (pa_cons (pv 1) (pa_cons (pe_glob (v := .ref 173) (by rfl) T.g_UnknownRule rfl) pa_nil))) (pa_cons (pe_callB (call_isE hC.c hz hf) (by rfl) T.f_isinstance (by decide +kernel) (pa_cons (pv 1) (pa_cons (pe_glob (v := .ref 185) (by rfl) T.g_InvalidRuling rfl) pa_nil))) pa_nil)))) pa_nil)))
      (pss_cons (ps_expr (pe_bm PySem.F.plainAttrs_list PySem.F.slot_list_extend PySem.F.type_list_extend mt_extend (pv 2) (pa_cons (pe_lst (pa_cons (pe_callB (call_isE hC.c hz hf) (by rfl) T.f_isinstance (by decide +kernel) (pa_cons (pv 1) (pa_cons (pe_glob (v := .ref 197) (by rfl) T.g_UnknownFact rfl) pa_nil))) (pa_cons (pe_callB (call_isE hC.c hz hf) (by rfl) T.f_isinstance (by decide +kernel) (pa_cons (pv 1) (pa_cons (pe_glob (v := .ref 209) (by rfl) T.g_NoReason rfl) pa_nil))) (pa_cons (pe_callB (call_isE hC.c hz hf) (by rfl) T.f_isinstance (by decide +kernel) (pa_cons (pv 1) (pa_cons (pe_glob (v := .ref 221) (by rfl) T.g_TooMany rfl) pa_nil))) pa_nil)))) pa_nil)))
      (pss_cons (ps_expr (pe_bm PySem.F.plainAttrs_list PySem.F.slot_list_extend PySem.F.type_list_extend mt_extend (pv 2) (pa_cons (pe_lst (pa_cons (pe_callB (call_isE hC.c hz hf) (by rfl) T.f_isinstance (by decide +kernel) (pa_cons (pv 1) (pa_cons (pe_glob (v := .ref 242) (by rfl) T.g_InvalidChance rfl) pa_nil))) (pa_cons (pe_callB (call_isE hC.c hz hf) (by rfl) T.f_isinstance (by decide +kernel) (pa_cons (pv 1) (pa_cons (pe_glob (v := .ref 254) (by rfl) T.g_OtherFacts rfl) pa_nil))) (pa_cons (pe_callB (call_isE hC.c hz hf) (by rfl) T.f_isinstance (by decide +kernel) (pa_cons (pv 1) (pa_cons (pe_glob (v := .ref 266) (by rfl) T.g_NoNeighbor rfl) pa_nil))) pa_nil)))) pa_nil)))
      (pss_cons (ps_expr (pe_bm PySem.F.plainAttrs_list PySem.F.slot_list_extend PySem.F.type_list_extend mt_extend (pv 2) (pa_cons (pe_lst (pa_cons (pe_callB (call_isE hC.c hz hf) (by rfl) T.f_isinstance (by decide +kernel) (pa_cons (pv 1) (pa_cons (pe_glob (v := .ref 278) (by rfl) T.g_NoFacts rfl) pa_nil))) (pa_cons (pe_callB (call_isE hC.c hz hf) (by rfl) T.f_isinstance (by decide +kernel) (pa_cons (pv 1) (pa_cons (pe_glob (v := .ref 290) (by rfl) T.g_AlreadyKnown rfl) pa_nil))) pa_nil))) pa_nil)))
      (pss_cons (ps_if (PW.pt (pw_or (pt_cmpR op_ne (pe_bm PySem.F.plainAttrs_list PySem.F.slot_list_count PySem.F.type_list_count mt_countF (pv 2) (pa_cons pe_bl pa_nil)) pe_int (nomark _)) (pw_or1 (pt_not (pt_val (pe_callB (call_isE hC.c hz hf) (by rfl) T.f_isinstance (by decide +kernel) (pa_cons (pv 1) (pa_cons (pe_bltn (v := .ty "ValueError") (by rfl) T.f_ValueError (by decide +kernel) rfl) pa_nil)))))))) pss_never pss_nil)
      (pss_cons (ps_set (i := 3) nd rfl (.inl rfl) (pe_lst (pa_cons pe_str (pa_cons pe_str (pa_cons pe_str (pa_cons pe_str (pa_cons pe_str (pa_cons pe_str (pa_cons pe_str (pa_cons pe_str (pa_cons pe_str (pa_cons pe_str (pa_cons pe_str pa_nil)))))))))))))
      (pss_cons (ps_set (i := 4) nd rfl (.inl rfl) (pe_ix ix_list (pe_op op_cat (pv 3) (pe_lst (pa_cons pe_str (pa_cons pe_str (pa_cons pe_str (pa_cons pe_str (pa_cons pe_str (pa_cons pe_str pa_nil)))))))) (pe_bm PySem.F.plainAttrs_list PySem.F.slot_list_index PySem.F.type_list_index mt_index (pv 2) (pa_cons pe_bl pa_nil)) (fun _ _ => rfl)))
      (pss_cons (ps_if (pt_cmpR op_in_seq (pv 4) (pe_tup (pa_cons pe_str (pa_cons pe_str pa_nil))) (by rfl)) pss_never pss_nil)
      (pss_cons (ps_if (pt_cmpR op_eq (pv 4) pe_str (nomark _)) pss_never pss_nil)
      (pss_cons (ps_if (pt_cmpR op_eq (pv 4) pe_str (nomark _)) pss_never pss_nil)
      (pss_cons (ps_if (pt_cmpR op_in_seq (pv 4) (pe_tup (pa_cons pe_str (pa_cons pe_str pa_nil))) (by rfl)) pss_never pss_nil)
      (pss_one (ps_ret (pe_tup (pa_cons (pv 4) pa_nil))))))))))))))))), ?_⟩
  refine ⟨_, rfl, .ref 53, _, _, rfl, fun u r => r, hC.k0, _, rfl, .ref 74, _, _, rfl, fun u r => r, hC.k1, _, rfl, .ref 86, _, _, rfl, fun u r => r, hC.k2, by show 3 ≤ sizeLine; decide, fun p np => ?_⟩
  have s0 := same_upd (o := HO.lst (kV1 i)) np
  have hp0 : (upd H1 p (.lst (kV1 i))) p = some (.lst (kV1 i)) := upd_same
  show tSeq _ _ _ _ (upd H1 p (.lst (kV1 i)))
  generalize hG0 : upd H1 p (.lst (kV1 i)) = G0 at s0 hp0
  refine ⟨_, rfl, .inl ⟨rfl, _, SqL.of hp0⟩, _, rfl, .ref 107, _, _, rfl, fun u r => r, hC.k3, _, rfl, .ref 119, _, _, rfl, fun u r => r, hC.k4, _, rfl, .ref 140, _, _, rfl, fun u r => r, hC.k5, by show 3 ≤ sizeLine; decide, fun q1 nq1 => ⟨p, q1, kV1 i, kV2 i, rfl, rfl, same_upd nq1 _ _ hp0, upd_same, by show 3 + 3 ≤ sizeLine; decide, ?_⟩⟩
  have s1 : Same H1 (upd (upd G0 q1 (.lst (kV2 i))) p (.lst (kV1 i ++ kV2 i))) := same_new (same_trans s0 (same_upd nq1)) np
  have hp1 : (upd (upd G0 q1 (.lst (kV2 i))) p (.lst (kV1 i ++ kV2 i))) p = some (.lst (kV1 i ++ kV2 i)) := upd_same
  show tSeq _ _ _ _ (upd (upd G0 q1 (.lst (kV2 i))) p (.lst (kV1 i ++ kV2 i)))
  generalize hG1 : upd (upd G0 q1 (.lst (kV2 i))) p (.lst (kV1 i ++ kV2 i)) = G1 at s1 hp1
  refine ⟨_, rfl, .inl ⟨rfl, _, SqL.of hp1⟩, _, rfl, .ref 161, _, _, rfl, fun u r => r, hC.k6, _, rfl, .ref 173, _, _, rfl, fun u r => r, hC.k7, _, rfl, .ref 185, _, _, rfl, fun u r => r, hC.k8, by show 3 ≤ sizeLine; decide, fun q2 nq2 => ⟨p, q2, kV1 i ++ kV2 i, kV3 i, rfl, rfl, same_upd nq2 _ _ hp1, upd_same, by show 6 + 3 ≤ sizeLine; decide, ?_⟩⟩
  have s2 : Same H1 (upd (upd G1 q2 (.lst (kV3 i))) p (.lst (kV1 i ++ kV2 i ++ kV3 i))) := same_new (same_trans s1 (same_upd nq2)) np
  have hp2 : (upd (upd G1 q2 (.lst (kV3 i))) p (.lst (kV1 i ++ kV2 i ++ kV3 i))) p = some (.lst (kV1 i ++ kV2 i ++ kV3 i)) := upd_same
  show tSeq _ _ _ _ (upd (upd G1 q2 (.lst (kV3 i))) p (.lst (kV1 i ++ kV2 i ++ kV3 i)))
  generalize hG2 : upd (upd G1 q2 (.lst (kV3 i))) p (.lst (kV1 i ++ kV2 i ++ kV3 i)) = G2 at s2 hp2
  refine ⟨_, rfl, .inl ⟨rfl, _, SqL.of hp2⟩, _, rfl, .ref 197, _, _, rfl, fun u r => r, hC.k9, _, rfl, .ref 209, _, _, rfl, fun u r => r, hC.k10, _, rfl, .ref 221, _, _, rfl, fun u r => r, hC.k11, by show 3 ≤ sizeLine; decide, fun q3 nq3 => ⟨p, q3, kV1 i ++ kV2 i ++ kV3 i, kV4 i, rfl, rfl, same_upd nq3 _ _ hp2, upd_same, by show 9 + 3 ≤ sizeLine; decide, ?_⟩⟩
  have s3 : Same H1 (upd (upd G2 q3 (.lst (kV4 i))) p (.lst (kV1 i ++ kV2 i ++ kV3 i ++ kV4 i))) := same_new (same_trans s2 (same_upd nq3)) np
  have hp3 : (upd (upd G2 q3 (.lst (kV4 i))) p (.lst (kV1 i ++ kV2 i ++ kV3 i ++ kV4 i))) p = some (.lst (kV1 i ++ kV2 i ++ kV3 i ++ kV4 i)) := upd_same
  show tSeq _ _ _ _ (upd (upd G2 q3 (.lst (kV4 i))) p (.lst (kV1 i ++ kV2 i ++ kV3 i ++ kV4 i)))
  generalize hG3 : upd (upd G2 q3 (.lst (kV4 i))) p (.lst (kV1 i ++ kV2 i ++ kV3 i ++ kV4 i)) = G3 at s3 hp3
  refine ⟨_, rfl, .inl ⟨rfl, _, SqL.of hp3⟩, _, rfl, .ref 242, _, _, rfl, fun u r => r, hC.k12, _, rfl, .ref 254, _, _, rfl, fun u r => r, hC.k13, _, rfl, .ref 266, _, _, rfl, fun u r => r, hC.k14, by show 3 ≤ sizeLine; decide, fun q4 nq4 => ⟨p, q4, kV1 i ++ kV2 i ++ kV3 i ++ kV4 i, kV5 i, rfl, rfl, same_upd nq4 _ _ hp3, upd_same, by show 12 + 3 ≤ sizeLine; decide, ?_⟩⟩
  have s4 : Same H1 (upd (upd G3 q4 (.lst (kV5 i))) p (.lst (kV1 i ++ kV2 i ++ kV3 i ++ kV4 i ++ kV5 i))) := same_new (same_trans s3 (same_upd nq4)) np
  have hp4 : (upd (upd G3 q4 (.lst (kV5 i))) p (.lst (kV1 i ++ kV2 i ++ kV3 i ++ kV4 i ++ kV5 i))) p = some (.lst (kV1 i ++ kV2 i ++ kV3 i ++ kV4 i ++ kV5 i)) := upd_same
  show tSeq _ _ _ _ (upd (upd G3 q4 (.lst (kV5 i))) p (.lst (kV1 i ++ kV2 i ++ kV3 i ++ kV4 i ++ kV5 i)))
  generalize hG4 : upd (upd G3 q4 (.lst (kV5 i))) p (.lst (kV1 i ++ kV2 i ++ kV3 i ++ kV4 i ++ kV5 i)) = G4 at s4 hp4
  refine ⟨_, rfl, .inl ⟨rfl, _, SqL.of hp4⟩, _, rfl, .ref 278, _, _, rfl, fun u r => r, hC.k15, _, rfl, .ref 290, _, _, rfl, fun u r => r, hC.k16, by show 2 ≤ sizeLine; decide, fun q5 nq5 => ⟨p, q5, kV1 i ++ kV2 i ++ kV3 i ++ kV4 i ++ kV5 i, kV6 i, rfl, rfl, same_upd nq5 _ _ hp4, upd_same, by show 15 + 2 ≤ sizeLine; decide, ?_⟩⟩
  have s5 : Same H1 (upd (upd G4 q5 (.lst (kV6 i))) p (.lst (kV1 i ++ kV2 i ++ kV3 i ++ kV4 i ++ kV5 i ++ kV6 i))) := same_new (same_trans s4 (same_upd nq5)) np
  have hp5 : (upd (upd G4 q5 (.lst (kV6 i))) p (.lst (kV1 i ++ kV2 i ++ kV3 i ++ kV4 i ++ kV5 i ++ kV6 i))) p = some (.lst (kV1 i ++ kV2 i ++ kV3 i ++ kV4 i ++ kV5 i ++ kV6 i)) := upd_same
  show tSeq _ _ _ _ (upd (upd G4 q5 (.lst (kV6 i))) p (.lst (kV1 i ++ kV2 i ++ kV3 i ++ kV4 i ++ kV5 i ++ kV6 i)))
  generalize hG5 : upd (upd G4 q5 (.lst (kV6 i))) p (.lst (kV1 i ++ kV2 i ++ kV3 i ++ kV4 i ++ kV5 i ++ kV6 i)) = G5 at s5 hp5
  have hp : G5 p = some (.lst (kVs i)) := hp5
  refine ⟨_, rfl, .inl ⟨rfl, _, SqL.of hp⟩, p, kVs i, .bl true, rfl, rfl, .of hp, rfl, W.flat, rfl, _, rfl, ?_⟩
  rw [W.cnt]
  refine iteF ⟨_, rfl, .ty "ValueError", _, _, rfl, fun u r => r, hC.v, true, rfl, iteF ?_⟩
  refine ⟨by show 11 ≤ sizeLine; decide, fun n1 nn1 => ?_⟩
  have t1 := same_upd (o := HO.lst (sV (WORDS.take 11))) nn1
  have hn1 : (upd G5 n1 (.lst (sV (WORDS.take 11)))) n1 = some (.lst (sV (WORDS.take 11))) := upd_same
  show tSeq _ _ _ _ (upd G5 n1 (.lst (sV (WORDS.take 11))))
  generalize hG6 : upd G5 n1 (.lst (sV (WORDS.take 11))) = G6 at t1 hn1
  refine ⟨_, rfl, by show 6 ≤ sizeLine; decide, fun n2 nn2 => ⟨n1, n2, sV (WORDS.take 11), sV (WORDS.drop 11), rfl, rfl, same_upd nn2 _ _ hn1, upd_same, by show 11 + 6 ≤ sizeLine; decide, fun n3 nn3 => ?_⟩⟩
  have t2 := same_upd (o := HO.lst (sV (WORDS.drop 11))) nn2
  have t3 := same_upd (o := HO.lst (sV (WORDS.take 11) ++ sV (WORDS.drop 11))) nn3
  have t13 := same_trans t1 (same_trans t2 t3)
  have hp6 := t13 _ _ hp
  refine ⟨_, rfl, .inl ⟨rfl, _, SqL.of hp6⟩, p, kVs i, .bl true, i, .bl true, rfl, rfl, .of hp6, rfl, W.flat, W.at_, rfl, fun m z' hm ez => ?_, n3, sV (WORDS.take 11) ++ sV (WORDS.drop 11), i, .str word, rfl, rfl, .of upd_same, ?_, ?_⟩
  · rw [W.before m hm] at ez
    cases ez
    rfl
  · rw [atI_nat, ← List.map_append, List.take_append_drop, List.getElem?_map, W.wd]
    rfl
  have t53 := same_trans s5 t13
  generalize hG7 : upd (upd G6 n2 (.lst (sV (WORDS.drop 11)))) n3 (.lst (sV (WORDS.take 11) ++ sV (WORDS.drop 11))) = G7 at t53
  refine ⟨_, rfl, by show 2 ≤ sizeLine; decide, fun u1 nu1 => ⟨u1, _, rfl, .inr (.of upd_same), rfl, rfl, _, rfl, ?_⟩⟩
  have t4 := same_trans t53 (same_upd (o := HO.tup [V.str "facts", V.str "case"]) nu1)
  rw [if_neg (by decide), W.n1]
  refine iteF ⟨_, rfl, rfl, _, rfl, ?_⟩
  rw [show decide (V.str word = V.str "condition") = false from decide_eq_false fun z => W.n2 (V.str.inj z)]
  refine iteF ⟨_, rfl, rfl, _, rfl, ?_⟩
  rw [show decide (V.str word = V.str "book") = false from decide_eq_false fun z => W.n3 (V.str.inj z)]
  refine iteF ⟨_, rfl, by show 2 ≤ sizeLine; decide, fun u2 nu2 => ⟨u2, _, rfl, .inr (.of upd_same), rfl, rfl, _, rfl, ?_⟩⟩
  have t5 := same_trans t4 (same_upd (o := HO.tup [V.str "rule", V.str "chance"]) nu2)
  rw [if_neg (by decide), W.n4]
  refine iteF ⟨_, rfl, by show 1 ≤ sizeLine; decide, fun u3 nu3 => ?_⟩
  exact k _ u3 (same_trans t5 (same_upd nu3)) upd_same
end
end Sc
set_option Elab.async false
set_option maxRecDepth 100000
set_option linter.all false
set_option maxHeartbeats 2000000
namespace Sc
open PySem PySem.Spec L2
open PyProof.Rows hiding St
section
variable {X : Cx}
theorem err_gives (T : Txt X.K X.mg) {C : Addr} {i : Nat} {word : Str} (hC : ErrC X.K C i) (W : WordOk i word) {q : Str} {g : Addr} {cdg : Value} : LamX.GivesTo X nErr "_law_error" (defScope s_law_error) g cdg (defBody s_law_error) "_law_call" q (TTerr C word) := by
  intro f c' s H Q tl act hc h
  have nd := sc_err.nd
  refine ⟨_, pss_cons (L2.ps_try_as (X := (cxOf CX0 X.prog X.w X.K X.mg X.base nErr "_law_error" (defScope s_law_error) g cdg X.A X.stack s H E0).nox) (c := .ref 31) (i := 1)
      (tb := fun W D σ H => ∃ Ech : XK, (∀ cls d σ' H', Ech cls d H' → W cls d σ' H') ∧ σ[0]? = some (some (.ref f)) ∧ H c' = some (LamX.CodeO c' q) ∧ tl Ech H fun _ H1 => D.nx σ H1) (ts := TSerr C word) (Wout := fun _ _ _ _ => False)
      rfl rfl nd rfl rfl ⟨by rfl, by decide, .inl T.g_CourtError⟩ LamX.takes0 (fun W' pn xe tk _ => ?_) (fun a oe cls d pn hz hf => err_suite (q := q) T hC W a oe cls d pn hz hf)) pss_never, ?_⟩
  · refine ⟨fun pins s' σ H' D I h' => ?_⟩
    obtain ⟨Ech, hW, h1, h2, h3⟩ := h'
    have hp := fun p1 p2 => act W' pn xe Ech p1 p2 tk hW
    exact PSs.run (pss_one (ps_expr (hp _ _))) pins s' σ H' D I ⟨h1, h2, h3⟩
  · refine ⟨fun cls d H' => (cls = .ref C ∧ d = none) ∧ ∀ H'' t, Same H' H'' → H'' t = some (.tup [.str word]) → Q (.ref t) H'', fun cls d σ' H' ⟨⟨e1, e2⟩, k⟩ => ?_, rfl, hc, h⟩
    subst e1
    subst e2
    refine ⟨true, hC.m, fun _ a na => ⟨⟨rfl, rfl⟩, fun hl => ?_, k⟩, fun z => (nomatch z)⟩
    rw [List.length_set] at hl
    rw [List.getElem?_set_self hl]
end
end Sc
set_option Elab.async false
set_option maxRecDepth 100000
set_option linter.all false
namespace Sc
open PySem PySem.Spec L2
open PyProof.Rows hiding St
/-! ### the tree, plainly -/
theorem rows_eq (o : List RT) (k : Nat) (r : RT) (rs : List RT) : rowsMA o k (r :: rs) = (r, o, k) :: (rowsMA (o ++ [r]) 0 r.inner ++ rowsMA o (k + 1) rs) := by
  rw [rowsMA, rowsM1_eq, List.cons_append]
/-- induction along a tree -/
theorem treeInd {M : List RT → Prop} (h0 : M []) (h1 : ∀ r rs, M r.inner → M rs → M (r :: rs)) : ∀ l, M l := by
  have main : ∀ n l, sizeOf l ≤ n → M l := by
    intro n
    induction n with
    | zero =>
      intro l h
      cases l with
      | nil => exact h0
      | cons a l => simp at h
    | succ n ih =>
      intro l h
      cases l with
      | nil => exact h0
      | cons r rs =>
        cases r with
        | mk a b c d i =>
          refine h1 _ _ (ih i ?_) (ih rs ?_)
          · simp at h
            omega
          · simp at h
            omega
  exact fun l => main _ l (Nat.le_refl _)
theorem nms_cons (r : RT) (rs : List RT) : nmsL (r :: rs) = r.n :: (nmsL r.inner ++ nmsL rs) := by
  cases r
  simp only [nmsL, nms1, RT.n, RT.inner, List.cons_append]
theorem rows_names : ∀ (l : List RT) (o : List RT) (k : Nat), (rowsMA o k l).map (·.1.n) = nmsL l := by
  refine treeInd (fun o k => by simp [rowsMA, nmsL]) fun r rs h1 h2 o k => ?_
  rw [rows_eq, nms_cons, List.map_cons, List.map_append, h1, h2]
theorem dep_cons {d : Nat} {r : RT} {rs : List RT} (h : depL d (r :: rs)) : (∃ e, d = e + 1 ∧ depL e r.inner) ∧ depL d rs := by
  simp only [depL] at h
  exact ⟨dep_inner h.1, h.2⟩
theorem dep_mk {e : Nat} {r : RT} {rs : List RT} (h1 : depL e r.inner) (h2 : depL (e + 1) rs) : depL (e + 1) (r :: rs) := by
  simp only [depL]
  refine ⟨?_, h2⟩
  cases r
  simp only [RT.dep]
  exact h1
theorem dep_mono : ∀ (l : List RT) {d e : Nat}, d ≤ e → depL d l → depL e l := by
  refine treeInd (fun _ _ => trivial) fun r rs h1 h2 d e hde h => ?_
  obtain ⟨⟨d', rfl, hi⟩, hr⟩ := dep_cons h
  obtain ⟨e', rfl⟩ : ∃ e', e = e' + 1 := ⟨e - 1, by omega⟩
  exact dep_mk (h1 (by omega) hi) (h2 hde hr)
/-- where a row stands -/
theorem rows_path {d : Nat} : ∀ (l o : List RT) (k : Nat) {d : Nat}, depL d l → ∀ e ∈ rowsMA o k l, (∃ s, e.2.1 = o ++ s ∧ s.length < d) := by
  refine treeInd (fun o k d _ e h => by simp [rowsMA] at h) fun r rs h1 h2 o k d h e he => ?_
  obtain ⟨⟨d', rfl, hi⟩, hr⟩ := dep_cons h
  rw [rows_eq] at he
  rcases List.mem_cons.mp he with z | he
  · subst z
    exact ⟨[], by simp, by simp⟩
  · rcases List.mem_append.mp he with z | z
    · obtain ⟨s, e1, e2⟩ := h1 _ _ hi e z
      exact ⟨r :: s, by rw [e1]; simp, by simp; omega⟩
    · exact h2 _ _ hr e z
theorem rows_all {p : RT → Prop} : ∀ (l o : List RT) (k : Nat), allL p l → ∀ e ∈ rowsMA o k l, p e.1 ∧ ∀ q ∈ e.2.1, q ∈ o ∨ p q := by
  refine treeInd (fun o k _ e h => by simp [rowsMA] at h) fun r rs h1 h2 o k h e he => ?_
  simp only [allL] at h
  obtain ⟨ha, hb⟩ := h
  obtain ⟨hp, hi⟩ := allT_iff.mp ha
  rw [rows_eq] at he
  rcases List.mem_cons.mp he with z | he
  · subst z
    exact ⟨hp, fun q hq => .inl hq⟩
  · rcases List.mem_append.mp he with z | z
    · obtain ⟨a, b⟩ := h1 _ _ hi e z
      refine ⟨a, fun q hq => (b q hq).elim (fun m => ?_) .inr⟩
      rcases List.mem_append.mp m with m | m
      · exact .inl m
      · rw [List.mem_singleton.mp m]
        exact .inr hp
    · exact h2 _ _ hb e z
theorem rows_top : ∀ (l o : List RT) (k : Nat), ∀ e ∈ rowsMA o k l, e.2.1 = o → e.2.2 < k + l.length := by
  refine treeInd (fun o k e h => by simp [rowsMA] at h) fun r rs h1 h2 o k e he heq => ?_
  rw [rows_eq] at he
  rcases List.mem_cons.mp he with z | he
  · subst z
    simp
  · rcases List.mem_append.mp he with z | z
    · exfalso
      have : ∀ (l o : List RT) (k : Nat), ∀ e ∈ rowsMA o k l, o.length ≤ e.2.1.length := by
        refine treeInd (fun o k e h => by simp [rowsMA] at h) fun r rs h1 h2 o k e he => ?_
        rw [rows_eq] at he
        rcases List.mem_cons.mp he with z | he
        · subst z
          exact Nat.le_refl _
        · rcases List.mem_append.mp he with z | z
          · have := h1 _ _ e z
            simp at this
            omega
          · exact h2 _ _ e z
      have := this _ _ _ e z
      rw [heq] at this
      simp at this
      omega
    · have := h2 _ _ e z heq
      simp
      omega
theorem allL_imp {p q : RT → Prop} (h : ∀ r, p r → q r) : ∀ l : List RT, allL p l → allL q l := by
  refine treeInd (fun _ => trivial) fun r rs h1 h2 hp => ?_
  simp only [allL] at hp ⊢
  exact ⟨allT_iff.mpr ⟨h _ (allT_iff.mp hp.1).1, h1 (allT_iff.mp hp.1).2⟩, h2 hp.2⟩
/-! ### what was drawn is fit -/
theorem allf_nm : ∀ x ∈ ALLF, NmOk x := by
  show ∀ x ∈ ALLF, 1 ≤ x.length ∧ x.length ≤ 8 ∧ ∀ c ∈ x.cps.toList, c ∈ LET.cps.toList
  decide +kernel
theorem allf_pw : ALLF.Pairwise Lx := by
  show ALLF.Pairwise fun a b => a.cps.toList < b.cps.toList
  decide +kernel
theorem rul_nm : ∀ x ∈ RUL, NmOk x := by
  show ∀ x ∈ RUL, 1 ≤ x.length ∧ x.length ≤ 8 ∧ ∀ c ∈ x.cps.toList, c ∈ LET.cps.toList
  decide +kernel
theorem nmR_nm : ∀ i, i < 24 → NmOk (nmR i) := by
  show ∀ i, i < 24 → 1 ≤ (nmR i).length ∧ (nmR i).length ≤ 8 ∧ ∀ c ∈ (nmR i).cps.toList, c ∈ LET.cps.toList
  decide +kernel
theorem nmR_inj : ∀ i, i < 24 → ∀ j, j < 24 → nmR i = nmR j → i = j := by decide +kernel
theorem nmR_zz : ∀ i, i < 24 → nmR i ≠ "zz" := by decide +kernel
structure Fit (fs : List Str) (l : List RT) : Prop where
  nd : (nmsL l).Nodup
  n24 : (nmsL l).length ≤ 24
  nm : ∀ x ∈ nmsL l, ∃ i, i < 24 ∧ x = nmR i
  dep : depL 3 l
  all : allL (Drn fs) l
  len : l.length ≤ 24
theorem len_nms : ∀ l : List RT, l.length ≤ (nmsL l).length := by
  refine treeInd (Nat.le_refl _) fun r rs h1 h2 => ?_
  rw [nms_cons]
  simp
  omega
theorem fit_of {fs : List Str} {m : Nat} {l : List RT} (h : Drw fs 3 6 0 m l) : Fit fs l := by
  have hm := h.m24
  have en : nmsL l = (List.range m).map nmR := by
    rw [h.nm, Nat.sub_zero, List.range_eq_range']
  refine ⟨?_, ?_, fun x hx => ?_, h.dep, h.all, Nat.le_trans h.len (by decide)⟩
  · rw [en]
    refine List.pairwise_map.mpr ?_
    refine List.Pairwise.imp_of_mem (fun {i j} hi hj hlt e => ?_) List.pairwise_lt_range
    have := nmR_inj i (by have := List.mem_range.mp hi; omega) j (by have := List.mem_range.mp hj; omega) e
    omega
  · rw [en]
    simpa using hm
  · rw [en] at hx
    obtain ⟨i, hi, rfl⟩ := List.mem_map.mp hx
    exact ⟨i, by have := List.mem_range.mp hi; omega, rfl⟩
theorem names_all {q : Str → Prop} : ∀ (l : List RT), (∀ x ∈ nmsL l, q x) → allL (fun r => q r.n) l := by
  refine treeInd (fun _ => trivial) fun r rs h1 h2 h => ?_
  rw [nms_cons] at h
  simp only [allL]
  exact ⟨allT_iff.mpr ⟨h _ (List.mem_cons_self ..), h1 fun x hx => h x (List.mem_cons_of_mem _ (List.mem_append_left _ hx))⟩, h2 fun x hx => h x (List.mem_cons_of_mem _ (List.mem_append_right _ hx))⟩
theorem allL_and {p q : RT → Prop} : ∀ l : List RT, allL p l → allL q l → allL (fun r => p r ∧ q r) l := by
  refine treeInd (fun _ _ => trivial) fun r rs h1 h2 hp hq => ?_
  simp only [allL] at hp hq ⊢
  exact ⟨allT_iff.mpr ⟨⟨(allT_iff.mp hp.1).1, (allT_iff.mp hq.1).1⟩, h1 (allT_iff.mp hp.1).2 (allT_iff.mp hq.1).2⟩, h2 hp.2 hq.2⟩
section
variable {fs : List Str} {l : List RT}
theorem Fit.both (F : Fit fs l) : allL (fun r => NmOk r.n ∧ Drn fs r) l := allL_and l (names_all l fun x hx => by
  obtain ⟨i, hi, rfl⟩ := F.nm x hx
  exact nmR_nm i hi) F.all
theorem factsOk (hs : fs.Sublist ALLF) (h1 : 1 ≤ fs.length) : FactsOk fs := ⟨fun e => by rw [e] at h1; exact absurd h1 (by decide), fun x hx => allf_nm x (hs.mem hx), pw_asc (allf_pw.sublist hs), by
  have := hs.length_le
  have : fs.length ≤ 12 := this
  omega⟩
theorem ascF (hs : fs.Sublist ALLF) : Asc fs := pw_asc (allf_pw.sublist hs)
theorem Drn.cond (hs : fs.Sublist ALLF) {r : RT} (h : Drn fs r) : CondOk r.w r.b := ⟨fun x hx => allf_nm x (hs.mem (h.w.mem hx)), fun x hx => allf_nm x (hs.mem (h.b.mem hx)), asc_sub (ascF hs) h.w, asc_sub (ascF hs) h.b, Nat.le_trans h.l3 (by decide), h.dj⟩
theorem Fit.cOk (F : Fit fs l) (hs : fs.Sublist ALLF) : allL cOk l := allL_imp (fun r h => ⟨h.1, rul_nm _ h.2.rr, h.2.cond hs, Nat.le_trans h.2.i3 (by decide)⟩) l F.both
theorem Fit.swOk (F : Fit fs l) : allL swOk l := allL_imp (fun r h => ⟨h.1, rul_nm _ h.2.rr, Nat.le_trans h.2.i3 (by decide)⟩) l F.both
theorem Fit.lenOk (F : Fit fs l) : allL lenOk l := allL_imp (fun r h => ⟨by have := h.2.l3; omega, by have := h.2.l3; omega, Nat.le_trans h.2.i3 (by decide)⟩) l F.both
theorem Fit.inOk (F : Fit fs l) : allL (fun r => r.inner.length ≤ 60) l := allL_imp (fun r h => Nat.le_trans h.2.i3 (by decide)) l F.both
theorem Fit.rowsLen (F : Fit fs l) : (rowsMA [] 0 l).length ≤ 24 := by
  have := congrArg List.length (rows_names l [] 0)
  rw [List.length_map] at this
  rw [this]
  exact F.n24
theorem Fit.rowsOk (F : Fit fs l) : RowsOk fs (rowsMA [] 0 l) where
  nd := by rw [rows_names]; exact F.nd
  cond := fun e he x hx => by
    have h := (rows_all l [] 0 F.all e he).1
    rcases List.mem_append.mp hx with z | z
    · exact h.w.mem z
    · exact h.b.mem z
  len := fun e he => by
    have h := (rows_all l [] 0 F.all e he).1.l3
    omega
  dep := fun e he => by
    obtain ⟨s, e1, e2⟩ := rows_path (d := 3) l [] 0 F.dep e he
    rw [e1]
    simp
    omega
  many := Nat.le_trans F.rowsLen (by decide)
  top := fun e he h0 => by
    have := rows_top l [] 0 e he h0
    have := F.len
    omega
theorem Fit.bookOk (F : Fit fs l) (hs : fs.Sublist ALLF) (h1 : 1 ≤ fs.length) : BookOk fs l "none" := ⟨factsOk hs h1, ⟨4, rfl, dep_mono l (by decide) F.dep⟩, F.rowsOk, rul_nm _ (by decide +kernel)⟩
theorem Fit.clOk (F : Fit fs l) (hs : fs.Sublist ALLF) : ClOk fs (rowsMA [] 0 l) := by
  have all : ∀ e ∈ rowsMA [] 0 l, ∀ r ∈ e.1 :: e.2.1, Drn fs r := fun e he r hr => by
    obtain ⟨a, b⟩ := rows_all l [] 0 F.all e he
    rcases List.mem_cons.mp hr with z | z
    · rw [z]; exact a
    · exact (b r z).elim (fun m => nomatch m) id
  exact ⟨ascF hs, fun e he r hr x hx => (all e he r hr).w.mem hx, fun e he r hr => by have := (all e he r hr).l3; omega, fun e he r hr => by have := (all e he r hr).l3; omega, fun e he => by
    obtain ⟨s, e1, e2⟩ := rows_path (d := 3) l [] 0 F.dep e he
    rw [e1]
    simp
    omega, Nat.le_trans F.rowsLen (by decide)⟩
theorem Fit.zz (F : Fit fs l) : ("zz" : Str) ∉ nmsL l := fun h => by
  obtain ⟨i, hi, e⟩ := F.nm _ h
  exact nmR_zz i hi e.symm
end
end Sc
set_option Elab.async false
set_option maxRecDepth 100000
set_option linter.all false
namespace Sc
open PySem PySem.Spec L2
open PyProof.Rows hiding St
/-! ### a swap keeps what a tree is fit for -/
theorem swapAt_cons (x : RT) (l : List RT) (k : Nat) : swapAt (x :: l) (k + 1) = x :: swapAt l k := by
  unfold swapAt
  rw [List.getElem?_cons_succ, List.getElem?_cons_succ]
  cases l[k]? with
  | none => rfl
  | some a =>
    cases l[k + 1]? with
    | none => rfl
    | some b => rfl
theorem swapAt_perm : ∀ (l : List RT) (k : Nat), (swapAt l k).Perm l
  | [], k => by
    unfold swapAt
    simp
  | [x], 0 => by
    unfold swapAt
    exact List.Perm.refl _
  | x :: y :: l, 0 => by
    unfold swapAt
    exact List.Perm.swap x y l
  | x :: l, k + 1 => by
    rw [swapAt_cons]
    exact (swapAt_perm l k).cons x
theorem loopM_perm (nm : Str) (o : List RT) : ∀ (k : Nat) (l : List RT), (loopM nm o k l).Perm l
  | 0, _ => List.Perm.refl _
  | k + 1, l => by
    rw [loopM, stepM]
    split
    · exact (swapAt_perm _ k).trans (loopM_perm nm o k l)
    · exact loopM_perm nm o k l
theorem swapA_perm (nm : Str) (l : List RT) : (swapA nm l).Perm (swapL nm l) := loopM_perm nm l _ _
theorem nms_flat : ∀ l : List RT, nmsL l = l.flatMap nms1
  | [] => by simp [nmsL]
  | r :: rs => by rw [nmsL, nms_flat rs, List.flatMap_cons]
theorem nms_perm {l m : List RT} (h : l.Perm m) : (nmsL l).Perm (nmsL m) := by
  rw [nms_flat, nms_flat]
  exact h.flatMap_right nms1
theorem nms1_eq (r : RT) : nms1 r = r.n :: nmsL r.inner := by
  cases r
  simp only [nms1, RT.n, RT.inner]
theorem swapL_nms (nm : Str) : ∀ l : List RT, (nmsL (swapL nm l)).Perm (nmsL l) := by
  refine treeInd (by simp [swapL]) fun r rs h1 h2 => ?_
  rw [swapL, swap1_eq, nms_cons, nms_cons]
  exact (((nms_perm (swapA_perm nm r.inner)).trans h1).append h2).cons _
theorem swapA_nms (nm : Str) (l : List RT) : (nmsL (swapA nm l)).Perm (nmsL l) := (nms_perm (swapA_perm nm l)).trans (swapL_nms nm l)
theorem allL_perm {p : RT → Prop} {l m : List RT} (h : l.Perm m) (a : allL p m) : allL p l := allL_iff.mpr fun r hr => allL_iff.mp a r (h.mem_iff.mp hr)
theorem swapL_all {p : RT → Prop} (hp : ∀ r i, i.length = r.inner.length → p r → p (.mk r.n r.w r.b r.r i)) (nm : Str) : ∀ l : List RT, allL p l → allL p (swapL nm l) := by
  refine treeInd (fun _ => by simp [swapL, allL]) fun r rs h1 h2 h => ?_
  simp only [allL] at h
  rw [swapL, swap1_eq]
  simp only [allL]
  obtain ⟨a, b⟩ := allT_iff.mp h.1
  exact ⟨allT_iff.mpr ⟨hp r _ (swapA_length nm r.inner) a, allL_perm (swapA_perm nm r.inner) (h1 b)⟩, h2 h.2⟩
theorem depL_iff {d : Nat} : ∀ {l : List RT}, depL d l ↔ ∀ r ∈ l, r.dep d
  | [] => by simp [depL]
  | r :: rs => by
    simp only [depL, List.mem_cons, forall_eq_or_imp]
    rw [depL_iff]
theorem depL_perm {d : Nat} {l m : List RT} (h : l.Perm m) (a : depL d m) : depL d l := depL_iff.mpr fun r hr => depL_iff.mp a r (h.mem_iff.mp hr)
theorem swapL_dep (nm : Str) : ∀ (l : List RT) {d : Nat}, depL d l → depL d (swapL nm l) := by
  refine treeInd (fun _ => by simp [swapL, depL]) fun r rs h1 h2 d h => ?_
  obtain ⟨⟨e, rfl, hi⟩, hr⟩ := dep_cons h
  rw [swapL, swap1_eq]
  exact dep_mk (depL_perm (swapA_perm nm r.inner) (h1 hi)) (h2 hr)
theorem Fit.swap {fs : List Str} {l : List RT} (F : Fit fs l) (nm : Str) : Fit fs (swapA nm l) := by
  have P := swapA_nms nm l
  refine ⟨P.nodup_iff.mpr F.nd, by rw [P.length_eq]; exact F.n24, fun x hx => F.nm x (P.mem_iff.mp hx), depL_perm (swapA_perm nm l) (swapL_dep nm l F.dep), allL_perm (swapA_perm nm l) (swapL_all (fun r i hi h => ⟨h.w, h.b, h.dj, h.l3, h.rr, by show i.length ≤ 3; rw [hi]; exact h.i3⟩) nm l F.all), by rw [swapA_length]; exact F.len⟩
/-! ### where a rule stands -/
inductive Pos' : List RT → RT → Nat → List RT → Prop
  | here {l : List RT} {r : RT} {k : Nat} (h : l[k]? = some r) : Pos' l r k l
  | deep {l : List RT} {q r : RT} {j k : Nat} {s : List RT} (h : l[j]? = some q) (d : Pos' q.inner r k s) : Pos' l r k s
theorem Pos'.at_ {l s : List RT} {r : RT} {k : Nat} (h : Pos' l r k s) : s[k]? = some r := by
  induction h with
  | here h => exact h
  | deep _ _ ih => exact ih
theorem nms_mem_top {l : List RT} {r : RT} {k : Nat} (h : l[k]? = some r) : ∀ x ∈ nms1 r, x ∈ nmsL l := fun x hx => by
  rw [nms_flat]
  exact List.mem_flatMap.mpr ⟨r, List.mem_of_getElem? h, hx⟩
theorem Pos'.name {l s : List RT} {r : RT} {k : Nat} (h : Pos' l r k s) : r.n ∈ nmsL l := by
  induction h with
  | here h => exact nms_mem_top h _ (by rw [nms1_eq]; exact List.mem_cons_self ..)
  | deep h _ ih => exact nms_mem_top h _ (by rw [nms1_eq]; exact List.mem_cons_of_mem _ ih)
/-- blocks of distinct names -/
theorem block_ne {l : List RT} (nd : (nmsL l).Nodup) {i j : Nat} {a b : RT} (hi : l[i]? = some a) (hj : l[j]? = some b) {x : Str} (ha : x ∈ nms1 a) (hb : x ∈ nms1 b) : i = j := by
  rw [nms_flat] at nd
  have pw := (List.pairwise_flatMap.mp nd).2
  obtain ⟨h1, e1⟩ := List.getElem?_eq_some_iff.mp hi
  obtain ⟨h2, e2⟩ := List.getElem?_eq_some_iff.mp hj
  rcases Nat.lt_trichotomy i j with z | z | z
  · exact absurd rfl (List.pairwise_iff_getElem.mp pw i j h1 h2 z x (e1 ▸ ha) x (e2 ▸ hb))
  · exact z
  · exact absurd rfl (List.pairwise_iff_getElem.mp pw j i h2 h1 z x (e2 ▸ hb) x (e1 ▸ ha))
theorem block_nd {l : List RT} (nd : (nmsL l).Nodup) {i : Nat} {a : RT} (hi : l[i]? = some a) : (nms1 a).Nodup := by
  rw [nms_flat] at nd
  exact (List.pairwise_flatMap.mp nd).1 a (List.mem_of_getElem? hi)
theorem inner_nd {l : List RT} (nd : (nmsL l).Nodup) {i : Nat} {a : RT} (hi : l[i]? = some a) : (nmsL a.inner).Nodup ∧ a.n ∉ nmsL a.inner := by
  have := block_nd nd hi
  rw [nms1_eq] at this
  exact ⟨(List.nodup_cons.mp this).2, (List.nodup_cons.mp this).1⟩
theorem pos_uniq : ∀ {l s : List RT} {r : RT} {k : Nat}, Pos' l r k s → ∀ {r' : RT} {k' : Nat} {s' : List RT}, (nmsL l).Nodup → Pos' l r' k' s' → r.n = r'.n → k = k' ∧ s = s' := by
  intro l s r k h
  induction h with
  | @here l r k h =>
    intro r' k' s' nd h' e
    cases h' with
    | here h2 => exact ⟨block_ne nd h h2 (x := r.n) (by rw [nms1_eq]; exact List.mem_cons_self ..) (by rw [nms1_eq, e]; exact List.mem_cons_self ..), rfl⟩
    | @deep _ q _ j _ _ h2 d =>
      exfalso
      have hx : r'.n ∈ nms1 q := by rw [nms1_eq]; exact List.mem_cons_of_mem _ d.name
      have ij := block_ne nd h h2 (x := r.n) (by rw [nms1_eq]; exact List.mem_cons_self ..) (e ▸ hx)
      subst ij
      rw [h] at h2
      cases h2
      exact (inner_nd nd h).2 (e ▸ d.name)
  | @deep l q r j k s h d ih =>
    intro r' k' s' nd h' e
    cases h' with
    | here h2 =>
      exfalso
      have hx : r.n ∈ nms1 q := by rw [nms1_eq]; exact List.mem_cons_of_mem _ d.name
      have ij := block_ne nd h2 h (x := r'.n) (by rw [nms1_eq]; exact List.mem_cons_self ..) (e ▸ hx)
      subst ij
      rw [h] at h2
      cases h2
      exact (inner_nd nd h).2 (e ▸ d.name)
    | @deep _ q' _ j' _ _ h2 d' =>
      have ij := block_ne nd h h2 (x := r.n) (by rw [nms1_eq]; exact List.mem_cons_of_mem _ d.name) (by rw [nms1_eq, e]; exact List.mem_cons_of_mem _ d'.name)
      subst ij
      rw [h] at h2
      cases h2
      exact ih (inner_nd nd h).1 d' e
/-- done: it stands somewhere, and another behind it -/
theorem hasIt_iff (nm : Str) (l : List RT) : hasIt nm l = true ↔ ∃ (r : RT) (k : Nat), l[k]? = some r ∧ r.n = nm ∧ k + 1 < l.length := by
  unfold hasIt
  rw [List.any_eq_true]
  constructor
  · rintro ⟨k, hk, h⟩
    have hk2 := List.mem_range.mp hk
    obtain ⟨r, er, en⟩ := Option.map_eq_some_iff.mp (of_decide_eq_true h)
    exact ⟨r, k, er, en, by omega⟩
  · rintro ⟨r, k, er, en, hl⟩
    exact ⟨k, List.mem_range.mpr (by omega), decide_eq_true (by rw [er, ← en]; rfl)⟩
theorem dnL_iff (nm : Str) : ∀ l : List RT, dnL nm l = true ↔ ∃ (q : RT) (j : Nat), l[j]? = some q ∧ dn1 nm q = true
  | [] => by simp [dnL]
  | x :: l => by
    rw [dnL, Bool.or_eq_true, dnL_iff nm l]
    constructor
    · rintro (h | ⟨q, j, e, h⟩)
      · exact ⟨x, 0, rfl, h⟩
      · exact ⟨q, j + 1, by simpa using e, h⟩
    · rintro ⟨q, j, e, h⟩
      cases j with
      | zero =>
        cases e
        exact .inl h
      | succ j => exact .inr ⟨q, j, by simpa using e, h⟩
theorem dnA_iff (nm : Str) : ∀ l : List RT, dnA nm l = true ↔ ∃ r k s, Pos' l r k s ∧ r.n = nm ∧ k + 1 < s.length := by
  have main : ∀ l : List RT, (∀ (q : RT) (j : Nat), l[j]? = some q → (dnA nm q.inner = true ↔ ∃ r k s, Pos' q.inner r k s ∧ r.n = nm ∧ k + 1 < s.length)) → (dnA nm l = true ↔ ∃ r k s, Pos' l r k s ∧ r.n = nm ∧ k + 1 < s.length) := by
    intro l ih
    unfold dnA
    rw [Bool.or_eq_true, dnL_iff, hasIt_iff]
    constructor
    · rintro (⟨q, j, e, h⟩ | ⟨r, k, e, h1, h2⟩)
      · rw [dn1_eq] at h
        obtain ⟨r, k, s, p, h1, h2⟩ := (ih q j e).mp h
        exact ⟨r, k, s, .deep e p, h1, h2⟩
      · exact ⟨r, k, l, .here e, h1, h2⟩
    · rintro ⟨r, k, s, p, h1, h2⟩
      cases p with
      | here e => exact .inr ⟨r, k, e, h1, h2⟩
      | @deep _ q _ j _ _ e d => exact .inl ⟨q, j, e, by rw [dn1_eq]; exact (ih q j e).mpr ⟨r, k, s, d, h1, h2⟩⟩
  have all : ∀ l : List RT, ∀ (q : RT) (j : Nat), l[j]? = some q → (dnA nm q.inner = true ↔ ∃ r k s, Pos' q.inner r k s ∧ r.n = nm ∧ k + 1 < s.length) := by
    refine treeInd (fun q j e => by simp at e) fun r rs h1 h2 q j e => ?_
    cases j with
    | zero =>
      cases e
      exact main _ h1
    | succ j => exact h2 q j (by simpa using e)
  exact fun l => main l (all l)
/-- a row of the book, as a place -/
theorem rows_pos : ∀ (l o : List RT) (k : Nat) (L : List RT), L.drop k = l → ∀ e ∈ rowsMA o k l, (e.2.1 = o ∧ L[e.2.2]? = some e.1) ∨ ∃ (q : RT) (j : Nat), L[j]? = some q ∧ (∃ s, e.2.1 = o ++ q :: s ∧ ∃ S, Pos' q.inner e.1 e.2.2 S ∧ S = (match s.getLast? with | some z => z.inner | none => q.inner)) := by
  refine treeInd (fun o k L _ e h => by simp [rowsMA] at h) fun r rs h1 h2 o k L hL e he => ?_
  have hr : L[k]? = some r := by
    have := congrArg (fun l : List RT => l[0]?) hL
    simpa using this
  have hd : L.drop (k + 1) = rs := by
    have := congrArg (fun l : List RT => l.drop 1) hL
    simpa [List.drop_drop] using this
  rw [rows_eq] at he
  rcases List.mem_cons.mp he with z | he
  · subst z
    exact .inl ⟨rfl, hr⟩
  · rcases List.mem_append.mp he with z | z
    · refine .inr ⟨r, k, hr, ?_⟩
      rcases h1 (o ++ [r]) 0 r.inner rfl e z with ⟨e1, e2⟩ | ⟨q, j, eq, s, e1, S, p, eS⟩
      · exact ⟨[], by rw [e1], r.inner, .here e2, rfl⟩
      · refine ⟨q :: s, by rw [e1]; simp, S, .deep eq p, ?_⟩
        rw [eS]
        cases hs : s.getLast? with
        | none =>
          have : s = [] := List.getLast?_eq_none_iff.mp hs
          subst this
          rfl
        | some z =>
          rw [List.getLast?_cons, hs]
          rfl
    · exact h2 o (k + 1) L hd e z
theorem rows_place {l : List RT} {e : Row3} (he : e ∈ rowsMA [] 0 l) : Pos' l e.1 e.2.2 (sibs l e) := by
  unfold sibs
  rcases rows_pos l [] 0 l rfl e he with ⟨e1, e2⟩ | ⟨q, j, eq, s, e1, S, p, eS⟩
  · rw [e1]
    exact .here e2
  · rw [e1]
    have : (([] : List RT) ++ q :: s).getLast? = some (s.getLast?.getD q) := by
      rw [List.nil_append, List.getLast?_cons]
    rw [this]
    cases hs : s.getLast? with
    | none =>
      rw [hs] at eS
      subst eS
      exact .deep eq p
    | some z =>
      rw [hs] at eS
      subst eS
      exact .deep eq p
theorem done_iff {l : List RT} (nd : (nmsL l).Nodup) {e : Row3} (he : e ∈ rowsMA [] 0 l) : dnA e.1.n l = true ↔ e.2.2 + 1 ≠ (sibs l e).length := by
  have p := rows_place he
  have hlt := (List.getElem?_eq_some_iff.mp p.at_).1
  rw [dnA_iff]
  constructor
  · rintro ⟨r, k, s, p', en, h⟩
    obtain ⟨rfl, rfl⟩ := pos_uniq p nd p' en.symm
    omega
  · intro h
    exact ⟨e.1, e.2.2, sibs l e, p, rfl, by omega⟩
end Sc
set_option Elab.async false
set_option maxRecDepth 100000
set_option linter.all false
namespace Sc
open PySem PySem.Spec L2
open PyProof.Rows hiding St
/-! ### the first case that meets all -/
theorem caseM_cons (x : Str) (l : List Str) (N : Nat) : caseM (x :: l) N = (if N % 2 = 1 then [x] else []) ++ caseM l (N / 2) := by
  unfold caseM
  rw [List.length_cons, List.range_succ_eq_map, List.filter_cons, List.filter_map]
  have e : ((fun k => decide (N / 2 ^ k % 2 = 1)) ∘ Nat.succ) = fun k => decide (N / 2 / 2 ^ k % 2 = 1) := by
    funext k
    show decide (N / 2 ^ (k + 1) % 2 = 1) = _
    rw [Nat.pow_succ', Nat.div_div_eq_div_mul]
  rw [e]
  have f : ∀ m : List Nat, (m.map Nat.succ).filterMap (fun k => (x :: l)[k]?) = m.filterMap (fun k => l[k]?) := fun m => by
    rw [List.filterMap_map]
    rfl
  by_cases h : N % 2 = 1
  · rw [if_pos (by simpa using h), if_pos h]
    rw [List.filterMap_cons]
    show x :: _ = [x] ++ _
    rw [f]
    rfl
  · rw [if_neg (by simpa using h), if_neg h, f]
    rfl
theorem caseM_nil (N : Nat) : caseM [] N = [] := rfl
theorem caseM_sub : ∀ (l : List Str) (N : Nat), ∀ x ∈ caseM l N, x ∈ l
  | [], N, x, h => by rw [caseM_nil] at h; exact h
  | y :: l, N, x, h => by
    rw [caseM_cons] at h
    rcases List.mem_append.mp h with z | z
    · split at z
      · rw [List.mem_singleton.mp z]
        exact List.mem_cons_self ..
      · cases z
    · exact List.mem_cons_of_mem _ (caseM_sub l _ x z)
/-- the number of the case of those that p picks -/
def numP (p : Str → Bool) : List Str → Nat
  | [] => 0
  | x :: l => (if p x then 1 else 0) + 2 * numP p l
theorem numP_case (p : Str → Bool) : ∀ l : List Str, caseM l (numP p l) = l.filter p
  | [] => rfl
  | x :: l => by
    rw [caseM_cons, numP, List.filter_cons]
    by_cases h : p x = true
    · rw [if_pos h, if_pos (show (1 + 2 * numP p l) % 2 = 1 by omega), show (1 + 2 * numP p l) / 2 = numP p l by omega, numP_case p l, if_pos h]
      rfl
    · rw [if_neg h, if_neg (show ¬ (0 + 2 * numP p l) % 2 = 1 by omega), show (0 + 2 * numP p l) / 2 = numP p l by omega, numP_case p l, if_neg h]
      rfl
theorem numP_lt (p : Str → Bool) : ∀ l : List Str, numP p l < 2 ^ l.length
  | [] => by simp [numP]
  | x :: l => by
    have := numP_lt p l
    rw [numP, List.length_cons, Nat.pow_succ]
    split <;> omega
theorem numP_min (p : Str → Bool) : ∀ (l : List Str) (N : Nat), l.Nodup → (∀ x ∈ l, p x = true → x ∈ caseM l N) → numP p l ≤ N
  | [], N, _, _ => Nat.zero_le _
  | x :: l, N, nd, h => by
    have nd' := List.nodup_cons.mp nd
    have ih := numP_min p l (N / 2) nd'.2 fun y hy hp => by
      have m := h y (List.mem_cons_of_mem _ hy) hp
      rw [caseM_cons] at m
      rcases List.mem_append.mp m with z | z
      · split at z
        · rw [List.mem_singleton.mp z] at hy
          exact absurd hy nd'.1
        · cases z
      · exact z
    rw [numP]
    by_cases hp : p x = true
    · rw [if_pos hp]
      have m := h x (List.mem_cons_self ..) hp
      rw [caseM_cons] at m
      rcases List.mem_append.mp m with z | z
      · split at z
        · omega
        · cases z
      · exact absurd (caseM_sub l _ x z) nd'.1
    · rw [if_neg hp]
      omega
theorem range_first {α : Type} (f : Nat → α) (q : α → Bool) {M n : Nat} (h : n < M) (hq : q (f n) = true) (hno : ∀ k, k < n → q (f k) = false) : (((List.range M).map f).filter q).take 1 = [f n] := by
  obtain ⟨j, rfl⟩ : ∃ j, M = n + (1 + j) := ⟨M - n - 1, by omega⟩
  rw [List.range_add, List.map_append, List.filter_append]
  have e1 : ((List.range n).map f).filter q = [] := List.filter_eq_nil_iff.mpr fun a ha => by
    obtain ⟨k, hk, rfl⟩ := List.mem_map.mp ha
    rw [hno k (List.mem_range.mp hk)]
    exact Bool.false_ne_true
  rw [e1, List.nil_append, show 1 + j = j + 1 by omega, List.range_succ_eq_map, List.map_cons, List.map_cons, Nat.add_zero, List.filter_cons, if_pos hq]
  rfl
theorem meets_iff (X : List RT) (c : List Str) : X.all (meetM · c) = true ↔ (∀ x ∈ X.flatMap RT.w, x ∈ c) ∧ ∀ x ∈ X.flatMap RT.b, x ∉ c := by
  rw [List.all_eq_true]
  constructor
  · intro h
    refine ⟨fun x hx => ?_, fun x hx => ?_⟩
    · obtain ⟨r, hr, hw⟩ := List.mem_flatMap.mp hx
      have := h r hr
      unfold meetM at this
      rw [Bool.and_eq_true, List.all_eq_true, List.all_eq_true] at this
      exact of_decide_eq_true (this.1 x hw)
    · obtain ⟨r, hr, hb⟩ := List.mem_flatMap.mp hx
      have := h r hr
      unfold meetM at this
      rw [Bool.and_eq_true, List.all_eq_true, List.all_eq_true] at this
      have := this.2 x hb
      rw [Bool.not_eq_true', decide_eq_false_iff_not] at this
      exact this
  · rintro ⟨h1, h2⟩ r hr
    unfold meetM
    rw [Bool.and_eq_true, List.all_eq_true, List.all_eq_true]
    exact ⟨fun x hx => decide_eq_true (h1 x (List.mem_flatMap.mpr ⟨r, hr, hx⟩)), fun x hx => by
      rw [Bool.not_eq_true', decide_eq_false_iff_not]
      exact h2 x (List.mem_flatMap.mpr ⟨r, hr, hx⟩)⟩
theorem first_case {fs : List Str} (nd : fs.Nodup) {X : List RT} (hw : ∀ r ∈ X, ∀ x ∈ r.w, x ∈ fs) : (metsM (everyM fs) X).take 1 = metM fs X := by
  unfold metsM metM everyM
  by_cases hc : (X.flatMap RT.w).any (fun x => decide (x ∈ X.flatMap RT.b)) = true
  · rw [if_pos hc]
    obtain ⟨x, h1, h2⟩ := List.any_eq_true.mp hc
    have : (((List.range (2 ^ fs.length)).map (caseM fs)).filter fun c => X.all (meetM · c)) = [] := List.filter_eq_nil_iff.mpr fun c _ h => by
      obtain ⟨a, b⟩ := (meets_iff X c).mp h
      exact b x (of_decide_eq_true h2) (a x h1)
    rw [this]
    rfl
  · rw [if_neg hc]
    have hno : ∀ x ∈ X.flatMap RT.w, x ∉ X.flatMap RT.b := fun x h1 h2 => hc (List.any_eq_true.mpr ⟨x, h1, decide_eq_true h2⟩)
    have hW : ∀ x ∈ X.flatMap RT.w, x ∈ fs := fun x h => by
      obtain ⟨r, hr, hx⟩ := List.mem_flatMap.mp h
      exact hw r hr x hx
    have key := range_first (caseM fs) (fun c => X.all (meetM · c)) (n := numP (fun x => decide (x ∈ X.flatMap RT.w)) fs) (numP_lt _ fs) ?_ ?_
    · rw [key, numP_case]
    · rw [numP_case]
      refine (meets_iff X _).mpr ⟨fun x h => List.mem_filter.mpr ⟨hW x h, decide_eq_true h⟩, fun x h h2 => ?_⟩
      exact hno x (of_decide_eq_true (List.mem_filter.mp h2).2) h
    · intro k hk
      rw [Bool.eq_false_iff]
      intro h
      obtain ⟨a, _⟩ := (meets_iff X _).mp h
      have := numP_min (fun x => decide (x ∈ X.flatMap RT.w)) fs k nd fun x _ hp => a x (of_decide_eq_true hp)
      omega
end Sc
set_option Elab.async false
set_option maxRecDepth 100000
set_option linter.all false
namespace Sc
open PySem PySem.Spec L2
open PyProof.Rows hiding St
/-! ### the law's pairs are the clashes -/
abbrev nmP (l : List RT) : List Str := l.map RT.n
theorem path_below : ∀ (l o : List RT) (k : Nat), ∀ e ∈ rowsMA o k l, ∃ s, e.2.1 = o ++ s ∧ (s = [] ∨ ∃ r ∈ l, ∃ s', s = r :: s') := by
  refine treeInd (fun o k e h => by simp [rowsMA] at h) fun r rs h1 h2 o k e he => ?_
  rw [rows_eq] at he
  rcases List.mem_cons.mp he with z | he
  · subst z
    exact ⟨[], by simp, .inl rfl⟩
  · rcases List.mem_append.mp he with z | z
    · obtain ⟨s, e1, _⟩ := h1 _ _ e z
      exact ⟨r :: s, by rw [e1]; simp, .inr ⟨r, List.mem_cons_self .., s, rfl⟩⟩
    · obtain ⟨s, e1, e2⟩ := h2 _ _ e z
      exact ⟨s, e1, e2.imp id fun ⟨q, hq, s', es⟩ => ⟨q, List.mem_cons_of_mem _ hq, s', es⟩⟩
theorem rows_append (o : List RT) : ∀ (a b : List RT) (k : Nat), rowsMA o k (a ++ b) = rowsMA o k a ++ rowsMA o (k + a.length) b
  | [], b, k => by simp [rowsMA]
  | x :: a, b, k => by
    rw [List.cons_append, rows_eq, rows_eq, rows_append o a b (k + 1), List.length_cons, show k + 1 + a.length = k + (a.length + 1) by omega]
    simp
structure Node (rows : List Row3) (outer L : List RT) : Prop where
  nd : (nmsL L).Nodup
  c : ∃ X Y, rows = X ++ (rowsMA outer 0 L ++ Y) ∧ ∀ f ∈ X ++ Y, ¬ (nmP outer <+: nmP f.2.1)
theorem pre_len {a b : List Str} (h : a <+: b) : a.length ≤ b.length := h.length_le
theorem Node.child {rows : List Row3} {outer L : List RT} (N : Node rows outer L) {k : Nat} {r : RT} (e : L[k]? = some r) : Node rows (outer ++ [r]) r.inner := by
  obtain ⟨X, Y, ec, hxy⟩ := N.c
  refine ⟨(inner_nd N.nd e).1, ?_⟩
  obtain ⟨hk, er⟩ := List.getElem?_eq_some_iff.mp e
  have eL : L = L.take k ++ r :: L.drop (k + 1) := by
    rw [← er, ← List.drop_eq_getElem_cons hk, List.take_append_drop]
  have htk : (L.take k).length = k := by rw [List.length_take]; omega
  have e1 : rowsMA outer 0 L = rowsMA outer 0 (L.take k) ++ ((r, outer, k) :: (rowsMA (outer ++ [r]) 0 r.inner ++ rowsMA outer (k + 1) (L.drop (k + 1)))) := by
    conv => lhs; rw [eL]
    rw [rows_append, rows_eq, htk, Nat.zero_add]
  have ne : ∀ {l : List RT} {m : Nat} {f : Row3}, (∀ q ∈ l, q.n ≠ r.n) → f ∈ rowsMA outer m l → ¬ (nmP (outer ++ [r]) <+: nmP f.2.1) := fun {l m f} hq hf hp => by
    obtain ⟨s, e2, hs⟩ := path_below l outer m f hf
    rw [e2] at hp
    rcases hs with rfl | ⟨q, hm, s', rfl⟩
    · have := pre_len hp
      simp at this
      omega
    · have h2 : nmP outer ++ [r.n] <+: nmP outer ++ (q.n :: nmP s') := by
        simpa using hp
      have h3 := (List.prefix_append_right_inj (nmP outer)).mp h2
      have h4 : r.n = q.n := (List.cons_prefix_cons.mp h3).1
      exact hq q hm h4.symm
  refine ⟨X ++ (rowsMA outer 0 (L.take k) ++ [(r, outer, k)]), rowsMA outer (k + 1) (L.drop (k + 1)) ++ Y, by rw [ec, e1]; simp, fun f hf hp => ?_⟩
  have up : nmP outer <+: nmP f.2.1 := by
    refine List.IsPrefix.trans ?_ hp
    exact ⟨[r.n], by simp⟩
  have other : ∀ {j : Nat} {q : RT}, L[j]? = some q → j ≠ k → q.n ≠ r.n := fun {j q} ej hne en => hne (block_ne N.nd ej e (x := r.n) (by rw [nms1_eq, en]; exact List.mem_cons_self ..) (by rw [nms1_eq]; exact List.mem_cons_self ..))
  rcases List.mem_append.mp hf with h | h
  · rcases List.mem_append.mp h with h | h
    · exact hxy f (List.mem_append_left _ h) up
    · rcases List.mem_append.mp h with h | h
      · refine ne (fun q hq => ?_) h hp
        obtain ⟨j, hj⟩ := List.mem_iff_getElem?.mp hq
        have hj2 := (List.getElem?_eq_some_iff.mp hj).1
        rw [List.getElem?_take_of_lt (by omega)] at hj
        exact other hj (by omega)
      · rw [List.mem_singleton.mp h] at hp
        have := pre_len hp
        simp at this
        omega
  · rcases List.mem_append.mp h with h | h
    · refine ne (fun q hq => ?_) h hp
      obtain ⟨j, hj⟩ := List.mem_iff_getElem?.mp hq
      rw [List.getElem?_drop] at hj
      exact other hj (by omega)
    · exact hxy f (List.mem_append_right _ h) up
theorem Node.root {R : List RT} (nd : (nmsL R).Nodup) : Node (rowsMA [] 0 R) [] R := ⟨nd, [], [], by simp, fun f hf => by simp at hf⟩
def ent (o : List RT) : Nat → List RT → List Row3
  | _, [] => []
  | k, r :: rs => (r, o, k) :: ent o (k + 1) rs
theorem ent_append (o : List RT) : ∀ (a b : List RT) (k : Nat), ent o k (a ++ b) = ent o k a ++ ent o (k + a.length) b
  | [], b, k => by simp [ent]
  | x :: a, b, k => by
    simp only [List.cons_append, ent, ent_append o a b (k + 1), List.length_cons]
    rw [show k + 1 + a.length = k + (a.length + 1) by omega]
theorem ent_rows (o : List RT) : ∀ (l : List RT) (k : Nat), (rowsMA o k l).filter (fun f => decide (nmP f.2.1 = nmP o)) = ent o k l
  | [], k => by simp [rowsMA, ent]
  | r :: rs, k => by
    rw [rows_eq, List.filter_cons, if_pos (by simp), List.filter_append, ent_rows o rs (k + 1)]
    have : (rowsMA (o ++ [r]) 0 r.inner).filter (fun f => decide (nmP f.2.1 = nmP o)) = [] := List.filter_eq_nil_iff.mpr fun f hf h => by
      obtain ⟨s, e1, _⟩ := path_below _ _ _ f hf
      have := congrArg List.length (of_decide_eq_true h)
      rw [e1] at this
      simp at this
    rw [this]
    rfl
theorem Node.filt {rows : List Row3} {outer L : List RT} (N : Node rows outer L) : rows.filter (fun f => decide (nmP f.2.1 = nmP outer)) = ent outer 0 L := by
  obtain ⟨X, Y, ec, hxy⟩ := N.c
  have none : ∀ {l : List Row3}, (∀ f ∈ l, f ∈ X ++ Y) → l.filter (fun f => decide (nmP f.2.1 = nmP outer)) = [] := fun {l} h => List.filter_eq_nil_iff.mpr fun f hf e => hxy f (h f hf) (by
    rw [of_decide_eq_true e]
    exact List.prefix_refl _)
  rw [ec, List.filter_append, List.filter_append, ent_rows, none (fun f h => List.mem_append_left _ h), none (fun f h => List.mem_append_right _ h)]
  simp
theorem flatMap_filter {α β : Type} (f : α → List β) (p : α → Bool) : ∀ l : List α, (∀ x ∈ l, p x = false → f x = []) → l.flatMap f = (l.filter p).flatMap f
  | [], _ => rfl
  | x :: l, h => by
    have ih := flatMap_filter f p l fun y hy => h y (List.mem_cons_of_mem _ hy)
    rw [List.filter_cons, List.flatMap_cons, ih]
    cases hp : p x with
    | true => rfl
    | false => rw [h x (List.mem_cons_self ..) hp]; rfl
section
variable {fs : List Str}
def Wsub (fs : List Str) (r : RT) : Prop := ∀ x ∈ r.w, x ∈ fs
theorem ent_pairs (fnd : fs.Nodup) {outer : List RT} {r : RT} {k : Nat} (ho : ∀ q ∈ outer, Wsub fs q) (hr : Wsub fs r) : ∀ (l : List RT) (m : Nat), k < m → (∀ q ∈ l, Wsub fs q) → (ent outer m l).flatMap (oneM fs (r, outer, k)) = l.flatMap (pairF (everyM fs) outer r)
  | [], _, _, _ => rfl
  | q :: l, m, hm, hl => by
    rw [ent, List.flatMap_cons, List.flatMap_cons, ent_pairs fnd ho hr l (m + 1) (Nat.lt_succ_of_lt hm) fun y hy => hl y (List.mem_cons_of_mem _ hy)]
    congr 1
    unfold oneM hitM pairF
    show (if (decide (nmP outer = nmP outer) && (decide (k < m) && !decide (r.r = q.r))) = true then _ else _) = _
    rw [decide_eq_true (rfl : nmP outer = nmP outer), decide_eq_true hm]
    by_cases h : r.r = q.r
    · rw [decide_eq_true h, if_pos h]
      rfl
    · rw [decide_eq_false h, if_neg h]
      show ((metM fs (outer ++ [r, q])).map fun c => (r.n, q.n, c)) = _
      rw [← first_case fnd fun y hy => ?_]
      rcases List.mem_append.mp hy with z | z
      · exact ho y z
      · rcases List.mem_cons.mp z with z | z
        · rw [z]; exact hr
        · rw [List.mem_singleton.mp z]; exact hl q (List.mem_cons_self ..)
theorem ent_low {outer : List RT} {r : RT} {k : Nat} : ∀ (l : List RT) (m : Nat), m + l.length ≤ k + 1 → (ent outer m l).flatMap (oneM fs (r, outer, k)) = []
  | [], _, _ => rfl
  | q :: l, m, h => by
    rw [List.length_cons] at h
    rw [ent, List.flatMap_cons, ent_low l (m + 1) (by omega), List.append_nil]
    unfold oneM hitM
    show (if (decide (nmP outer = nmP outer) && (decide (k < m) && !decide (r.r = q.r))) = true then _ else _) = _
    rw [decide_eq_false (show ¬ k < m by omega), Bool.false_and, Bool.and_false]
    rfl
theorem row_pairs (fnd : fs.Nodup) {rows : List Row3} {outer L : List RT} (N : Node rows outer L) {r : RT} {k : Nat} (e : L[k]? = some r) (ho : ∀ q ∈ outer, Wsub fs q) (hL : ∀ q ∈ L, Wsub fs q) : rows.flatMap (oneM fs (r, outer, k)) = (L.drop (k + 1)).flatMap (pairF (everyM fs) outer r) := by
  have hk := (List.getElem?_eq_some_iff.mp e).1
  rw [flatMap_filter _ (fun f => decide (nmP f.2.1 = nmP outer)) rows fun f _ h => ?_, N.filt]
  · conv => lhs; rw [← List.take_append_drop (k + 1) L]
    have htk : (L.take (k + 1)).length = k + 1 := by rw [List.length_take]; omega
    rw [ent_append, List.flatMap_append, ent_low _ 0 (by omega), htk, ent_pairs fnd ho (hL r (List.mem_of_getElem? e)) _ _ (by omega) fun q hq => hL q (List.mem_of_mem_drop hq)]
    rfl
  · unfold oneM hitM
    show (if (decide (nmP outer = nmP f.2.1) && _) = true then _ else _) = _
    rw [decide_eq_false (fun z => (of_decide_eq_false h) z.symm), Bool.false_and]
    rfl
theorem pairs_main (fnd : fs.Nodup) {rows : List Row3} : ∀ (l outer L : List RT) (k : Nat), Node rows outer L → L.drop k = l → (∀ q ∈ outer, Wsub fs q) → (∀ q ∈ L, Wsub fs q) → allL (Wsub fs) l →
    (rowsMA outer k l).flatMap (fun e => rows.flatMap (oneM fs e)) = prsL (everyM fs) outer l := by
  refine treeInd (fun outer L k _ _ _ _ _ => by simp [rowsMA, prsL]) fun r rs h1 h2 outer L k N hd ho hL hall => ?_
  have er : L[k]? = some r := by
    have := congrArg (fun l : List RT => l[0]?) hd
    simpa using this
  have hd2 : L.drop (k + 1) = rs := by
    have := congrArg (fun l : List RT => l.drop 1) hd
    simpa [List.drop_drop] using this
  simp only [allL] at hall
  obtain ⟨hwr, hwi⟩ := allT_iff.mp hall.1
  rw [rows_eq, List.flatMap_cons, List.flatMap_append, prsL, prs1_eq, row_pairs fnd N er ho hL, hd2]
  rw [h1 (outer ++ [r]) r.inner 0 (N.child er) rfl (fun q hq => ?_) (fun q hq => ?_) hwi, h2 outer L (k + 1) N hd2 ho hL hall.2]
  · rcases List.mem_append.mp hq with z | z
    · exact ho q z
    · rw [List.mem_singleton.mp z]
      exact hwr
  · exact (allT_iff.mp (allL_iff.mp hwi q hq)).1
theorem pairs_clash {l : List RT} (F : Fit fs l) (hs : fs.Sublist ALLF) : prsL (everyM fs) [] l = clashM fs (rowsMA [] 0 l) := by
  have hall : allL (Wsub fs) l := allL_imp (fun r h => (fun x hx => h.w.mem hx : Wsub fs r)) l F.all
  exact (pairs_main (asc_nodup (ascF hs)) l [] l 0 (Node.root F.nd) rfl (fun _ h => nomatch h) (fun q hq => (allT_iff.mp (allL_iff.mp hall q hq)).1) hall).symm
theorem clash_len {l : List RT} (F : Fit fs l) : (clashM fs (rowsMA [] 0 l)).length ≤ 1000 := by
  have h1 : ∀ e, ((rowsMA [] 0 l).flatMap (oneM fs e)).length ≤ (rowsMA [] 0 l).length * 1 := fun e => fm_len (f := oneM fs e) (fun f => oneM_len fs e f) _
  have h2 := fm_len (f := fun e => (rowsMA [] 0 l).flatMap (oneM fs e)) h1 (rowsMA [] 0 l)
  have h3 := F.rowsLen
  have h4 : (rowsMA [] 0 l).length * ((rowsMA [] 0 l).length * 1) ≤ 24 * 24 := Nat.mul_le_mul h3 (by omega)
  have : (clashM fs (rowsMA [] 0 l)).length ≤ 24 * 24 := Nat.le_trans h2 h4
  omega
/-! ### in the order of the names -/
def posN : List Str → Str → Nat
  | [], _ => 0
  | a :: l, x => if a = x then 0 else posN l x + 1
theorem posN_at : ∀ {l : List Str} {x : Str}, x ∈ l → l[posN l x]? = some x ∧ ∀ m, m < posN l x → ∃ y, l[m]? = some y ∧ y ≠ x
  | [], _, h => nomatch h
  | a :: l, x, h => by
    unfold posN
    by_cases e : a = x
    · rw [if_pos e]
      exact ⟨by rw [e]; rfl, fun m hm => absurd hm (Nat.not_lt_zero _)⟩
    · rw [if_neg e]
      have hx : x ∈ l := (List.mem_cons.mp h).resolve_left fun z => e z.symm
      obtain ⟨h1, h2⟩ := posN_at hx
      refine ⟨by rw [List.getElem?_cons_succ]; exact h1, fun m hm => ?_⟩
      cases m with
      | zero => exact ⟨a, rfl, e⟩
      | succ m =>
        obtain ⟨y, e1, e2⟩ := h2 m (by omega)
        exact ⟨y, by rw [List.getElem?_cons_succ]; exact e1, e2⟩
theorem posN_get : ∀ {l : List Str} {i : Nat} {x : Str}, l.Nodup → l[i]? = some x → posN l x = i
  | [], _, _, _, h => by simp at h
  | a :: l, 0, x, _, h => by
    cases h
    simp [posN]
  | a :: l, i + 1, x, nd, h => by
    have hl : l[i]? = some x := by simpa using h
    have hne : a ≠ x := fun z => (List.nodup_cons.mp nd).1 (z ▸ List.mem_of_getElem? hl)
    rw [posN, if_neg hne, posN_get (List.nodup_cons.mp nd).2 hl]
theorem posN_pw {l : List Str} (nd : l.Nodup) : l.Pairwise fun a b => posN l a < posN l b := by
  rw [List.pairwise_iff_getElem]
  intro i j hi hj hij
  rw [posN_get nd (List.getElem?_eq_getElem hi), posN_get nd (List.getElem?_eq_getElem hj)]
  exact hij
def keyT (names : List Str) (t : Tri) : Int × Int := ((posN names t.1 : Nat), (posN names t.2.1 : Nat))
theorem one_names {e f : Row3} {t : Tri} (h : t ∈ oneM fs e f) : t.1 = e.1.n ∧ t.2.1 = f.1.n := by
  unfold oneM at h
  split at h
  · obtain ⟨c, _, rfl⟩ := List.mem_map.mp h
    exact ⟨rfl, rfl⟩
  · cases h
theorem clash_pw {rows : List Row3} (nd : (rows.map (·.1.n)).Nodup) : (clashM fs rows).Pairwise fun a b => SrtO.lexB (keyT (rows.map (·.1.n)) a) (keyT (rows.map (·.1.n)) b) = true := by
  have pw : rows.Pairwise fun e f => posN (rows.map (·.1.n)) e.1.n < posN (rows.map (·.1.n)) f.1.n := (List.pairwise_map (R := fun a b => posN (rows.map (·.1.n)) a < posN (rows.map (·.1.n)) b)).mp (posN_pw nd)
  unfold clashM
  refine List.pairwise_flatMap.mpr ⟨fun e _ => List.pairwise_flatMap.mpr ⟨fun f _ => ?_, ?_⟩, ?_⟩
  · have h := oneM_len fs e f
    match hl : oneM fs e f, h with
    | [], _ => exact List.Pairwise.nil
    | [t], _ => exact List.pairwise_singleton _ _
    | _ :: _ :: _, h => simp at h
  · refine pw.imp fun {f g} hfg x hx y hy => SrtO.lexB_iff.mpr (.inr ?_)
    obtain ⟨a1, a2⟩ := one_names hx
    obtain ⟨b1, b2⟩ := one_names hy
    refine ⟨?_, ?_⟩
    · show ((posN _ x.1 : Nat) : Int) = ((posN _ y.1 : Nat) : Int)
      rw [a1, b1]
    · show ((posN _ x.2.1 : Nat) : Int) < ((posN _ y.2.1 : Nat) : Int)
      rw [a2, b2]
      omega
  · refine pw.imp fun {e e'} hee x hx y hy => SrtO.lexB_iff.mpr (.inl ?_)
    obtain ⟨f, _, hx⟩ := List.mem_flatMap.mp hx
    obtain ⟨g, _, hy⟩ := List.mem_flatMap.mp hy
    show ((posN _ x.1 : Nat) : Int) < ((posN _ y.1 : Nat) : Int)
    rw [(one_names hx).1, (one_names hy).1]
    omega
theorem clash_in {rows : List Row3} {t : Tri} (h : t ∈ clashM fs rows) : t.1 ∈ rows.map (·.1.n) ∧ t.2.1 ∈ rows.map (·.1.n) := by
  unfold clashM at h
  obtain ⟨e, he, h⟩ := List.mem_flatMap.mp h
  obtain ⟨f, hf, h⟩ := List.mem_flatMap.mp h
  obtain ⟨a, b⟩ := one_names h
  exact ⟨a ▸ List.mem_map_of_mem he, b ▸ List.mem_map_of_mem hf⟩
end
end Sc
set_option Elab.async false
set_option maxRecDepth 100000
set_option linter.all false
set_option maxHeartbeats 2000000
namespace Sc
open PySem PySem.Spec L2
open PyProof.Rows hiding St
theorem SqL_same {K : PySem.W.Frag} {H H' : Hp} {a : Addr} {xs : List V} (s : Same H H') (h : SqL K H a xs) : SqL K H' a xs := by
  rcases h with (h | ⟨o, h⟩) | h
  · exact .inl (.inl (s _ _ h))
  · exact .inl (.inr ⟨o, s _ _ h⟩)
  · exact .inr h
theorem tabs_frm {T : List (Addr × Str)} {H H' : Hp} {S : List Addr} (t : LamX.Tabs T H) (f : Frm S H H') (hS : ∀ p ∈ S, ∃ xs, H p = some (.lst xs)) : LamX.Tabs T H' := fun p hp => by
  obtain ⟨ps, h1, h2, h3⟩ := t p hp
  have out : ∀ {b : Addr} {o : HO}, H b = some o → (∀ xs, o ≠ .lst xs) → H' b = some o := fun {b o} e ne => f b o e fun m => by
    obtain ⟨xs, e2⟩ := hS b m
    rw [e] at e2
    cases e2
    exact ne xs rfl
  refine ⟨ps, out h1 (fun _ z => nomatch z), h2, fun pos cv hc => ?_⟩
  obtain ⟨c, e1, e2⟩ := h3 pos cv hc
  exact ⟨c, e1, out e2 (fun xs z => by unfold LamX.CodeO at z; cases z)⟩
theorem Src.lsts {H : Hp} {a c : Addr} (h : Src H a c) : ∀ p ∈ [a, c], ∃ xs, H p = some (.lst xs) := fun p hp => by
  obtain ⟨_, st, k, ns, h1, h2, _⟩ := h
  rcases List.mem_cons.mp hp with z | z
  · rw [z]; exact ⟨_, h1⟩
  · rw [List.mem_singleton.mp z]; exact ⟨_, h2⟩
theorem Src.lst3 {H : Hp} {a c d : Addr} {ys : List V} (h : Src H a c) (e : H d = some (.lst ys)) : ∀ p ∈ [a, c, d], ∃ xs, H p = some (.lst xs) := fun p hp => by
  rcases List.mem_cons.mp hp with z | z
  · exact h.lsts p (z ▸ List.mem_cons_self ..)
  · rcases List.mem_cons.mp z with z | z
    · exact h.lsts p (z ▸ List.mem_cons_of_mem _ (List.mem_cons_self ..))
    · rw [List.mem_singleton.mp z]; exact ⟨_, e⟩
theorem Src.extN {H H' : Hp} {a c : Addr} (h : Src H a c) (f : LamX.ExtN H H') : Src H' a c := by
  obtain ⟨n, st, k, ns, h1, h2, h3⟩ := h
  exact ⟨n, st, k, ns, f _ _ h1 (fun _ z => nomatch z), f _ _ h2 (fun _ z => nomatch z), h3⟩
/-! ### the order of the pairs -/
inductive OrdAt (names : List Str) (H : Hp) : List V → List V → List Tri → Prop
  | nil : OrdAt names H [] [] []
  | cons {t u : Addr} {vs us : List V} {tr : Tri} {ts : List Tri} : H t = some (.tup [.int (posN names tr.1 : Nat), .int (posN names tr.2.1 : Nat), .ref u]) → OrdAt names H vs us ts → OrdAt names H (.ref t :: vs) (.ref u :: us) (tr :: ts)
section
variable {names : List Str} {H H' : Hp}
theorem OrdAt.mono (k : KpI H H') : ∀ {vs us : List V} {ts : List Tri}, OrdAt names H vs us ts → OrdAt names H' vs us ts
  | _, _, _, .nil => .nil
  | _, _, _, .cons h1 h2 => .cons (k.tup h1) (OrdAt.mono k h2)
theorem OrdAt.len : ∀ {vs us : List V} {ts : List Tri}, OrdAt names H vs us ts → vs.length = ts.length ∧ us.length = ts.length
  | _, _, _, .nil => ⟨rfl, rfl⟩
  | _, _, _, .cons _ h => ⟨congrArg Nat.succ h.len.1, congrArg Nat.succ h.len.2⟩
theorem OrdAt.app : ∀ {vs us vs' us' : List V} {ts ts' : List Tri}, OrdAt names H vs us ts → OrdAt names H vs' us' ts' → OrdAt names H (vs ++ vs') (us ++ us') (ts ++ ts')
  | _, _, _, _, _, _, .nil, h => h
  | _, _, _, _, _, _, .cons h1 h2, h => .cons h1 (h2.app h)
theorem OrdAt.get : ∀ {vs us : List V} {ts : List Tri} {i : Nat} {v : V}, OrdAt names H vs us ts → vs[i]? = some v → ∃ t u tr, v = .ref t ∧ us[i]? = some (.ref u) ∧ ts[i]? = some tr ∧ H t = some (.tup [.int (posN names tr.1 : Nat), .int (posN names tr.2.1 : Nat), .ref u])
  | _, _, _, _, _, .nil, e => nomatch e
  | _, _, _, 0, _, .cons h _, e => ⟨_, _, _, by cases e; rfl, rfl, rfl, h⟩
  | _, _, _, i + 1, _, .cons _ h, e => h.get (i := i) (by simpa using e)
end
def keyH (H : Hp) : V → Int × Int
  | .ref t => match H t with
    | some (.tup [.int i, .int j, .ref _]) => (i, j)
    | _ => (0, 0)
  | _ => (0, 0)
def thiH (H : Hp) : V → Addr
  | .ref t => match H t with
    | some (.tup [.int _, .int _, .ref u]) => u
    | _ => 0
  | _ => 0
theorem keyH_eq {H : Hp} {t u : Addr} {i j : Int} (h : H t = some (.tup [.int i, .int j, .ref u])) : keyH H (.ref t) = (i, j) ∧ thiH H (.ref t) = u := by
  unfold keyH thiH
  dsimp only
  rw [h]
  exact ⟨rfl, rfl⟩
theorem ord_pw {names : List Str} {H : Hp} : ∀ {vs us : List V} {ts : List Tri}, OrdAt names H vs us ts → (ts.Pairwise fun a b => SrtO.lexB (keyT names a) (keyT names b) = true) → vs.Pairwise fun x y => SrtO.lexB (keyH H x) (keyH H y) = true
  | _, _, _, .nil, _ => .nil
  | _, _, _, .cons (t := t) (tr := tr) h1 h2, pw => by
    have pw' := List.pairwise_cons.mp pw
    refine .cons (fun y hy => ?_) (ord_pw h2 pw'.2)
    obtain ⟨i, hi⟩ := List.mem_iff_getElem?.mp hy
    obtain ⟨t', u', tr', rfl, _, e3, e4⟩ := h2.get hi
    rw [(keyH_eq h1).1, (keyH_eq e4).1]
    exact pw'.1 tr' (List.mem_of_getElem? e3)
/-- sorting leaves them as they stand -/
theorem sort_same {k : V → Int × Int} {xs ys : List V} (pw : xs.Pairwise fun x y => SrtO.lexB (k x) (k y) = true) (srt : SrtO.Srtd (ltP k) ys) (pm : ys.Perm xs) : ys = xs := by
  have irr : ∀ x, ¬ SrtO.lexB (k x) (k x) = true := fun x h => by
    have := SrtO.lexB_iff.mp h
    omega
  have nd : xs.Nodup := pw.imp fun h e => by subst e; exact irr _ h
  have ndy : ys.Nodup := pm.nodup_iff.mpr nd
  have asy : ∀ x y, SrtO.lexB (k x) (k y) = true → ¬ SrtO.lexB (k y) (k x) = true := fun x y h g => by
    have := SrtO.lexB_iff.mp h
    have := SrtO.lexB_iff.mp g
    omega
  have tot : ∀ x ∈ xs, ∀ y ∈ xs, x ≠ y → SrtO.lexB (k x) (k y) = true ∨ SrtO.lexB (k y) (k x) = true := fun x hx y hy ne => by
    obtain ⟨i, hi, ex⟩ := List.mem_iff_getElem.mp hx
    obtain ⟨j, hj, ey⟩ := List.mem_iff_getElem.mp hy
    have := List.pairwise_iff_getElem.mp pw
    rcases Nat.lt_trichotomy i j with z | z | z
    · exact .inl (ex ▸ ey ▸ this i j hi hj z)
    · subst z
      exact absurd (ex.symm.trans ey) ne
    · exact .inr (ex ▸ ey ▸ this j i hj hi z)
  refine pw_uniq (R := fun x y => SrtO.lexB (k x) (k y) = true) irr asy ?_ pw fun x => pm.mem_iff
  refine (List.pairwise_and_iff.mpr ⟨srt, ndy⟩).imp_of_mem fun {x y} hx hy h => ?_
  rcases tot x (pm.mem_iff.mp hx) y (pm.mem_iff.mp hy) h.2 with z | z
  · exact z
  · have h1 : SrtO.lexB (k y) (k x) = false := h.1
    rw [z] at h1
    cases h1
theorem ord_inj {k : V → Int × Int} {xs : List V} (pw : xs.Pairwise fun x y => SrtO.lexB (k x) (k y) = true) : ∀ x ∈ xs, ∀ y ∈ xs, k x = k y → x = y := fun x hx y hy e => by
  obtain ⟨i, hi, ex⟩ := List.mem_iff_getElem.mp hx
  obtain ⟨j, hj, ey⟩ := List.mem_iff_getElem.mp hy
  have := List.pairwise_iff_getElem.mp pw
  rcases Nat.lt_trichotomy i j with z | z | z
  · have h := SrtO.lexB_iff.mp (this i j hi hj z)
    rw [ex, ey, e] at h
    omega
  · subst z
    exact ex.symm.trans ey
  · have h := SrtO.lexB_iff.mp (this j i hj hi z)
    rw [ex, ey, e] at h
    omega
/-! ### the same triples are alike -/
theorem TrisAt.get {H : Hp} : ∀ {vs : List V} {ts : List Tri} {i : Nat} {v : V}, TrisAt H vs ts → vs[i]? = some v → ∃ t c tr, v = .ref t ∧ ts[i]? = some tr ∧ H t = some (.tup [.str tr.1, .str tr.2.1, .ref c]) ∧ H c = some (.tup (sV tr.2.2))
  | _, _, _, _, .nil, e => nomatch e
  | _, _, 0, _, .cons h1 h2 _, e => ⟨_, _, _, by cases e; rfl, rfl, h1, h2⟩
  | _, _, i + 1, _, .cons _ _ h, e => h.get (i := i) (by simpa using e)
theorem tris_alike {H : Hp} {p q : Addr} {vs us : List V} {ts : List Tri} (hp : H p = some (.lst vs)) (hq : H q = some (.lst us)) (h1 : TrisAt H vs ts) (h2 : TrisAt H us ts) (hl : ts.length ≤ 1000) (hc : ∀ t ∈ ts, t.2.2.length ≤ 1000) : Alk 3 (.ref p) (.ref q) H := by
  refine .inr ⟨vs, us, .l hp hq, by rw [h1.len, h2.len], by rw [h1.len]; omega, fun i a b ea eb => ?_⟩
  obtain ⟨t, c, tr, rfl, e1, g1, g2⟩ := h1.get ea
  obtain ⟨t', c', tr', rfl, e2, g3, g4⟩ := h2.get eb
  rw [e1] at e2
  cases e2
  refine .inr ⟨_, _, .t g1 g3, rfl, by show 3 ≤ 5000; decide, fun j x y ex ey => ?_⟩
  have hcl := hc tr (List.mem_of_getElem? e1)
  match j, ex, ey with
  | 0, ex, ey => cases ex; cases ey; exact .inl ⟨_, rfl, rfl⟩
  | 1, ex, ey => cases ex; cases ey; exact .inl ⟨_, rfl, rfl⟩
  | 2, ex, ey =>
    cases ex
    cases ey
    refine .inr ⟨_, _, .t g2 g4, rfl, by rw [List.length_map]; omega, fun m x y ex ey => ?_⟩
    obtain ⟨z, ez, rfl⟩ := sV_get ex
    obtain ⟨z', ez', rfl⟩ := sV_get ey
    rw [ez] at ez'
    cases ez'
    exact ⟨z, rfl, rfl⟩
  | j + 3, ex, _ => simp at ex
theorem met_len2 {fs : List Str} {rs : List RT} : ∀ c ∈ metM fs rs, c.length ≤ fs.length := fun c hc => by
  unfold metM at hc
  split at hc
  · cases hc
  · rw [List.mem_singleton.mp hc]
    exact List.length_filter_le _ _
theorem clash_case {fs : List Str} {rows : List Row3} : ∀ t ∈ clashM fs rows, t.2.2.length ≤ fs.length := fun t ht => by
  unfold clashM at ht
  obtain ⟨e, _, ht⟩ := List.mem_flatMap.mp ht
  obtain ⟨f, _, ht⟩ := List.mem_flatMap.mp ht
  unfold oneM at ht
  split at ht
  · obtain ⟨c, hc, rfl⟩ := List.mem_map.mp ht
    exact met_len2 c hc
  · cases ht
theorem everyM_len (fs : List Str) (h : fs.length ≤ 6) : (everyM fs).length ≤ 100 := by
  unfold everyM
  rw [List.length_map, List.length_range]
  have : 2 ^ fs.length ≤ 2 ^ 6 := Nat.pow_le_pow_right (by decide) h
  omega
/-- the place of a name, as the list's own index finds it -/
theorem idx_of {K : PySem.W.Frag} {H : Hp} {p : Addr} {names : List Str} {x : Str} {Q : VK} (hp : H p = some (.lst (sV names))) (hx : x ∈ names) (k : Q (.int (posN names x : Nat)) H) : rIndex K (.ref p) [.str x] H Q := by
  obtain ⟨h1, h2⟩ := posN_at hx
  refine ⟨p, sV names, .str x, posN names x, .str x, rfl, rfl, .of hp, rfl, flat_sV _, by rw [List.getElem?_map, h1]; rfl, by show (x == x) = true; exact beq_self_eq_true x, fun m z hm ez => ?_, k⟩
  obtain ⟨y, e1, e2⟩ := h2 m hm
  rw [List.getElem?_map, e1] at ez
  cases ez
  show (y == x) = false
  rw [Bool.eq_false_iff]
  exact fun h => e2 (eq_of_beq h)
theorem not_rows_zz {l : List RT} (h : ("zz" : Str) ∉ nmsL l) : ∀ e ∈ rowsMA [] 0 l, e.1.n ≠ "zz" := fun e he en => h (by
  rw [← rows_names l [] 0]
  exact en ▸ List.mem_map_of_mem he)
end Sc
set_option Elab.async false
set_option maxRecDepth 100000
set_option linter.all false
set_option maxHeartbeats 400000
namespace Sc
open PySem PySem.Spec L2
open PyProof.Rows hiding St
abbrev lawCa : Addr := 758
abbrev lawTa : Addr := 756
def spLaw (K : PySem.W.Frag) : Sp := fun vs H Q _ => ∃ (a : Addr) (ns : List Int), vs = [.ref a] ∧ SqL K H a (ns.map V.int) ∧ ns.length ≤ 63 ∧ H lawTa = some (.tbl #[]) ∧ ∀ H', Q (.bl true) H'
abbrev nLaw : List Str := ["_law_script", "_law_h", "_law_time", "_law_facts_here", "_law_rules_here", "_law_last", "_law_every_here", "_law_names", "_law_order", "_law_due", "_law_good", "_law_book_here", "_law_name", "_law_one"]
theorem sc_law : FnScope nLaw ["_law_script"] (defScope s_law) := ⟨rfl, rfl, rfl, by decide +kernel, rfl, by decide +kernel, by decide +kernel⟩
def qLam : Str := ("law" : Str) ++ ".<locals>." ++ "<lambda>"
theorem q_law {X : Cx} (h : X.env.qual = ("law" : Str) ++ ".<locals>.") : X.env.qual ++ "<lambda>" = qLam := by
  rw [h]
  rfl
def TbL : List (Addr × Str) := [(lawTa, qLam)]
theorem passF {X : Cx} : Passes (L2.CX X.prog X.w) X (fun _ _ _ => False) := fun _ _ _ _ _ _ _ c => by
  obtain ⟨_, _, _, _, _, _, _, _, _, _, _, _, z⟩ := c
  exact z.elim
section
variable {X : Cx}
/-- _law_error(lambda: swapped(book, ..)) -/
theorem pe_err (T : Txt X.K X.mg) {C : Addr} {i : Nat} {word : Str} (hC : ErrC X.K C i) (W : WordOk i word) (B : LamX.TabB X.base X.mg lawCa lawTa) (hcode : X.env.code = .ref lawCa) (hq : X.env.qual ++ "<lambda>" = qLam) (hr : Room 13 X.A)
    {params : Arguments} {body : Expr} {scope : Scope} {t : XK → TE} {p lpos pos : Pos} (hg : Gl X "_law_error") (L : LamX.LamS X.env.scope scope) (hdef : defaultsOf params X.env = ([], []))
    (hbind : ∀ (q : Str) (cl : List (Str × Addr)) (pm cv ctv : Value), bindArgs (PySem.W.kla_fn "<lambda>" q params body scope cl pm cv ctv) ⟨[], []⟩ = pure [])
    (hbody : ∀ (A : Around) (outer : List Env) (s : Shared) (H : Hp) (E : XK) (f c' : Addr), Room 11 (A.deeper (LamX.lamEnv X scope s.heap.objs.size f c')) → PE (LamX.lamCx X A outer s H E scope f c') body (t E)) :
    PE X (.Call (.Name "_law_error" p) [.Lambda params body scope lpos] [] pos) (LamX.tLam TbL (TTerr C word) t) := by
  obtain ⟨fd, F⟩ := T.d_law_error
  obtain ⟨oc, od, kV, doc, pm, an, cdv, ct, osl, rfl, lk, hcd⟩ := F.ex
  exact LamX.pe_lamcall (k := 11) (Ng := nErr) (a := "_law_call") (c := lawCa) (P := lawTa) hg T.g_law_error F.kp lk hcd (F.binds fun _ _ _ _ _ _ us hl => match us, hl with | [_], _ => rfl) sc_err rfl (.inl rfl) (err_gives T hC W) B hcode (by rw [hq]; exact List.mem_singleton.mpr rfl)
    (fun p hp _ => by rw [List.mem_singleton.mp hp, hq]) hr L hdef hbind hbody
end
abbrev tSwp (E : XK) : TE := tCall spSwapped [] E (tCons (tVar 11) (tCons (tVar 12) tNil))
abbrev tSwz (E : XK) : TE := tCall spSwapped [] E (tCons (tVar 11) (tCons (tC (.str "zz")) tNil))
theorem ok_law0 {P : Program} {w : World} {K : PySem.W.Frag} {mg : Str → Option Value} {base : Heap} (T : Txt K mg) {fd : FuncData} (F : Fun K "law" "law" s_law 759 fd) (B : LamX.TabB base mg lawCa lawTa)
    (hcl : ∀ (oc : Value) (od : Option Addr) (fd : FuncData) (osl : Array (Option Value)), K.lookup 759 = some ⟨oc, od, .func fd, osl⟩ → fd.code = .ref lawCa) : FnOk P w K mg base (L2.CX P w) 100 759 fd ["_law_script"] (spLaw K) := by
  obtain ⟨oc, od, kV, doc, pm, an, cdv, ct, osl, rfl, lk, hcd⟩ := F.ex
  have ec : cdv = .ref lawCa := hcl _ _ _ _ lk
  subst ec
  have nd := sc_law.nd
  refine fn_of (k := 99) lk hcd sc_law (fun vs H Q E h => ?_) fun A outer s H vs Q E hr h => ?_
  · obtain ⟨a, ns, rfl, _⟩ := h
    rfl
  · obtain ⟨sc, ns, rfl, hsc, hns, htb, k⟩ := h
    have hr2 : Room 2 _ := hr.mono (by decide)
    have hr3 : Room 3 _ := hr.mono (by decide)
    have hr4 : Room 4 _ := hr.mono (by decide)
    have next := ok_next (P := P) (w := w) (base := base) T
    obtain ⟨fde, Fe, be, _⟩ := ok_book_eq (P := P) (w := w) (base := base) T 3
    refine ⟨_, PSs.nox (pss_cons (ps_set (i := 1) nd rfl (.inl rfl) (pc (ok_mix T) (hr.mono (by decide)) T.g_law_mix pass0 (pa_cons (pv 0) (pa_cons pe_int pa_nil))))
      (pss_cons (ps_for PassesOwn.never rfl (pi_range1 (by rfl) T.f_range (pa_cons pe_int pa_nil)) (pg_name (i := 2) nd rfl (.inl rfl))
        (pss_cons (ps_set (i := 3) nd rfl (.inl rfl) (pc (ok_facts T) hr2 T.g_law_facts pass0 (pa_cons (pv 1) (pa_cons (pe_op op_add pe_int (pc next (hr.mono (by decide)) T.g_law_next pass0 (pa_cons (pv 1) (pa_cons pe_int pa_nil)))) pa_nil))))
        (pss_cons (ps_par (i := 4) (j := 5) rfl nd rfl rfl (by decide) rfl rfl (pa_cons (pc (ok_draw T 3) (hr.mono (by decide)) T.g_law_rules pass0 (pa_cons (pv 1) (pa_cons (pv 3) (pa_cons (pe_lst (pa_cons pe_int pa_nil)) (pa_cons pe_int (pa_cons pe_int pa_nil)))))) (pa_cons pe_str pa_nil)) (by rfl))
        (pss_cons (ps_asg (pe_tup (pa_cons (pc (ok_lbook T) (hr.mono (by decide)) T.g_law_book pass0 (pa_cons (pv 3) (pa_cons (pv 4) (pa_cons (pv 5) pa_nil)))) (pa_cons (pc (ok_every T) hr2 T.g_law_every pass0 (pa_cons (pv 3) pa_nil)) pa_nil)))
            (pg_tup rfl (pgs_cons (pg_name (i := 11) nd rfl (.inr rfl)) (pgs_cons (pg_name (i := 6) nd rfl (.inl rfl)) pgs_nil))))
        (pss_cons (ps_set (i := 7) nd rfl (.inr rfl) (pprop (pv 11) T.c_Book T.p_Book_names (ok_bnames T) hr4 pass0))
        (pss_cons (ps_setLc (i := 8) (own := [("_law_one", 13)]) (te := tTup (tCons (tBM K "list" (rIndex K) (tVar 7) (tCons (tOp (rIxT K) (tVar 13) (tC (.int 0))) tNil)) (tCons (tBM K "list" (rIndex K) (tVar 7) (tCons (tOp (rIxT K) (tVar 13) (tC (.int 1))) tNil)) (tCons (tVar 13) tNil)))) rfl nd rfl rfl (sw_true rfl rfl rfl rfl)
            (pi_list (pc (ok_pairs T 4) (hr.mono (by decide)) T.g_law_pairs pass0 (pa_cons (pv 4) (pa_cons (pe_lst pa_nil) (pa_cons (pv 6) pa_nil))))) (blkOk_by (N := nLaw) (sc := defScope s_law) (by decide +kernel))
            (fun _ _ _ _ _ => pg_name (i := 13) nd rfl (.inl rfl)) (fun _ _ _ _ _ => pts_nil)
            (fun _ _ _ _ _ => pe_tup (pa_cons (pe_bm PySem.F.plainAttrs_list PySem.F.slot_list_index PySem.F.type_list_index mt_index (pv 7) (pa_cons (pe_ix ix_tup (pv 13) pe_int (fun _ _ => rfl)) pa_nil)) (pa_cons (pe_bm PySem.F.plainAttrs_list PySem.F.slot_list_index PySem.F.type_list_index mt_index (pv 7) (pa_cons (pe_ix ix_tup (pv 13) pe_int (fun _ _ => rfl)) pa_nil)) (pa_cons (pv 13) pa_nil)))))
        (pss_cons (ps_if (pt_not (pt_val (pc (ok_alk T 3) hr4 T.g_law_alike pass0 (pa_cons (pc (ok_clashes T) hr4 T.g_clashes pass0 (pa_cons (pv 11) pa_nil)) (pa_cons (pe_lc (own := [("_law_one", 13)]) (te := tOp (rIxT K) (tVar 13) (tC (.int 2))) rfl nd
            (pi_list (pe_callB cr_sortedTri (by rfl) T.f_sorted (by decide +kernel) (pa_cons (pv 8) pa_nil))) (blkOk_by (N := nLaw) (sc := defScope s_law) (by decide +kernel))
            (fun _ _ _ _ _ => pg_name (i := 13) nd rfl (.inl rfl)) (fun _ _ _ _ _ => pts_nil) (fun _ _ _ _ _ => pe_ix ix_tup (pv 13) pe_int (fun _ _ => rfl))) pa_nil))))) (pss_one ps_never) pss_nil)
        (pss_cons (ps_for PassesOwn.never rfl (pi_list (pv 7)) (pg_name (i := 12) nd rfl (.inr rfl))
            (pss_cons (ps_asg (pc (ok_chg T 4) (hr.mono (by decide)) T.g_law_changed pass0 (pa_cons (pv 4) (pa_cons (pv 12) pa_nil))) (pg_tup rfl (pgs_cons (pg_name (i := 9) nd rfl (.inl rfl)) (pgs_cons (pg_name (i := 10) nd rfl (.inl rfl)) pgs_nil))))
            (pss_one (ps_if (pt_not (pt_val (pv 10)))
              (pss_one (ps_if (pt_cmpR (op_neTS hr.units0) (pe_err T (err266 T) word14 B rfl (q_law rfl) (hr.mono (by decide)) (t := tSwp) (by rfl) (LamX.lamS_by (sc := defScope s_law) (by decide +kernel)) rfl (fun _ _ _ _ _ => rfl)
                  (fun A outer s H E f c' hrb => pc (ok_swapped T) hrb T.g_swapped (passes_call (takes_of rfl rfl rfl rfl) (fun _ _ _ _ h => h)) (pa_cons (pv 11) (pa_cons (pv 12) pa_nil)))) (pe_tup (pa_cons pe_str pa_nil)) (nomark _)) (pss_one ps_never) pss_nil))
              (pss_one (ps_if (pt_cmpR (op_neI Fe T.ne_Book T.e_Book.1 T.e_Book.2 T.y_Book.hm be pass0 (hr.mono (by decide))) (pc (ok_swapped T) (hr.mono (by decide)) T.g_swapped passF (pa_cons (pv 11) (pa_cons (pv 12) pa_nil)))
                  (pc (ok_lbook T) (hr.mono (by decide)) T.g_law_book pass0 (pa_cons (pv 3) (pa_cons (pv 9) (pa_cons (pv 5) pa_nil)))) (nomark _)) (pss_one ps_never) pss_nil))))))
        (pss_one (ps_if (pt_cmpR (op_neTS hr.units0) (pe_err T (err173 T) word7 B rfl (q_law rfl) (hr.mono (by decide)) (t := tSwz) (by rfl) (LamX.lamS_by (sc := defScope s_law) (by decide +kernel)) rfl (fun _ _ _ _ _ => rfl)
            (fun A outer s H E f c' hrb => pc (ok_swapped T) hrb T.g_swapped (passes_call (takes_of rfl rfl rfl rfl) (fun _ _ _ _ h => h)) (pa_cons (pv 11) (pa_cons pe_str pa_nil)))) (pe_tup (pa_cons pe_str pa_nil)) (nomark _)) (pss_one ps_never) pss_nil))))))))))
      (pss_one (ps_ret pe_bl)))), ?_⟩
    refine ⟨_, rfl, sc, 14, ns, rfl, fun H' s => SqL_same s hsc, hns, fun H1 a c s1 na nc hs1 => ?_⟩
    have tb1 : LamX.Tabs TbL H1 := fun p hp => by
      rw [List.mem_singleton.mp hp]
      exact LamX.TabS.nil (s1 _ _ htb)
    refine ⟨3, rfl, by decide, by decide, for_it walk_rng (fun i σ H' => ∃ v2 v3 v4 v5 v6 v7 v8 v9 v10 v11 v12 v13, σ = [some (.ref sc), some (.ref a), v2, v3, v4, v5, v6, v7, v8, v9, v10, v11, v12, v13] ∧ Src H' a c ∧ LamX.Tabs TbL H')
      ⟨none, none, none, none, none, none, none, none, none, none, none, none, rfl, hs1, tb1⟩ (fun _ _ _ _ _ => trivial) ?_ ?_⟩
    · rintro i x σ Hi H2 hi ⟨v2, v3, v4, v5, v6, v7, v8, v9, v10, v11, v12, v13, rfl, hsi, tbi⟩ ⟨rfl, rfl⟩
      -- the facts
      refine ⟨_, rfl, _, rfl, a, c, _, rfl, hsi, by decide, by decide, fun H3 r3 hr3' fr3 hs3 => ⟨_, _, rfl, rfl, a, c, 1 + r3, ?_, hs3, by omega, fun H4 t fs fr4 hs4 ht4 sub hfl => ?_⟩⟩
      · show [V.ref a, V.int ((1 : Int) + (r3 : Int))] = _
        rw [show (1 : Int) + (r3 : Int) = ((1 + r3 : Nat) : Int) by omega]
      have tb3 := tabs_frm tbi fr3 hsi.lsts
      have tb4 := tabs_frm tb3 fr4 hs3.lsts
      have hf1 : 1 ≤ fs.length := by omega
      have hf6 : fs.length ≤ 6 := by omega
      have fnd := asc_nodup (ascF sub)
      -- the rules
      refine ⟨_, rfl, _, rfl, by show 1 ≤ sizeLine; decide, fun cc ncc => ?_⟩
      have s5 := same_upd (o := HO.lst [V.int 0]) ncc
      have cne := hs4.ne ncc
      have tb5 := tb4.ext s5
      refine ⟨a, c, t, cc, fs, 6, 0, rfl, hs4.same s5, s5 _ _ ht4, fnd, by omega, upd_same, cne.1, cne.2, by decide, by decide, by decide, fun H6 tr us rs m fr6 hs6 hc6 htr6 hR6 hD => ⟨_, _, rfl, ?_⟩⟩
      have tb6 := tabs_frm tb5 fr6 ((hs4.same s5).lst3 upd_same)
      have ht6 : H6 t = some (.tup (sV fs)) := ((hs4.same s5).kp3 upd_same fr6).tup (s5 _ _ ht4)
      have FT := fit_of hD
      have hrl : rs.length ≤ 60 := Nat.le_trans FT.len (by decide)
      clear fr3 fr4 tb3 tb4 tb5 tbi hs3 hs4 hsi s5 fr6
      -- the book, the cases
      refine ⟨_, rfl, _, rfl, _, rfl, t, tr, fs, us, rs, "none", rfl, ht6, htr6, hR6, FT.dep, FT.cOk sub, hrl, FT.bookOk sub hf1, fun H7 bk s7 hbk7 => ⟨_, rfl, t, fs, rfl, s7 _ _ ht6, hf6, fun H8 pe use s8 npe hpe8 hev8 => ⟨by show 2 ≤ sizeLine; decide, fun tt ntt => ?_⟩⟩⟩
      have s9 := same_upd (o := HO.tup [V.ref bk, V.ref pe]) ntt
      have s79 := same_trans s7 (same_trans s8 s9)
      refine ⟨tt, _, rfl, .of upd_same, rfl, _, _, rfl, _, _, rfl, rfl, ?_⟩
      have hbk9 := BookAt.mono (Same.extN (same_trans s8 s9)) hbk7
      have hpe9 := s9 _ _ hpe8
      have hev9 := hev8.mono (Same.kpI s9)
      have ht9 := s79 _ _ ht6
      have htr9 := s79 _ _ htr6
      have hR9 := hR6.mono (Same.kpI s79)
      have hs9 := hs6.same s79
      have tb9 := tb6.ext s79
      generalize hG9 : upd H8 tt (.tup [V.ref bk, V.ref pe]) = H9 at hbk9 hpe9 hev9 ht9 htr9 hR9 hs9 tb9
      clear s79 s9 s8 s7 hev8 hpe8 hbk7 hR6 ht6 htr6 hs6 tb6
      -- the names
      obtain ⟨_, dx, af, ar, aR, rvb, usb, eb, b1, b2, b3, b4, b5, b6⟩ := id hbk9
      cases eb
      refine ⟨_, rfl, bk, dx, _, rfl, b1, bk, fs, rs, "none", rfl, hbk9, Nat.le_trans FT.rowsLen (by decide), fun H10 pn s10 npn hpn => ?_⟩
      rw [rows_names] at hpn
      have ht10 := s10 _ _ ht9
      have htr10 := s10 _ _ htr9
      have hR10 := hR9.mono (Same.kpI s10)
      have hbk10 := BookAt.mono (Same.extN s10) hbk9
      have hpe10 := s10 _ _ hpe9
      have hev10 := hev9.mono (Same.kpI s10)
      have hs10 := hs9.same s10
      have tb10 := tb9.ext s10
      -- the order of the pairs
      refine ⟨_, rfl, by show 0 ≤ sizeLine; decide, fun q nq => ⟨_, rfl, tr, q, pe, us, [], use, rs, [], everyM fs, rfl, ?_⟩⟩
      have s11 := same_upd (o := HO.lst []) nq
      have hts : (prsL (everyM fs) [] rs).length ≤ 1000 := by rw [pairs_clash FT sub]; exact clash_len FT
      refine ⟨s11 _ _ htr10, hR10.mono (Same.kpI s11), ⟨3, rfl, FT.dep⟩, FT.lenOk, hrl, upd_same, .nil, (fun _ h => nomatch h), by decide, s11 _ _ hpe10, hev10.mono (Same.kpI s11), everyM_len fs hf6, hts, fun H12 p12 us12 s12 np12 hp12 hT12 => ⟨p12, rfl, ⟨us12, .of hp12⟩, fun D nD => ?_⟩⟩
      have s1012 := same_trans s11 s12
      have hpn12 := s1012 _ _ hpn
      have hul := hT12.len
      refine lc_go (walk_list (xs := us12)) (by rw [hul, sizeLine_eq]; omega) nD (fun H3 s => .of (s _ _ hp12)) (fun j acc Hx => OrdAt (nmsL rs) Hx acc (us12.take j) ((prsL (everyM fs) [] rs).take j)) (fun _ _ _ _ kp h => h.mono kp) .nil ?_ ?_
      · rintro j y H13 H14 acc Kt Kf hj s13 hO ⟨rfl, ey⟩ kt _
        obtain ⟨tu, cu, trj, rfl, etr, g1, g2⟩ := hT12.get ey
        have hin := clash_in (pairs_clash FT sub ▸ List.mem_of_getElem? etr)
        rw [rows_names] at hin
        have hpn13 := s13 _ _ hpn12
        have g13 := s13 _ _ g1
        refine ⟨rfl, yes_ok ⟨_, rfl, .inl ⟨rfl, _, SqL.of hpn13⟩, _, rfl, tu, _, 0, _, rfl, rfl, .of g13, rfl, ?_⟩⟩
        dsimp only [tNil]
        refine idx_of hpn13 hin.1 ⟨_, rfl, .inl ⟨rfl, _, SqL.of hpn13⟩, _, rfl, tu, _, 1, _, rfl, rfl, .of g13, rfl, ?_⟩
        dsimp only [tNil]
        refine idx_of hpn13 hin.2 ⟨_, rfl, by show 3 ≤ sizeLine; decide, fun p np => kt (.ref p) _ (same_upd np) ?_⟩
        rw [List.take_succ, ey, List.take_succ, etr]
        exact (hO.mono (Same.kpI (same_upd np))).app (.cons upd_same .nil)
      · rintro H13 acc s13 hD hO
        rw [List.take_length, hul, List.take_length] at hO
        have epc := pairs_clash FT sub
        rw [epc] at hO hT12
        have s1013 := same_trans s1012 s13
        have hT13 := hT12.mono (Same.kpI s13)
        have hbk13 := BookAt.mono (Same.extN s1013) hbk10
        have ht13 := s1013 _ _ ht10
        have htr13 := s1013 _ _ htr10
        have hR13 := hR10.mono (Same.kpI s1013)
        have hpn13 := s1013 _ _ hpn
        have hs13 := hs10.same s1013
        have tb13 := tb10.ext s1013
        clear s1013 s13 s1012 s12 s11 s10 hp12 hpn12 hT12 hbk10 ht10 htr10 hR10 hpn hs10 tb10 hev10 hpe10 hev9 hpe9 hbk9 ht9 htr9 hR9 hs9 tb9 b1 b2 b3 b4 b5 b6
        have pwk : (clashM fs (rowsMA [] 0 rs)).Pairwise fun a b => SrtO.lexB (keyT (nmsL rs) a) (keyT (nmsL rs) b) = true := by
          have h := clash_pw (fs := fs) (rows := rowsMA [] 0 rs) (by rw [rows_names]; exact FT.nd)
          rw [rows_names] at h
          exact h
        refine ⟨_, rfl, bk, fs, rs, "none", rfl, hbk13, FT.clOk sub, fun H14 pC usC s14 npC hpC hTC => ?_⟩
        have hO14 := hO.mono (Same.kpI s14)
        have pwv := ord_pw hO14 pwk
        refine ⟨_, rfl, D, acc, keyH H14, thiH H14, rfl, .of (s14 _ _ hD), fun x hx => ?_, ord_inj pwv, fun ys pS srt pm npS => ⟨pS, rfl, ⟨ys, .of upd_same⟩, fun D9 nD9 => ?_⟩⟩
        · obtain ⟨j, hj⟩ := List.mem_iff_getElem?.mp hx
          obtain ⟨tq, uq, trq, rfl, _, _, e4⟩ := hO14.get hj
          obtain ⟨k1, k2⟩ := keyH_eq e4
          exact ⟨tq, rfl, by rw [k1, k2]; exact e4⟩
        have eys := sort_same pwv srt pm
        subst eys
        have s15 := same_upd (o := HO.lst ys) npS
        have hpS : (upd H14 pS (.lst ys)) pS = some (.lst ys) := upd_same
        generalize hG15 : upd H14 pS (.lst ys) = H15 at s15 hpS nD9
        have hO15 := hO14.mono (Same.kpI s15)
        have hlo := hO15.len
        have hcl := clash_len FT
        refine lc_go (walk_list (xs := ys)) (by rw [hlo.1, sizeLine_eq]; omega) nD9 (fun H3 s => .of (s _ _ hpS)) (fun j acc9 _ => acc9 = us12.take j) (fun _ _ _ _ _ h => h) (by simp) ?_ ?_
        · rintro j y H16 H17 acc9 Kt Kf hj s16 rfl ⟨rfl, ey⟩ kt _
          obtain ⟨tq, uq, trq, rfl, e2, _, e4⟩ := hO15.get ey
          refine ⟨rfl, yes_ok ⟨_, rfl, tq, _, 2, .ref uq, rfl, rfl, .of (s16 _ _ e4), rfl, kt _ _ (Same.refl _) ?_⟩⟩
          rw [List.take_succ, e2]
          rfl
        · rintro H16 acc9 s16 hD9 rfl
          rw [hlo.1, ← hlo.2, List.take_length] at hD9
          have s1516 := same_trans s15 s16
          have s1316 := same_trans s14 s1516
          refine ⟨_, _, rfl, tris_alike (s1516 _ _ hpC) hD9 (hTC.mono (Same.kpI s1516)) (hT13.mono (Same.kpI s1316)) hcl (fun t ht => by have := clash_case t ht; omega), fun H17 s17 => ⟨true, rfl, iteF ?_⟩⟩
          have s1317 := same_trans s1316 s17
          have hbkA := BookAt.mono (Same.extN s1317) hbk13
          have htA := s1317 _ _ ht13
          have htrA := s1317 _ _ htr13
          have hRA := hR13.mono (Same.kpI s1317)
          have hpnA := s1317 _ _ hpn13
          have hsA := hs13.same s1317
          have tbA := tb13.ext s1317
          clear s1317 s1316 s1516 s16 s17 s15 s14 hO15 hO14 hO pwv hT13 hTC hpC hbk13 ht13 htr13 hR13 hpn13 hs13 tb13
          refine ⟨_, rfl, pn, rfl, ⟨_, .of hpnA⟩, for_it (walk_list (xs := sV (nmsL rs))) (fun j σ H' => ∃ v9 v10 v12 v13, σ = [some (.ref sc), some (.ref a), some (.int (i : Nat)), some (.ref t), some (.ref tr), some (.str "none"), some (.ref pe), some (.ref pn), some (.ref D), v9, v10, some (.ref bk), v12, v13] ∧ LamX.ExtN H17 H' ∧ LamX.Tabs TbL H')
            ⟨v9, v10, v12, v13, rfl, LamX.ExtN.refl _, tbA⟩ (fun j σ H' _ h => ?_) ?_ ?_⟩
          · obtain ⟨_, _, _, _, _, ex, _⟩ := h
            exact .of (ex _ _ hpnA (fun _ z => nomatch z))
          · rintro j x σ H18 H19 hj ⟨v9, v10, v12, v13, rfl, ex, tb⟩ ⟨rfl, ey⟩
            obtain ⟨nm, enm, rfl⟩ := sV_get ey
            have hnm : nm ∈ nmsL rs := List.mem_of_getElem? enm
            have kA := ExtN.kpI ex
            have FS := FT.swap nm
            have absent : nm ∉ (rowsMA [] 0 rs).map (·.1.n) → False := fun h => h (by rw [rows_names]; exact hnm)
            have hsl : (swapA nm rs).length ≤ 60 := by rw [swapA_length]; exact hrl
            refine ⟨_, rfl, _, rfl, tr, nm, us, rs, rfl, kA.tup htrA, hRA.mono kA, ⟨3, rfl, FT.dep⟩, FT.inOk, hrl, fun H20 tt2 a2 us2 s20 htt2 ha2 hR2 => ?_⟩
            have ex20 : LamX.ExtN H17 H20 := ex.trans (LamX.ExtN.of s20)
            have tb20 := tb.ext s20
            have hbk20 := BookAt.mono ex20 hbkA
            refine ⟨tt2, _, rfl, .of htt2, rfl, _, _, rfl, _, _, rfl, rfl, ?_⟩
            cases hdn : dnA nm rs with
            | false =>
              refine ⟨_, rfl, false, rfl, iteT ⟨tb20, fun H21 ex21 tb21 => ?_⟩⟩
              refine ⟨_, rfl, _, rfl, bk, nm, fs, rs, "none", rfl, BookAt.mono ex21 hbk20, ⟨4, rfl, dep_mono rs (by decide) FT.dep⟩, FT.swOk, hrl, FS.bookOk sub hf1, fun hno => (absent hno).elim, fun e' he' hn' => ⟨fun _ H22 s22 => ⟨⟨rfl, rfl⟩, fun H23 t23 s23 ht23 => ?_⟩, fun hne => ?_⟩⟩
              · refine ⟨by show 1 ≤ sizeLine; decide, fun q nq => ⟨t23, q, [("neighbor" : Str)], [("neighbor" : Str)], rfl, rfl, .of (same_upd nq _ _ ht23), .of upd_same, _, rfl, ?_⟩⟩
                rw [show (!decide ([("neighbor" : Str)] = [("neighbor" : Str)])) = false by rw [decide_eq_true rfl]; rfl]
                have s24 := same_trans s22 (same_trans s23 (same_upd (o := HO.tup [V.str "neighbor"]) nq))
                exact iteF ⟨_, _, _, _, rfl, ex20.trans (ex21.trans (LamX.ExtN.of s24)), tb21.ext s24⟩
              · have := (done_iff FT.nd he').mpr hne
                rw [hn', hdn] at this
                cases this
            | true =>
              refine ⟨_, rfl, true, rfl, iteF ?_⟩
              refine ⟨_, rfl, _, rfl, bk, nm, fs, rs, "none", rfl, hbk20, ⟨4, rfl, dep_mono rs (by decide) FT.dep⟩, FT.swOk, hrl, FS.bookOk sub hf1, fun hno => (absent hno).elim, fun e' he' hn' => ⟨fun heq => ?_, fun _ H22 ab s22 hb22 => ?_⟩⟩
              · exact absurd heq ((done_iff FT.nd he').mp (by rw [hn']; exact hdn))
              · have ex22 := ex20.trans (LamX.ExtN.of s22)
                refine ⟨_, rfl, _, rfl, _, rfl, t, a2, fs, us2, swapA nm rs, "none", rfl, (ExtN.kpI ex22).tup htA, s22 _ _ ha2, hR2.mono (Same.kpI s22), FS.dep, FS.cOk sub, hsl, FS.bookOk sub hf1, fun H23 ab2 s23 hb23 => ⟨?_, fun H24 ex24 => ⟨_, rfl, iteF ⟨_, _, _, _, rfl, ex22.trans (LamX.ExtN.of (same_trans s23 ex24)), (tb20.ext s22).ext (same_trans s23 ex24)⟩⟩⟩⟩
                have hb22' := BookAt.mono (Same.extN s23) hb22
                obtain ⟨_, d1, _, _, _, _, _, e1, g1, _⟩ := id hb22'
                obtain ⟨_, d2, _, _, _, _, _, e2, g2, _⟩ := id hb23
                cases e1
                cases e2
                exact ⟨ab, ab2, d1, d2, _, _, rfl, rfl, g1, g2, fs, swapA nm rs, "none", FS.dep, hb22', hb23⟩
          · rintro σ H18 ⟨v9, v10, v12, v13, rfl, ex, tb⟩
            refine ⟨tb, fun H21 ex21 tb21 => ?_⟩
            have ex20 := ex.trans ex21
            refine ⟨_, rfl, bk, "zz", fs, rs, "none", rfl, BookAt.mono ex20 hbkA, ⟨4, rfl, dep_mono rs (by decide) FT.dep⟩, FT.swOk, hrl, (FT.swap "zz").bookOk sub hf1, fun _ H22 s22 => ⟨⟨rfl, rfl⟩, fun H23 t23 s23 ht23 => ?_⟩, fun e' he' hn' => absurd hn' (not_rows_zz FT.zz e' he')⟩
            refine ⟨by show 1 ≤ sizeLine; decide, fun q nq => ⟨t23, q, [("norule" : Str)], [("norule" : Str)], rfl, rfl, .of (same_upd nq _ _ ht23), .of upd_same, _, rfl, ?_⟩⟩
            rw [show (!decide ([("norule" : Str)] = [("norule" : Str)])) = false by rw [decide_eq_true rfl]; rfl]
            have s24 := same_trans s22 (same_trans s23 (same_upd (o := HO.tup [V.str "norule"]) nq))
            exact iteF ⟨_, _, _, _, _, _, _, _, _, _, _, _, rfl, (hsA.extN ex20).same s24, tb21.ext s24⟩
    · rintro σ H1 ⟨v2, v3, v4, v5, v6, v7, v8, v9, v10, v11, v12, v13, rfl, _, _⟩
      exact k _
end Sc
set_option Elab.async false
set_option maxRecDepth 100000
set_option maxHeartbeats 0
namespace Sc
open PySem PySem.Spec PyProof.Rows L2
abbrev FnQ : Type := Option (Str × Str × Arguments × FuncBody × Scope × Addr × List (Str × Addr) × Value × Addr)
def fnQ (K : PySem.W.Frag) (a : Addr) : FnQ := match K.lookup a with
  | some ⟨_, _, .func fd, _⟩ => some (fd.name, fd.qualname, fd.params, fd.body, fd.scope, fd.globals, fd.closure, fd.defaults, fd.builtins)
  | _ => none
def DefP.val (d : DefP) : FnQ := some (d.name, d.qual, defArgs d.st, .stmts (defBody d.st), defScope d.st, mainGlobals, [], .none, builtinsNs)
def DefP.ok (K : PySem.W.Frag) (d : DefP) : Bool := PySem.W.keepIn K (.ref d.at_) && (match K.lookup d.at_ with
  | some ⟨_, _, .func fd, _⟩ => PySem.W.codeIn K fd.code d.qual
  | _ => false)
theorem DefP.fun_ {K : PySem.W.Frag} {d : DefP} (e : fnQ K d.at_ = d.val) (c : d.ok K = true) : ∃ fd, Fun K d.name d.qual d.st d.at_ fd := by
  obtain ⟨c1, c2⟩ := band c
  unfold fnQ at e
  cases q : K.lookup d.at_ with
  | none => rw [q] at c2; cases c2
  | some o =>
    obtain ⟨oc, od, dt, osl⟩ := o
    rw [q] at c2 e
    cases dt with
    | func fd =>
      obtain ⟨a1, a2, a3, a4, a5, a6, a7, a8, a9, a10, a11, a12, a13, a14, a15⟩ := fd
      have e3 : (some (a1, a2, a3, a4, a5, a6, a7, a8, a15) : FnQ) = some (d.name, d.qual, defArgs d.st, .stmts (defBody d.st), defScope d.st, mainGlobals, [], .none, builtinsNs) := e
      simp only [Option.some.injEq, Prod.mk.injEq] at e3
      obtain ⟨g1, g2, g3, g4, g5, g6, g7, g8, g9⟩ := e3
      subst g1 g2 g3 g4 g5 g6 g7 g8 g9
      exact ⟨_, ⟨⟨oc, od, a9, a10, a11, a12, a13, a14, osl, rfl, q, c2⟩, c1⟩⟩
    | _ => cases c2
def lawC : Addr := 758
def lawT : Addr := 756
def codeLaw (K : PySem.W.Frag) : Bool := match K.lookup 759 with
  | some ⟨_, _, .func fd, _⟩ => (match fd.code with
    | .ref c => Nat.beq c lawC
    | _ => false)
  | _ => false
theorem codeLaw_of {K : PySem.W.Frag} (h : codeLaw K = true) {oc : Value} {od : Option Addr} {fd : FuncData} {osl : Array (Option Value)} (lk : K.lookup 759 = some ⟨oc, od, .func fd, osl⟩) : fd.code = .ref lawC := by
  unfold codeLaw at h
  rw [lk] at h
  dsimp only at h
  cases hc : fd.code with
  | ref c => rw [hc] at h; exact congrArg Value.ref (Nat.eq_of_beq_eq_true h)
  | _ => rw [hc] at h; cases h
def tabOk (g : Addr → Option Obj) (K : PySem.W.Frag) : Bool := (PySem.W.codeHdIn K lawC lawT && codeLaw K) && ((K.lookup lawT).isNone && (match g lawT with
  | some o => He.emptyTab o
  | none => false))
abbrev AlQ : Type := Bool × List (List FnQ)
def obsK (g : Addr → Option Obj) (K : PySem.W.Frag) : AlQ := ((fkA.all fun l => l.all fun f => f.ok K) && ((dpA.all fun l => l.all fun d => d.ok K) && tabOk g K), dpA.map fun l => l.map fun d => fnQ K d.at_)
def kOf (g : Addr → Option Obj) : PySem.W.Frag := He.frG g addrs.flatten
def valQ : AlQ := (true, dpA.map fun l => l.map DefP.val)
structure Says (h : Heap) (K : PySem.W.Frag) : Prop where
  kin : K.In h
  fk : ∀ l ∈ fkA, ∀ f ∈ l, f.ok K = true
  df : ∀ l ∈ dpA, ∀ d ∈ l, ∃ fd, Fun K d.name d.qual d.st d.at_ fd
  hd : PySem.W.codeHdIn K lawC lawT = true
  cl : codeLaw K = true
  out : K.lookup lawT = none
  emp : h.get? lawT = some { cls := .none, data := .fields #[] }
theorem says_of {h : Heap} (e : obsK h.get? (kOf h.get?) = valQ) : Says h (kOf h.get?) := by
  have e1 : ((fkA.all fun l => l.all fun f => f.ok (kOf h.get?)) && ((dpA.all fun l => l.all fun d => d.ok (kOf h.get?)) && tabOk h.get? (kOf h.get?))) = true := congrArg Prod.fst e
  have e2 : (dpA.map fun l => l.map fun d => fnQ (kOf h.get?) d.at_) = dpA.map fun l => l.map DefP.val := congrArg Prod.snd e
  obtain ⟨b1, b2⟩ := band e1
  obtain ⟨b3, b4⟩ := band b2
  obtain ⟨b50, b6⟩ := band b4
  obtain ⟨b5, b51⟩ := band b50
  obtain ⟨b7, b8⟩ := band b6
  refine ⟨He.frG_in, fun l hl f hf => List.all_eq_true.mp (List.all_eq_true.mp b1 l hl) f hf, fun l hl d hd => ?_, b5, b51, ?_, ?_⟩
  · have x1 := List.map_inj_left.mp e2 l hl
    have x2 := List.map_inj_left.mp x1 d hd
    exact DefP.fun_ x2 (List.all_eq_true.mp (List.all_eq_true.mp b3 l hl) d hd)
  · cases q : (kOf h.get?).lookup lawT with
    | none => rfl
    | some o => rw [q] at b7; cases b7
  · cases q : h.get? lawT with
    | none => rw [q] at b8; cases b8
    | some o => rw [q] at b8; rw [He.emptyTab_eq b8]
def hkQ : PySem.W.Hook where
  α := AlQ
  obs := fun s => obsK s.heap.get? (kOf s.heap.get?)
  val := fun _ => valQ
  says := fun _ h => ∃ K : PySem.W.Frag, Says h K
  of := fun _ _ e => ⟨_, says_of e⟩
  keeps := fun _ _ _ ⟨K, c⟩ k => ⟨K, ⟨PySem.W.Frag.In.keeps c.kin k, c.fk, c.df, c.hd, c.cl, c.out, k _ _ c.emp⟩⟩
abbrev R : PySem.W.OpenRow := PySem.W.OpenLaw.row PySem.Challenge.rw_smallcourt_k14_whole_clashes_and_swaps
def ob (s : PySem.W.SharedT) : AlQ := obsK (HandSHeadRun.getT s) (kOf (HandSHeadRun.getT s))
theorem ob_eq (s : PySem.W.SharedT) : ob s = hkQ.obs s.abs := by
  have e : HandSHeadRun.getT s = s.abs.heap.get? := funext (HandSHeadRun.getT_eq s)
  show obsK (HandSHeadRun.getT s) (kOf (HandSHeadRun.getT s)) = obsK s.abs.heap.get? (kOf s.abs.heap.get?)
  rw [e]
def names0 : List Str := [("_wall" : Str), ("CourtError" : Str), ("InvalidFacts" : Str), ("InvalidCase" : Str), ("InvalidNumber" : Str), ("InvalidCondition" : Str), ("NeverMet" : Str), ("InvalidRule" : Str), ("InvalidBook" : Str), ("UnknownRule" : Str), ("InvalidRuling" : Str), ("UnknownFact" : Str)]
def names1 : List Str := [("NoReason" : Str), ("TooMany" : Str), ("InvalidChance" : Str), ("OtherFacts" : Str), ("NoNeighbor" : Str), ("NoFacts" : Str), ("AlreadyKnown" : Str), ("LETTERS" : Str), ("LONGEST" : Str), ("MAX_FACTS" : Str), ("is_name" : Str), ("validate_facts" : Str)]
def names2 : List Str := [("validate_case" : Str), ("MAX_OUTERMOST" : Str), ("MAX_RULES" : Str), ("MAX_OPEN" : Str), ("Rule" : Str), ("rows_of" : Str), ("Book" : Str), ("with_inner" : Str), ("left_out" : Str), ("first_met" : Str), ("way_of" : Str), ("met_together" : Str)]
def names3 : List Str := [("clashes" : Str), ("swapped_rules" : Str), ("swapped" : Str), ("MAX_NAMES" : Str), ("Condition" : Str), ("_law_mix" : Str), ("_law_next" : Str), ("_law_alike" : Str), ("_law_error" : Str), ("_law_facts" : Str), ("_law_parts" : Str), ("_law_rules" : Str)]
def names4 : List Str := [("_law_rule" : Str), ("_law_book" : Str), ("_law_meets" : Str), ("_law_way" : Str), ("_law_ruled" : Str), ("_law_case" : Str), ("_law_every" : Str), ("_law_pairs" : Str), ("_law_changed" : Str)]
def names : List Str := names0 ++ (names1 ++ (names2 ++ (names3 ++ (names4))))
theorem run (w : World) : HandSHeadRun.RunEq R (PySem.W.view R.prog [63]) hkQ ob 8000 names w := by
  intro os
  kernel_rfl
end Sc
set_option Elab.async false
set_option maxRecDepth 100000
set_option maxHeartbeats 0
namespace Sc
open PySem PySem.Spec PyProof.Rows L2
theorem law_at {w : World} {mg : Str → Option Value} {fa : Addr} {h : Heap} (Y : hkQ.says w h) (G : h.Ns mainGlobals mg) (hm : mg "law" = some (.ref fa)) :
    ∃ K : PySem.W.Frag, K.In h ∧ LamX.LawAtS PySem.Challenge.rw_smallcourt_k14_whole_clashes_and_swaps w K (L2.CX PySem.Challenge.rw_smallcourt_k14_whole_clashes_and_swaps.prog w) 100 63 "_law_script" mg fa h := by
  obtain ⟨K, c⟩ := Y
  have T : Txt K mg := ⟨fun l hl f hf => Fk.sound c.kin G (c.fk l hl f hf), c.df⟩
  obtain ⟨fd, F⟩ := T.d_law
  have e := hm.symm.trans T.g_law
  cases e
  refine ⟨K, c.kin, fd, [(lawC, lawT)], spLaw K, ?_, ?_, ?_, ?_, ?_, ?_⟩
  · intro p hp
    cases List.mem_singleton.mp hp
    exact c.emp
  · intro p hp
    cases List.mem_singleton.mp hp
    exact c.out
  · intro p hp
    cases List.mem_singleton.mp hp
    exact PySem.W.codeHd_of_K c.kin c.hd
  · intro s u
    obtain ⟨oc, od, kV, doc, pm, an, cdv, ct, osl, rfl, _, _⟩ := F.ex
    exact .of_eq rfl
  · intro H a ns hl _ ht hS
    exact ⟨a, ns, rfl, hS, hl, ht _ (List.mem_singleton.mpr rfl), fun _ => rfl⟩
  · intro base KB GB hB
    exact ok_law0 ⟨fun l hl f hf => Fk.sound KB GB (c.fk l hl f hf), c.df⟩ F (hB _ (List.mem_singleton.mpr rfl)) fun oc od fd osl lk => codeLaw_of c.cl lk
end Sc
open PySem PySem.W PySem.Calls PyProof.Rows
theorem PySem.Challenge.cw_smallcourt_k14_whole_clashes_and_swaps_holds : PySem.Challenge.rw_smallcourt_k14_whole_clashes_and_swaps.Holds := by
  w_on; o_law
  refine HandSHeadRun.head_any (r := Sc.R) (q := view Sc.R.prog [63]) (H := Sc.hkQ) (ob := Sc.ob) (M := 8000) (loose := Sc.names) (d := HandSHeadRun.topDef Sc.R.prog 63) (kwd := []) Sc.ob_eq
    (by kernel_rfl) (fun s => by kernel_rfl) Sc.run (by kernel_rfl) (by kernel_rfl) (by kernel_rfl) (by rfl) (by first | assumption | decide +kernel) (by decide +kernel) ⟨rfl, rfl, rfl, rfl, rfl, by decide +kernel⟩ ?hw ?hc
  case hw => w_witness2
  case hc =>
    refine LamX.walk_ofTsE (l := PySem.Challenge.rw_smallcourt_k14_whole_clashes_and_swaps) (n := 63) (k := 100) (x := "_law_script") (CX := fun w => L2.CX PySem.Challenge.rw_smallcourt_k14_whole_clashes_and_swaps.prog w) rfl (by decide) (by kernel_rfl) ⟨rfl, by decide, by decide⟩ ?F ?C
    case F =>
      intro w mg fa h Y G hm
      have hm2 : mg ("law" : PySem.Str) = some (.ref fa) := by
        have e : (HandSHeadRun.topDef Sc.R.prog 63).name = ("law" : PySem.Str) := by kernel_rfl
        rw [← e]
        exact hm
      exact Sc.law_at Y G hm2
    case C =>
      intro w H s e s' c
      obtain ⟨_, _, _, _, _, _, _, _, _, _, _, _, z⟩ := c
      exact z
