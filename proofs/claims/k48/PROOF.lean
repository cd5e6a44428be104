import PyProof.Rows.All
import Wide.All
import OpenK.AllK
import Wide.FinOn
import HandS.ForMost
import HandS.Defaults
import HandS.Property
import HandS.OwnEq
import HandS.Head0
import HandS.Head1
import HandS.Head2
import HandS.HeadEnd
import HandS.HeadHook1
import HandS.HeadHook2
import HandS.Head3
import HandS.IsInst
import HandS.Gcd
import HandS.Wide
import HandS.WideBits
import HandS.Style
import HandS.Conv
import KE.KOpsOwn
import PyProof.NeKinds
import HandS.Walk
import HandS.Iter
import PyProof.P3Eq
import PySem.Challenge.RW_innerfractions_k48_whole_parts_of_what_i
set_option Elab.async false
set_option linter.all false
set_option maxRecDepth 100000
set_option maxHeartbeats 1000000
/-! T0: the text by places, the facts of the top. -/
namespace Tx
open PySem PySem.Spec PyProof.Rows L2
def top (i : Nat) : Stmt := PySem.Challenge.pw_innerfractions_k48_whole_parts_of_what_i.main.body.getD i (.Pass ⟨0, 0, 0, 0⟩)
/-- where a def stands: a module's name, a class's method, a property's getter -/
inductive Pl where
  | glo (x : Str)
  | meth (c m : Str)
  | get (c m : Str)
/-- the property c.m -/
def prA (K : PySem.W.Frag) (c m : Str) : Addr := He.ma K (He.ga K c) m
def plA (K : PySem.W.Frag) : Pl → Addr
  | .glo x => He.ga K x
  | .meth c m => He.ma K (He.ga K c) m
  | .get c m => match PySem.W.recIn K (prA K c m) "property" with
    | some (.ref g :: _) => g
    | _ => 0
def fnAt (K : PySem.W.Frag) (a : Addr) : He.FnW := match K.lookup a with
  | some ⟨_, _, .func d, _⟩ => some (d.name, d.qualname, d.params, d.body, d.scope, d.globals, d.closure, d.builtins)
  | _ => none
structure Df where
  pl : Pl
  name : Str
  qual : Str
  st : Stmt
  dfl : PySem.W.Frag → List V := fun _ => []
def Df.val (d : Df) : He.FnW := some (d.name, d.qual, defArgs d.st, .stmts (defBody d.st), defScope d.st, mainGlobals, [], builtinsNs)
/-- the def d stands at a -/
def okAt (K : PySem.W.Frag) (a : Addr) (d : Df) : Bool := PySem.W.keepIn K (.ref a) && (match K.lookup a with
  | some ⟨_, _, .func f, _⟩ => PySem.W.codeIn K f.code d.qual && He.dflB K f.defaults (d.dfl K)
  | _ => false)
def Df.ok (K : PySem.W.Frag) (d : Df) : Bool := okAt K (plA K d.pl) d
theorem Df.fd {K : PySem.W.Frag} {d : Df} (e : fnAt K (plA K d.pl) = d.val) (c : d.ok K = true) : ∃ f, FunD K d.name d.qual (defArgs d.st) (defBody d.st) (defScope d.st) (d.dfl K) [] (plA K d.pl) f := by
  unfold Df.ok okAt at c
  obtain ⟨kp, c2⟩ := He.ba c
  unfold fnAt at e
  cases q : K.lookup (plA K d.pl) with
  | none => rw [q] at c2; cases c2
  | some o =>
    obtain ⟨oc, od, dt, osl⟩ := o
    rw [q] at c2 e
    cases dt with
    | func f =>
      obtain ⟨n1, n2, n3, n4, n5, n6, n7, n8, n9, n10, n11, n12, n13, n14, n15⟩ := f
      have e2 : (some (n1, n2, n3, n4, n5, n6, n7, n15) : He.FnW) = some (d.name, d.qual, defArgs d.st, .stmts (defBody d.st), defScope d.st, mainGlobals, [], builtinsNs) := e
      simp only [Option.some.injEq, Prod.mk.injEq] at e2
      obtain ⟨h1, h2, h3, h4, h5, h6, h7, h8⟩ := e2
      subst h1 h2 h3 h4 h5 h6 h7 h8
      obtain ⟨k1, k2⟩ := He.ba (show (PySem.W.codeIn K n13 d.qual && He.dflB K n8 (d.dfl K)) = true from c2)
      exact ⟨_, ⟨oc, od, n8, n9, n10, n11, n12, n13, n14, osl, rfl, q, k1, He.dflB_ok k2, .inl rfl⟩, kp⟩
    | _ => cases c2
abbrev sIsInteger : Stmt := top 18
abbrev sIsList : Stmt := top 19
abbrev sWantAtMost : Stmt := top 20
abbrev sDivisorOf : Stmt := top 24
abbrev sToldPair : Stmt := top 26
abbrev sIsNumber : Stmt := top 27
abbrev sRatioOf : Stmt := top 28
abbrev sWholes : Stmt := top 30
abbrev sIsPoly : Stmt := top 34
abbrev sTrimmed : Stmt := top 35
abbrev sWantPoly : Stmt := top 36
abbrev sSumOf : Stmt := top 37
abbrev sByNumber : Stmt := top 38
abbrev sLessOf : Stmt := top 39
abbrev sIntProduct : Stmt := top 40
abbrev sProductOf : Stmt := top 41
abbrev sSlopeOf : Stmt := top 42
abbrev sHeaded : Stmt := top 43
abbrev sPartsOf : Stmt := top 44
abbrev sPlainRow : Stmt := top 46
abbrev sIntRest : Stmt := top 47
abbrev sIntCommon : Stmt := top 48
abbrev sCommonOf : Stmt := top 49
abbrev sLowest : Stmt := top 52
abbrev sPowersOf : Stmt := top 53
abbrev sPutPair : Stmt := top 54
abbrev sRightPair : Stmt := top 56
abbrev sKnownFraction : Stmt := top 59
abbrev sWantFraction : Stmt := top 62
abbrev sHeadedPair : Stmt := top 63
abbrev sPut : Stmt := top 64
abbrev sIsPlace : Stmt := top 67
abbrev sWantPlace : Stmt := top 68
abbrev sIsBeyond : Stmt := top 69
abbrev sPairOf : Stmt := top 70
abbrev sPlaceBy : Stmt := top 71
abbrev sWorthBy : Stmt := top 72
abbrev sWorthOf : Stmt := top 73
abbrev sPlainOf : Stmt := top 76
abbrev sFilled : Stmt := top 77
abbrev sToldOf : Stmt := top 78
abbrev sProductIn : Stmt := top 79
abbrev sRestIn : Stmt := top 80
abbrev sDividesIn : Stmt := top 81
abbrev sHowOften : Stmt := top 82
abbrev sFormIn : Stmt := top 83
abbrev sWantForm : Stmt := top 84
abbrev sAreLike : Stmt := top 85
abbrev sProduct : Stmt := top 86
abbrev sDivides : Stmt := top 87
abbrev sRestForm : Stmt := top 88
abbrev sWantFull : Stmt := top 91
abbrev sFibreOf : Stmt := top 92
abbrev sTurningOf : Stmt := top 93
abbrev sFibre : Stmt := top 94
abbrev sTurning : Stmt := top 95
abbrev sPartOf : Stmt := top 97
abbrev sPart : Stmt := top 98
abbrev sTaken : Stmt := top 99
abbrev sLPot : Stmt := top 101
abbrev sLDraw : Stmt := top 102
abbrev sLPick : Stmt := top 103
abbrev sLLow : Stmt := top 104
abbrev sLSum : Stmt := top 105
abbrev sLBy : Stmt := top 106
abbrev sLOver : Stmt := top 107
abbrev sLTrim : Stmt := top 108
abbrev sLPlus : Stmt := top 109
abbrev sLScaled : Stmt := top 110
abbrev sLTimes : Stmt := top 111
abbrev sLWorth : Stmt := top 112
abbrev sLDivided : Stmt := top 113
abbrev sLCommon : Stmt := top 114
abbrev sLPassed : Stmt := top 115
abbrev sLGiven : Stmt := top 116
abbrev sLTold : Stmt := top 117
abbrev sLEntry : Stmt := top 118
abbrev sLPoly : Stmt := top 119
abbrev sLStanding : Stmt := top 120
abbrev sLFilled : Stmt := top 121
abbrev sLHeaded : Stmt := top 122
abbrev sLLowest : Stmt := top 123
abbrev sLDegree : Stmt := top 124
abbrev sLFull : Stmt := top 125
abbrev sLWorthAt : Stmt := top 126
abbrev sLFibre : Stmt := top 127
abbrev sLPart : Stmt := top 128
abbrev sLOf : Stmt := top 129
abbrev sLMade : Stmt := top 130
abbrev sLPlace : Stmt := top 131
abbrev sLGivenPlace : Stmt := top 132
abbrev sLLed : Stmt := top 133
abbrev sLGivenForm : Stmt := top 134
abbrev sLPlaceRight : Stmt := top 135
abbrev sLTurningRight : Stmt := top 136
abbrev sLRight : Stmt := top 137
abbrev sLLaw : Stmt := top 138
abbrev sRatio_Init : Stmt := inClass (top 25) 0
abbrev sRatio_Top : Stmt := inClass (top 25) 1
abbrev sRatio_Bottom : Stmt := inClass (top 25) 2
abbrev sRatio_Sign : Stmt := inClass (top 25) 3
abbrev sRatio_Add : Stmt := inClass (top 25) 6
abbrev sRatio_Sub : Stmt := inClass (top 25) 8
abbrev sRatio_Mul : Stmt := inClass (top 25) 10
abbrev sRatio_Neg : Stmt := inClass (top 25) 12
abbrev sRatio_Over : Stmt := inClass (top 25) 13
abbrev sRatio_Eq : Stmt := inClass (top 25) 17
abbrev sKnown_Init : Stmt := inClass (top 55) 0
abbrev sFraction_Init : Stmt := inClass (top 57) 0
abbrev sFraction_Degree : Stmt := inClass (top 57) 1
abbrev sFraction_Eq : Stmt := inClass (top 57) 14
def dIsInteger : Df := ⟨.glo "is_integer", "is_integer", "is_integer", sIsInteger, fun _ => []⟩
def dIsList : Df := ⟨.glo "is_list", "is_list", "is_list", sIsList, fun _ => []⟩
def dWantAtMost : Df := ⟨.glo "want_at_most", "want_at_most", "want_at_most", sWantAtMost, fun _ => []⟩
def dDivisorOf : Df := ⟨.glo "divisor_of", "divisor_of", "divisor_of", sDivisorOf, fun _ => []⟩
def dToldPair : Df := ⟨.glo "told_pair", "told_pair", "told_pair", sToldPair, fun _ => []⟩
def dIsNumber : Df := ⟨.glo "is_number", "is_number", "is_number", sIsNumber, fun _ => []⟩
def dRatioOf : Df := ⟨.glo "ratio_of", "ratio_of", "ratio_of", sRatioOf, fun _ => []⟩
def dWholes : Df := ⟨.glo "wholes", "wholes", "wholes", sWholes, fun _ => []⟩
def dIsPoly : Df := ⟨.glo "is_poly", "is_poly", "is_poly", sIsPoly, fun _ => []⟩
def dTrimmed : Df := ⟨.glo "trimmed", "trimmed", "trimmed", sTrimmed, fun _ => []⟩
def dWantPoly : Df := ⟨.glo "want_poly", "want_poly", "want_poly", sWantPoly, fun _ => []⟩
def dSumOf : Df := ⟨.glo "sum_of", "sum_of", "sum_of", sSumOf, fun _ => []⟩
def dByNumber : Df := ⟨.glo "by_number", "by_number", "by_number", sByNumber, fun _ => []⟩
def dLessOf : Df := ⟨.glo "less_of", "less_of", "less_of", sLessOf, fun _ => []⟩
def dIntProduct : Df := ⟨.glo "int_product", "int_product", "int_product", sIntProduct, fun _ => []⟩
def dProductOf : Df := ⟨.glo "product_of", "product_of", "product_of", sProductOf, fun _ => []⟩
def dSlopeOf : Df := ⟨.glo "slope_of", "slope_of", "slope_of", sSlopeOf, fun _ => []⟩
def dHeaded : Df := ⟨.glo "headed", "headed", "headed", sHeaded, fun _ => []⟩
def dPartsOf : Df := ⟨.glo "parts_of", "parts_of", "parts_of", sPartsOf, fun _ => []⟩
def dPlainRow : Df := ⟨.glo "plain_row", "plain_row", "plain_row", sPlainRow, fun _ => []⟩
def dIntRest : Df := ⟨.glo "int_rest", "int_rest", "int_rest", sIntRest, fun _ => []⟩
def dIntCommon : Df := ⟨.glo "int_common", "int_common", "int_common", sIntCommon, fun _ => []⟩
def dCommonOf : Df := ⟨.glo "common_of", "common_of", "common_of", sCommonOf, fun _ => []⟩
def dLowest : Df := ⟨.glo "lowest", "lowest", "lowest", sLowest, fun _ => []⟩
def dPowersOf : Df := ⟨.glo "powers_of", "powers_of", "powers_of", sPowersOf, fun _ => []⟩
def dPutPair : Df := ⟨.glo "put_pair", "put_pair", "put_pair", sPutPair, fun _ => []⟩
def dRightPair : Df := ⟨.glo "right_pair", "right_pair", "right_pair", sRightPair, fun _ => []⟩
def dKnownFraction : Df := ⟨.glo "known_fraction", "known_fraction", "known_fraction", sKnownFraction, fun _ => []⟩
def dWantFraction : Df := ⟨.glo "want_fraction", "want_fraction", "want_fraction", sWantFraction, fun _ => []⟩
def dHeadedPair : Df := ⟨.glo "headed_pair", "headed_pair", "headed_pair", sHeadedPair, fun _ => []⟩
def dPut : Df := ⟨.glo "put", "put", "put", sPut, fun _ => []⟩
def dIsPlace : Df := ⟨.glo "is_place", "is_place", "is_place", sIsPlace, fun _ => []⟩
def dWantPlace : Df := ⟨.glo "want_place", "want_place", "want_place", sWantPlace, fun _ => []⟩
def dIsBeyond : Df := ⟨.glo "is_beyond", "is_beyond", "is_beyond", sIsBeyond, fun _ => []⟩
def dPairOf : Df := ⟨.glo "pair_of", "pair_of", "pair_of", sPairOf, fun _ => []⟩
def dPlaceBy : Df := ⟨.glo "place_by", "place_by", "place_by", sPlaceBy, fun _ => []⟩
def dWorthBy : Df := ⟨.glo "worth_by", "worth_by", "worth_by", sWorthBy, fun _ => []⟩
def dWorthOf : Df := ⟨.glo "worth_of", "worth_of", "worth_of", sWorthOf, fun _ => []⟩
def dPlainOf : Df := ⟨.glo "plain_of", "plain_of", "plain_of", sPlainOf, fun _ => []⟩
def dFilled : Df := ⟨.glo "filled", "filled", "filled", sFilled, fun _ => []⟩
def dToldOf : Df := ⟨.glo "told_of", "told_of", "told_of", sToldOf, fun _ => []⟩
def dProductIn : Df := ⟨.glo "product_in", "product_in", "product_in", sProductIn, fun _ => []⟩
def dRestIn : Df := ⟨.glo "rest_in", "rest_in", "rest_in", sRestIn, fun _ => []⟩
def dDividesIn : Df := ⟨.glo "divides_in", "divides_in", "divides_in", sDividesIn, fun _ => []⟩
def dHowOften : Df := ⟨.glo "how_often", "how_often", "how_often", sHowOften, fun _ => []⟩
def dFormIn : Df := ⟨.glo "form_in", "form_in", "form_in", sFormIn, fun _ => []⟩
def dWantForm : Df := ⟨.glo "want_form", "want_form", "want_form", sWantForm, fun _ => []⟩
def dAreLike : Df := ⟨.glo "are_like", "are_like", "are_like", sAreLike, fun _ => []⟩
def dProduct : Df := ⟨.glo "product", "product", "product", sProduct, fun _ => []⟩
def dDivides : Df := ⟨.glo "divides", "divides", "divides", sDivides, fun _ => []⟩
def dRestForm : Df := ⟨.glo "rest_form", "rest_form", "rest_form", sRestForm, fun _ => []⟩
def dWantFull : Df := ⟨.glo "want_full", "want_full", "want_full", sWantFull, fun _ => []⟩
def dFibreOf : Df := ⟨.glo "fibre_of", "fibre_of", "fibre_of", sFibreOf, fun _ => []⟩
def dTurningOf : Df := ⟨.glo "turning_of", "turning_of", "turning_of", sTurningOf, fun _ => []⟩
def dFibre : Df := ⟨.glo "fibre", "fibre", "fibre", sFibre, fun _ => []⟩
def dTurning : Df := ⟨.glo "turning", "turning", "turning", sTurning, fun _ => []⟩
def dPartOf : Df := ⟨.glo "part_of", "part_of", "part_of", sPartOf, fun _ => []⟩
def dPart : Df := ⟨.glo "part", "part", "part", sPart, fun _ => []⟩
def dTaken : Df := ⟨.glo "taken", "taken", "taken", sTaken, fun _ => []⟩
def dLPot : Df := ⟨.glo "_law_pot", "_law_pot", "_law_pot", sLPot, fun _ => []⟩
def dLDraw : Df := ⟨.glo "_law_draw", "_law_draw", "_law_draw", sLDraw, fun _ => []⟩
def dLPick : Df := ⟨.glo "_law_pick", "_law_pick", "_law_pick", sLPick, fun _ => []⟩
def dLLow : Df := ⟨.glo "_law_low", "_law_low", "_law_low", sLLow, fun _ => []⟩
def dLSum : Df := ⟨.glo "_law_sum", "_law_sum", "_law_sum", sLSum, fun _ => []⟩
def dLBy : Df := ⟨.glo "_law_by", "_law_by", "_law_by", sLBy, fun _ => []⟩
def dLOver : Df := ⟨.glo "_law_over", "_law_over", "_law_over", sLOver, fun _ => []⟩
def dLTrim : Df := ⟨.glo "_law_trim", "_law_trim", "_law_trim", sLTrim, fun _ => []⟩
def dLPlus : Df := ⟨.glo "_law_plus", "_law_plus", "_law_plus", sLPlus, fun _ => []⟩
def dLScaled : Df := ⟨.glo "_law_scaled", "_law_scaled", "_law_scaled", sLScaled, fun _ => []⟩
def dLTimes : Df := ⟨.glo "_law_times", "_law_times", "_law_times", sLTimes, fun _ => []⟩
def dLWorth : Df := ⟨.glo "_law_worth", "_law_worth", "_law_worth", sLWorth, fun _ => []⟩
def dLDivided : Df := ⟨.glo "_law_divided", "_law_divided", "_law_divided", sLDivided, fun _ => []⟩
def dLCommon : Df := ⟨.glo "_law_common", "_law_common", "_law_common", sLCommon, fun _ => []⟩
def dLPassed : Df := ⟨.glo "_law_passed", "_law_passed", "_law_passed", sLPassed, fun _ => []⟩
def dLGiven : Df := ⟨.glo "_law_given", "_law_given", "_law_given", sLGiven, fun _ => []⟩
def dLTold : Df := ⟨.glo "_law_told", "_law_told", "_law_told", sLTold, fun _ => []⟩
def dLEntry : Df := ⟨.glo "_law_entry", "_law_entry", "_law_entry", sLEntry, fun _ => []⟩
def dLPoly : Df := ⟨.glo "_law_poly", "_law_poly", "_law_poly", sLPoly, fun _ => []⟩
def dLStanding : Df := ⟨.glo "_law_standing", "_law_standing", "_law_standing", sLStanding, fun _ => []⟩
def dLFilled : Df := ⟨.glo "_law_filled", "_law_filled", "_law_filled", sLFilled, fun _ => []⟩
def dLHeaded : Df := ⟨.glo "_law_headed", "_law_headed", "_law_headed", sLHeaded, fun _ => []⟩
def dLLowest : Df := ⟨.glo "_law_lowest", "_law_lowest", "_law_lowest", sLLowest, fun _ => []⟩
def dLDegree : Df := ⟨.glo "_law_degree", "_law_degree", "_law_degree", sLDegree, fun _ => []⟩
def dLFull : Df := ⟨.glo "_law_full", "_law_full", "_law_full", sLFull, fun _ => []⟩
def dLWorthAt : Df := ⟨.glo "_law_worth_at", "_law_worth_at", "_law_worth_at", sLWorthAt, fun _ => []⟩
def dLFibre : Df := ⟨.glo "_law_fibre", "_law_fibre", "_law_fibre", sLFibre, fun _ => []⟩
def dLPart : Df := ⟨.glo "_law_part", "_law_part", "_law_part", sLPart, fun _ => []⟩
def dLOf : Df := ⟨.glo "_law_of", "_law_of", "_law_of", sLOf, fun _ => []⟩
def dLMade : Df := ⟨.glo "_law_made", "_law_made", "_law_made", sLMade, fun _ => []⟩
def dLPlace : Df := ⟨.glo "_law_place", "_law_place", "_law_place", sLPlace, fun _ => []⟩
def dLGivenPlace : Df := ⟨.glo "_law_given_place", "_law_given_place", "_law_given_place", sLGivenPlace, fun _ => []⟩
def dLLed : Df := ⟨.glo "_law_led", "_law_led", "_law_led", sLLed, fun _ => []⟩
def dLGivenForm : Df := ⟨.glo "_law_given_form", "_law_given_form", "_law_given_form", sLGivenForm, fun _ => []⟩
def dLPlaceRight : Df := ⟨.glo "_law_place_right", "_law_place_right", "_law_place_right", sLPlaceRight, fun _ => []⟩
def dLTurningRight : Df := ⟨.glo "_law_turning_right", "_law_turning_right", "_law_turning_right", sLTurningRight, fun _ => []⟩
def dLRight : Df := ⟨.glo "_law_right", "_law_right", "_law_right", sLRight, fun _ => []⟩
def dLLaw : Df := ⟨.glo "law", "law", "law", sLLaw, fun _ => []⟩
def dRatio_Init : Df := ⟨.meth "Ratio" "__init__", "__init__", "Ratio.__init__", sRatio_Init, fun _ => [.int 1]⟩
def dRatio_Top : Df := ⟨.get "Ratio" "top", "top", "Ratio.top", sRatio_Top, fun _ => []⟩
def dRatio_Bottom : Df := ⟨.get "Ratio" "bottom", "bottom", "Ratio.bottom", sRatio_Bottom, fun _ => []⟩
def dRatio_Sign : Df := ⟨.get "Ratio" "sign", "sign", "Ratio.sign", sRatio_Sign, fun _ => []⟩
def dRatio_Add : Df := ⟨.meth "Ratio" "__add__", "__add__", "Ratio.__add__", sRatio_Add, fun _ => []⟩
def dRatio_Sub : Df := ⟨.meth "Ratio" "__sub__", "__sub__", "Ratio.__sub__", sRatio_Sub, fun _ => []⟩
def dRatio_Mul : Df := ⟨.meth "Ratio" "__mul__", "__mul__", "Ratio.__mul__", sRatio_Mul, fun _ => []⟩
def dRatio_Neg : Df := ⟨.meth "Ratio" "__neg__", "__neg__", "Ratio.__neg__", sRatio_Neg, fun _ => []⟩
def dRatio_Over : Df := ⟨.meth "Ratio" "over", "over", "Ratio.over", sRatio_Over, fun _ => []⟩
def dRatio_Eq : Df := ⟨.meth "Ratio" "__eq__", "__eq__", "Ratio.__eq__", sRatio_Eq, fun _ => []⟩
def dKnown_Init : Df := ⟨.meth "Known" "__init__", "__init__", "Known.__init__", sKnown_Init, fun _ => []⟩
def dFraction_Init : Df := ⟨.meth "Fraction" "__init__", "__init__", "Fraction.__init__", sFraction_Init, fun K => [.ref (He.dflAt ("Fraction", some "__init__") 0 K)]⟩
def dFraction_Degree : Df := ⟨.get "Fraction" "degree", "degree", "Fraction.degree", sFraction_Degree, fun _ => []⟩
def dFraction_Eq : Df := ⟨.meth "Fraction" "__eq__", "__eq__", "Fraction.__eq__", sFraction_Eq, fun _ => []⟩
def fns : List Df := [dIsInteger, dIsList, dWantAtMost, dDivisorOf, dToldPair, dIsNumber, dRatioOf, dWholes, dIsPoly, dTrimmed, dWantPoly, dSumOf, dByNumber, dLessOf, dIntProduct, dProductOf, dSlopeOf, dHeaded, dPartsOf, dPlainRow, dIntRest, dIntCommon, dCommonOf, dLowest, dPowersOf, dPutPair, dRightPair, dKnownFraction, dWantFraction, dHeadedPair, dPut, dIsPlace, dWantPlace, dIsBeyond, dPairOf, dPlaceBy, dWorthBy, dWorthOf, dPlainOf, dFilled, dToldOf, dProductIn, dRestIn, dDividesIn, dHowOften, dFormIn, dWantForm, dAreLike, dProduct, dDivides, dRestForm, dWantFull, dFibreOf, dTurningOf, dFibre, dTurning, dPartOf, dPart, dTaken, dLPot, dLDraw, dLPick, dLLow, dLSum, dLBy, dLOver, dLTrim, dLPlus, dLScaled, dLTimes, dLWorth, dLDivided, dLCommon, dLPassed, dLGiven, dLTold, dLEntry, dLPoly, dLStanding, dLFilled, dLHeaded, dLLowest, dLDegree, dLFull, dLWorthAt, dLFibre, dLPart, dLOf, dLMade, dLPlace, dLGivenPlace, dLLed, dLGivenForm, dLPlaceRight, dLTurningRight, dLRight, dLLaw, dRatio_Init, dRatio_Top, dRatio_Bottom, dRatio_Sign, dRatio_Add, dRatio_Sub, dRatio_Mul, dRatio_Neg, dRatio_Over, dRatio_Eq, dKnown_Init, dFraction_Init, dFraction_Degree, dFraction_Eq]
def fas : List He.Fa := [.glo "is_integer", .glo "is_list", .glo "want_at_most", .glo "divisor_of", .glo "told_pair", .glo "is_number", .glo "ratio_of", .glo "wholes", .glo "is_poly", .glo "trimmed", .glo "want_poly", .glo "sum_of", .glo "by_number", .glo "less_of", .glo "int_product", .glo "product_of", .glo "slope_of", .glo "headed", .glo "parts_of", .glo "plain_row", .glo "int_rest", .glo "int_common", .glo "common_of", .glo "lowest", .glo "powers_of", .glo "put_pair", .glo "right_pair", .glo "known_fraction", .glo "want_fraction", .glo "headed_pair", .glo "put", .glo "is_place", .glo "want_place", .glo "is_beyond", .glo "pair_of", .glo "place_by", .glo "worth_by", .glo "worth_of", .glo "plain_of", .glo "filled", .glo "told_of", .glo "product_in", .glo "rest_in", .glo "divides_in", .glo "how_often", .glo "form_in", .glo "want_form", .glo "are_like", .glo "product", .glo "divides", .glo "rest_form", .glo "want_full", .glo "fibre_of", .glo "turning_of", .glo "fibre", .glo "turning", .glo "part_of", .glo "part", .glo "taken", .glo "_law_pot", .glo "_law_draw", .glo "_law_pick", .glo "_law_low", .glo "_law_sum", .glo "_law_by", .glo "_law_over", .glo "_law_trim", .glo "_law_plus", .glo "_law_scaled", .glo "_law_times", .glo "_law_worth", .glo "_law_divided", .glo "_law_common", .glo "_law_passed", .glo "_law_given", .glo "_law_told", .glo "_law_entry", .glo "_law_poly", .glo "_law_standing", .glo "_law_filled", .glo "_law_headed", .glo "_law_lowest", .glo "_law_degree", .glo "_law_full", .glo "_law_worth_at", .glo "_law_fibre", .glo "_law_part", .glo "_law_of", .glo "_law_made", .glo "_law_place", .glo "_law_given_place", .glo "_law_led", .glo "_law_given_form", .glo "_law_place_right", .glo "_law_turning_right", .glo "_law_right", .glo "law", .glo "Ratio", .glo "Known", .glo "Fraction", .free "len", .free "range", .free "max", .free "min", .free "abs", .free "int", .free "list", .free "tuple", .free "isinstance", .free "bool", .free "str", .free "all", .free "enumerate", .free "zip", .free "divmod", .int "MOST_NUMBERS" 25, .int "MOST_DEGREE_fractions" 24, .int "MOST_DEGREE_forms" 24, .int "MOST_TURNING" 12, .str "BEYOND" "beyond", .cls "Ratio", .noat "Ratio" "own_top", .noat "Ratio" "own_bottom", .mkr "Ratio", .cls "Known", .noat "Known" "own_top", .noat "Known" "own_bottom", .mkr "Known", .cls "Fraction", .noat "Fraction" "own_top", .noat "Fraction" "own_bottom", .mkr "Fraction", .meth "Ratio" "over"]
def rA (K : PySem.W.Frag) : Addr := He.ga K "Ratio"
def kA (K : PySem.W.Frag) : Addr := He.ga K "Known"
def fA (K : PySem.W.Frag) : Addr := He.ga K "Fraction"
/-- an object whose keys are all names -/
def nsB (K : PySem.W.Frag) (a : Addr) : Bool := match K.lookup a with
  | some ⟨_, _, .dict es _, _⟩ => es.all fun e => match e.key with
    | .str _ _ => true
    | _ => false
  | _ => false
def bIs (a b : Option (Option Value)) : Bool := decide (a = b)
def bSub (a : Option Bool) (b : Bool) : Bool := decide (a = some b)
def modB (K : PySem.W.Frag) : Bool := match PySem.W.nsIn K mainGlobals "__builtins__" with
  | some (some (.ref b)) => (match K.lookup b with
    | some ⟨.type c, some d, _, _⟩ => decide (c = "module") && decide (d = builtinsNs)
    | _ => false)
  | _ => false
def clsX (K : PySem.W.Frag) (C : Addr) : Bool := bIs (PySem.W.findIn K (.ref C) "__class__") (some (some (.builtin "object.__class__"))) && bSub (PySem.W.mroIn K C (.type "object")) true
def proB (K : PySem.W.Frag) (c m : Str) : Bool := bIs (PySem.W.findIn K (.ref (He.ga K c)) m) (some (some (.ref (prA K c m)))) && (bIs (PySem.W.specialIn K (.ref (prA K c m)) "__get__") (some (some (.builtin "property.__get__"))) && (bSub (PySem.W.takesIn K (.ref (prA K c m))) true &&
  (match PySem.W.recIn K (prA K c m) "property" with
    | some (.ref _ :: _) => true
    | _ => false)))
def opB (K : PySem.W.Frag) (c m : Str) : Bool := bIs (PySem.W.findIn K (.ref (He.ga K c)) m) (some (some (.ref (He.ma K (He.ga K c) m)))) && PySem.W.isFn K (.ref (He.ma K (He.ga K c) m))
def exBs (K : PySem.W.Frag) : List Bool := [bIs (PySem.W.nsIn K mainGlobals "gcd") (some (some (.builtin "math.gcd"))), bIs (PySem.W.nsIn K mainGlobals "lcm") (some (some (.builtin "math.lcm"))),
  bIs (PySem.W.nsIn K cStatics "sys.audit-hooks") (some none), bIs (PySem.W.nsIn K cStatics "sys.dict") (some none), bIs (PySem.W.nsIn K sysModules "_pylong") (some none), nsB K sysModules, modB K,
  clsX K (rA K), clsX K (kA K), clsX K (fA K), bIs (PySem.W.specialIn K (.builtin "object.__class__") "__get__") (some (some (.builtin "getset_descriptor.__get__"))), bSub (PySem.W.takesIn K (.builtin "object.__class__")) true,
  proB K "Ratio" "top", proB K "Ratio" "bottom", proB K "Ratio" "sign", proB K "Fraction" "degree",
  opB K "Ratio" "__add__", opB K "Ratio" "__sub__", opB K "Ratio" "__mul__", opB K "Ratio" "__neg__", opB K "Ratio" "__eq__", opB K "Ratio" "__rmul__", opB K "Fraction" "__eq__", PySem.W.selfFirst K (rA K),
  (PySem.W.findIn K (.type "int") "__mul__").isSome, (PySem.W.findIn K (.type "int") "__rmul__").isSome, bSub (PySem.W.subIn K (.type "int") (.ref (rA K))) false,
  bSub (PySem.W.kitOne K (.ref (rA K)) (.type "int")) false, bSub (PySem.W.kitOne K (.ref (rA K)) (.ref (rA K))) true, bSub (PySem.W.kitOne K (.type "int") (.ref (rA K))) false, bSub (PySem.W.kitOne K (.type "str") (.ref (rA K))) false,
  bSub (PySem.W.kitOne K (.ref (rA K)) (.type "str")) false, bSub (PySem.W.kitOne K (.ref (kA K)) (.ref (kA K))) true, bSub (PySem.W.kitOne K (.type "list") (.ref (kA K))) false, bSub (PySem.W.kitOne K (.type "tuple") (.ref (kA K))) false,
  bSub (PySem.W.kitOne K (.ref (fA K)) (.ref (fA K))) true]
def exB (K : PySem.W.Frag) : Bool := (exBs K).all id
/-- what holds of the objects behind the top -/
structure Fc (K : PySem.W.Frag) : Prop where
  fnv : fns.map (fun d => fnAt K (plA K d.pl)) = fns.map Df.val
  fnk : (fns.all fun d => d.ok K) = true
  fa : (fas.all fun f => f.ok K) = true
  ex : exB K = true
section
variable {K : PySem.W.Frag}
theorem Fc.fn (c : Fc K) (i : Nat) {d : Df} (h : fns[i]? = some d) : ∃ f, FunD K d.name d.qual (defArgs d.st) (defBody d.st) (defScope d.st) (d.dfl K) [] (plA K d.pl) f := by
  have e : (fns.map fun d => fnAt K (plA K d.pl))[i]? = (fns.map Df.val)[i]? := by rw [c.fnv]
  rw [List.getElem?_map, List.getElem?_map, h] at e
  exact Df.fd (Option.some.inj e) (List.all_eq_true.mp c.fnk d (List.mem_of_getElem? h))
theorem Fc.fact (c : Fc K) (i : Nat) {f : He.Fa} (h : fas[i]? = some f) : f.ok K = true := List.all_eq_true.mp c.fa f (List.mem_of_getElem? h)
theorem Fc.x (c : Fc K) (i : Nat) {b : Bool} (h : (exBs K)[i]? = some b) : b = true := List.all_eq_true.mp (show (exBs K).all id = true from c.ex) b (List.mem_of_getElem? h)
theorem bIs_ok {a b : Option (Option Value)} (h : bIs a b = true) : a = b := of_decide_eq_true h
theorem bSub_ok {a : Option Bool} {b : Bool} (h : bSub a b = true) : a = some b := of_decide_eq_true h
/-- the whole observation of the heap g -/
def sizeK : Nat := 2000
def refsAt (g : Addr → Option Obj) (a : Addr) : List Addr := match g a with
  | some o => He.refsD o
  | none => []
/-- what is looked up most stands first -/
def hot1 (g : Addr → Option Obj) (l1 : List Addr) : List Addr := (fun l2 => (fun l3 => mainGlobals :: (l1 ++ (l2 ++ (l3 ++ (l3.flatMap (refsAt g) ++ List.range sizeK))))) (l2.flatMap (refsAt g))) (l1.flatMap (refsAt g))
def hotK (g : Addr → Option Obj) : List Addr := hot1 g (refsAt g mainGlobals)
def frK (g : Addr → Option Obj) : PySem.W.Frag := He.frG g (hotK g)
abbrev Al : Type := Bool × List He.FnW
def obsK (K : PySem.W.Frag) : Al := (exB K && ((fas.all fun f => f.ok K) && fns.all fun d => d.ok K), fns.map fun d => fnAt K (plA K d.pl))
def valK : Al := (true, fns.map Df.val)
theorem fc_of (e : obsK K = valK) : Fc K := by
  have h1 : (exB K && ((fas.all fun f => f.ok K) && fns.all fun d => d.ok K)) = true := congrArg (fun z : Al => z.1) e
  obtain ⟨a, b⟩ := He.ba h1
  obtain ⟨b, c⟩ := He.ba b
  exact ⟨congrArg (fun z : Al => z.2) e, c, b, a⟩
def hkK : PySem.W.Hook where
  α := Al
  obs := fun s => obsK (frK s.heap.get?)
  val := fun _ => valK
  says := fun _ h => ∃ K : PySem.W.Frag, K.In h ∧ Fc K
  of := fun _ _ e => ⟨_, He.frG_in, fc_of e⟩
  keeps := fun _ _ _ ⟨K, hK, c⟩ k => ⟨K, PySem.W.Frag.In.keeps hK k, c⟩
theorem Fc.fIsInteger (c : Fc K) : ∃ f, FunD K "is_integer" "is_integer" (defArgs sIsInteger) (defBody sIsInteger) (defScope sIsInteger) [] [] (plA K (.glo "is_integer")) f := c.fn 0 (d := dIsInteger) rfl
theorem Fc.fIsList (c : Fc K) : ∃ f, FunD K "is_list" "is_list" (defArgs sIsList) (defBody sIsList) (defScope sIsList) [] [] (plA K (.glo "is_list")) f := c.fn 1 (d := dIsList) rfl
theorem Fc.fWantAtMost (c : Fc K) : ∃ f, FunD K "want_at_most" "want_at_most" (defArgs sWantAtMost) (defBody sWantAtMost) (defScope sWantAtMost) [] [] (plA K (.glo "want_at_most")) f := c.fn 2 (d := dWantAtMost) rfl
theorem Fc.fDivisorOf (c : Fc K) : ∃ f, FunD K "divisor_of" "divisor_of" (defArgs sDivisorOf) (defBody sDivisorOf) (defScope sDivisorOf) [] [] (plA K (.glo "divisor_of")) f := c.fn 3 (d := dDivisorOf) rfl
theorem Fc.fToldPair (c : Fc K) : ∃ f, FunD K "told_pair" "told_pair" (defArgs sToldPair) (defBody sToldPair) (defScope sToldPair) [] [] (plA K (.glo "told_pair")) f := c.fn 4 (d := dToldPair) rfl
theorem Fc.fIsNumber (c : Fc K) : ∃ f, FunD K "is_number" "is_number" (defArgs sIsNumber) (defBody sIsNumber) (defScope sIsNumber) [] [] (plA K (.glo "is_number")) f := c.fn 5 (d := dIsNumber) rfl
theorem Fc.fRatioOf (c : Fc K) : ∃ f, FunD K "ratio_of" "ratio_of" (defArgs sRatioOf) (defBody sRatioOf) (defScope sRatioOf) [] [] (plA K (.glo "ratio_of")) f := c.fn 6 (d := dRatioOf) rfl
theorem Fc.fWholes (c : Fc K) : ∃ f, FunD K "wholes" "wholes" (defArgs sWholes) (defBody sWholes) (defScope sWholes) [] [] (plA K (.glo "wholes")) f := c.fn 7 (d := dWholes) rfl
theorem Fc.fIsPoly (c : Fc K) : ∃ f, FunD K "is_poly" "is_poly" (defArgs sIsPoly) (defBody sIsPoly) (defScope sIsPoly) [] [] (plA K (.glo "is_poly")) f := c.fn 8 (d := dIsPoly) rfl
theorem Fc.fTrimmed (c : Fc K) : ∃ f, FunD K "trimmed" "trimmed" (defArgs sTrimmed) (defBody sTrimmed) (defScope sTrimmed) [] [] (plA K (.glo "trimmed")) f := c.fn 9 (d := dTrimmed) rfl
theorem Fc.fWantPoly (c : Fc K) : ∃ f, FunD K "want_poly" "want_poly" (defArgs sWantPoly) (defBody sWantPoly) (defScope sWantPoly) [] [] (plA K (.glo "want_poly")) f := c.fn 10 (d := dWantPoly) rfl
theorem Fc.fSumOf (c : Fc K) : ∃ f, FunD K "sum_of" "sum_of" (defArgs sSumOf) (defBody sSumOf) (defScope sSumOf) [] [] (plA K (.glo "sum_of")) f := c.fn 11 (d := dSumOf) rfl
theorem Fc.fByNumber (c : Fc K) : ∃ f, FunD K "by_number" "by_number" (defArgs sByNumber) (defBody sByNumber) (defScope sByNumber) [] [] (plA K (.glo "by_number")) f := c.fn 12 (d := dByNumber) rfl
theorem Fc.fLessOf (c : Fc K) : ∃ f, FunD K "less_of" "less_of" (defArgs sLessOf) (defBody sLessOf) (defScope sLessOf) [] [] (plA K (.glo "less_of")) f := c.fn 13 (d := dLessOf) rfl
theorem Fc.fIntProduct (c : Fc K) : ∃ f, FunD K "int_product" "int_product" (defArgs sIntProduct) (defBody sIntProduct) (defScope sIntProduct) [] [] (plA K (.glo "int_product")) f := c.fn 14 (d := dIntProduct) rfl
theorem Fc.fProductOf (c : Fc K) : ∃ f, FunD K "product_of" "product_of" (defArgs sProductOf) (defBody sProductOf) (defScope sProductOf) [] [] (plA K (.glo "product_of")) f := c.fn 15 (d := dProductOf) rfl
theorem Fc.fSlopeOf (c : Fc K) : ∃ f, FunD K "slope_of" "slope_of" (defArgs sSlopeOf) (defBody sSlopeOf) (defScope sSlopeOf) [] [] (plA K (.glo "slope_of")) f := c.fn 16 (d := dSlopeOf) rfl
theorem Fc.fHeaded (c : Fc K) : ∃ f, FunD K "headed" "headed" (defArgs sHeaded) (defBody sHeaded) (defScope sHeaded) [] [] (plA K (.glo "headed")) f := c.fn 17 (d := dHeaded) rfl
theorem Fc.fPartsOf (c : Fc K) : ∃ f, FunD K "parts_of" "parts_of" (defArgs sPartsOf) (defBody sPartsOf) (defScope sPartsOf) [] [] (plA K (.glo "parts_of")) f := c.fn 18 (d := dPartsOf) rfl
theorem Fc.fPlainRow (c : Fc K) : ∃ f, FunD K "plain_row" "plain_row" (defArgs sPlainRow) (defBody sPlainRow) (defScope sPlainRow) [] [] (plA K (.glo "plain_row")) f := c.fn 19 (d := dPlainRow) rfl
theorem Fc.fIntRest (c : Fc K) : ∃ f, FunD K "int_rest" "int_rest" (defArgs sIntRest) (defBody sIntRest) (defScope sIntRest) [] [] (plA K (.glo "int_rest")) f := c.fn 20 (d := dIntRest) rfl
theorem Fc.fIntCommon (c : Fc K) : ∃ f, FunD K "int_common" "int_common" (defArgs sIntCommon) (defBody sIntCommon) (defScope sIntCommon) [] [] (plA K (.glo "int_common")) f := c.fn 21 (d := dIntCommon) rfl
theorem Fc.fCommonOf (c : Fc K) : ∃ f, FunD K "common_of" "common_of" (defArgs sCommonOf) (defBody sCommonOf) (defScope sCommonOf) [] [] (plA K (.glo "common_of")) f := c.fn 22 (d := dCommonOf) rfl
theorem Fc.fLowest (c : Fc K) : ∃ f, FunD K "lowest" "lowest" (defArgs sLowest) (defBody sLowest) (defScope sLowest) [] [] (plA K (.glo "lowest")) f := c.fn 23 (d := dLowest) rfl
theorem Fc.fPowersOf (c : Fc K) : ∃ f, FunD K "powers_of" "powers_of" (defArgs sPowersOf) (defBody sPowersOf) (defScope sPowersOf) [] [] (plA K (.glo "powers_of")) f := c.fn 24 (d := dPowersOf) rfl
theorem Fc.fPutPair (c : Fc K) : ∃ f, FunD K "put_pair" "put_pair" (defArgs sPutPair) (defBody sPutPair) (defScope sPutPair) [] [] (plA K (.glo "put_pair")) f := c.fn 25 (d := dPutPair) rfl
theorem Fc.fRightPair (c : Fc K) : ∃ f, FunD K "right_pair" "right_pair" (defArgs sRightPair) (defBody sRightPair) (defScope sRightPair) [] [] (plA K (.glo "right_pair")) f := c.fn 26 (d := dRightPair) rfl
theorem Fc.fKnownFraction (c : Fc K) : ∃ f, FunD K "known_fraction" "known_fraction" (defArgs sKnownFraction) (defBody sKnownFraction) (defScope sKnownFraction) [] [] (plA K (.glo "known_fraction")) f := c.fn 27 (d := dKnownFraction) rfl
theorem Fc.fWantFraction (c : Fc K) : ∃ f, FunD K "want_fraction" "want_fraction" (defArgs sWantFraction) (defBody sWantFraction) (defScope sWantFraction) [] [] (plA K (.glo "want_fraction")) f := c.fn 28 (d := dWantFraction) rfl
theorem Fc.fHeadedPair (c : Fc K) : ∃ f, FunD K "headed_pair" "headed_pair" (defArgs sHeadedPair) (defBody sHeadedPair) (defScope sHeadedPair) [] [] (plA K (.glo "headed_pair")) f := c.fn 29 (d := dHeadedPair) rfl
theorem Fc.fPut (c : Fc K) : ∃ f, FunD K "put" "put" (defArgs sPut) (defBody sPut) (defScope sPut) [] [] (plA K (.glo "put")) f := c.fn 30 (d := dPut) rfl
theorem Fc.fIsPlace (c : Fc K) : ∃ f, FunD K "is_place" "is_place" (defArgs sIsPlace) (defBody sIsPlace) (defScope sIsPlace) [] [] (plA K (.glo "is_place")) f := c.fn 31 (d := dIsPlace) rfl
theorem Fc.fWantPlace (c : Fc K) : ∃ f, FunD K "want_place" "want_place" (defArgs sWantPlace) (defBody sWantPlace) (defScope sWantPlace) [] [] (plA K (.glo "want_place")) f := c.fn 32 (d := dWantPlace) rfl
theorem Fc.fIsBeyond (c : Fc K) : ∃ f, FunD K "is_beyond" "is_beyond" (defArgs sIsBeyond) (defBody sIsBeyond) (defScope sIsBeyond) [] [] (plA K (.glo "is_beyond")) f := c.fn 33 (d := dIsBeyond) rfl
theorem Fc.fPairOf (c : Fc K) : ∃ f, FunD K "pair_of" "pair_of" (defArgs sPairOf) (defBody sPairOf) (defScope sPairOf) [] [] (plA K (.glo "pair_of")) f := c.fn 34 (d := dPairOf) rfl
theorem Fc.fPlaceBy (c : Fc K) : ∃ f, FunD K "place_by" "place_by" (defArgs sPlaceBy) (defBody sPlaceBy) (defScope sPlaceBy) [] [] (plA K (.glo "place_by")) f := c.fn 35 (d := dPlaceBy) rfl
theorem Fc.fWorthBy (c : Fc K) : ∃ f, FunD K "worth_by" "worth_by" (defArgs sWorthBy) (defBody sWorthBy) (defScope sWorthBy) [] [] (plA K (.glo "worth_by")) f := c.fn 36 (d := dWorthBy) rfl
theorem Fc.fWorthOf (c : Fc K) : ∃ f, FunD K "worth_of" "worth_of" (defArgs sWorthOf) (defBody sWorthOf) (defScope sWorthOf) [] [] (plA K (.glo "worth_of")) f := c.fn 37 (d := dWorthOf) rfl
theorem Fc.fPlainOf (c : Fc K) : ∃ f, FunD K "plain_of" "plain_of" (defArgs sPlainOf) (defBody sPlainOf) (defScope sPlainOf) [] [] (plA K (.glo "plain_of")) f := c.fn 38 (d := dPlainOf) rfl
theorem Fc.fFilled (c : Fc K) : ∃ f, FunD K "filled" "filled" (defArgs sFilled) (defBody sFilled) (defScope sFilled) [] [] (plA K (.glo "filled")) f := c.fn 39 (d := dFilled) rfl
theorem Fc.fToldOf (c : Fc K) : ∃ f, FunD K "told_of" "told_of" (defArgs sToldOf) (defBody sToldOf) (defScope sToldOf) [] [] (plA K (.glo "told_of")) f := c.fn 40 (d := dToldOf) rfl
theorem Fc.fProductIn (c : Fc K) : ∃ f, FunD K "product_in" "product_in" (defArgs sProductIn) (defBody sProductIn) (defScope sProductIn) [] [] (plA K (.glo "product_in")) f := c.fn 41 (d := dProductIn) rfl
theorem Fc.fRestIn (c : Fc K) : ∃ f, FunD K "rest_in" "rest_in" (defArgs sRestIn) (defBody sRestIn) (defScope sRestIn) [] [] (plA K (.glo "rest_in")) f := c.fn 42 (d := dRestIn) rfl
theorem Fc.fDividesIn (c : Fc K) : ∃ f, FunD K "divides_in" "divides_in" (defArgs sDividesIn) (defBody sDividesIn) (defScope sDividesIn) [] [] (plA K (.glo "divides_in")) f := c.fn 43 (d := dDividesIn) rfl
theorem Fc.fHowOften (c : Fc K) : ∃ f, FunD K "how_often" "how_often" (defArgs sHowOften) (defBody sHowOften) (defScope sHowOften) [] [] (plA K (.glo "how_often")) f := c.fn 44 (d := dHowOften) rfl
theorem Fc.fFormIn (c : Fc K) : ∃ f, FunD K "form_in" "form_in" (defArgs sFormIn) (defBody sFormIn) (defScope sFormIn) [] [] (plA K (.glo "form_in")) f := c.fn 45 (d := dFormIn) rfl
theorem Fc.fWantForm (c : Fc K) : ∃ f, FunD K "want_form" "want_form" (defArgs sWantForm) (defBody sWantForm) (defScope sWantForm) [] [] (plA K (.glo "want_form")) f := c.fn 46 (d := dWantForm) rfl
theorem Fc.fAreLike (c : Fc K) : ∃ f, FunD K "are_like" "are_like" (defArgs sAreLike) (defBody sAreLike) (defScope sAreLike) [] [] (plA K (.glo "are_like")) f := c.fn 47 (d := dAreLike) rfl
theorem Fc.fProduct (c : Fc K) : ∃ f, FunD K "product" "product" (defArgs sProduct) (defBody sProduct) (defScope sProduct) [] [] (plA K (.glo "product")) f := c.fn 48 (d := dProduct) rfl
theorem Fc.fDivides (c : Fc K) : ∃ f, FunD K "divides" "divides" (defArgs sDivides) (defBody sDivides) (defScope sDivides) [] [] (plA K (.glo "divides")) f := c.fn 49 (d := dDivides) rfl
theorem Fc.fRestForm (c : Fc K) : ∃ f, FunD K "rest_form" "rest_form" (defArgs sRestForm) (defBody sRestForm) (defScope sRestForm) [] [] (plA K (.glo "rest_form")) f := c.fn 50 (d := dRestForm) rfl
theorem Fc.fWantFull (c : Fc K) : ∃ f, FunD K "want_full" "want_full" (defArgs sWantFull) (defBody sWantFull) (defScope sWantFull) [] [] (plA K (.glo "want_full")) f := c.fn 51 (d := dWantFull) rfl
theorem Fc.fFibreOf (c : Fc K) : ∃ f, FunD K "fibre_of" "fibre_of" (defArgs sFibreOf) (defBody sFibreOf) (defScope sFibreOf) [] [] (plA K (.glo "fibre_of")) f := c.fn 52 (d := dFibreOf) rfl
theorem Fc.fTurningOf (c : Fc K) : ∃ f, FunD K "turning_of" "turning_of" (defArgs sTurningOf) (defBody sTurningOf) (defScope sTurningOf) [] [] (plA K (.glo "turning_of")) f := c.fn 53 (d := dTurningOf) rfl
theorem Fc.fFibre (c : Fc K) : ∃ f, FunD K "fibre" "fibre" (defArgs sFibre) (defBody sFibre) (defScope sFibre) [] [] (plA K (.glo "fibre")) f := c.fn 54 (d := dFibre) rfl
theorem Fc.fTurning (c : Fc K) : ∃ f, FunD K "turning" "turning" (defArgs sTurning) (defBody sTurning) (defScope sTurning) [] [] (plA K (.glo "turning")) f := c.fn 55 (d := dTurning) rfl
theorem Fc.fPartOf (c : Fc K) : ∃ f, FunD K "part_of" "part_of" (defArgs sPartOf) (defBody sPartOf) (defScope sPartOf) [] [] (plA K (.glo "part_of")) f := c.fn 56 (d := dPartOf) rfl
theorem Fc.fPart (c : Fc K) : ∃ f, FunD K "part" "part" (defArgs sPart) (defBody sPart) (defScope sPart) [] [] (plA K (.glo "part")) f := c.fn 57 (d := dPart) rfl
theorem Fc.fTaken (c : Fc K) : ∃ f, FunD K "taken" "taken" (defArgs sTaken) (defBody sTaken) (defScope sTaken) [] [] (plA K (.glo "taken")) f := c.fn 58 (d := dTaken) rfl
theorem Fc.fLPot (c : Fc K) : ∃ f, FunD K "_law_pot" "_law_pot" (defArgs sLPot) (defBody sLPot) (defScope sLPot) [] [] (plA K (.glo "_law_pot")) f := c.fn 59 (d := dLPot) rfl
theorem Fc.fLDraw (c : Fc K) : ∃ f, FunD K "_law_draw" "_law_draw" (defArgs sLDraw) (defBody sLDraw) (defScope sLDraw) [] [] (plA K (.glo "_law_draw")) f := c.fn 60 (d := dLDraw) rfl
theorem Fc.fLPick (c : Fc K) : ∃ f, FunD K "_law_pick" "_law_pick" (defArgs sLPick) (defBody sLPick) (defScope sLPick) [] [] (plA K (.glo "_law_pick")) f := c.fn 61 (d := dLPick) rfl
theorem Fc.fLLow (c : Fc K) : ∃ f, FunD K "_law_low" "_law_low" (defArgs sLLow) (defBody sLLow) (defScope sLLow) [] [] (plA K (.glo "_law_low")) f := c.fn 62 (d := dLLow) rfl
theorem Fc.fLSum (c : Fc K) : ∃ f, FunD K "_law_sum" "_law_sum" (defArgs sLSum) (defBody sLSum) (defScope sLSum) [] [] (plA K (.glo "_law_sum")) f := c.fn 63 (d := dLSum) rfl
theorem Fc.fLBy (c : Fc K) : ∃ f, FunD K "_law_by" "_law_by" (defArgs sLBy) (defBody sLBy) (defScope sLBy) [] [] (plA K (.glo "_law_by")) f := c.fn 64 (d := dLBy) rfl
theorem Fc.fLOver (c : Fc K) : ∃ f, FunD K "_law_over" "_law_over" (defArgs sLOver) (defBody sLOver) (defScope sLOver) [] [] (plA K (.glo "_law_over")) f := c.fn 65 (d := dLOver) rfl
theorem Fc.fLTrim (c : Fc K) : ∃ f, FunD K "_law_trim" "_law_trim" (defArgs sLTrim) (defBody sLTrim) (defScope sLTrim) [] [] (plA K (.glo "_law_trim")) f := c.fn 66 (d := dLTrim) rfl
theorem Fc.fLPlus (c : Fc K) : ∃ f, FunD K "_law_plus" "_law_plus" (defArgs sLPlus) (defBody sLPlus) (defScope sLPlus) [] [] (plA K (.glo "_law_plus")) f := c.fn 67 (d := dLPlus) rfl
theorem Fc.fLScaled (c : Fc K) : ∃ f, FunD K "_law_scaled" "_law_scaled" (defArgs sLScaled) (defBody sLScaled) (defScope sLScaled) [] [] (plA K (.glo "_law_scaled")) f := c.fn 68 (d := dLScaled) rfl
theorem Fc.fLTimes (c : Fc K) : ∃ f, FunD K "_law_times" "_law_times" (defArgs sLTimes) (defBody sLTimes) (defScope sLTimes) [] [] (plA K (.glo "_law_times")) f := c.fn 69 (d := dLTimes) rfl
theorem Fc.fLWorth (c : Fc K) : ∃ f, FunD K "_law_worth" "_law_worth" (defArgs sLWorth) (defBody sLWorth) (defScope sLWorth) [] [] (plA K (.glo "_law_worth")) f := c.fn 70 (d := dLWorth) rfl
theorem Fc.fLDivided (c : Fc K) : ∃ f, FunD K "_law_divided" "_law_divided" (defArgs sLDivided) (defBody sLDivided) (defScope sLDivided) [] [] (plA K (.glo "_law_divided")) f := c.fn 71 (d := dLDivided) rfl
theorem Fc.fLCommon (c : Fc K) : ∃ f, FunD K "_law_common" "_law_common" (defArgs sLCommon) (defBody sLCommon) (defScope sLCommon) [] [] (plA K (.glo "_law_common")) f := c.fn 72 (d := dLCommon) rfl
theorem Fc.fLPassed (c : Fc K) : ∃ f, FunD K "_law_passed" "_law_passed" (defArgs sLPassed) (defBody sLPassed) (defScope sLPassed) [] [] (plA K (.glo "_law_passed")) f := c.fn 73 (d := dLPassed) rfl
theorem Fc.fLGiven (c : Fc K) : ∃ f, FunD K "_law_given" "_law_given" (defArgs sLGiven) (defBody sLGiven) (defScope sLGiven) [] [] (plA K (.glo "_law_given")) f := c.fn 74 (d := dLGiven) rfl
theorem Fc.fLTold (c : Fc K) : ∃ f, FunD K "_law_told" "_law_told" (defArgs sLTold) (defBody sLTold) (defScope sLTold) [] [] (plA K (.glo "_law_told")) f := c.fn 75 (d := dLTold) rfl
theorem Fc.fLEntry (c : Fc K) : ∃ f, FunD K "_law_entry" "_law_entry" (defArgs sLEntry) (defBody sLEntry) (defScope sLEntry) [] [] (plA K (.glo "_law_entry")) f := c.fn 76 (d := dLEntry) rfl
theorem Fc.fLPoly (c : Fc K) : ∃ f, FunD K "_law_poly" "_law_poly" (defArgs sLPoly) (defBody sLPoly) (defScope sLPoly) [] [] (plA K (.glo "_law_poly")) f := c.fn 77 (d := dLPoly) rfl
theorem Fc.fLStanding (c : Fc K) : ∃ f, FunD K "_law_standing" "_law_standing" (defArgs sLStanding) (defBody sLStanding) (defScope sLStanding) [] [] (plA K (.glo "_law_standing")) f := c.fn 78 (d := dLStanding) rfl
theorem Fc.fLFilled (c : Fc K) : ∃ f, FunD K "_law_filled" "_law_filled" (defArgs sLFilled) (defBody sLFilled) (defScope sLFilled) [] [] (plA K (.glo "_law_filled")) f := c.fn 79 (d := dLFilled) rfl
theorem Fc.fLHeaded (c : Fc K) : ∃ f, FunD K "_law_headed" "_law_headed" (defArgs sLHeaded) (defBody sLHeaded) (defScope sLHeaded) [] [] (plA K (.glo "_law_headed")) f := c.fn 80 (d := dLHeaded) rfl
theorem Fc.fLLowest (c : Fc K) : ∃ f, FunD K "_law_lowest" "_law_lowest" (defArgs sLLowest) (defBody sLLowest) (defScope sLLowest) [] [] (plA K (.glo "_law_lowest")) f := c.fn 81 (d := dLLowest) rfl
theorem Fc.fLDegree (c : Fc K) : ∃ f, FunD K "_law_degree" "_law_degree" (defArgs sLDegree) (defBody sLDegree) (defScope sLDegree) [] [] (plA K (.glo "_law_degree")) f := c.fn 82 (d := dLDegree) rfl
theorem Fc.fLFull (c : Fc K) : ∃ f, FunD K "_law_full" "_law_full" (defArgs sLFull) (defBody sLFull) (defScope sLFull) [] [] (plA K (.glo "_law_full")) f := c.fn 83 (d := dLFull) rfl
theorem Fc.fLWorthAt (c : Fc K) : ∃ f, FunD K "_law_worth_at" "_law_worth_at" (defArgs sLWorthAt) (defBody sLWorthAt) (defScope sLWorthAt) [] [] (plA K (.glo "_law_worth_at")) f := c.fn 84 (d := dLWorthAt) rfl
theorem Fc.fLFibre (c : Fc K) : ∃ f, FunD K "_law_fibre" "_law_fibre" (defArgs sLFibre) (defBody sLFibre) (defScope sLFibre) [] [] (plA K (.glo "_law_fibre")) f := c.fn 85 (d := dLFibre) rfl
theorem Fc.fLPart (c : Fc K) : ∃ f, FunD K "_law_part" "_law_part" (defArgs sLPart) (defBody sLPart) (defScope sLPart) [] [] (plA K (.glo "_law_part")) f := c.fn 86 (d := dLPart) rfl
theorem Fc.fLOf (c : Fc K) : ∃ f, FunD K "_law_of" "_law_of" (defArgs sLOf) (defBody sLOf) (defScope sLOf) [] [] (plA K (.glo "_law_of")) f := c.fn 87 (d := dLOf) rfl
theorem Fc.fLMade (c : Fc K) : ∃ f, FunD K "_law_made" "_law_made" (defArgs sLMade) (defBody sLMade) (defScope sLMade) [] [] (plA K (.glo "_law_made")) f := c.fn 88 (d := dLMade) rfl
theorem Fc.fLPlace (c : Fc K) : ∃ f, FunD K "_law_place" "_law_place" (defArgs sLPlace) (defBody sLPlace) (defScope sLPlace) [] [] (plA K (.glo "_law_place")) f := c.fn 89 (d := dLPlace) rfl
theorem Fc.fLGivenPlace (c : Fc K) : ∃ f, FunD K "_law_given_place" "_law_given_place" (defArgs sLGivenPlace) (defBody sLGivenPlace) (defScope sLGivenPlace) [] [] (plA K (.glo "_law_given_place")) f := c.fn 90 (d := dLGivenPlace) rfl
theorem Fc.fLLed (c : Fc K) : ∃ f, FunD K "_law_led" "_law_led" (defArgs sLLed) (defBody sLLed) (defScope sLLed) [] [] (plA K (.glo "_law_led")) f := c.fn 91 (d := dLLed) rfl
theorem Fc.fLGivenForm (c : Fc K) : ∃ f, FunD K "_law_given_form" "_law_given_form" (defArgs sLGivenForm) (defBody sLGivenForm) (defScope sLGivenForm) [] [] (plA K (.glo "_law_given_form")) f := c.fn 92 (d := dLGivenForm) rfl
theorem Fc.fLPlaceRight (c : Fc K) : ∃ f, FunD K "_law_place_right" "_law_place_right" (defArgs sLPlaceRight) (defBody sLPlaceRight) (defScope sLPlaceRight) [] [] (plA K (.glo "_law_place_right")) f := c.fn 93 (d := dLPlaceRight) rfl
theorem Fc.fLTurningRight (c : Fc K) : ∃ f, FunD K "_law_turning_right" "_law_turning_right" (defArgs sLTurningRight) (defBody sLTurningRight) (defScope sLTurningRight) [] [] (plA K (.glo "_law_turning_right")) f := c.fn 94 (d := dLTurningRight) rfl
theorem Fc.fLRight (c : Fc K) : ∃ f, FunD K "_law_right" "_law_right" (defArgs sLRight) (defBody sLRight) (defScope sLRight) [] [] (plA K (.glo "_law_right")) f := c.fn 95 (d := dLRight) rfl
theorem Fc.fLLaw (c : Fc K) : ∃ f, FunD K "law" "law" (defArgs sLLaw) (defBody sLLaw) (defScope sLLaw) [] [] (plA K (.glo "law")) f := c.fn 96 (d := dLLaw) rfl
theorem Fc.fRatio_Init (c : Fc K) : ∃ f, FunD K "__init__" "Ratio.__init__" (defArgs sRatio_Init) (defBody sRatio_Init) (defScope sRatio_Init) [.int 1] [] (plA K (.meth "Ratio" "__init__")) f := c.fn 97 (d := dRatio_Init) rfl
theorem Fc.fRatio_Top (c : Fc K) : ∃ f, FunD K "top" "Ratio.top" (defArgs sRatio_Top) (defBody sRatio_Top) (defScope sRatio_Top) [] [] (plA K (.get "Ratio" "top")) f := c.fn 98 (d := dRatio_Top) rfl
theorem Fc.fRatio_Bottom (c : Fc K) : ∃ f, FunD K "bottom" "Ratio.bottom" (defArgs sRatio_Bottom) (defBody sRatio_Bottom) (defScope sRatio_Bottom) [] [] (plA K (.get "Ratio" "bottom")) f := c.fn 99 (d := dRatio_Bottom) rfl
theorem Fc.fRatio_Sign (c : Fc K) : ∃ f, FunD K "sign" "Ratio.sign" (defArgs sRatio_Sign) (defBody sRatio_Sign) (defScope sRatio_Sign) [] [] (plA K (.get "Ratio" "sign")) f := c.fn 100 (d := dRatio_Sign) rfl
theorem Fc.fRatio_Add (c : Fc K) : ∃ f, FunD K "__add__" "Ratio.__add__" (defArgs sRatio_Add) (defBody sRatio_Add) (defScope sRatio_Add) [] [] (plA K (.meth "Ratio" "__add__")) f := c.fn 101 (d := dRatio_Add) rfl
theorem Fc.fRatio_Sub (c : Fc K) : ∃ f, FunD K "__sub__" "Ratio.__sub__" (defArgs sRatio_Sub) (defBody sRatio_Sub) (defScope sRatio_Sub) [] [] (plA K (.meth "Ratio" "__sub__")) f := c.fn 102 (d := dRatio_Sub) rfl
theorem Fc.fRatio_Mul (c : Fc K) : ∃ f, FunD K "__mul__" "Ratio.__mul__" (defArgs sRatio_Mul) (defBody sRatio_Mul) (defScope sRatio_Mul) [] [] (plA K (.meth "Ratio" "__mul__")) f := c.fn 103 (d := dRatio_Mul) rfl
theorem Fc.fRatio_Neg (c : Fc K) : ∃ f, FunD K "__neg__" "Ratio.__neg__" (defArgs sRatio_Neg) (defBody sRatio_Neg) (defScope sRatio_Neg) [] [] (plA K (.meth "Ratio" "__neg__")) f := c.fn 104 (d := dRatio_Neg) rfl
theorem Fc.fRatio_Over (c : Fc K) : ∃ f, FunD K "over" "Ratio.over" (defArgs sRatio_Over) (defBody sRatio_Over) (defScope sRatio_Over) [] [] (plA K (.meth "Ratio" "over")) f := c.fn 105 (d := dRatio_Over) rfl
theorem Fc.fRatio_Eq (c : Fc K) : ∃ f, FunD K "__eq__" "Ratio.__eq__" (defArgs sRatio_Eq) (defBody sRatio_Eq) (defScope sRatio_Eq) [] [] (plA K (.meth "Ratio" "__eq__")) f := c.fn 106 (d := dRatio_Eq) rfl
theorem Fc.fKnown_Init (c : Fc K) : ∃ f, FunD K "__init__" "Known.__init__" (defArgs sKnown_Init) (defBody sKnown_Init) (defScope sKnown_Init) [] [] (plA K (.meth "Known" "__init__")) f := c.fn 107 (d := dKnown_Init) rfl
theorem Fc.fFraction_Init (c : Fc K) : ∃ f, FunD K "__init__" "Fraction.__init__" (defArgs sFraction_Init) (defBody sFraction_Init) (defScope sFraction_Init) [.ref (He.dflAt ("Fraction", some "__init__") 0 K)] [] (plA K (.meth "Fraction" "__init__")) f := c.fn 108 (d := dFraction_Init) rfl
theorem Fc.fFraction_Degree (c : Fc K) : ∃ f, FunD K "degree" "Fraction.degree" (defArgs sFraction_Degree) (defBody sFraction_Degree) (defScope sFraction_Degree) [] [] (plA K (.get "Fraction" "degree")) f := c.fn 109 (d := dFraction_Degree) rfl
theorem Fc.fFraction_Eq (c : Fc K) : ∃ f, FunD K "__eq__" "Fraction.__eq__" (defArgs sFraction_Eq) (defBody sFraction_Eq) (defScope sFraction_Eq) [] [] (plA K (.meth "Fraction" "__eq__")) f := c.fn 110 (d := dFraction_Eq) rfl
end
end Tx
set_option Elab.async false
set_option linter.all false
set_option maxRecDepth 100000
set_option maxHeartbeats 0
/-! H0: the top's run by the kernel, with the facts. -/
namespace Hd
open PySem PySem.W PySem.Calls PyProof.Rows
abbrev R : OpenRow := OpenLaw.row PySem.Challenge.rw_innerfractions_k48_whole_parts_of_what_i
abbrev qv : Program := view R.prog [0, 138]
def nm0 : List PySem.Str := [("_wall" : PySem.Str), ("LetterError" : PySem.Str), ("StateError" : PySem.Str), ("LimitError" : PySem.Str), ("InvalidForm" : PySem.Str), ("InvalidFraction" : PySem.Str), ("InvalidNumber" : PySem.Str), ("InvalidPlace" : PySem.Str), ("InvalidPoly" : PySem.Str), ("DividedByZero" : PySem.Str), ("Beyond" : PySem.Str), ("NotDivided" : PySem.Str), ("NotFull" : PySem.Str), ("NoughtBottom" : PySem.Str), ("TooMany" : PySem.Str), ("is_integer" : PySem.Str), ("is_list" : PySem.Str), ("want_at_most" : PySem.Str), ("PART" : PySem.Str), ("digits_of" : PySem.Str), ("divisor_of" : PySem.Str), ("Ratio" : PySem.Str), ("told_pair" : PySem.Str), ("is_number" : PySem.Str), ("ratio_of" : PySem.Str), ("want_number" : PySem.Str), ("wholes" : PySem.Str), ("total_of" : PySem.Str), ("MOST_NUMBERS" : PySem.Str), ("is_poly" : PySem.Str), ("trimmed" : PySem.Str), ("want_poly" : PySem.Str), ("sum_of" : PySem.Str), ("by_number" : PySem.Str), ("less_of" : PySem.Str), ("int_product" : PySem.Str), ("product_of" : PySem.Str), ("slope_of" : PySem.Str), ("headed" : PySem.Str), ("parts_of" : PySem.Str)]
def nm1 : List PySem.Str := [("plain_row" : PySem.Str), ("int_rest" : PySem.Str), ("int_common" : PySem.Str), ("common_of" : PySem.Str), ("MOST_DEGREE_fractions" : PySem.Str), ("lowest" : PySem.Str), ("powers_of" : PySem.Str), ("put_pair" : PySem.Str), ("Known" : PySem.Str), ("right_pair" : PySem.Str), ("Fraction" : PySem.Str), ("pair_in" : PySem.Str), ("known_fraction" : PySem.Str), ("fraction_of" : PySem.Str), ("short_of" : PySem.Str), ("want_fraction" : PySem.Str), ("headed_pair" : PySem.Str), ("put" : PySem.Str), ("BEYOND" : PySem.Str), ("is_place" : PySem.Str), ("want_place" : PySem.Str), ("is_beyond" : PySem.Str), ("pair_of" : PySem.Str), ("place_by" : PySem.Str), ("worth_by" : PySem.Str), ("worth_of" : PySem.Str), ("MOST_DEGREE_forms" : PySem.Str), ("plain_of" : PySem.Str), ("filled" : PySem.Str), ("told_of" : PySem.Str), ("product_in" : PySem.Str), ("rest_in" : PySem.Str), ("divides_in" : PySem.Str), ("how_often" : PySem.Str), ("form_in" : PySem.Str), ("want_form" : PySem.Str), ("are_like" : PySem.Str), ("product" : PySem.Str), ("divides" : PySem.Str), ("rest_form" : PySem.Str)]
def nm2 : List PySem.Str := [("MOST_TURNING" : PySem.Str), ("want_full" : PySem.Str), ("fibre_of" : PySem.Str), ("turning_of" : PySem.Str), ("fibre" : PySem.Str), ("turning" : PySem.Str), ("part_of" : PySem.Str), ("part" : PySem.Str), ("taken" : PySem.Str), ("_law_pot" : PySem.Str), ("_law_draw" : PySem.Str), ("_law_pick" : PySem.Str), ("_law_low" : PySem.Str), ("_law_sum" : PySem.Str), ("_law_by" : PySem.Str), ("_law_over" : PySem.Str), ("_law_trim" : PySem.Str), ("_law_plus" : PySem.Str), ("_law_scaled" : PySem.Str), ("_law_times" : PySem.Str), ("_law_worth" : PySem.Str), ("_law_divided" : PySem.Str), ("_law_common" : PySem.Str), ("_law_passed" : PySem.Str), ("_law_given" : PySem.Str), ("_law_told" : PySem.Str), ("_law_entry" : PySem.Str), ("_law_poly" : PySem.Str), ("_law_standing" : PySem.Str), ("_law_filled" : PySem.Str), ("_law_headed" : PySem.Str), ("_law_lowest" : PySem.Str), ("_law_degree" : PySem.Str), ("_law_full" : PySem.Str), ("_law_worth_at" : PySem.Str), ("_law_fibre" : PySem.Str), ("_law_part" : PySem.Str), ("_law_of" : PySem.Str), ("_law_made" : PySem.Str), ("_law_place" : PySem.Str)]
def nm3 : List PySem.Str := [("_law_given_place" : PySem.Str), ("_law_led" : PySem.Str), ("_law_given_form" : PySem.Str), ("_law_place_right" : PySem.Str), ("_law_turning_right" : PySem.Str), ("_law_right" : PySem.Str)]
def names : List PySem.Str := nm0 ++ nm1 ++ nm2 ++ nm3
def ob (s : PySem.W.SharedT) : Tx.Al := Tx.obsK (Tx.frK (HandSHeadRun.getT s))
theorem ob_eq (s : PySem.W.SharedT) : ob s = Tx.hkK.obs s.abs := by
  have e : HandSHeadRun.getT s = s.abs.heap.get? := funext (HandSHeadRun.getT_eq s)
  unfold ob
  rw [e]
  rfl

def ad0 : List Addr := [269, 276, 283, 297, 464, 471, 478, 490, 502, 509, 514, 519, 524, 531, 536, 541, 546, 551, 556, 561, 566, 573, 578, 583, 590, 597, 625, 770, 791, 796, 803, 810, 817, 824, 831, 838, 845, 852, 859, 866]
def ad1 : List Addr := [873, 880, 887, 894, 901, 906, 913, 920, 927, 934, 941, 948, 955, 962, 969, 976, 983, 990, 997, 1004, 1011, 1018, 1025, 1032, 1039, 1046, 1053, 1058, 1063, 1070, 1077, 1084, 1091, 1098, 1103, 1108, 1115, 1120, 1125, 1132]
def ad2 : List Addr := [1137, 1144, 1151, 1158, 1165, 1172, 1179, 1186, 1193, 1200, 1207, 1214, 1219, 1226, 1233, 1240, 1247, 312, 319, 327, 335, 359, 373, 387, 401, 408, 436, 611, 641, 648, 742]
/-- where the defs stand -/
def ads : List Addr := ad0 ++ ad1 ++ ad2
/-- the whole run -/
noncomputable def whole (w : World) : Option (Shared × PySem.W.SharedT) := HandSHeadRun.wholeF (fun p => HandSHeadRun.stepQ (HandSHeadRun.denQ HandSHeadRun.tabQ) p w) HandSHeadRun.fenceQ 12000 R.prog
abbrev Kx (x : Shared × PySem.W.SharedT) : PySem.W.Frag := Tx.frK (HandSHeadRun.getT x.2)
theorem runE (w : World) : (whole w).map (fun x => Tx.fas.all fun f => f.ok (Kx x)) = some true := by
  kernel_rfl
theorem runS (w : World) : (whole w).map (fun x => HandSHeadRun.seenQ qv names (importedModules R.prog.main.body) (fun s => xlAt qv [] s && recOk R.toRowW.records s) x.2.abs) = some (openGood qv names) := by
  kernel_rfl
theorem runL (w : World) : (whole w).map (fun x => namesBound R.prog x.2.abs.heap && (gensDone x.2.abs && laidKept x.1.heap x.2.abs.heap)) = some true := by
  kernel_rfl
theorem runA (w : World) : (whole w).map (fun x => (((ads.zip Tx.fns).take 60).all fun p => Tx.okAt (Kx x) p.1 p.2) && staticsOk (importedModules R.prog.main.body) x.1.heap x.2.abs.heap) = some true := by
  kernel_rfl
theorem runB (w : World) : (whole w).map (fun x => ((ads.zip Tx.fns).drop 60).all fun p => Tx.okAt (Kx x) p.1 p.2) = some true := by
  kernel_rfl
theorem runV (w : World) : (whole w).map (fun x => (Tx.exB (Kx x), ads.map fun a => Tx.fnAt (Kx x) a)) = some (true, Tx.fns.map Tx.Df.val) := by
  kernel_rfl
theorem runG (w : World) : (whole w).map (fun x => Tx.fns.map fun d => Tx.plA (Kx x) d.pl) = some ads := by
  kernel_rfl
theorem both {α A B : Type} {o : Option α} {f : α → A} {g : α → B} {a : A} {b : B} (hf : o.map f = some a) (hg : o.map g = some b) : o.map (fun x => (f x, g x)) = some (a, b) := by
  cases o with
  | none => cases hf
  | some x => cases hf; cases hg; rfl
theorem turn {α A B : Type} {o : Option α} {f : α → A} {g : α → B} {a : A} {b : B} (h : o.map f = some a) (k : ∀ x, f x = a → g x = b) : o.map g = some b := by
  cases o with
  | none => cases h
  | some x => exact congrArg some (k x (Option.some.inj h))
theorem zip_all {D A : Type} (f : D → A) (q : A → D → Bool) : ∀ ds : List D, ((ds.map f).zip ds).all (fun p => q p.1 p.2) = ds.all fun d => q (f d) d
  | [] => rfl
  | d :: ds => by
    show (q (f d) d && ((ds.map f).zip ds).all (fun p => q p.1 p.2)) = (q (f d) d && ds.all fun d => q (f d) d)
    rw [zip_all f q ds]
theorem cut_all {D : Type} {ds : List D} {n : Nat} {p : D → Bool} (h2 : (ds.take n).all p = true) (h3 : (ds.drop n).all p = true) : ds.all p = true := by
  rw [← List.take_append_drop n ds, List.all_append, h2, h3]; rfl
theorem looks_at (x : Shared × PySem.W.SharedT) : HandSHeadRun.looksF R.prog x.1.heap x.2.abs = (staticsOk (importedModules R.prog.main.body) x.1.heap x.2.abs.heap && namesBound R.prog x.2.abs.heap && gensDone x.2.abs && laidKept x.1.heap x.2.abs.heap) := by
  unfold HandSHeadRun.looksF
  rfl
theorem ob_at (x : Shared × PySem.W.SharedT) : ob x.2 = (Tx.exB (Kx x) && ((Tx.fas.all fun f => f.ok (Kx x)) && Tx.fns.all fun d => d.ok (Kx x)), Tx.fns.map fun d => Tx.fnAt (Kx x) (Tx.plA (Kx x) d.pl)) := by
  unfold ob Tx.obsK Kx
  rfl
theorem ok_all {K : PySem.W.Frag} (g : (Tx.fns.map fun d => Tx.plA K d.pl) = ads) (h1 : ((ads.zip Tx.fns).take 60).all (fun p => Tx.okAt K p.1 p.2) = true) (h2 : ((ads.zip Tx.fns).drop 60).all (fun p => Tx.okAt K p.1 p.2) = true) : (Tx.fns.all fun d => d.ok K) = true := by
  have h := cut_all h1 h2
  rw [← g, zip_all (fun d : Tx.Df => Tx.plA K d.pl) (Tx.okAt K)] at h
  exact h
theorem val_all {K : PySem.W.Frag} (g : (Tx.fns.map fun d => Tx.plA K d.pl) = ads) (h : (ads.map fun a => Tx.fnAt K a) = Tx.fns.map Tx.Df.val) : (Tx.fns.map fun d => Tx.fnAt K (Tx.plA K d.pl)) = Tx.fns.map Tx.Df.val := by
  rw [← h, ← g, List.map_map]
  rfl
theorem three {a b c d : Bool} (h1 : a = true) (h2 : (b && (c && d)) = true) : (a && b && c && d) = true := by
  subst h1
  revert h2
  cases b <;> cases c <;> cases d <;> decide
theorem run (w : World) : HandSHeadRun.RunEqI R qv Tx.hkK ob 12000 names w := by
  unfold HandSHeadRun.RunEqI
  refine turn (o := whole w) (both (runS w) (both (runL w) (both (runA w) (both (runB w) (both (runV w) (both (runE w) (runG w))))))) fun x h => ?_
  obtain ⟨s, h⟩ := Prod.mk.inj h
  obtain ⟨l, h⟩ := Prod.mk.inj h
  obtain ⟨a, h⟩ := Prod.mk.inj h
  obtain ⟨b, h⟩ := Prod.mk.inj h
  obtain ⟨v, h⟩ := Prod.mk.inj h
  obtain ⟨e, g⟩ := Prod.mk.inj h
  obtain ⟨v1, v2⟩ := Prod.mk.inj v
  obtain ⟨a, e2⟩ := Bool.and_eq_true_iff.mp a
  rw [looks_at, ob_at, three e2 l, v1, e, ok_all g a b, val_all g v2]
  exact congrArg (fun z => (true, z, Tx.valK)) s
end Hd
set_option Elab.async false
set_option linter.all false
set_option maxRecDepth 100000
set_option maxHeartbeats 1000000
/-! K1: typed readings over the hand layer. A slot has a type (a predicate of a value that stays true while the heap grows), or owns a list that the def may still change. -/
namespace Ty
open PySem PySem.Spec PyProof.Rows L2

abbrev St := L2.St
/-- a type: what is true of a value, and stays so -/
structure Pd where
  p : V → Hp → Prop
  mono : ∀ {v H H'}, Ext H H' → p v H → p v H'

abbrev Its (Ps : List Pd) (vs : List V) (H : Hp) : Prop := Paired (fun (P : Pd) v => P.p v H) Ps vs
theorem Its.mono {Ps : List Pd} {vs : List V} {H H' : Hp} (e : Ext H H') (h : Its Ps vs H) : Its Ps vs H' := Paired.mapP h fun P _ q => P.mono e q
theorem Its.get {Ps : List Pd} {vs : List V} {H : Hp} {i : Nat} {P : Pd} (h : Its Ps vs H) (e : Ps[i]? = some P) : ∃ v, vs[i]? = some v ∧ P.p v H := by
  induction h generalizing i with
  | nil => simp at e
  | cons a b ih =>
    cases i with
    | zero => simp at e; subst e; exact ⟨_, rfl, a⟩
    | succ i => simp at e ⊢; exact ih e
theorem Its.set {Ps : List Pd} {vs : List V} {H : Hp} {P : Pd} {v : V} (h : Its Ps vs H) (k : P.p v H) : ∀ i, Its (Ps.set i P) (vs.set i v) H := by
  induction h with
  | nil => intro i; exact .nil
  | cons a b ih =>
    intro i
    cases i with
    | zero => exact .cons k b
    | succ i => exact .cons a (ih i)
theorem Its.app {Ps Qs : List Pd} {vs us : List V} {H : Hp} (h : Its Ps vs H) (k : Its Qs us H) : Its (Ps ++ Qs) (vs ++ us) H := by
  induction h with
  | nil => exact k
  | cons a b ih => exact .cons a ih
theorem Its.rev {Ps : List Pd} {vs : List V} {H : Hp} (h : Its Ps vs H) : Its Ps.reverse vs.reverse H := by
  induction h with
  | nil => exact .nil
  | cons a b ih => rw [List.reverse_cons, List.reverse_cons]; exact Its.app ih (.cons a .nil)
theorem Its.take {Ps : List Pd} {vs : List V} {H : Hp} (h : Its Ps vs H) : ∀ n, Its (Ps.take n) (vs.take n) H := by
  induction h with
  | nil => intro n; simp; exact .nil
  | cons a b ih =>
    intro n
    cases n with
    | zero => exact .nil
    | succ n => exact .cons a (ih n)
theorem Its.drop {Ps : List Pd} {vs : List V} {H : Hp} (h : Its Ps vs H) : ∀ n, Its (Ps.drop n) (vs.drop n) H := by
  induction h with
  | nil => intro n; simp; exact .nil
  | cons a b ih =>
    intro n
    cases n with
    | zero => exact .cons a b
    | succ n => exact ih n
theorem Its.rep {P : Pd} {v : V} {H : Hp} (k : P.p v H) : ∀ n, Its (List.replicate n P) (List.replicate n v) H
  | 0 => .nil
  | n + 1 => .cons k (Its.rep k n)

/-- from a known part Hb of the heap H to another one -/
structure Step (Hb H Hb' H' : Hp) : Prop where
  b : Ext Hb Hb'
  h : Ext H H'
  s : Ext Hb' H'
  f : ∀ a o, Hb a = none → H a = some o → Hb' a = none
theorem Step.refl {Hb H : Hp} (e : Ext Hb H) : Step Hb H Hb H := ⟨Ext.rfl', Ext.rfl', e, fun _ _ h _ => h⟩
theorem Step.trans {Hb H Hb1 H1 Hb2 H2 : Hp} (a : Step Hb H Hb1 H1) (b : Step Hb1 H1 Hb2 H2) : Step Hb H Hb2 H2 :=
  ⟨a.b.trans b.b, a.h.trans b.h, b.s, fun c o h1 h2 => b.f c o (a.f c o h1 h2) (a.h c o h2)⟩
theorem none_back {H H' : Hp} {a : Addr} (e : Ext H H') (h : H' a = none) : H a = none := by
  cases q : H a with
  | none => rfl
  | some o => rw [e a o q] at h; cases h
/-- a new object, known from then on -/
theorem Step.new {Hb H Hb1 H1 : Hp} {a : Addr} {o : HO} (st : Step Hb H Hb1 H1) (h : H1 a = none) : Step Hb H (upd Hb1 a o) (upd H1 a o) := by
  refine st.trans ⟨Ext.upd (none_back st.s h), Ext.upd h, fun b u e => ?_, fun b u h1 h2 => ?_⟩
  · by_cases hb : b = a
    · subst hb; rw [upd_same] at e ⊢; exact e
    · rw [upd_ne hb] at e ⊢; exact st.s b u e
  · have hb : b ≠ a := ne_of_none h2 h
    rw [upd_ne hb]; exact h1
/-- a new object, kept apart -/
theorem Step.priv {Hb H Hb1 H1 : Hp} {a : Addr} {o : HO} (st : Step Hb H Hb1 H1) (h : H1 a = none) : Step Hb H Hb1 (upd H1 a o) :=
  st.trans ⟨Ext.rfl', Ext.upd h, fun b u e => by rw [upd_ne (ne_of_none e (none_back st.s h))]; exact st.s b u e, fun _ _ h _ => h⟩
/-- what was apart is known from then on -/
theorem Step.share {Hb H Hb1 H1 : Hp} {a : Addr} {o : HO} (st : Step Hb H Hb1 H1) (h0 : H a = none) (h1 : Hb1 a = none) (h2 : H1 a = some o) : Step Hb H (upd Hb1 a o) H1 := by
  refine ⟨st.b.trans (Ext.upd h1), st.h, fun b u e => ?_, fun b u k1 k2 => ?_⟩
  · by_cases hb : b = a
    · subst hb; rw [upd_same] at e; cases e; exact h2
    · rw [upd_ne hb] at e; exact st.s b u e
  · rw [upd_ne (ne_of_none k2 h0)]; exact st.f b u k1 k2
/-- what is apart is changed -/
theorem Step.mut {Hb H Hb1 H1 : Hp} {a : Addr} {o : HO} (st : Step Hb H Hb1 H1) (h0 : H a = none) (h1 : Hb1 a = none) : Step Hb H Hb1 (upd H1 a o) :=
  ⟨st.b, fun b u e => by rw [upd_ne (ne_of_none e h0)]; exact st.h b u e, fun b u e => by rw [upd_ne (ne_of_none e h1)]; exact st.s b u e, st.f⟩

/-! ### types -/
def tV (x : V) : Pd := ⟨fun v _ => v = x, fun _ h => h⟩
abbrev tI (i : Int) : Pd := tV (.int i)
abbrev tB (b : Bool) : Pd := tV (.bl b)
abbrev tN : Pd := tV .non
def tL (Ps : List Pd) : Pd := ⟨fun v H => ∃ a vs, v = .ref a ∧ H a = some (.lst vs) ∧ Its Ps vs H, fun e ⟨a, vs, h1, h2, h3⟩ => ⟨a, vs, h1, e _ _ h2, h3.mono e⟩⟩
def tU (Ps : List Pd) : Pd := ⟨fun v H => ∃ a vs, v = .ref a ∧ H a = some (.tup vs) ∧ Its Ps vs H, fun e ⟨a, vs, h1, h2, h3⟩ => ⟨a, vs, h1, e _ _ h2, h3.mono e⟩⟩
abbrev Flds (fs : List (Str × Pd)) (gs : List (Str × V)) (H : Hp) : Prop := Paired (fun (f : Str × Pd) (g : Str × V) => f.1 = g.1 ∧ f.2.p g.2 H) fs gs
theorem Flds.mono {fs : List (Str × Pd)} {gs : List (Str × V)} {H H' : Hp} (e : Ext H H') (h : Flds fs gs H) : Flds fs gs H' := Paired.mapP h fun f _ q => ⟨q.1, f.2.mono e q.2⟩
/-- an instance of the class at C -/
def tO (C : Addr) (fs : List (Str × Pd)) : Pd := ⟨fun v H => ∃ a dx gs, v = .ref a ∧ H a = some (.ins C dx gs) ∧ Flds fs gs H, fun e ⟨a, dx, gs, h1, h2, h3⟩ => ⟨a, dx, gs, h1, e _ _ h2, h3.mono e⟩⟩
theorem Flds.look {fs : List (Str × Pd)} {gs : List (Str × V)} {H : Hp} {f : Str} {P : Pd} (h : Flds fs gs H) (e : fs.lookup f = some P) : ∃ v, gs.lookup f = some v ∧ P.p v H := by
  induction h with
  | nil => cases e
  | @cons a b l1 l2 hab t ih =>
    obtain ⟨an, aP⟩ := a
    obtain ⟨bn, bv⟩ := b
    obtain ⟨h1, h2⟩ := hab
    simp only at h1 h2
    subst h1
    simp only [List.lookup_cons] at e ⊢
    cases q : f == an with
    | true => rw [q] at e; cases e; exact ⟨bv, rfl, h2⟩
    | false => rw [q] at e; exact ih e
theorem Flds.no {fs : List (Str × Pd)} {gs : List (Str × V)} {H : Hp} {f : Str} (h : Flds fs gs H) (e : fs.lookup f = none) : gs.lookup f = none := by
  induction h with
  | nil => rfl
  | @cons a b l1 l2 hab t ih =>
    obtain ⟨an, aP⟩ := a
    obtain ⟨bn, bv⟩ := b
    obtain ⟨h1, h2⟩ := hab
    simp only at h1 h2
    subst h1
    simp only [List.lookup_cons] at e ⊢
    cases q : f == an with
    | true => rw [q] at e; cases e
    | false => rw [q] at e; exact ih e

/-! ### slots -/
inductive Sl where
  | no
  | val (P : Pd)
  | own (Ps : List Pd)
structure Sat (H0 : Hp) (Γ : List Sl) (σ : St) (Hb H : Hp) : Prop where
  val : ∀ (i : Nat) (P : Pd), Γ[i]? = some (Sl.val P) → ∃ v, σ[i]? = some (some v) ∧ P.p v Hb
  own : ∀ (i : Nat) (Ps : List Pd), Γ[i]? = some (Sl.own Ps) → ∃ (l : Addr) (vs : List V), σ[i]? = some (some (V.ref l)) ∧ H0 l = none ∧ Hb l = none ∧ H l = some (.lst vs) ∧ Its Ps vs Hb
  apart : ∀ (i j : Nat) (Ps Qs : List Pd) (l : Addr), Γ[i]? = some (Sl.own Ps) → Γ[j]? = some (Sl.own Qs) → σ[i]? = some (some (V.ref l)) → σ[j]? = some (some (V.ref l)) → i = j
theorem Sat.step {H0 : Hp} {Γ : List Sl} {σ : St} {Hb H Hb' H' : Hp} (h : Sat H0 Γ σ Hb H) (s : Step Hb H Hb' H') : Sat H0 Γ σ Hb' H' := by
  refine ⟨fun i P e => ?_, fun i Ps e => ?_, h.apart⟩
  · obtain ⟨v, h1, h2⟩ := h.val i P e
    exact ⟨v, h1, P.mono s.b h2⟩
  · obtain ⟨l, vs, h1, h2, h3, h4, h5⟩ := h.own i Ps e
    exact ⟨l, vs, h1, h2, s.f l _ h3 h4, s.h _ _ h4, h5.mono s.b⟩

/-! ### weakest readings -/
def wE (X : Cx) (e : Expr) : TE := fun σ H Q => ∀ (pins : List (Addr × Obj)) (s : Shared), Inv X pins σ H s → wpAny (model X.prog X.w) X.A (eval e X.env) (EP X pins σ Q) X.xe s
def wT (X : Cx) (e : Expr) : TT := fun σ H Q => ∀ (pins : List (Addr × Obj)) (s : Shared), Inv X pins σ H s → wpAny (model X.prog X.w) X.A (isTrue e X.env (eval e X.env)) (TP X pins σ Q) X.xe s
def wA (X : Cx) (es : List Expr) : TA := fun σ H Q => ∀ (pos : Pos) (pins : List (Addr × Obj)) (s : Shared), Inv X pins σ H s → wpAny (model X.prog X.w) X.A (spliced (backTo pos (starEach es X.env))) (AP X pins σ Q) X.xe s
def wS (X : Cx) (sts : List Stmt) : TS := fun D σ H => ∀ (pins : List (Addr × Obj)) (s : Shared), Inv X pins σ H s → wpAny (model X.prog X.w) X.A (execs sts X.env) (SP X pins D) X.xe s
section
variable {X : Cx} {e : Expr} {es : List Expr} {sts : List Stmt}
theorem pe_w : PE X e (wE X e) := ⟨fun pins s _ _ _ I h => h pins s I⟩
theorem pt_w : PT X e (wT X e) := ⟨fun pins s _ _ _ I h => h pins s I⟩
theorem pa_w : PA X es (wA X es) := ⟨fun pos pins s _ _ _ I h => h pos pins s I⟩
theorem pss_w : PSs X sts (wS X sts) := ⟨fun pins s _ _ _ I h => h pins s I⟩
theorem wE.of {t : TE} {σ : St} {H : Hp} {Q : VK} (h : PE X e t) (q : t σ H Q) : wE X e σ H Q := fun pins s I => h.run pins s σ H Q I q
theorem wT.of {t : TT} {σ : St} {H : Hp} {Q : Bool → Hp → Prop} (h : PT X e t) (q : t σ H Q) : wT X e σ H Q := fun pins s I => h.run pins s σ H Q I q
theorem wA.of {t : TA} {σ : St} {H : Hp} {Q : List V → Hp → Prop} (h : PA X es t) (q : t σ H Q) : wA X es σ H Q := fun pos pins s I => h.run pos pins s σ H Q I q
theorem wS.of {t : TS} {σ : St} {H : Hp} {D : Ends} (h : PSs X sts t) (q : t D σ H) : wS X sts D σ H := fun pins s I => h.run pins s σ H D I q
theorem wE.mono {σ : St} {H : Hp} {Q Q' : VK} (h : wE X e σ H Q) (k : ∀ v H', Q v H' → Q' v H') : wE X e σ H Q' := fun pins s I => thn (h pins s I) fun u s' ⟨v, H', I', r, q⟩ => ⟨v, H', I', r, k v H' q⟩
theorem wT.mono {σ : St} {H : Hp} {Q Q' : Bool → Hp → Prop} (h : wT X e σ H Q) (k : ∀ v H', Q v H' → Q' v H') : wT X e σ H Q' := fun pins s I => thn (h pins s I) fun b s' ⟨H', I', q⟩ => ⟨H', I', k b H' q⟩
theorem wA.mono {σ : St} {H : Hp} {Q Q' : List V → Hp → Prop} (h : wA X es σ H Q) (k : ∀ v H', Q v H' → Q' v H') : wA X es σ H Q' := fun pos pins s I => thn (h pos pins s I) fun u s' ⟨v, H', I', r, q⟩ => ⟨v, H', I', r, k v H' q⟩
theorem wS.mono {σ : St} {H : Hp} {D D' : Ends} (h : wS X sts D σ H) (kn : ∀ σ H, D.nx σ H → D'.nx σ H) (kr : ∀ v H, D.rt v H → D'.rt v H) (kb : ∀ σ H, D.bk σ H → D'.bk σ H) (kc : ∀ σ H, D.ct σ H → D'.ct σ H) : wS X sts D' σ H :=
  fun pins s I => thn (h pins s I) fun f s' q => by
    cases f with
    | next => obtain ⟨σ', H', I', q⟩ := q; exact ⟨σ', H', I', kn _ _ q⟩
    | brk => obtain ⟨σ', H', I', q⟩ := q; exact ⟨σ', H', I', kb _ _ q⟩
    | cont => obtain ⟨σ', H', I', q⟩ := q; exact ⟨σ', H', I', kc _ _ q⟩
    | ret u => obtain ⟨v, σ', H', I', r, q⟩ := q; exact ⟨v, σ', H', I', r, kr _ _ q⟩
end

/-! ### typed expressions -/
/-- e has the type P -/
def EX (X : Cx) (Γ : List Sl) (e : Expr) (P : Pd) : Prop := ∀ H0 σ Hb H, Ext Hb H → Sat H0 Γ σ Hb H → wE X e σ H fun v H' => ∃ Hb', Step Hb H Hb' H' ∧ P.p v Hb'
/-- e is a new list with items of these types -/
def EXL (X : Cx) (Γ : List Sl) (e : Expr) (Ps : List Pd) : Prop := ∀ H0 σ Hb H, Ext Hb H → Sat H0 Γ σ Hb H → wE X e σ H fun v H' => ∃ Hb' l vs, v = .ref l ∧ Step Hb H Hb' H' ∧ H l = none ∧ Hb' l = none ∧ H' l = some (.lst vs) ∧ Its Ps vs Hb'
def EXT (X : Cx) (Γ : List Sl) (e : Expr) (b : Bool) : Prop := ∀ H0 σ Hb H, Ext Hb H → Sat H0 Γ σ Hb H → wT X e σ H fun c H' => ∃ Hb', Step Hb H Hb' H' ∧ c = b
def EXA (X : Cx) (Γ : List Sl) (es : List Expr) (Ps : List Pd) : Prop := ∀ H0 σ Hb H, Ext Hb H → Sat H0 Γ σ Hb H → wA X es σ H fun vs H' => ∃ Hb', Step Hb H Hb' H' ∧ Its Ps vs Hb'

section
variable {X : Cx} {Γ : List Sl} {e a b c : Expr} {es : List Expr} {P P1 P2 R : Pd} {Ps Qs : List Pd} {pos : Pos}
theorem EX.imp (h : EX X Γ e P) (k : ∀ v H, P.p v H → R.p v H) : EX X Γ e R := fun H0 σ Hb H x s => (h H0 σ Hb H x s).mono fun v H' ⟨Hb', st, q⟩ => ⟨Hb', st, k _ _ q⟩
theorem EX.eq (h : EX X Γ e P) (k : P = R) : EX X Γ e R := k ▸ h
theorem EXL.eq (h : EXL X Γ e Ps) (k : Ps = Qs) : EXL X Γ e Qs := k ▸ h
theorem EXT.eq {x y : Bool} (h : EXT X Γ e x) (k : x = y) : EXT X Γ e y := k ▸ h
theorem EXL.ex (h : EXL X Γ e Ps) : EX X Γ e (tL Ps) := fun H0 σ Hb H x s => (h H0 σ Hb H x s).mono fun v H' ⟨Hb', l, vs, e, st, h0, h1, h2, h3⟩ =>
  ⟨upd Hb' l (.lst vs), st.share h0 h1 h2, l, vs, e, upd_same, h3.mono (Ext.upd h1)⟩
theorem exa_nil : EXA X Γ [] [] := fun H0 σ Hb H x s => wA.of pa_nil ⟨Hb, Step.refl x, .nil⟩
theorem exa_cons (h : EX X Γ e P) (t : EXA X Γ es Ps) (hs : starEach (e :: es) X.env = (false, eval e X.env) :: starEach es X.env := by rfl) : EXA X Γ (e :: es) (P :: Ps) := fun H0 σ Hb H x s =>
  wA.of (pa_cons pe_w pa_w hs) ((h H0 σ Hb H x s).mono fun v H1 ⟨Hb1, st1, q1⟩ => (t H0 σ Hb1 H1 st1.s (s.step st1)).mono fun vs H2 ⟨Hb2, st2, q2⟩ => ⟨Hb2, st1.trans st2, .cons (P.mono st2.b q1) q2⟩)
/-- two operands, the operation by values -/
theorem ex_op {op : Operator} {r : R2} (ho : OpR X (binaryOp op) r) (ha : EX X Γ a P1) (hb : EX X Γ b P2)
    (k : ∀ x y Hb H (Q : VK), Ext Hb H → P1.p x Hb → P2.p y Hb → (∀ v Hb' H', Step Hb H Hb' H' → R.p v Hb' → Q v H') → r x y H Q) : EX X Γ (.BinOp a op b pos) R := fun H0 σ Hb H x s =>
  wE.of (pe_op ho pe_w pe_w) ((ha H0 σ Hb H x s).mono fun v H1 ⟨Hb1, st1, q1⟩ => (hb H0 σ Hb1 H1 st1.s (s.step st1)).mono fun u H2 ⟨Hb2, st2, q2⟩ =>
    k v u Hb2 H2 _ st2.s (P1.mono st2.b q1) q2 fun z Hb3 H3 st3 q3 => ⟨Hb3, (st1.trans st2).trans st3, q3⟩)
theorem ex_un {op : UnaryOp} {r : V → Hp → VK → Prop} (ho : UnR X (unaryOp op) r) (ha : EX X Γ a P1)
    (k : ∀ x Hb H (Q : VK), Ext Hb H → P1.p x Hb → (∀ v Hb' H', Step Hb H Hb' H' → R.p v Hb' → Q v H') → r x H Q) : EX X Γ (.UnaryOp op a pos) R := fun H0 σ Hb H x s =>
  wE.of (pe_un ho pe_w) ((ha H0 σ Hb H x s).mono fun v H1 ⟨Hb1, st1, q1⟩ => k v Hb1 H1 _ st1.s q1 fun z Hb3 H3 st3 q3 => ⟨Hb3, st1.trans st3, q3⟩)
theorem ex_cmp {op : CmpOp} {r : R2} (ho : OpR X (compareOp op) r) (ha : EX X Γ a P1) (hb : EX X Γ b P2)
    (k : ∀ x y Hb H (Q : VK), Ext Hb H → P1.p x Hb → P2.p y Hb → (∀ v Hb' H', Step Hb H Hb' H' → R.p v Hb' → Q v H') → r x y H Q) (hm : behindInMarks op b = false := by first | exact nomark _ | rfl) : EX X Γ (.Compare a [op] [b] pos) R := fun H0 σ Hb H x s =>
  wE.of (pe_cmpR ho pe_w pe_w hm) ((ha H0 σ Hb H x s).mono fun v H1 ⟨Hb1, st1, q1⟩ => (hb H0 σ Hb1 H1 st1.s (s.step st1)).mono fun u H2 ⟨Hb2, st2, q2⟩ =>
    k v u Hb2 H2 _ st2.s (P1.mono st2.b q1) q2 fun z Hb3 H3 st3 q3 => ⟨Hb3, (st1.trans st2).trans st3, q3⟩)
theorem ext_cmp {op : CmpOp} {r : R2} {k : Bool} (ho : OpR X (compareOp op) r) (ha : EX X Γ a P1) (hb : EX X Γ b P2)
    (kk : ∀ x y Hb H (Q : VK), Ext Hb H → P1.p x Hb → P2.p y Hb → (∀ Hb' H', Step Hb H Hb' H' → Q (.bl k) H') → r x y H Q) (hm : behindInMarks op b = false := by first | exact nomark _ | rfl) : EXT X Γ (.Compare a [op] [b] pos) k := fun H0 σ Hb H x s =>
  wT.of (pt_cmpR ho pe_w pe_w hm) ((ha H0 σ Hb H x s).mono fun v H1 ⟨Hb1, st1, q1⟩ => (hb H0 σ Hb1 H1 st1.s (s.step st1)).mono fun u H2 ⟨Hb2, st2, q2⟩ =>
    kk v u Hb2 H2 _ st2.s (P1.mono st2.b q1) q2 fun Hb3 H3 st3 => ⟨k, rfl, Hb3, (st1.trans st2).trans st3, rfl⟩)
/-- a bool as a test -/
theorem ext_val {k : Bool} (h : EX X Γ e (tB k)) (he : ∀ whole, isTrue e X.env whole = (do let v ← whole; standAt e.pos; holding [v] (truthy v)) := by intro _; rfl) : EXT X Γ e k := fun H0 σ Hb H x s =>
  wT.of (pt_val pe_w he) ((h H0 σ Hb H x s).mono fun v H1 ⟨Hb1, st1, q1⟩ => ⟨k, q1, Hb1, st1, rfl⟩)
theorem ext_not {k : Bool} (h : EXT X Γ a k) : EXT X Γ (.UnaryOp .Not a pos) (!k) := fun H0 σ Hb H x s =>
  wT.of (pt_not pt_w) ((h H0 σ Hb H x s).mono fun c H1 ⟨Hb1, st1, q1⟩ => ⟨Hb1, st1, by rw [q1]⟩)

theorem ex_int {i : Int} {j} : EX X Γ (.Constant (.int i) j pos) (tI i) := fun _ _ Hb H x _ => wE.of pe_int ⟨Hb, Step.refl x, rfl⟩
theorem ex_bl {i : Bool} {j} : EX X Γ (.Constant (.bool i) j pos) (tB i) := fun _ _ Hb H x _ => wE.of pe_bl ⟨Hb, Step.refl x, rfl⟩
theorem ex_non {j} : EX X Γ (.Constant .none j pos) tN := fun _ _ Hb H x _ => wE.of pe_non ⟨Hb, Step.refl x, rfl⟩
theorem ex_str {z : Str} {j} : EX X Γ (.Constant (.str z) j pos) (tV (.str z)) := fun _ _ Hb H x _ => wE.of pe_str ⟨Hb, Step.refl x, rfl⟩
/-- the name in the i-th slot -/
theorem ex_v (i : Nat) {x : Str} (hN : X.N[i]? = some x := by rfl) (hΓ : Γ[i]? = some (.val P) := by rfl) (hv : Vis X.env.scope x := by first | exact Or.inl rfl | exact Or.inr (Or.inl rfl) | exact Or.inr (Or.inr rfl)) (hd : (x == ("__debug__" : Str)) = false := by decide)
    (hcd : (x == ("__classdict__" : Str)) = false := by decide) : EX X Γ (.Name x pos) P := fun H0 σ Hb H e s =>
  wE.of (pe_var hN hv hd hcd) (let ⟨v, h1, h2⟩ := s.val i P hΓ; ⟨v, h1, Hb, Step.refl e, h2⟩)
/-- a module's constant -/
theorem ex_glob {x : Str} {v : V} {u : Value} (hm : X.mg x = some u) (r : RelV v u) (hg : Gl X x := by rfl) (hd : (x == ("__debug__" : Str)) = false := by decide) : EX X Γ (.Name x pos) (tV v) := fun _ _ Hb H e _ => wE.of (pe_glob hg hm r hd) ⟨Hb, Step.refl e, rfl⟩
/-- a built-in name as a value -/
theorem ex_bltn {x : Str} {v : V} {u : Value} (hm : X.mg x = none) (hv : bootBuiltins x = some u) (r : RelV v u) (hg : Gl X x := by rfl) (hn : x ≠ "__name__" := by decide) (hd : (x == ("__debug__" : Str)) = false := by decide) : EX X Γ (.Name x pos) (tV v) := fun _ _ Hb H e _ =>
  wE.of (pe_bltn hg hm hv r hn hd) ⟨Hb, Step.refl e, rfl⟩

/-! ints -/
theorem ex_i2 {op : Operator} {g : Int → Int → V} {i j : Int} (ho : OpR X (binaryOp op) (rI0 g)) (ha : EX X Γ a (tI i)) (hb : EX X Γ b (tI j)) : EX X Γ (.BinOp a op b pos) (tV (g i j)) :=
  ex_op ho ha hb fun x y Hb H Q e p q k => ⟨i, j, p, q, k _ Hb H (Step.refl e) rfl⟩
theorem ex_i2c {op : Operator} {C : Int → Int → Prop} {g : Int → Int → V} {i j : Int} (ho : OpR X (binaryOp op) (rI C g)) (ha : EX X Γ a (tI i)) (hb : EX X Γ b (tI j)) (hc : C i j) : EX X Γ (.BinOp a op b pos) (tV (g i j)) :=
  ex_op ho ha hb fun x y Hb H Q e p q k => ⟨i, j, p, q, hc, k _ Hb H (Step.refl e) rfl⟩
theorem ex_add {i j : Int} (ha : EX X Γ a (tI i)) (hb : EX X Γ b (tI j)) : EX X Γ (.BinOp a .Add b pos) (tI (i + j)) := ex_i2 op_add ha hb
theorem ex_sub {i j : Int} (ha : EX X Γ a (tI i)) (hb : EX X Γ b (tI j)) : EX X Γ (.BinOp a .Sub b pos) (tI (i - j)) := ex_i2 op_sub ha hb
theorem ex_mulW {i j : Int} (ha : EX X Γ a (tI i)) (hb : EX X Γ b (tI j)) (hc : CMulW i j) : EX X Γ (.BinOp a .Mult b pos) (tI (i * j)) := ex_i2c op_mulW ha hb hc
theorem ex_fdivW {i j : Int} (ha : EX X Γ a (tI i)) (hb : EX X Γ b (tI j)) (hc : CDivW i j) : EX X Γ (.BinOp a .FloorDiv b pos) (tI (i / j)) := ex_i2c op_fdivW ha hb hc
theorem ex_mod {i j : Int} (ha : EX X Γ a (tI i)) (hb : EX X Γ b (tI j)) (hc : 0 < j) : EX X Γ (.BinOp a .Mod b pos) (tI (i % j)) := ex_i2c op_mod ha hb hc
theorem ext_i2 {op : CmpOp} {g : Int → Int → Bool} {i j : Int} (ho : OpR X (compareOp op) (rI0 fun i j => .bl (g i j))) (ha : EX X Γ a (tI i)) (hb : EX X Γ b (tI j)) (hm : behindInMarks op b = false := by first | exact nomark _ | rfl) : EXT X Γ (.Compare a [op] [b] pos) (g i j) :=
  ext_cmp ho ha hb (fun x y Hb H Q e p q k => ⟨i, j, p, q, k Hb H (Step.refl e)⟩) hm
theorem ext_lt {i j : Int} (ha : EX X Γ a (tI i)) (hb : EX X Γ b (tI j)) : EXT X Γ (.Compare a [.Lt] [b] pos) (decide (i < j)) := ext_i2 op_lt ha hb
theorem ext_le {i j : Int} (ha : EX X Γ a (tI i)) (hb : EX X Γ b (tI j)) : EXT X Γ (.Compare a [.LtE] [b] pos) (decide (i ≤ j)) := ext_i2 op_le ha hb
theorem ext_gt {i j : Int} (ha : EX X Γ a (tI i)) (hb : EX X Γ b (tI j)) : EXT X Γ (.Compare a [.Gt] [b] pos) (decide (j < i)) := ext_i2 op_gt ha hb
theorem ext_ge {i j : Int} (ha : EX X Γ a (tI i)) (hb : EX X Γ b (tI j)) : EXT X Γ (.Compare a [.GtE] [b] pos) (decide (j ≤ i)) := ext_i2 op_ge ha hb
/-- == of scalars -/
theorem ext_eq {x y : V} (ha : EX X Γ a (tV x)) (hb : EX X Γ b (tV y)) (hs : scal x y = true) : EXT X Γ (.Compare a [.Eq] [b] pos) (decide (x = y)) :=
  ext_cmp op_eq ha hb fun u v Hb H Q e p q k => by cases p; cases q; exact ⟨hs, k Hb H (Step.refl e)⟩
theorem ext_ne {x y : V} (ha : EX X Γ a (tV x)) (hb : EX X Γ b (tV y)) (hs : scal x y = true) : EXT X Γ (.Compare a [.NotEq] [b] pos) (!decide (x = y)) :=
  ext_cmp op_ne ha hb fun u v Hb H Q e p q k => by cases p; cases q; exact ⟨hs, k Hb H (Step.refl e)⟩
theorem ext_eqi {i j : Int} (ha : EX X Γ a (tI i)) (hb : EX X Γ b (tI j)) : EXT X Γ (.Compare a [.Eq] [b] pos) (decide (i = j)) := (ext_eq ha hb rfl).eq (by by_cases h : i = j <;> simp [h])
theorem ext_nei {i j : Int} (ha : EX X Γ a (tI i)) (hb : EX X Γ b (tI j)) : EXT X Γ (.Compare a [.NotEq] [b] pos) (!decide (i = j)) := (ext_ne ha hb rfl).eq (by by_cases h : i = j <;> simp [h])
/-- is None -/
theorem ext_isN {k : Bool} (ha : EX X Γ a P) (hp : ∀ v H, P.p v H → decide (v = .non) = k) {j p2} : EXT X Γ (.Compare a [.Is] [.Constant .none j p2] pos) k :=
  ext_cmp op_isN ha ex_non fun x y Hb H Q e p q kk => ⟨q, by rw [hp _ _ p]; exact kk Hb H (Step.refl e)⟩
theorem ext_notN {k : Bool} (ha : EX X Γ a P) (hp : ∀ v H, P.p v H → (!decide (v = .non)) = k) {j p2} : EXT X Γ (.Compare a [.IsNot] [.Constant .none j p2] pos) k :=
  ext_cmp op_notN ha ex_non fun x y Hb H Q e p q kk => ⟨q, by rw [hp _ _ p]; exact kk Hb H (Step.refl e)⟩
/-- a comparison as a value -/
theorem ex_notN {k : Bool} (ha : EX X Γ a P) (hp : ∀ v H, P.p v H → (!decide (v = .non)) = k) {j p2} : EX X Γ (.Compare a [.IsNot] [.Constant .none j p2] pos) (tB k) :=
  ex_cmp op_notN ha ex_non fun x y Hb H Q e p q kk => ⟨q, by rw [hp _ _ p]; exact kk _ Hb H (Step.refl e) rfl⟩
theorem ex_ci2 {op : CmpOp} {g : Int → Int → Bool} {i j : Int} (ho : OpR X (compareOp op) (rI0 fun i j => .bl (g i j))) (ha : EX X Γ a (tI i)) (hb : EX X Γ b (tI j)) (hm : behindInMarks op b = false := by first | exact nomark _ | rfl) : EX X Γ (.Compare a [op] [b] pos) (tB (g i j)) :=
  ex_cmp ho ha hb (fun x y Hb H Q e p q k => ⟨i, j, p, q, k _ Hb H (Step.refl e) rfl⟩) hm
theorem ex_eqV {x y : V} (ha : EX X Γ a (tV x)) (hb : EX X Γ b (tV y)) (hs : scal x y = true) : EX X Γ (.Compare a [.Eq] [b] pos) (tB (decide (x = y))) :=
  ex_cmp op_eq ha hb fun u v Hb H Q e p q k => by cases p; cases q; exact ⟨hs, k _ Hb H (Step.refl e) rfl⟩

/-! and, or, not, if as values and tests -/
theorem ex_if {k : Bool} (hc : EXT X Γ c k) (ha : k = true → EX X Γ a P) (hb : k = false → EX X Γ b P) : EX X Γ (.IfExp c a b pos) P := fun H0 σ Hb H x s =>
  wE.of (pe_ifExp pt_w pe_w pe_w) ((hc H0 σ Hb H x s).mono fun u H1 ⟨Hb1, st1, q1⟩ => by
    subst q1
    cases u with
    | true => exact iteT ((ha rfl H0 σ Hb1 H1 st1.s (s.step st1)).mono fun v H2 ⟨Hb2, st2, q2⟩ => ⟨Hb2, st1.trans st2, q2⟩)
    | false => exact iteF ((hb rfl H0 σ Hb1 H1 st1.s (s.step st1)).mono fun v H2 ⟨Hb2, st2, q2⟩ => ⟨Hb2, st1.trans st2, q2⟩))
theorem exl_if {k : Bool} (hc : EXT X Γ c k) (ha : k = true → EXL X Γ a Ps) (hb : k = false → EXL X Γ b Ps) : EXL X Γ (.IfExp c a b pos) Ps := fun H0 σ Hb H x s =>
  wE.of (pe_ifExp pt_w pe_w pe_w) ((hc H0 σ Hb H x s).mono fun u H1 ⟨Hb1, st1, q1⟩ => by
    subst q1
    cases u with
    | true => exact iteT ((ha rfl H0 σ Hb1 H1 st1.s (s.step st1)).mono fun v H2 ⟨Hb2, l, vs, e, st2, h0, q2⟩ => ⟨Hb2, l, vs, e, st1.trans st2, none_back st1.h h0, q2⟩)
    | false => exact iteF ((hb rfl H0 σ Hb1 H1 st1.s (s.step st1)).mono fun v H2 ⟨Hb2, l, vs, e, st2, h0, q2⟩ => ⟨Hb2, l, vs, e, st1.trans st2, none_back st1.h h0, q2⟩))
/-- a and b, a or b as values: bools -/
theorem ex_one {op} (h : EX X Γ a P) : EX X Γ (.BoolOp op [a] pos) P := fun H0 σ Hb H x s => wE.of (pe_one pe_w) (h H0 σ Hb H x s)
theorem ex_and {rest : List Expr} {k l : Bool} (ha : EX X Γ a (tB k)) (hb : k = true → EX X Γ (.BoolOp .And (b :: rest) pos) (tB l)) : EX X Γ (.BoolOp .And (a :: b :: rest) pos) (tB (k && l)) := fun H0 σ Hb H x s =>
  wE.of (pe_and pe_w pe_w) ((ha H0 σ Hb H x s).mono fun v H1 ⟨Hb1, st1, q1⟩ => ⟨k, q1, by
    cases k with
    | true => exact iteT ((hb rfl H0 σ Hb1 H1 st1.s (s.step st1)).mono fun v H2 ⟨Hb2, st2, q2⟩ => ⟨Hb2, st1.trans st2, q2⟩)
    | false => exact iteF ⟨Hb1, st1, rfl⟩⟩)
theorem ex_or {rest : List Expr} {k l : Bool} (ha : EX X Γ a (tB k)) (hb : k = false → EX X Γ (.BoolOp .Or (b :: rest) pos) (tB l)) : EX X Γ (.BoolOp .Or (a :: b :: rest) pos) (tB (k || l)) := fun H0 σ Hb H x s =>
  wE.of (pe_or pe_w pe_w) ((ha H0 σ Hb H x s).mono fun v H1 ⟨Hb1, st1, q1⟩ => ⟨k, q1, by
    cases k with
    | true => exact iteT ⟨Hb1, st1, rfl⟩
    | false => exact iteF ((hb rfl H0 σ Hb1 H1 st1.s (s.step st1)).mono fun v H2 ⟨Hb2, st2, q2⟩ => ⟨Hb2, st1.trans st2, q2⟩)⟩)
theorem ex_not {k : Bool} (ha : EX X Γ a (tB k)) : EX X Γ (.UnaryOp .Not a pos) (tB (!k)) := fun H0 σ Hb H x s =>
  wE.of (pe_not pe_w) ((ha H0 σ Hb H x s).mono fun v H1 ⟨Hb1, st1, q1⟩ => ⟨k, q1, Hb1, st1, rfl⟩)
/-- as tests -/
def wW (X : Cx) (e : Expr) : TT := fun σ H Q => ∀ (whole : Sem Value) (pins : List (Addr × Obj)) (s : Shared), Inv X pins σ H s → wpAny (model X.prog X.w) X.A (isTrue e X.env whole) (TP X pins σ Q) X.xe s
theorem pw_w : PW X e (wW X e) := ⟨fun whole pins s _ _ _ I h => h whole pins s I⟩
def EXW (X : Cx) (Γ : List Sl) (e : Expr) (b : Bool) : Prop := ∀ H0 σ Hb H, Ext Hb H → Sat H0 Γ σ Hb H → wW X e σ H fun c H' => ∃ Hb', Step Hb H Hb' H' ∧ c = b
theorem EXW.ext {k : Bool} (h : EXW X Γ e k) : EXT X Γ e k := fun H0 σ Hb H x s pins s' I => h H0 σ Hb H x s _ pins s' I
theorem wW.mono {σ : St} {H : Hp} {Q Q' : Bool → Hp → Prop} (h : wW X e σ H Q) (k : ∀ v H', Q v H' → Q' v H') : wW X e σ H Q' := fun w pins s I => thn (h w pins s I) fun b s' ⟨H', I', q⟩ => ⟨H', I', k b H' q⟩
theorem wW.of {t : TT} {σ : St} {H : Hp} {Q : Bool → Hp → Prop} (h : PW X e t) (q : t σ H Q) : wW X e σ H Q := fun w pins s I => h.run w pins s σ H Q I q
theorem exw_and1 {k : Bool} (h : EXT X Γ a k) : EXW X Γ (.BoolOp .And [a] pos) k := fun H0 σ Hb H x s => wW.of (pw_and1 pt_w) (h H0 σ Hb H x s)
theorem exw_or1 {k : Bool} (h : EXT X Γ a k) : EXW X Γ (.BoolOp .Or [a] pos) k := fun H0 σ Hb H x s => wW.of (pw_or1 pt_w) (h H0 σ Hb H x s)
theorem exw_and {rest : List Expr} {k l : Bool} (ha : EXT X Γ a k) (hb : k = true → EXW X Γ (.BoolOp .And (b :: rest) pos) l) : EXW X Γ (.BoolOp .And (a :: b :: rest) pos) (k && l) := fun H0 σ Hb H x s =>
  wW.of (pw_and pt_w pw_w) ((ha H0 σ Hb H x s).mono fun u H1 ⟨Hb1, st1, q1⟩ => by
    subst q1
    cases u with
    | true => exact iteT ((hb rfl H0 σ Hb1 H1 st1.s (s.step st1)).mono fun v H2 ⟨Hb2, st2, q2⟩ => ⟨Hb2, st1.trans st2, q2⟩)
    | false => exact iteF ⟨Hb1, st1, rfl⟩)
theorem exw_or {rest : List Expr} {k l : Bool} (ha : EXT X Γ a k) (hb : k = false → EXW X Γ (.BoolOp .Or (b :: rest) pos) l) : EXW X Γ (.BoolOp .Or (a :: b :: rest) pos) (k || l) := fun H0 σ Hb H x s =>
  wW.of (pw_or pt_w pw_w) ((ha H0 σ Hb H x s).mono fun u H1 ⟨Hb1, st1, q1⟩ => by
    subst q1
    cases u with
    | true => exact iteT ⟨Hb1, st1, rfl⟩
    | false => exact iteF ((hb rfl H0 σ Hb1 H1 st1.s (s.step st1)).mono fun v H2 ⟨Hb2, st2, q2⟩ => ⟨Hb2, st1.trans st2, q2⟩))
end
end Ty
set_option Elab.async false
set_option linter.all false
set_option maxRecDepth 100000
set_option maxHeartbeats 1000000
/-! K2: lists, calls, statements, loops, comprehensions of the typed layer; the rule of a def. -/
namespace Ty
open PySem PySem.Spec PyProof.Rows L2

/-! ### what holds of every body -/
structure Good (P : Program) (w : World) (K : PySem.W.Frag) (mg : Str → Option Value) (base : Heap) (k : Nat) (X : Cx) : Prop where
  hP : X.prog = P
  hw : X.w = w
  hK : X.K = K
  hm : X.mg = mg
  hb : X.base = base
  room : Room k X.A
  calm : X.calm = true
  xe : X.xe = fun _ _ => False
  nd : X.N.Nodup
section
variable {P : Program} {w : World} {K : PySem.W.Frag} {mg : Str → Option Value} {base : Heap} {k : Nat} {X : Cx}
theorem Good.blk (G : Good P w K mg base k X) (s : Shared) (H : Hp) (scope : Scope) (cenv : Env) (fp : List Addr) : Good P w K mg base k (X.blk s H scope cenv fp) := ⟨G.hP, G.hw, G.hK, G.hm, G.hb, G.room, G.calm, rfl, G.nd⟩
theorem Good.pass (G : Good P w K mg base k X) : PassesOwn (model X.prog X.w) X.A X.env X.xe := by rw [G.xe]; exact PassesOwn.never
theorem Good.units (G : Good P w K mg base k X) : X.A.units + 1 < cLine := hu_of G.room
end
/-- the module's name x is a def that keeps the promise sp -/
def Fn (P : Program) (w : World) (K : PySem.W.Frag) (mg : Str → Option Value) (base : Heap) (x : Str) (k : Nat) (ps : List Str) (sp : Sp) : Prop :=
  ∃ f fd, mg x = some (.ref f) ∧ PySem.W.keepIn K (.ref f) = true ∧ Binds K fd ps [] ∧ FnOk P w K mg base CX0 k f fd ps sp
/-- a promise by types -/
def spT {α : Type} (pre : α → Prop) (A : α → List Pd) (R : α → Pd) : Sp := fun vs H Q _ => ∃ x Hb, pre x ∧ Ext Hb H ∧ Its (A x) vs Hb ∧ ∀ v Hb' H', Step Hb H Hb' H' → (R x).p v Hb' → Q v H'

section
variable {P : Program} {w : World} {K : PySem.W.Frag} {mg : Str → Option Value} {base : Heap} {k j : Nat} {X : Cx} {Γ : List Sl} {e a b c o : Expr} {es : List Expr} {Pt P1 P2 R : Pd} {Ps Qs : List Pd} {pos p : Pos} {α : Type}
theorem ex_call {pre : α → Prop} {A : α → List Pd} {Rr : α → Pd} {x : Str} {ps : List Str} (F : Fn P w K mg base x k ps (spT pre A Rr)) (G : Good P w K mg base j X) (y : α) (hk : k ≤ j) (ha : EXA X Γ (e :: es) (A y)) (hp : pre y) (hg : Gl X x := by rfl) (hdb : (x == ("__debug__" : Str)) = false := by decide)
    (he : starEach (e :: es) X.env = (false, eval e X.env) :: starEach es X.env := by rfl) (hpl : (backTo pos (starEach es X.env)).any (·.1) = false := by rfl) : EX X Γ (.Call (.Name x p) (e :: es) [] pos) (Rr y) := by
  obtain ⟨f, fd, hm, kp, bd, F⟩ := F
  obtain ⟨h1, h2, h3, h4, h5, hr, hc, hxe, nd⟩ := G
  subst h1 h2 h3 h4 h5
  exact fun H0 σ Hb H xx s => wE.of (pe_call F (hr.mono hk) hg hm kp bd .nil pass0 pa_w hdb he hpl) ((ha H0 σ Hb H xx s).mono fun vs H1 ⟨Hb1, st1, q1⟩ =>
    ⟨y, Hb1, hp, st1.s, by rw [List.append_nil]; exact q1, fun v Hb2 H2 st2 q2 => ⟨Hb2, st1.trans st2, q2⟩⟩)
theorem ex_callB {id : String} {r : List V → Hp → VK → Prop} {x : Str} (hc : CallR X (.builtin id) r) (ha : EXA X Γ (e :: es) Ps) (hm : X.mg x = none) (hv : bootBuiltins x = some (.builtin id))
    (kk : ∀ vs Hb H (Q : VK), Ext Hb H → Its Ps vs Hb → (∀ v Hb' H', Step Hb H Hb' H' → R.p v Hb' → Q v H') → r vs H Q) (hg : Gl X x := by rfl) (hn : x ≠ "__name__" := by decide) (hdb : (x == ("__debug__" : Str)) = false := by decide)
    (he : starEach (e :: es) X.env = (false, eval e X.env) :: starEach es X.env := by rfl) (hpl : (backTo pos (starEach es X.env)).any (·.1) = false := by rfl) : EX X Γ (.Call (.Name x p) (e :: es) [] pos) R := fun H0 σ Hb H xx s =>
  wE.of (pe_callB hc hg hm hv pa_w hn hdb he hpl) ((ha H0 σ Hb H xx s).mono fun vs H1 ⟨Hb1, st1, q1⟩ => kk vs Hb1 H1 _ st1.s q1 fun v Hb2 H2 st2 q2 => ⟨Hb2, st1.trans st2, q2⟩)
theorem ex_callTy {T : String} {r : List V → Hp → VK → Prop} {x : Str} (hc : CallR X (.type T) r) (ha : EXA X Γ (e :: es) Ps) (hm : X.mg x = none) (hv : bootBuiltins x = some (.type T))
    (kk : ∀ vs Hb H (Q : VK), Ext Hb H → Its Ps vs Hb → (∀ v Hb' H', Step Hb H Hb' H' → R.p v Hb' → Q v H') → r vs H Q) (hg : Gl X x := by rfl) (hn : x ≠ "__name__" := by decide) (hdb : (x == ("__debug__" : Str)) = false := by decide)
    (he : starEach (e :: es) X.env = (false, eval e X.env) :: starEach es X.env := by rfl) (hpl : (backTo pos (starEach es X.env)).any (·.1) = false := by rfl) : EX X Γ (.Call (.Name x p) (e :: es) [] pos) R := fun H0 σ Hb H xx s =>
  wE.of (pe_callTy hc hg hm hv pa_w hn hdb he hpl) ((ha H0 σ Hb H xx s).mono fun vs H1 ⟨Hb1, st1, q1⟩ => kk vs Hb1 H1 _ st1.s q1 fun v Hb2 H2 st2 q2 => ⟨Hb2, st1.trans st2, q2⟩)
theorem ex_callG {id : String} {r : List V → Hp → VK → Prop} {x : Str} (hc : CallR X (.builtin id) r) (ha : EXA X Γ (e :: es) Ps) (hm : X.mg x = some (.builtin id))
    (kk : ∀ vs Hb H (Q : VK), Ext Hb H → Its Ps vs Hb → (∀ v Hb' H', Step Hb H Hb' H' → R.p v Hb' → Q v H') → r vs H Q) (hg : Gl X x := by rfl) (hdb : (x == ("__debug__" : Str)) = false := by decide)
    (he : starEach (e :: es) X.env = (false, eval e X.env) :: starEach es X.env := by rfl) (hpl : (backTo pos (starEach es X.env)).any (·.1) = false := by rfl) : EX X Γ (.Call (.Name x p) (e :: es) [] pos) R := fun H0 σ Hb H xx s =>
  wE.of (pe_callBfun hc hg hm pa_w hdb he hpl) ((ha H0 σ Hb H xx s).mono fun vs H1 ⟨Hb1, st1, q1⟩ => kk vs Hb1 H1 _ st1.s q1 fun v Hb2 H2 st2 q2 => ⟨Hb2, st1.trans st2, q2⟩)

/-! ### lists -/
/-- e is a list (known, or apart) with items of these types -/
def EXS (X : Cx) (Γ : List Sl) (e : Expr) (Ps : List Pd) : Prop := ∀ H0 σ Hb H, Ext Hb H → Sat H0 Γ σ Hb H → wE X e σ H fun v H' => ∃ Hb' l vs, v = .ref l ∧ Step Hb H Hb' H' ∧ H' l = some (.lst vs) ∧ Its Ps vs Hb'
theorem EX.s (h : EX X Γ e (tL Ps)) : EXS X Γ e Ps := fun H0 σ Hb H x s => (h H0 σ Hb H x s).mono fun v H1 ⟨Hb1, st1, l, vs, e1, e2, e3⟩ => ⟨Hb1, l, vs, e1, st1, st1.s _ _ e2, e3⟩
theorem EXL.s (h : EXL X Γ e Ps) : EXS X Γ e Ps := fun H0 σ Hb H x s => (h H0 σ Hb H x s).mono fun v H1 ⟨Hb1, l, vs, e1, st1, _, _, e2, e3⟩ => ⟨Hb1, l, vs, e1, st1, e2, e3⟩
theorem exs_v (i : Nat) {x : Str} (hN : X.N[i]? = some x := by rfl) (hΓ : Γ[i]? = some (.own Ps) := by rfl) (hv : Vis X.env.scope x := by first | exact Or.inl rfl | exact Or.inr (Or.inl rfl) | exact Or.inr (Or.inr rfl)) (hd : (x == ("__debug__" : Str)) = false := by decide)
    (hcd : (x == ("__classdict__" : Str)) = false := by decide) : EXS X Γ (.Name x pos) Ps := fun H0 σ Hb H e s =>
  wE.of (pe_var hN hv hd hcd) (let ⟨l, vs, h1, h2, h3, h4, h5⟩ := s.own i Ps hΓ; ⟨.ref l, h1, Hb, l, vs, rfl, Step.refl e, h4, h5⟩)
theorem sq_at {K : PySem.W.Frag} {H : Hp} {l : Addr} {vs : List V} (h : H l = some (.lst vs)) : SqL K H l vs := Or.inl (Or.inl h)
theorem st_at {K : PySem.W.Frag} {H : Hp} {l : Addr} {vs : List V} (h : H l = some (.tup vs)) : SqT K H l vs := Or.inl (Or.inl h)
theorem ex_len (h : EXS X Γ e Ps) (hm : X.mg "len" = none) (hg : Gl X "len" := by rfl) (he : starEach [e] X.env = (false, eval e X.env) :: starEach [] X.env := by rfl) (hpl : (backTo pos (starEach [] X.env)).any (·.1) = false := by rfl) : EX X Γ (.Call (.Name "len" p) [e] [] pos) (tI Ps.length) := fun H0 σ Hb H x s =>
  wE.of (pe_callB call_len_seq hg hm PySem.boot_len (pa_cons pe_w pa_nil he) (by decide) (by decide) he hpl) ((h H0 σ Hb H x s).mono fun v H1 ⟨Hb1, l, vs, e1, st1, e2, e3⟩ => by
    subst e1
    exact ⟨l, vs, rfl, .inl (sq_at e2), Hb1, st1, by show V.int _ = V.int _; rw [e3.length]⟩)
theorem ex_lenT (h : EX X Γ e (tU Ps)) (hm : X.mg "len" = none) (hg : Gl X "len" := by rfl) (he : starEach [e] X.env = (false, eval e X.env) :: starEach [] X.env := by rfl) (hpl : (backTo pos (starEach [] X.env)).any (·.1) = false := by rfl) : EX X Γ (.Call (.Name "len" p) [e] [] pos) (tI Ps.length) := fun H0 σ Hb H x s =>
  wE.of (pe_callB call_len_seq hg hm PySem.boot_len (pa_cons pe_w pa_nil he) (by decide) (by decide) he hpl) ((h H0 σ Hb H x s).mono fun v H1 ⟨Hb1, st1, l, vs, e1, e2, e3⟩ => by
    subst e1
    exact ⟨l, vs, rfl, .inr (st_at (st1.s _ _ e2)), Hb1, st1, by show V.int _ = V.int _; rw [e3.length]⟩)
theorem Its.at {vs : List V} {H : Hp} {i : Int} (h : Its Ps vs H) (e : atI Ps i = some Pt) : ∃ v, atI vs i = some v ∧ Pt.p v H := by
  unfold atI at e ⊢
  rw [← h.length]
  cases q : ixN Ps.length i with
  | none => rw [q] at e; cases e
  | some n => rw [q] at e; exact h.get e
/-- xs[i] -/
theorem ex_ix {i : Int} (h : EXS X Γ a Ps) (hb : EX X Γ b (tI i)) (e : atI Ps i = some Pt) (hs : PlainIx b := by exact fun _ _ => rfl) : EX X Γ (.Subscript a b pos) Pt := fun H0 σ Hb H x s =>
  wE.of (pe_ix ix_list pe_w pe_w hs) ((h H0 σ Hb H x s).mono fun v H1 ⟨Hb1, l, vs, e1, st1, e2, e3⟩ => (hb H0 σ Hb1 H1 st1.s (s.step st1)).mono fun u H2 ⟨Hb2, st2, q2⟩ => by
    obtain ⟨z, z1, z2⟩ := (e3.mono st2.b).at e
    exact ⟨l, vs, i, z, e1, q2, sq_at (st2.h _ _ e2), z1, Hb2, st1.trans st2, z2⟩)
theorem ex_ixT {i : Int} (h : EX X Γ a (tU Ps)) (hb : EX X Γ b (tI i)) (e : atI Ps i = some Pt) (hs : PlainIx b := by exact fun _ _ => rfl) : EX X Γ (.Subscript a b pos) Pt := fun H0 σ Hb H x s =>
  wE.of (pe_ix ix_tup pe_w pe_w hs) ((h H0 σ Hb H x s).mono fun v H1 ⟨Hb1, st1, l, vs, e1, e2, e3⟩ => (hb H0 σ Hb1 H1 st1.s (s.step st1)).mono fun u H2 ⟨Hb2, st2, q2⟩ => by
    obtain ⟨z, z1, z2⟩ := (e3.mono st2.b).at e
    exact ⟨l, vs, i, z, e1, q2, st_at (st2.s _ _ (st2.b _ _ e2)), z1, Hb2, st1.trans st2, z2⟩)
theorem at_nat {β : Type} {xs : List β} {n : Nat} {y : β} (h : xs[n]? = some y) : atI xs (n : Int) = some y := by
  have hn := (List.getElem?_eq_some_iff.mp h).1
  unfold atI ixN
  rw [if_pos (by omega), if_pos (by omega)]
  simpa using h
theorem at_last {β : Type} {xs : List β} {y : β} (h : xs.getLast? = some y) : atI xs (-1) = some y := by
  have hne : xs ≠ [] := by intro z; subst z; cases h
  have hl : 0 < xs.length := List.length_pos_iff.mpr hne
  unfold atI ixN
  rw [if_neg (by omega), if_pos (by omega)]
  have e : (-1 + (xs.length : Int)).toNat = xs.length - 1 := by omega
  show xs[(-1 + (xs.length : Int)).toNat]? = some y
  rw [e, ← List.getLast?_eq_getElem?]
  exact h
/-- -1 as it is written -/
theorem ex_neg1 {i : Int} {j p2} : EX X Γ (.UnaryOp .USub (.Constant (.int i) j p2) pos) (tI (-i)) := ex_un un_neg ex_int fun x Hb H Q e h k => ⟨i, h, k _ Hb H (Step.refl e) rfl⟩
/-- [a, b, ..] -/
theorem exl_lst (h : EXA X Γ es Ps) (hl : Ps.length ≤ 1000) : EXL X Γ (.List es pos) Ps := fun H0 σ Hb H x s =>
  wE.of (pe_lst pa_w) ((h H0 σ Hb H x s).mono fun vs H1 ⟨Hb1, st1, q1⟩ => ⟨by rw [← q1.length]; exact Nat.le_of_lt (small1000 hl), fun l hl => ⟨Hb1, l, vs, rfl, st1.priv hl, none_back st1.h hl, none_back st1.s hl, upd_same, q1⟩⟩)
theorem ex_tup (h : EXA X Γ es Ps) (hl : Ps.length ≤ 1000) {x1} : EX X Γ (.Tuple es x1 pos) (tU Ps) := fun H0 σ Hb H x s =>
  wE.of (pe_tup pa_w) ((h H0 σ Hb H x s).mono fun vs H1 ⟨Hb1, st1, q1⟩ => ⟨by rw [← q1.length]; exact Nat.le_of_lt (small1000 hl), fun l hl => ⟨upd Hb1 l (.tup vs), st1.new hl, l, vs, rfl, upd_same, q1.mono (Ext.upd (none_back st1.s hl))⟩⟩)
/-- list(xs) -/
theorem exl_list (h : EXS X Γ e Ps) (hm : X.mg "list" = none) (hg : Gl X "list" := by rfl) (he : starEach [e] X.env = (false, eval e X.env) :: starEach [] X.env := by rfl) (hpl : (backTo pos (starEach [] X.env)).any (·.1) = false := by rfl) : EXL X Γ (.Call (.Name "list" p) [e] [] pos) Ps := fun H0 σ Hb H x s =>
  wE.of (pe_callTy call_list_of hg hm (by decide +kernel) (pa_cons pe_w pa_nil he) (by decide) (by decide) he hpl) ((h H0 σ Hb H x s).mono fun v H1 ⟨Hb1, l, vs, e1, st1, e2, e3⟩ => by
    subst e1
    exact ⟨l, vs, rfl, .inl (sq_at e2), fun q hq => ⟨Hb1, q, vs, rfl, st1.priv hq, none_back st1.h hq, none_back st1.s hq, upd_same, e3⟩⟩)
/-- xs + ys -/
theorem exl_cat (ha : EXS X Γ a Ps) (hb : EXS X Γ b Qs) (hl : Ps.length + Qs.length ≤ 1000) : EXL X Γ (.BinOp a .Add b pos) (Ps ++ Qs) := fun H0 σ Hb H x s =>
  wE.of (pe_op op_cat pe_w pe_w) ((ha H0 σ Hb H x s).mono fun v H1 ⟨Hb1, l, vs, e1, st1, e2, e3⟩ => (hb H0 σ Hb1 H1 st1.s (s.step st1)).mono fun u H2 ⟨Hb2, m, us, f1, st2, f2, f3⟩ => by
    subst e1 f1
    exact ⟨l, m, vs, us, rfl, rfl, st2.h _ _ e2, f2, by rw [← e3.length, ← f3.length]; exact Nat.le_of_lt (small1000 hl), fun q hq => ⟨Hb2, q, vs ++ us, rfl, (st1.trans st2).priv hq, none_back (st1.trans st2).h hq, none_back st2.s hq, upd_same, Its.app (e3.mono st2.b) f3⟩⟩)
/-- xs * n -/
theorem exl_rep {n : Int} (ha : EXS X Γ a [Pt]) (hb : EX X Γ b (tI n)) (hn : n ≤ 1000) (hn2 : -1000 ≤ n) : EXL X Γ (.BinOp a .Mult b pos) (List.replicate n.toNat Pt) := fun H0 σ Hb H x s =>
  wE.of (pe_op op_rep pe_w pe_w) ((ha H0 σ Hb H x s).mono fun v H1 ⟨Hb1, l, vs, e1, st1, e2, e3⟩ => (hb H0 σ Hb1 H1 st1.s (s.step st1)).mono fun u H2 ⟨Hb2, st2, f1⟩ => by
    subst e1
    cases e3 with
    | cons h t =>
      cases t
      rename_i z
      refine ⟨l, n, [z], rfl, f1, st2.h _ _ e2, by omega, by omega, ?_, fun q hq => ⟨Hb2, q, List.replicate n.toNat z, rfl, (st1.trans st2).priv hq, none_back (st1.trans st2).h hq, none_back st2.s hq, ?_, Its.rep (Pt.mono st2.b h) _⟩⟩
      · show 1 * n.toNat ≤ sizeLine
        have : n.toNat ≤ 1000 := by omega
        rw [Nat.one_mul]
        exact Nat.le_of_lt (small1000 this)
      · rw [upd_same]
        have : (List.replicate n.toNat [z]).flatten = List.replicate n.toNat z := by
          generalize n.toNat = m
          induction m with
          | zero => rfl
          | succ m ih => rw [List.replicate_succ, List.replicate_succ, List.flatten_cons, ih]; rfl
        rw [this])
/-- xs[lo:hi] -/
def EXO (X : Cx) (Γ : List Sl) (e : Option Expr) (o : Option Int) : Prop := (e = none ∧ o = none) ∨ ∃ f i, e = some f ∧ o = some i ∧ EX X Γ f (tI i)
theorem exo_n : EXO X Γ none none := .inl ⟨rfl, rfl⟩
theorem exo_s {i : Int} (h : EX X Γ e (tI i)) : EXO X Γ (some e) (some i) := .inr ⟨e, i, rfl, rfl, h⟩
def wO (X : Cx) : Option Expr → TO
  | none => tNoPart
  | some f => tPart (wE X f)
theorem po_w : ∀ {e : Option Expr}, PO X e (wO X e)
  | none => po_none
  | some f => po_some pe_w
theorem wO.go {e : Option Expr} {o : Option Int} (h : EXO X Γ e o) {H0 : Hp} {σ : St} {Hb H : Hp} (x : Ext Hb H) (s : Sat H0 Γ σ Hb H) {Q : Option Int → Hp → Prop} (k : ∀ Hb' H', Step Hb H Hb' H' → Q o H') : wO X e σ H Q := by
  rcases h with ⟨rfl, rfl⟩ | ⟨f, i, rfl, rfl, h⟩
  · exact k Hb H (Step.refl x)
  · exact (h H0 σ Hb H x s).mono fun v H1 ⟨Hb1, st1, q1⟩ => ⟨i, q1, k Hb1 H1 st1⟩
def cutP {β : Type} (xs : List β) (lo hi : Option Int) : List β := (xs.drop (HT.sIx xs.length 0 lo)).take (HT.sIx xs.length xs.length hi - HT.sIx xs.length 0 lo)
theorem Its.cut {vs : List V} {H : Hp} (h : Its Ps vs H) (lo hi : Option Int) : Its (cutP Ps lo hi) (cutV vs lo hi) H := by
  unfold cutV cutP
  rw [h.length]
  exact (h.drop _).take _
theorem exl_sl {lo hi : Option Expr} {l u : Option Int} {p2 : Pos} (h : EXS X Γ a Ps) (hl : EXO X Γ lo l) (hu : EXO X Γ hi u) : EXL X Γ (.Subscript a (.Slice lo hi none p2) pos) (cutP Ps l u) := fun H0 σ Hb H x s =>
  wE.of (pe_slice sl_list pe_w po_w po_w) ((h H0 σ Hb H x s).mono fun v H1 ⟨Hb1, m, vs, e1, st1, e2, e3⟩ => wO.go hl st1.s (s.step st1) fun Hb2 H2 st2 => wO.go hu st2.s ((s.step st1).step st2) fun Hb3 H3 st3 =>
    ⟨m, vs, e1, sq_at (st3.h _ _ (st2.h _ _ e2)), fun q hq => ⟨Hb3, q, cutV vs l u, rfl, ((st1.trans st2).trans st3).priv hq, none_back ((st1.trans st2).trans st3).h hq, none_back st3.s hq, upd_same, ((e3.mono st2.b).mono st3.b).cut l u⟩⟩)
theorem cut_take {β : Type} (xs : List β) (n : Nat) : cutP xs none (some (n : Int)) = xs.take n := by
  unfold cutP HT.sIx
  simp only
  rw [if_neg (by omega)]
  simp
theorem cut_init {β : Type} (xs : List β) : cutP xs none (some (-1)) = xs.dropLast := by
  unfold cutP HT.sIx
  simp only
  rw [if_pos (by omega)]
  rw [List.dropLast_eq_take]
  simp
  omega
/-- xs[::-1] -/
theorem exl_rev {kk : Nat} {p1 p2 p3 : Pos} (h : EXS X Γ e Ps) : EXL X Γ (.Subscript e (.Slice none none (some (.UnaryOp .USub (.Constant (.int 1) kk p1) p2)) p3) pos) Ps.reverse := fun H0 σ Hb H x s =>
  wE.of (pe_revL pe_w) ((h H0 σ Hb H x s).mono fun v H1 ⟨Hb1, m, vs, e1, st1, e2, e3⟩ => ⟨m, vs, e1, sq_at e2, fun q hq => ⟨Hb1, q, vs.reverse, rfl, st1.priv hq, none_back st1.h hq, none_back st1.s hq, upd_same, e3.rev⟩⟩)
/-- e.f, a field -/
theorem ex_fld {C : Addr} {fs : List (Str × Pd)} {f : Str} (h : EX X Γ e (tO C fs)) (hl : fs.lookup f = some Pt) (cl : Cls X.K C) (na : NoAttr X.K C f) (hb : attributeBase e f X.env (eval e X.env) = eval e X.env := by rfl) : EX X Γ (.Attribute e f pos) Pt := fun H0 σ Hb H x s =>
  wE.of (pe_fld pe_w hb) ((h H0 σ Hb H x s).mono fun v H1 ⟨Hb1, st1, a, dx, gs, e1, e2, e3⟩ => by
    obtain ⟨z, z1, z2⟩ := e3.look hl
    exact ⟨a, C, dx, gs, z, e1, st1.s _ _ e2, cl, na, z1, Hb1, st1, z2⟩)
/-- e.f, a property -/
theorem ex_prop {C p0 g : Addr} {fs : List (Str × Pd)} {f : Str} {fd : FuncData} {pre : α → Prop} {A : α → List Pd} {Rr : α → Pd} {ps : List Str} (h : EX X Γ e (tO C fs)) (G : Good P w K mg base j X) (cl : Cls K C) (hp : PropOf K C f p0 g) (F : FnOk P w K mg base CX0 k g fd ps (spT pre A Rr)) (bd : Binds K fd ps [])
    (y : α) (hA : A y = [tO C fs]) (hpre : pre y) (hk : k + 1 ≤ j) (hb : attributeBase e f X.env (eval e X.env) = eval e X.env := by rfl) : EX X Γ (.Attribute e f pos) (Rr y) := by
  obtain ⟨h1, h2, h3, h4, h5, hr, hc, hxe, nd⟩ := G
  subst h1 h2 h3 h4 h5
  exact fun H0 σ Hb H x s => wE.of (pe_prop (E := E0) pe_w cl hp F (hr.mono hk) bd .nil (by intro _ _ _ _ _ _ _ h; exact h.elim) hb) ((h H0 σ Hb H x s).mono fun v H1 ⟨Hb1, st1, a, dx, gs, e1, e2, e3⟩ => by
    subst e1
    exact ⟨a, dx, gs, rfl, st1.s _ _ e2, y, Hb1, hpre, st1.s, by rw [hA]; exact .cons ⟨a, dx, gs, rfl, e2, e3⟩ .nil, fun v Hb2 H2 st2 q2 => ⟨Hb2, st1.trans st2, q2⟩⟩)
/-- o.m(..) -/
theorem ex_meth {C f0 : Addr} {fs : List (Str × Pd)} {m : Str} {fd : FuncData} {pre : α → Prop} {A : α → List Pd} {Rr : α → Pd} {ps : List Str} {pl : Sem Bool} {apos : Pos} (h : EX X Γ o (tO C fs)) (ha : EXA X Γ (e :: es) Ps) (G : Good P w K mg base j X) (cl : Cls K C) (hm : Meth K C m f0) (F : FnOk P w K mg base CX0 k f0 fd ps (spT pre A Rr)) (bd : Binds K fd ps [])
    (y : α) (hA : A y = tO C fs :: Ps) (hpre : pre y) (hk : k ≤ j) (hn : fs.lookup m = none := by rfl)
    (hst : starEach (e :: es) X.env = (false, eval e X.env) :: starEach es X.env := by rfl) (hpl : (backTo pos (starEach es X.env)).any (·.1) = false := by rfl)
    (ht : eval (.Call (.Attribute o m apos) (e :: es) [] pos) X.env = (do
      let ov ← eval o X.env
      standAt apos.atName
      let (f, first) ← holding [ov] (getMethod ov m pl)
      callWith pos f first (backTo pos (starEach (e :: es) X.env)) (backToKw pos (keywordEach [] X.env))) := by rfl) : EX X Γ (.Call (.Attribute o m apos) (e :: es) [] pos) (Rr y) := by
  obtain ⟨h1, h2, h3, h4, h5, hr, hc, hxe, nd⟩ := G
  subst h1 h2 h3 h4 h5
  exact fun H0 σ Hb H x s => wE.of (pe_meth (pl := pl) pe_w cl hm F (hr.mono hk) bd .nil pass0 pa_w hst hpl ht) ((h H0 σ Hb H x s).mono fun v H1 ⟨Hb1, st1, a, dx, gs, e1, e2, e3⟩ => by
    subst e1
    refine ⟨a, dx, gs, rfl, st1.s _ _ e2, e3.no hn, (ha H0 σ Hb1 H1 st1.s (s.step st1)).mono fun vs H2 ⟨Hb2, st2, q2⟩ => ?_⟩
    refine ⟨y, Hb2, hpre, st2.s, ?_, fun v Hb3 H3 st3 q3 => ⟨Hb3, (st1.trans st2).trans st3, q3⟩⟩
    rw [hA, List.append_nil]
    exact .cons ⟨a, dx, gs, rfl, st2.b _ _ e2, e3.mono st2.b⟩ q2)
end
end Ty
set_option Elab.async false
set_option linter.all false
set_option maxRecDepth 100000
set_option maxHeartbeats 1000000
/-! K3: statements, loops, comprehensions of the typed layer; the rule of a def. -/
namespace Ty
open PySem PySem.Spec PyProof.Rows L2

/-- what is wanted behind a statement: the heaps at the def's entry, the type of what is handed back, what may come behind -/
structure Ec where
  Hb0 : Hp
  H0 : Hp
  Hk : Hp
  R : Pd
  nx : St → Hp → Prop
  bk : St → Hp → Prop := fun _ _ => False
  ct : St → Hp → Prop := fun _ _ => False
def Ec.D (E : Ec) : Ends := ⟨E.nx, fun v H' => ∃ Hb', Step E.Hb0 E.H0 Hb' H' ∧ E.R.p v Hb', E.bk, E.ct⟩
/-- the state: its slots have these types -/
def At (X : Cx) (Hb0 H0 Hk : Hp) (Γ : List Sl) : St → Hp → Prop := fun σ H => σ.length = X.N.length ∧ ∃ Hb, Step Hb0 H0 Hb H ∧ Ext Hk Hb ∧ Sat H0 Γ σ Hb H
abbrev Ec.at (E : Ec) (X : Cx) (Γ : List Sl) : St → Hp → Prop := At X E.Hb0 E.H0 E.Hk Γ
def BL (X : Cx) (E : Ec) (Γ : List Sl) (sts : List Stmt) : Prop := ∀ σ H, E.at X Γ σ H → wS X sts E.D σ H
/-- the same ends, another continuation -/
abbrev Ec.to (E : Ec) (nx : St → Hp → Prop) : Ec := { E with nx := nx }
abbrev Ec.loop (E : Ec) (nx bk : St → Hp → Prop) : Ec := { E with nx := nx, bk := bk, ct := nx }
abbrev Ec.never (E : Ec) : Ec := { E with nx := fun _ _ => False }

/-- fewer types are known -/
inductive Le : List Sl → List Sl → Prop where
  | nil : Le [] []
  | same {s a b} : Le a b → Le (s :: a) (s :: b)
  | no {s a b} : Le a b → Le (.no :: a) (s :: b)
theorem Le.val {P P' : Pd} {a b : List Sl} (h : P = P') (t : Le a b) : Le (.val P :: a) (.val P' :: b) := h ▸ .same t
theorem Le.own {Ps Ps' : List Pd} {a b : List Sl} (h : Ps = Ps') (t : Le a b) : Le (.own Ps :: a) (.own Ps' :: b) := h ▸ .same t
theorem Le.refl : ∀ Γ, Le Γ Γ
  | [] => .nil
  | _ :: r => .same (Le.refl r)
theorem Le.get {Γ' Γ : List Sl} (h : Le Γ' Γ) {i : Nat} {s : Sl} (e : Γ'[i]? = some s) : s = .no ∨ Γ[i]? = some s := by
  induction h generalizing i with
  | nil => simp at e
  | same t ih =>
    cases i with
    | zero => simp at e; subst e; exact .inr rfl
    | succ i => simp at e ⊢; exact ih e
  | no t ih =>
    cases i with
    | zero => simp at e; exact .inl e.symm
    | succ i => simp at e ⊢; exact ih e
theorem Sat.le {H0 : Hp} {Γ Γ' : List Sl} {σ : St} {Hb H : Hp} (s : Sat H0 Γ σ Hb H) (h : Le Γ' Γ) : Sat H0 Γ' σ Hb H :=
  ⟨fun i P e => s.val i P ((h.get e).resolve_left (by intro z; cases z)), fun i Ps e => s.own i Ps ((h.get e).resolve_left (by intro z; cases z)),
    fun i j Ps Qs l e1 e2 => s.apart i j Ps Qs l ((h.get e1).resolve_left (by intro z; cases z)) ((h.get e2).resolve_left (by intro z; cases z))⟩
theorem Sat.set {H0 : Hp} {Γ : List Sl} {σ : St} {Hb H : Hp} (s : Sat H0 Γ σ Hb H) {i : Nat} {P : Pd} {v : V} (hi : i < σ.length) (h : P.p v Hb) : Sat H0 (Γ.set i (.val P)) (σ.set i (some v)) Hb H := by
  refine ⟨fun j Q e => ?_, fun j Ps e => ?_, fun j k Ps Qs l e1 e2 f1 f2 => ?_⟩
  · by_cases hj : i = j
    · subst hj
      by_cases hl : i < Γ.length
      · rw [List.getElem?_set_self hl] at e
        cases e
        exact ⟨v, List.getElem?_set_self hi, h⟩
      · rw [List.getElem?_eq_none (by simpa using hl)] at e; cases e
    · rw [List.getElem?_set_ne hj] at e
      rw [List.getElem?_set_ne hj]
      exact s.val j Q e
  · by_cases hj : i = j
    · subst hj
      by_cases hl : i < Γ.length
      · rw [List.getElem?_set_self hl] at e; cases e
      · rw [List.getElem?_eq_none (by simpa using hl)] at e; cases e
    · rw [List.getElem?_set_ne hj] at e
      rw [List.getElem?_set_ne hj]
      exact s.own j Ps e
  · have n1 : i ≠ j := by
      intro z; subst z
      by_cases hl : i < Γ.length
      · rw [List.getElem?_set_self hl] at e1; cases e1
      · rw [List.getElem?_eq_none (by simpa using hl)] at e1; cases e1
    have n2 : i ≠ k := by
      intro z; subst z
      by_cases hl : i < Γ.length
      · rw [List.getElem?_set_self hl] at e2; cases e2
      · rw [List.getElem?_eq_none (by simpa using hl)] at e2; cases e2
    rw [List.getElem?_set_ne n1] at e1 f1
    rw [List.getElem?_set_ne n2] at e2 f2
    exact s.apart j k Ps Qs l e1 e2 f1 f2
/-- a new list is stored: it is the slot's own -/
theorem Sat.setO {H0 : Hp} {Γ : List Sl} {σ : St} {Hb H Hb' H' : Hp} (s : Sat H0 Γ σ Hb H) (st : Step Hb H Hb' H') (e0 : Ext H0 H) {i : Nat} {Ps : List Pd} {l : Addr} {vs : List V} (hi : i < σ.length)
    (h0 : H l = none) (h1 : Hb' l = none) (h2 : H' l = some (.lst vs)) (h3 : Its Ps vs Hb') : Sat H0 (Γ.set i (.own Ps)) (σ.set i (some (.ref l))) Hb' H' := by
  have s' := s.step st
  have new : ∀ (j : Nat) (Qs : List Pd) (m : Addr), Γ[j]? = some (Sl.own Qs) → σ[j]? = some (some (V.ref m)) → m ≠ l := fun j Qs m e f z => by
    obtain ⟨m', vs', f1, _, _, f2, _⟩ := s.own j Qs e
    rw [f1] at f
    cases f
    rw [z, h0] at f2
    cases f2
  refine ⟨fun j Q e => ?_, fun j Qs e => ?_, fun j k Qs Rs m e1 e2 f1 f2 => ?_⟩
  · by_cases hj : i = j
    · subst hj
      by_cases hl : i < Γ.length
      · rw [List.getElem?_set_self hl] at e; cases e
      · rw [List.getElem?_eq_none (by simpa using hl)] at e; cases e
    · rw [List.getElem?_set_ne hj] at e
      rw [List.getElem?_set_ne hj]
      exact s'.val j Q e
  · by_cases hj : i = j
    · subst hj
      by_cases hl : i < Γ.length
      · rw [List.getElem?_set_self hl] at e
        cases e
        exact ⟨l, vs, List.getElem?_set_self hi, none_back e0 h0, h1, h2, h3⟩
      · rw [List.getElem?_eq_none (by simpa using hl)] at e; cases e
    · rw [List.getElem?_set_ne hj] at e
      rw [List.getElem?_set_ne hj]
      exact s'.own j Qs e
  · by_cases n1 : i = j
    · subst n1
      rw [List.getElem?_set_self hi] at f1
      cases f1
      by_cases n2 : i = k
      · exact n2
      · rw [List.getElem?_set_ne n2] at e2 f2
        exact absurd rfl (new k Rs _ e2 f2)
    · rw [List.getElem?_set_ne n1] at e1 f1
      by_cases n2 : i = k
      · subst n2
        rw [List.getElem?_set_self hi] at f2
        cases f2
        exact absurd rfl (new j Qs _ e1 f1)
      · rw [List.getElem?_set_ne n2] at e2 f2
        exact s.apart j k Qs Rs m e1 e2 f1 f2
/-- the slot's own list is changed -/
theorem Sat.mut {H0 : Hp} {Γ : List Sl} {σ : St} {Hb H : Hp} (s : Sat H0 Γ σ Hb H) {i : Nat} {Ps Qs : List Pd} {l : Addr} {vs : List V} (hi : Γ[i]? = some (Sl.own Ps)) (hs : σ[i]? = some (some (V.ref l))) (h : Its Qs vs Hb) :
    Sat H0 (Γ.set i (.own Qs)) σ Hb (upd H l (.lst vs)) := by
  have hl : i < Γ.length := (List.getElem?_eq_some_iff.mp hi).1
  obtain ⟨m, ws, f1, f2, f3, f4, f5⟩ := s.own i Ps hi
  rw [hs] at f1
  cases f1
  refine ⟨fun j Q e => ?_, fun j Rs e => ?_, fun j k Rs Ss m e1 e2 g1 g2 => ?_⟩
  · by_cases hj : i = j
    · subst hj
      rw [List.getElem?_set_self hl] at e; cases e
    · rw [List.getElem?_set_ne hj] at e
      exact s.val j Q e
  · by_cases hj : i = j
    · subst hj
      rw [List.getElem?_set_self hl] at e
      cases e
      exact ⟨l, vs, hs, f2, f3, upd_same, h⟩
    · rw [List.getElem?_set_ne hj] at e
      obtain ⟨m, us, g1, g2, g3, g4, g5⟩ := s.own j Rs e
      have hm : m ≠ l := fun z => hj (s.apart i j Ps Rs l hi e hs (by rw [g1, z]))
      exact ⟨m, us, g1, g2, g3, by rw [upd_ne hm]; exact g4, g5⟩
  · have e1' : ∃ T, Γ[j]? = some (Sl.own T) := by
      by_cases hj : i = j
      · subst hj; exact ⟨Ps, hi⟩
      · rw [List.getElem?_set_ne hj] at e1; exact ⟨_, e1⟩
    have e2' : ∃ T, Γ[k]? = some (Sl.own T) := by
      by_cases hj : i = k
      · subst hj; exact ⟨Ps, hi⟩
      · rw [List.getElem?_set_ne hj] at e2; exact ⟨_, e2⟩
    obtain ⟨T1, e1'⟩ := e1'
    obtain ⟨T2, e2'⟩ := e2'
    exact s.apart j k T1 T2 m e1' e2' g1 g2
/-- the slot's own list is given away -/
theorem Sat.rel {H0 : Hp} {Γ : List Sl} {σ : St} {Hb H : Hp} (s : Sat H0 Γ σ Hb H) {i : Nat} {Ps : List Pd} {l : Addr} {vs : List V} (hi : Γ[i]? = some (Sl.own Ps)) (hs : σ[i]? = some (some (V.ref l))) (h1 : Hb l = none) (h2 : H l = some (.lst vs)) (h3 : Its Ps vs Hb) :
    Sat H0 (Γ.set i (.val (tL Ps))) σ (upd Hb l (.lst vs)) H := by
  have hl : i < Γ.length := (List.getElem?_eq_some_iff.mp hi).1
  have x : Ext Hb (upd Hb l (.lst vs)) := Ext.upd h1
  refine ⟨fun j Q e => ?_, fun j Rs e => ?_, fun j k Rs Ss m e1 e2 g1 g2 => ?_⟩
  · by_cases hj : i = j
    · subst hj
      rw [List.getElem?_set_self hl] at e
      cases e
      exact ⟨.ref l, hs, l, vs, rfl, upd_same, h3.mono x⟩
    · rw [List.getElem?_set_ne hj] at e
      obtain ⟨v, g1, g2⟩ := s.val j Q e
      exact ⟨v, g1, Q.mono x g2⟩
  · by_cases hj : i = j
    · subst hj
      rw [List.getElem?_set_self hl] at e; cases e
    · rw [List.getElem?_set_ne hj] at e
      obtain ⟨m, us, g1, g2, g3, g4, g5⟩ := s.own j Rs e
      have hm : m ≠ l := fun z => hj (s.apart i j Ps Rs l hi e hs (by rw [g1, z]))
      exact ⟨m, us, g1, g2, by rw [upd_ne hm]; exact g3, g4, g5.mono x⟩
  · have n1 : i ≠ j := by intro z; subst z; rw [List.getElem?_set_self hl] at e1; cases e1
    have n2 : i ≠ k := by intro z; subst z; rw [List.getElem?_set_self hl] at e2; cases e2
    rw [List.getElem?_set_ne n1] at e1
    rw [List.getElem?_set_ne n2] at e2
    exact s.apart j k Rs Ss m e1 e2 g1 g2

section
variable {P : Program} {w : World} {K : PySem.W.Frag} {mg : Str → Option Value} {base : Heap} {k : Nat} {X : Cx} {E : Ec} {Γ Γ' : List Sl} {e a b c o : Expr} {es : List Expr} {Pt P1 P2 R : Pd} {Ps Qs : List Pd} {pos p : Pos} {rest sts sa sb : List Stmt} {α : Type}
theorem nlt {i : Nat} {x : Str} {σ : St} (hi : X.N[i]? = some x) (hl : σ.length = X.N.length) : i < σ.length := by rw [hl]; exact (List.getElem?_eq_some_iff.mp hi).1
theorem bl_le (h : Le Γ' Γ) (k : BL X E Γ' sts) : BL X E Γ sts := fun σ H ⟨h1, Hb, h2, hk, h3⟩ => k σ H ⟨h1, Hb, h2, hk, h3.le h⟩
theorem bl_end (h : ∀ σ H, E.at X Γ σ H → E.nx σ H) : BL X E Γ [] := fun σ H q => wS.of pss_nil (h σ H q)
theorem bl_fin (h : Le Γ' Γ) (e : E.nx = E.at X Γ') : BL X E Γ [] := bl_end fun σ H ⟨h1, Hb, h2, hk, h3⟩ => by rw [e]; exact ⟨h1, Hb, h2, hk, h3.le h⟩
theorem bl_pass (k : BL X E Γ rest) : BL X E Γ (.Pass pos :: rest) := fun σ H q => wS.of (pss_cons ps_pass pss_w) (k σ H q)
theorem bl_set (i : Nat) {x : Str} {p' : Pos} (G : Good P w K mg base k X) (h : EX X Γ e Pt) (kk : BL X E (Γ.set i (.val Pt)) rest) (hi : X.N[i]? = some x := by rfl) (hx : Loc X.env.scope x := by first | exact Or.inl rfl | exact Or.inr rfl)
    (hs : swapsWith e (some (.Name x p')) pos.line X.env = pure false := by rfl) (hf : X.fn x = true ∨ X.env.scope.names.lookup x = some .local := by first | exact .inl rfl | exact .inr rfl) : BL X E Γ (.Assign [.Name x p'] e pos :: rest) := fun σ H ⟨h1, Hb, h2, hk, h3⟩ =>
  wS.of (pss_cons (ps_set G.nd hi hx pe_w hs hf) pss_w) ((h E.H0 σ Hb H h2.s h3).mono fun v H1 ⟨Hb1, st, q⟩ => kk _ _ ⟨by rw [List.length_set]; exact h1, Hb1, h2.trans st, hk.trans st.b, (h3.step st).set (nlt hi h1) q⟩)
theorem bl_setO (i : Nat) {x : Str} {p' : Pos} (G : Good P w K mg base k X) (h : EXL X Γ e Ps) (kk : BL X E (Γ.set i (.own Ps)) rest) (hi : X.N[i]? = some x := by rfl) (hx : Loc X.env.scope x := by first | exact Or.inl rfl | exact Or.inr rfl)
    (hs : swapsWith e (some (.Name x p')) pos.line X.env = pure false := by rfl) (hf : X.fn x = true ∨ X.env.scope.names.lookup x = some .local := by first | exact .inl rfl | exact .inr rfl) : BL X E Γ (.Assign [.Name x p'] e pos :: rest) := fun σ H ⟨h1, Hb, h2, hk, h3⟩ =>
  wS.of (pss_cons (ps_set G.nd hi hx pe_w hs hf) pss_w) ((h E.H0 σ Hb H h2.s h3).mono fun v H1 ⟨Hb1, l, vs, ev, st, q0, q1, q2, q3⟩ => by
    subst ev
    exact kk _ _ ⟨by rw [List.length_set]; exact h1, Hb1, h2.trans st, hk.trans st.b, h3.setO st h2.h (nlt hi h1) q0 q1 q2 q3⟩)
theorem bl_ret (h0 : EX X Γ e Pt) (k : Pt = E.R := by rfl) : BL X E Γ (.Return (some e) pos :: rest) := fun σ H ⟨h1, Hb, h2, hk, h3⟩ =>
  have h : EX X Γ e E.R := k ▸ h0
  wS.of (pss_cons (ps_ret pe_w) pss_w) ((h E.H0 σ Hb H h2.s h3).mono fun v H1 ⟨Hb1, st, q⟩ => ⟨Hb1, h2.trans st, q⟩)
theorem bl_expr (h : EX X Γ e Pt) (kk : BL X E Γ rest) (hs : swapsWith e none pos.line X.env = pure false := by rfl) : BL X E Γ (.Expr e pos :: rest) := fun σ H ⟨h1, Hb, h2, hk, h3⟩ =>
  wS.of (pss_cons (ps_expr pe_w hs) pss_w) ((h E.H0 σ Hb H h2.s h3).mono fun v H1 ⟨Hb1, st, q⟩ => kk σ H1 ⟨h1, Hb1, h2.trans st, hk.trans st.b, h3.step st⟩)
/-- if as the last statement -/
theorem bl_if {t : Bool} (hc : EXT X Γ c t) (h1 : t = true → BL X E Γ sa) (h2 : t = false → BL X E Γ sb) : BL X E Γ [.If c sa sb pos] := fun σ H ⟨g1, Hb, g2, gk, g3⟩ =>
  wS.of (pss_one (ps_if pt_w pss_w pss_w)) ((hc E.H0 σ Hb H g2.s g3).mono fun u H1 ⟨Hb1, st, q⟩ => by
    subst q
    cases u with
    | true => exact iteT (h1 rfl σ H1 ⟨g1, Hb1, g2.trans st, gk.trans st.b, g3.step st⟩)
    | false => exact iteF (h2 rfl σ H1 ⟨g1, Hb1, g2.trans st, gk.trans st.b, g3.step st⟩))
/-- if .. whose first suite does not come to its end -/
theorem bl_ifr {t : Bool} (hc : EXT X Γ c t) (h1 : t = true → BL X E.never Γ sa) (h2 : t = false → BL X E Γ rest) : BL X E Γ (.If c sa [] pos :: rest) := fun σ H ⟨g1, Hb, g2, gk, g3⟩ =>
  wS.of (pss_cons (ps_if pt_w pss_w pss_nil) pss_w) ((hc E.H0 σ Hb H g2.s g3).mono fun u H1 ⟨Hb1, st, q⟩ => by
    subst q
    cases u with
    | true => exact iteT ((h1 rfl σ H1 ⟨g1, Hb1, g2.trans st, gk.trans st.b, g3.step st⟩).mono (fun _ _ z => z.elim) (fun _ _ z => z) (fun _ _ z => z) fun _ _ z => z)
    | false => exact iteF (h2 rfl σ H1 ⟨g1, Hb1, g2.trans st, gk.trans st.b, g3.step st⟩))
/-- if .. whose suites both come to Γ' -/
theorem bl_ifj (Γ' : List Sl) {t : Bool} (hc : EXT X Γ c t) (h1 : t = true → BL X (E.to (E.at X Γ')) Γ sa) (h2 : t = false → BL X (E.to (E.at X Γ')) Γ sb) (h3 : BL X E Γ' rest) : BL X E Γ (.If c sa sb pos :: rest) := fun σ H ⟨g1, Hb, g2, gk, g3⟩ =>
  wS.of (pss_cons (ps_if pt_w pss_w pss_w) pss_w) ((hc E.H0 σ Hb H g2.s g3).mono fun u H1 ⟨Hb1, st, q⟩ => by
    subst q
    cases u with
    | true => exact iteT ((h1 rfl σ H1 ⟨g1, Hb1, g2.trans st, gk.trans st.b, g3.step st⟩).mono (fun σ' H' z => h3 σ' H' z) (fun _ _ z => z) (fun _ _ z => z) fun _ _ z => z)
    | false => exact iteF ((h2 rfl σ H1 ⟨g1, Hb1, g2.trans st, gk.trans st.b, g3.step st⟩).mono (fun σ' H' z => h3 σ' H' z) (fun _ _ z => z) (fun _ _ z => z) fun _ _ z => z))
/-- a, b = e, a tuple -/
theorem bl_unp (i j : Nat) {x y : Str} {px py pt : Pos} {kt : Nat} (G : Good P w K mg base k X) (h : EX X Γ e (tU [P1, P2])) (kk : BL X E ((Γ.set i (.val P1)).set j (.val P2)) rest) (hi : X.N[i]? = some x := by rfl) (hj : X.N[j]? = some y := by rfl)
    (hx : Loc X.env.scope x := by first | exact Or.inl rfl | exact Or.inr rfl) (hy : Loc X.env.scope y := by first | exact Or.inl rfl | exact Or.inr rfl)
    (hfx : X.fn x = true ∨ X.env.scope.names.lookup x = some .local := by first | exact .inl rfl | exact .inr rfl) (hfy : X.fn y = true ∨ X.env.scope.names.lookup y = some .local := by first | exact .inl rfl | exact .inr rfl)
    (hs : swapsWithSole [.Tuple [.Name x px, .Name y py] kt pt] e pos.line X.env = pure false := by rfl) (hw : swappedStores [.Tuple [.Name x px, .Name y py] kt pt] e X.env = pure none := by rfl)
    (hn : (assignEach [.Name x px, .Name y py] X.env).length = 2 := by rfl) (hst : (assignEach [.Name x px, .Name y py] X.env).findIdx? (·.1) = none := by rfl) : BL X E Γ (.Assign [.Tuple [.Name x px, .Name y py] kt pt] e pos :: rest) := fun σ H ⟨h1, Hb, h2, hk, h3⟩ =>
  wS.of (pss_cons (ps_asg pe_w (pg_tup G.calm (pgs_cons (pg_name G.nd hi hx hfx) (pgs_cons (pg_name G.nd hj hy hfy) pgs_nil)) hn hst) hs hw) pss_w) ((h E.H0 σ Hb H h2.s h3).mono fun v H1 ⟨Hb1, st, q⟩ => by
    obtain ⟨t, vs, ev, e1, e2⟩ := q
    subst ev
    cases e2 with
    | cons q1 r1 =>
      cases r1 with
      | cons q2 r2 =>
        cases r2
        rename_i u v
        refine ⟨t, [u, v], rfl, st_at (st.s _ _ e1), rfl, u, [v], rfl, v, [], rfl, rfl, kk _ _ ⟨by rw [List.length_set, List.length_set]; exact h1, Hb1, h2.trans st, hk.trans st.b, ?_⟩⟩
        exact ((h3.step st).set (nlt hi h1) q1).set (nlt hj (by rw [List.length_set]; exact h1)) q2)
/-- a, b = e1, e2 with plain local names -/
theorem bl_par (i j : Nat) {x y : Str} {px py pt : Pos} {kt k2 pt2} (G : Good P w K mg base k X) (ha : EX X Γ a P1) (hb : EX X Γ b P2) (kk : BL X E ((Γ.set i (.val P1)).set j (.val P2)) rest) (hi : X.N[i]? = some x := by rfl) (hj : X.N[j]? = some y := by rfl) (hij : i ≠ j := by decide)
    (hx : X.env.scope.names.lookup x = some .local := by rfl) (hy : X.env.scope.names.lookup y = some .local := by rfl) (hw : swappedStores [.Tuple [.Name x px, .Name y py] kt pt] (.Tuple [a, b] k2 pt2) X.env = pure (some [x, y]) := by rfl)
    (hs : swapsWithSole [.Tuple [.Name x px, .Name y py] kt pt] (.Tuple [a, b] k2 pt2) pos.line X.env = pure false := by rfl)
    (he : starEach [a, b] X.env = (false, eval a X.env) :: starEach [b] X.env := by rfl) (he2 : starEach [b] X.env = (false, eval b X.env) :: starEach [] X.env := by rfl) : BL X E Γ (.Assign [.Tuple [.Name x px, .Name y py] kt pt] (.Tuple [a, b] k2 pt2) pos :: rest) := fun σ H ⟨h1, Hb, h2, hk, h3⟩ =>
  wS.of (pss_cons (ps_par G.calm G.nd hi hj hij hx hy pa_w hw hs) pss_w) (((exa_cons ha (exa_cons hb exa_nil he2) he) E.H0 σ Hb H h2.s h3).mono fun vs H1 ⟨Hb1, st, q⟩ => by
    cases q with
    | cons q1 r1 =>
      cases r1 with
      | cons q2 r2 =>
        cases r2
        exact ⟨_, _, rfl, kk _ _ ⟨by rw [List.length_set, List.length_set]; exact h1, Hb1, h2.trans st, hk.trans st.b, ((h3.step st).set (nlt hi h1) q1).set (nlt hj (by rw [List.length_set]; exact h1)) q2⟩⟩)
/-- a, b = e1, e2, the second one a new list that b owns -/
theorem bl_parO (i j : Nat) {x y : Str} {px py pt : Pos} {kt k2 pt2} (G : Good P w K mg base k X) (ha : EX X Γ a P1) (hb : EXL X Γ b Ps) (kk : BL X E ((Γ.set i (.val P1)).set j (.own Ps)) rest) (hi : X.N[i]? = some x := by rfl) (hj : X.N[j]? = some y := by rfl) (hij : i ≠ j := by decide)
    (hx : X.env.scope.names.lookup x = some .local := by rfl) (hy : X.env.scope.names.lookup y = some .local := by rfl) (hw : swappedStores [.Tuple [.Name x px, .Name y py] kt pt] (.Tuple [a, b] k2 pt2) X.env = pure (some [x, y]) := by rfl)
    (hs : swapsWithSole [.Tuple [.Name x px, .Name y py] kt pt] (.Tuple [a, b] k2 pt2) pos.line X.env = pure false := by rfl)
    (he : starEach [a, b] X.env = (false, eval a X.env) :: starEach [b] X.env := by rfl) (he2 : starEach [b] X.env = (false, eval b X.env) :: starEach [] X.env := by rfl) : BL X E Γ (.Assign [.Tuple [.Name x px, .Name y py] kt pt] (.Tuple [a, b] k2 pt2) pos :: rest) := fun σ H ⟨h1, Hb, h2, hk, h3⟩ =>
  wS.of (pss_cons (ps_par G.calm G.nd hi hj hij hx hy pa_w hw hs) pss_w) (wA.of (pa_cons pe_w (pa_cons pe_w pa_nil he2) he) ((ha E.H0 σ Hb H h2.s h3).mono fun u H1 ⟨Hb1, st, q1⟩ => (hb E.H0 σ Hb1 H1 st.s (h3.step st)).mono fun v H2 ⟨Hb2, l, vs, ev, st2, r0, r1, r2, r3⟩ => by
    subst ev
    have s1 : Sat E.H0 (Γ.set i (.val P1)) (σ.set i (some u)) Hb1 H1 := (h3.step st).set (nlt hi h1) q1
    exact ⟨u, .ref l, rfl, kk _ _ ⟨by rw [List.length_set, List.length_set]; exact h1, Hb2, (h2.trans st).trans st2, (hk.trans st.b).trans st2.b, s1.setO st2 (h2.trans st).h (nlt hj (by rw [List.length_set]; exact h1)) r0 r1 r2 r3⟩⟩))
/-- the slot's own list is given away -/
theorem bl_rel (i : Nat) (hΓ : Γ[i]? = some (.own Ps) := by rfl) (kk : BL X E (Γ.set i (.val (tL Ps))) sts) : BL X E Γ sts := fun σ H ⟨h1, Hb, h2, hk, h3⟩ => by
  obtain ⟨l, vs, g1, g2, g3, g4, g5⟩ := h3.own i Ps hΓ
  exact kk σ H ⟨h1, _, h2.share g2 g3 g4, hk.trans (Ext.upd g3), h3.rel hΓ g1 g3 g4 g5⟩
/-- xs.append(e), xs the slot's own -/
theorem bl_app (i : Nat) {x : Str} {px apos : Pos} (h : EX X Γ e Pt) (kk : BL X E (Γ.set i (.own (Ps ++ [Pt]))) rest) (hl : Ps.length < 1000) (hi : X.N[i]? = some x := by rfl) (hΓ : Γ[i]? = some (.own Ps) := by rfl) (hv : Vis X.env.scope x := by first | exact Or.inl rfl | exact Or.inr (Or.inl rfl) | exact Or.inr (Or.inr rfl))
    (hd : (x == ("__debug__" : Str)) = false := by decide) (hcd : (x == ("__classdict__" : Str)) = false := by decide)
    (hbase : attributeBase (.Name x px) "append" X.env (eval (.Name x px) X.env) = eval (.Name x px) X.env := by rfl)
    (hfew : ((backTo pos (starEach [e] X.env)).all (fun x => !x.1) && (backToKw pos (keywordEach [] X.env)).all (fun x => x.1.isSome)
      && decide (([e] : List Expr).length + ([] : List Keyword).length + (if ([] : List Keyword).isEmpty then 0 else 1) < 30)) = true := by rfl)
    (hline : (apos.endLine == pos.line) = true := by rfl) (hs : starEach [e] X.env = (false, eval e X.env) :: starEach [] X.env := by rfl) (hplain : (backTo pos (starEach [] X.env)).any (·.1) = false := by rfl)
    (hsw : swapsWith (.Call (.Attribute (.Name x px) "append" apos) [e] [] pos) none p.line X.env = pure false := by rfl) : BL X E Γ (.Expr (.Call (.Attribute (.Name x px) "append" apos) [e] [] pos) p :: rest) := fun σ H ⟨h1, Hb, h2, hk, h3⟩ => by
  obtain ⟨l, vs, g1, g2, g3, g4, g5⟩ := h3.own i Ps hΓ
  refine wS.of (pss_cons (ps_expr (pe_bm PySem.F.plainAttrs_list PySem.F.slot_list_append PySem.F.type_list_append mt_append (pe_var hi hv hd hcd) (pa_cons pe_w pa_nil hs) hbase hfew hline hs hplain) hsw) pss_w) ?_
  refine ⟨.ref l, g1, .inl ⟨rfl, _, sq_at g4⟩, (h E.H0 σ Hb H h2.s h3).mono fun v H1 ⟨Hb1, st, q⟩ => ?_⟩
  have s1 := h3.step st
  obtain ⟨l', vs', k1, k2, k3, k4, k5⟩ := s1.own i Ps hΓ
  rw [g1] at k1
  cases k1
  refine ⟨l, vs', v, rfl, rfl, k4, ?_, kk σ _ ⟨h1, Hb1, (h2.trans st).mut k2 k3, hk.trans st.b, s1.mut hΓ g1 (Its.app k5 (.cons q .nil))⟩⟩
  rw [← k5.length]
  exact small1000 (Nat.le_of_lt hl)
/-- xs.pop(), xs the slot's own -/
theorem bl_pop (i : Nat) {x : Str} {px apos : Pos} (kk : BL X E (Γ.set i (.own Ps.dropLast)) rest) (hne : Ps ≠ []) (hi : X.N[i]? = some x := by rfl) (hΓ : Γ[i]? = some (.own Ps) := by rfl) (hv : Vis X.env.scope x := by first | exact Or.inl rfl | exact Or.inr (Or.inl rfl) | exact Or.inr (Or.inr rfl))
    (hd : (x == ("__debug__" : Str)) = false := by decide) (hcd : (x == ("__classdict__" : Str)) = false := by decide)
    (hbm : ∀ {to : TE}, PE X (.Name x px) to → PE X (.Call (.Attribute (.Name x px) "pop" apos) [] [] pos) (tBM0 X.K "list" rPop to) := by exact fun h => pe_bm0 PySem.F.plainAttrs_list PySem.F.slot_list_pop PySem.F.type_list_pop mt_pop h)
    (hsw : swapsWith (.Call (.Attribute (.Name x px) "pop" apos) [] [] pos) none p.line X.env = pure false := by rfl) : BL X E Γ (.Expr (.Call (.Attribute (.Name x px) "pop" apos) [] [] pos) p :: rest) := fun σ H ⟨h1, Hb, h2, hk, h3⟩ => by
  obtain ⟨l, vs, g1, g2, g3, g4, g5⟩ := h3.own i Ps hΓ
  refine wS.of (pss_cons (ps_expr (hbm (pe_var hi hv hd hcd)) hsw) pss_w) ?_
  have hl : 0 < vs.length := by rw [← g5.length]; exact List.length_pos_iff.mpr hne
  refine ⟨.ref l, g1, .inl ⟨rfl, _, sq_at g4⟩, l, vs, vs[vs.length - 1], rfl, rfl, g4, List.getElem?_eq_getElem _, kk σ _ ⟨h1, Hb, h2.mut g2 g3, hk, h3.mut hΓ g1 ?_⟩⟩
  rw [List.dropLast_eq_take, List.dropLast_eq_take, g5.length]
  exact g5.take _
/-- xs[i] = e, xs the slot's own -/
theorem bl_setix (i : Nat) {x : Str} {n : Nat} {z : Int} {px : Pos} (h : EX X Γ e Pt) (hb : EX X Γ b (tI z)) (hz : ixN Ps.length z = some n) (kk : BL X E (Γ.set i (.own (Ps.set n Pt))) rest) (hi : X.N[i]? = some x := by rfl) (hΓ : Γ[i]? = some (.own Ps) := by rfl)
    (hv : Vis X.env.scope x := by first | exact Or.inl rfl | exact Or.inr (Or.inl rfl) | exact Or.inr (Or.inr rfl)) (hd : (x == ("__debug__" : Str)) = false := by decide) (hcd : (x == ("__classdict__" : Str)) = false := by decide)
    (hps : ∀ {to ti te : TE}, PE X (.Name x px) to → PE X b ti → PE X e te → PS X (.Assign [.Subscript (.Name x px) b pos] e p) (tAsg te (gSub to ti rSetL)) := by exact fun h1 h2 h3 => ps_asg h3 (pg_sub h1 h2 set_list)) :
    BL X E Γ (.Assign [.Subscript (.Name x px) b pos] e p :: rest) := fun σ H ⟨h1, Hb, h2, hk, h3⟩ => by
  refine wS.of (pss_cons (hps (pe_var hi hv hd hcd) pe_w pe_w) pss_w) ?_
  refine (h E.H0 σ Hb H h2.s h3).mono fun v H1 ⟨Hb1, st, q⟩ => ?_
  have s1 := h3.step st
  obtain ⟨l, vs, g1, g2, g3, g4, g5⟩ := s1.own i Ps hΓ
  refine ⟨.ref l, g1, (hb E.H0 σ Hb1 H1 st.s s1).mono fun u H2 ⟨Hb2, st2, q2⟩ => ?_⟩
  have s2 := s1.step st2
  obtain ⟨l', vs', k1, k2, k3, k4, k5⟩ := s2.own i Ps hΓ
  rw [g1] at k1
  cases k1
  exact ⟨l, vs', z, n, rfl, q2, k4, by rw [← k5.length]; exact hz, kk σ _ ⟨h1, Hb2, ((h2.trans st).trans st2).mut k2 k3, (hk.trans st.b).trans st2.b, s2.mut hΓ g1 (k5.set (Pt.mono st2.b q) n)⟩⟩
end
end Ty
set_option Elab.async false
set_option linter.all false
set_option maxRecDepth 100000
set_option maxHeartbeats 1000000
/-! K4: loops, comprehensions, the rule of a def, instances. -/
namespace Ty
open PySem PySem.Spec PyProof.Rows L2
section
variable {P : Program} {w : World} {K : PySem.W.Frag} {mg : Str → Option Value} {base : Heap} {k : Nat} {X : Cx} {E : Ec} {Γ Γ' : List Sl} {e a b c o iter elt : Expr} {es : List Expr} {Pt P1 P2 R : Pd} {Ps Qs : List Pd} {pos p : Pos} {rest sts sa sb body : List Stmt} {α : Type}
/-- the loop's known heap -/
abbrev Ec.kp (E : Ec) (Hk : Hp) : Ec := { E with Hk := Hk }
theorem At.keep {Hb0 H0 Hk Hk' : Hp} {σ : St} {H : Hp} (x : Ext Hk Hk') (h : At X Hb0 H0 Hk' Γ σ H) : At X Hb0 H0 Hk Γ σ H := let ⟨h1, Hb, h2, h3, h4⟩ := h; ⟨h1, Hb, h2, x.trans h3, h4⟩
/-- for x in xs -/
theorem bl_for (j : Nat) {x : Str} {px : Pos} (G : Good P w K mg base k X) (hi : EX X Γ iter (tL Ps)) (Γi : Nat → List Sl) (h0 : Le (Γi 0) Γ)
    (hb : ∀ (Hk : Hp) (i : Nat) (Pt : Pd), Ps[i]? = some Pt → BL X ((E.kp Hk).loop (At X E.Hb0 E.H0 Hk (Γi (i + 1))) fun _ _ => False) ((Γi i).set j (.val Pt)) body) (kk : BL X E (Γi Ps.length) rest)
    (hj : X.N[j]? = some x := by rfl) (hx : Loc X.env.scope x := by first | exact Or.inl rfl | exact Or.inr rfl) (hf : X.fn x = true ∨ X.env.scope.names.lookup x = some .local := by first | exact .inl rfl | exact .inr rfl)
    (hfs : ∀ x, foldedSetIterable iter X.env x = pure x := by intro _; rfl) : BL X E Γ (.For (.Name x px) iter body [] pos :: rest) := fun σ H ⟨h1, Hb, h2, hk, h3⟩ => by
  refine wS.of (pss_cons (ps_for G.pass G.calm (pi_list pe_w) (pg_name G.nd hj hx hf) pss_w hfs) pss_w) ?_
  refine (hi E.H0 σ Hb H h2.s h3).mono fun v H1 ⟨Hb1, st, l, vs, ev, e2, e3⟩ => ?_
  subst ev
  refine ⟨l, rfl, ⟨vs, sq_at (st.s _ _ e2)⟩, for_list (xs := vs) (fun i => At X E.Hb0 E.H0 Hb1 (Γi i)) ⟨h1, Hb1, h2.trans st, Ext.rfl', (h3.step st).le h0⟩ (fun i σ' H' _ q => ?_) (fun i v σ' H' hv q => ?_) fun σ' H' q => ?_⟩
  · obtain ⟨_, Hb', g2, g3, _⟩ := q
    exact sq_at (g2.s _ _ (g3 _ _ e2))
  · obtain ⟨g1, Hb', g2, g3, g4⟩ := q
    have hlt : i < Ps.length := by rw [e3.length]; exact (List.getElem?_eq_some_iff.mp hv).1
    obtain ⟨u, hu, pu⟩ := (e3.mono g3).get (List.getElem?_eq_getElem hlt)
    rw [hv] at hu
    cases hu
    refine (hb Hb1 i Ps[i] (List.getElem?_eq_getElem hlt) _ _ ⟨by rw [List.length_set]; exact g1, Hb', g2, g3, g4.set (nlt hj g1) pu⟩).mono (fun _ _ z => z) (fun _ _ z => z) (fun _ _ z => z.elim) fun _ _ z => z
  · rw [← e3.length] at q
    exact kk σ' H' (q.keep (hk.trans st.b))
/-- for x in (a, b, ..) -/
theorem bl_forT (j : Nat) {x : Str} {px : Pos} (G : Good P w K mg base k X) (hi : EX X Γ iter (tU Ps)) (Γi : Nat → List Sl) (h0 : Le (Γi 0) Γ)
    (hb : ∀ (Hk : Hp) (i : Nat) (Pt : Pd), Ps[i]? = some Pt → BL X ((E.kp Hk).loop (At X E.Hb0 E.H0 Hk (Γi (i + 1))) fun _ _ => False) ((Γi i).set j (.val Pt)) body) (kk : BL X E (Γi Ps.length) rest)
    (hj : X.N[j]? = some x := by rfl) (hx : Loc X.env.scope x := by first | exact Or.inl rfl | exact Or.inr rfl) (hf : X.fn x = true ∨ X.env.scope.names.lookup x = some .local := by first | exact .inl rfl | exact .inr rfl)
    (hfs : ∀ x, foldedSetIterable iter X.env x = pure x := by intro _; rfl) : BL X E Γ (.For (.Name x px) iter body [] pos :: rest) := fun σ H ⟨h1, Hb, h2, hk, h3⟩ => by
  refine wS.of (pss_cons (ps_for G.pass G.calm (pi_tup pe_w) (pg_name G.nd hj hx hf) pss_w hfs) pss_w) ?_
  refine (hi E.H0 σ Hb H h2.s h3).mono fun v H1 ⟨Hb1, st, l, vs, ev, e2, e3⟩ => ?_
  subst ev
  refine ⟨l, rfl, ⟨vs, st_at (st.s _ _ e2)⟩, for_tup (xs := vs) (fun i => At X E.Hb0 E.H0 Hb1 (Γi i)) ⟨h1, Hb1, h2.trans st, Ext.rfl', (h3.step st).le h0⟩ (fun i σ' H' _ q => ?_) (fun i v σ' H' hv q => ?_) fun σ' H' q => ?_⟩
  · obtain ⟨_, Hb', g2, g3, _⟩ := q
    exact st_at (g2.s _ _ (g3 _ _ e2))
  · obtain ⟨g1, Hb', g2, g3, g4⟩ := q
    have hlt : i < Ps.length := by rw [e3.length]; exact (List.getElem?_eq_some_iff.mp hv).1
    obtain ⟨u, hu, pu⟩ := (e3.mono g3).get (List.getElem?_eq_getElem hlt)
    rw [hv] at hu
    cases hu
    refine (hb Hb1 i Ps[i] (List.getElem?_eq_getElem hlt) _ _ ⟨by rw [List.length_set]; exact g1, Hb', g2, g3, g4.set (nlt hj g1) pu⟩).mono (fun _ _ z => z) (fun _ _ z => z) (fun _ _ z => z.elim) fun _ _ z => z
  · rw [← e3.length] at q
    exact kk σ' H' (q.keep (hk.trans st.b))
/-- for i, x in enumerate(xs) -/
theorem bl_forE (j1 j2 : Nat) {x y : Str} {px py pt pe pn : Pos} {kt : Nat} (G : Good P w K mg base k X) (hi : EX X Γ iter (tL Ps)) (Γi : Nat → List Sl) (h0 : Le (Γi 0) Γ)
    (hb : ∀ (Hk : Hp) (i : Nat) (Pt : Pd), Ps[i]? = some Pt → BL X ((E.kp Hk).loop (At X E.Hb0 E.H0 Hk (Γi (i + 1))) fun _ _ => False) (((Γi i).set j1 (.val (tI i))).set j2 (.val Pt)) body) (kk : BL X E (Γi Ps.length) rest)
    (hm : X.mg "enumerate" = none) (hg : Gl X "enumerate" := by rfl) (he : starEach [iter] X.env = [(false, eval iter X.env)] := by rfl)
    (hj1 : X.N[j1]? = some x := by rfl) (hj2 : X.N[j2]? = some y := by rfl) (hx : Loc X.env.scope x := by first | exact Or.inl rfl | exact Or.inr rfl) (hy : Loc X.env.scope y := by first | exact Or.inl rfl | exact Or.inr rfl)
    (hfx : X.fn x = true ∨ X.env.scope.names.lookup x = some .local := by first | exact .inl rfl | exact .inr rfl) (hfy : X.fn y = true ∨ X.env.scope.names.lookup y = some .local := by first | exact .inl rfl | exact .inr rfl)
    (hn : (assignEach [.Name x px, .Name y py] X.env).length = 2 := by rfl) (hst : (assignEach [.Name x px, .Name y py] X.env).findIdx? (·.1) = none := by rfl)
    (hfs : ∀ x, foldedSetIterable (.Call (.Name "enumerate" pn) [iter] [] pe) X.env x = pure x := by intro _; rfl) : BL X E Γ (.For (.Tuple [.Name x px, .Name y py] kt pt) (.Call (.Name "enumerate" pn) [iter] [] pe) body [] pos :: rest) := fun σ H ⟨h1, Hb, h2, hk, h3⟩ => by
  refine wS.of (pss_cons (ps_for G.pass G.calm (pi_enum hg hm (pa_cons pe_w pa_nil he) he) (pg_tup G.calm (pgs_cons (pg_name G.nd hj1 hx hfx) (pgs_cons (pg_name G.nd hj2 hy hfy) pgs_nil)) hn hst) pss_w hfs) pss_w) ?_
  refine (hi E.H0 σ Hb H h2.s h3).mono fun v H1 ⟨Hb1, st, l, vs, ev, e2, e3⟩ => ?_
  subst ev
  refine ⟨l, vs, rfl, sq_at (st.s _ _ e2), fun i m σ H => m = vs.length - i ∧ i ≤ vs.length ∧ At X E.Hb0 E.H0 Hb1 (Γi i) σ H, ⟨vs.length, by simp, Nat.zero_le _, h1, Hb1, h2.trans st, Ext.rfl', (h3.step st).le h0⟩, ?_⟩
  rintro i m σ' H' ⟨rfl, hile, q⟩
  obtain ⟨g1, Hb', g2, g3, g4⟩ := id q
  have hl' : SqL X.K H' l vs := sq_at (g2.s _ _ (g3 _ _ e2))
  by_cases hlt : i < vs.length
  · refine .inr ⟨⟨vs, vs[i], hl', List.getElem?_eq_getElem hlt⟩, At X E.Hb0 E.H0 Hb1 (Γi (i + 1)), fun σ2 H2 p' => ⟨vs.length - (i + 1), by omega, rfl, hlt, p'⟩, fun x' H2 y' => ?_⟩
    obtain ⟨T, z, ex, hT, eH, hz⟩ := y'
    subst ex eH
    have hz' := hz vs hl'
    rw [List.getElem?_eq_getElem hlt] at hz'
    cases hz'
    have hlt2 : i < Ps.length := by rw [e3.length]; exact hlt
    obtain ⟨u, hu, pu⟩ := (e3.mono g3).get (List.getElem?_eq_getElem hlt2)
    rw [List.getElem?_eq_getElem hlt] at hu
    cases hu
    have stn := (Step.refl g2.s).new (o := HO.tup [V.int ((i : Nat) : Int), vs[i]]) hT
    have stp := (Step.refl g2.s).priv (o := HO.tup [V.int ((i : Nat) : Int), vs[i]]) hT
    refine ⟨T, [.int (i : Nat), vs[i]], rfl, st_at upd_same, rfl, _, _, rfl, _, _, rfl, rfl, ?_⟩
    refine (hb Hb1 i Ps[i] (List.getElem?_eq_getElem hlt2) _ _ ⟨by rw [List.length_set, List.length_set]; exact g1, Hb', g2.trans stp, g3, ?_⟩).mono (fun _ _ z => z) (fun _ _ z => z) (fun _ _ z => z.elim) fun _ _ z => z
    exact ((g4.step stp).set (nlt hj1 g1) rfl).set (nlt hj2 (by rw [List.length_set]; exact g1)) pu
  · have e : i = vs.length := by omega
    subst e
    refine .inl ⟨⟨vs, hl', Nat.le_refl _⟩, ?_⟩
    rw [← e3.length] at q
    exact kk σ' H' (q.keep (hk.trans st.b))
/-- for x in range(n) -/
theorem bl_forR (j : Nat) {x : Str} {px pn pe : Pos} {n : Int} (G : Good P w K mg base k X) (hi : EX X Γ a (tI n)) (hn : -(2 ^ 62) ≤ n ∧ n < 2 ^ 62) (Γi : Nat → List Sl) (h0 : Le (Γi 0) Γ)
    (hb : ∀ (i : Nat), (i : Int) < n → BL X (E.loop (E.at X (Γi (i + 1))) fun _ _ => False) ((Γi i).set j (.val (tI i))) body) (kk : BL X E (Γi n.toNat) rest)
    (hm : X.mg "range" = none) (hg : Gl X "range" := by rfl) (he : starEach [a] X.env = [(false, eval a X.env)] := by rfl)
    (hj : X.N[j]? = some x := by rfl) (hx : Loc X.env.scope x := by first | exact Or.inl rfl | exact Or.inr rfl) (hf : X.fn x = true ∨ X.env.scope.names.lookup x = some .local := by first | exact .inl rfl | exact .inr rfl)
    (hfs : ∀ x, foldedSetIterable (.Call (.Name "range" pn) [a] [] pe) X.env x = pure x := by intro _; rfl) : BL X E Γ (.For (.Name x px) (.Call (.Name "range" pn) [a] [] pe) body [] pos :: rest) := fun σ H ⟨h1, Hb, h2, hk, h3⟩ => by
  refine wS.of (pss_cons (ps_for G.pass G.calm (pi_range1 hg hm (pa_cons pe_w pa_nil he) he) (pg_name G.nd hj hx hf) pss_w hfs) pss_w) ?_
  refine (hi E.H0 σ Hb H h2.s h3).mono fun v H1 ⟨Hb1, st, ev⟩ => ?_
  subst ev
  refine ⟨n, rfl, hn.1, hn.2, for_range (lo := 0) (n := n.toNat) (fun i => E.at X (Γi i)) ⟨h1, Hb1, h2.trans st, hk.trans st.b, (h3.step st).le h0⟩ (fun i σ' H' hlt q => ?_) fun σ' H' q => kk σ' H' q⟩
  obtain ⟨g1, Hb', g2, g3, g4⟩ := q
  refine (hb i (by omega) _ _ ⟨by rw [List.length_set]; exact g1, Hb', g2, g3, g4.set (nlt hj g1) (by show V.int (0 + (i : Int)) = V.int i; rw [Int.zero_add])⟩).mono (fun _ _ z => z) (fun _ _ z => z) (fun _ _ z => z.elim) fun _ _ z => z
/-- for x in range(n, -1, -1) -/
theorem bl_forD (j : Nat) {x : Str} {px pn pe : Pos} {n : Nat} (G : Good P w K mg base k X) (hi : EXA X Γ [a, b, c] [tI n, tI (-1), tI (-1)]) (hn : n < 2 ^ 62) (Γi : Nat → List Sl) (h0 : Le (Γi 0) Γ)
    (hb : ∀ (i : Nat), i < n + 1 → BL X (E.loop (E.at X (Γi (i + 1))) fun _ _ => False) ((Γi i).set j (.val (tI ((n : Int) - i)))) body) (kk : BL X E (Γi (n + 1)) rest)
    (hm : X.mg "range" = none) (hpi : ∀ {ta : TA}, PA X [a, b, c] ta → PI X (.Name x px) (.Call (.Name "range" pn) [a, b, c] [] pe) (iRng3 ta))
    (hj : X.N[j]? = some x := by rfl) (hx : Loc X.env.scope x := by first | exact Or.inl rfl | exact Or.inr rfl) (hf : X.fn x = true ∨ X.env.scope.names.lookup x = some .local := by first | exact .inl rfl | exact .inr rfl)
    (hfs : ∀ x, foldedSetIterable (.Call (.Name "range" pn) [a, b, c] [] pe) X.env x = pure x := by intro _; rfl) : BL X E Γ (.For (.Name x px) (.Call (.Name "range" pn) [a, b, c] [] pe) body [] pos :: rest) := fun σ H ⟨h1, Hb, h2, hk, h3⟩ => by
  refine wS.of (pss_cons (ps_for G.pass G.calm (hpi pa_w) (pg_name G.nd hj hx hf) pss_w hfs) pss_w) ?_
  refine (hi E.H0 σ Hb H h2.s h3).mono fun v H1 ⟨Hb1, st, ev⟩ => ?_
  cases ev with
  | cons z1 r =>
    cases r with
    | cons z2 r =>
      cases r with
      | cons z3 r =>
        cases r
        cases z1
        cases z2
        cases z3
        have hr : RgC (n : Int) (-1) (-1) (n + 1) := by
          have q := RgC.neg (i := (n : Int)) (j := -1) (by omega) (by omega) (by omega) (by omega)
          have e : ((n : Int) - -1).toNat = n + 1 := by omega
          rw [e] at q
          exact q
        refine ⟨(n : Int), -1, -1, n + 1, rfl, hr, for_rangeC (fun i => E.at X (Γi i)) ⟨h1, Hb1, h2.trans st, hk.trans st.b, (h3.step st).le h0⟩ (fun i σ' H' hlt q => ?_) fun σ' H' q => kk σ' H' q⟩
        obtain ⟨g1, Hb', g2, g3, g4⟩ := q
        refine (hb i hlt _ _ ⟨by rw [List.length_set]; exact g1, Hb', g2, g3, g4.set (nlt hj g1) (by show V.int ((n : Int) + (i : Nat) * (-1)) = V.int ((n : Int) - i); congr 1; omega)⟩).mono (fun _ _ z => z) (fun _ _ z => z) (fun _ _ z => z.elim) fun _ _ z => z
/-- while: W the types by a datum of one's own, m its measure -/
theorem bl_while {β : Type} (G : Good P w K mg base k X) (W : β → List Sl) (m : β → Nat) (t : β → Bool) (y0 : β) (h0 : Le (W y0) Γ) (hc : ∀ y, EXT X (W y) c (t y))
    (hb : ∀ y, t y = true → BL X (E.loop (fun σ H => ∃ y', m y' < m y ∧ E.at X (W y') σ H) fun _ _ => False) (W y) body) (kk : ∀ y, t y = false → BL X E (W y) rest) : BL X E Γ (.While c body [] pos :: rest) := fun σ H ⟨h1, Hb, h2, hk, h3⟩ => by
  refine wS.of (pss_cons (ps_while G.pass pt_w pss_w) pss_w) ?_
  refine ⟨fun n σ H => ∃ y, m y = n ∧ E.at X (W y) σ H, ⟨m y0, y0, rfl, h1, Hb, h2, hk, h3.le h0⟩, ?_⟩
  rintro n σ' H' ⟨y, rfl, g1, Hb', g2, g3, g4⟩
  refine (hc y E.H0 σ' Hb' H' g2.s g4).mono fun u H1 ⟨Hb1, st, q⟩ => ?_
  cases u with
  | true =>
    refine iteT ⟨fun σ H => ∃ y', m y' < m y ∧ E.at X (W y') σ H, fun σ2 H2 ⟨y', l, q⟩ => ⟨m y', l, y', rfl, q⟩, ?_⟩
    exact (hb y q.symm σ' H1 ⟨g1, Hb1, g2.trans st, g3.trans st.b, g4.step st⟩).mono (fun _ _ z => z) (fun _ _ z => z) (fun _ _ z => z.elim) fun _ _ z => z
  | false => exact iteF (kk y q.symm σ' H1 ⟨g1, Hb1, g2.trans st, g3.trans st.b, g4.step st⟩)
/-- the end of a while's turn -/
theorem bl_again {β : Type} {W : β → List Sl} {m : β → Nat} {y : β} (y' : β) (h : Le (W y') Γ) (hm : m y' < m y) (e : E.nx = fun σ H => ∃ y', m y' < m y ∧ E.at X (W y') σ H) : BL X E Γ [] := bl_end fun σ H ⟨h1, Hb, h2, hk, h3⟩ => by
  rw [e]
  exact ⟨y', hm, h1, Hb, h2, hk, h3.le h⟩

/-! ### comprehensions -/
theorem wE.len {σ : St} {H : Hp} {Q : VK} (h : σ.length = X.N.length → wE X e σ H Q) : wE X e σ H Q := fun pins s I => h I.len pins s I
/-- what the turns of a comprehension keep: the new list at D holds the first items -/
def Lw (Hb1 H1 : Hp) (D : Addr) (Rs : List Pd) (i : Nat) (H' : Hp) : Prop := ∃ Hb' acc, Step Hb1 H1 Hb' H' ∧ Hb' D = none ∧ H' D = some (.lst acc) ∧ Its (Rs.take i) acc Hb'
theorem Lw.turn {Hb1 H1 Hb' H' H2 : Hp} {D : Addr} {Rs : List Pd} {i : Nat} {acc : List V} {y : V} {Hb2 : Hp} {Pt : Pd} (hD : H1 D = none) (st : Step Hb1 H1 Hb' H') (d0 : Hb' D = none) (d1 : H' D = some (.lst acc)) (its : Its (Rs.take i) acc Hb') (st2 : Step Hb' H' Hb2 H2) (hp : Rs[i]? = some Pt) (py : Pt.p y Hb2) :
    Lw Hb1 H1 D Rs (i + 1) (upd H2 D (.lst (acc ++ [y]))) := by
  refine ⟨Hb2, acc ++ [y], (st.trans st2).mut hD (st2.f _ _ d0 d1), st2.f _ _ d0 d1, upd_same, ?_⟩
  rw [List.take_succ, hp]
  exact Its.app (its.mono st2.b) (.cons py .nil)
theorem wipe1 {σ : St} {j : Nat} {x : V} : wipe (σ.set j (some x)) [j] = wipe σ [j] := by
  show (σ.set j (some x)).set j none = σ.set j none
  rw [List.set_set]
theorem wipe1s {σ : St} {j : Nat} {x : V} : (wipe σ [j]).set j (some x) = σ.set j (some x) := by
  show (σ.set j none).set j (some x) = σ.set j (some x)
  rw [List.set_set]
theorem set_len {σ : St} {i : Nat} {x : V} {H0 Hb H : Hp} (s : Sat H0 Γ σ Hb H) (hi : i < σ.length) : i < σ.length := hi
/-- what a comprehension's block is -/
abbrev Blk (X : Cx) (scope : Scope) (f : Cx → Prop) : Prop := ∀ (s : Shared) (H : Hp) (C : Addr) (cl : List (Str × Addr)) (fp : List Addr), f (X.blk s H scope (compEnvC scope cl C X.env) fp)
/-- the element's reading, in whatever block -/
def wB (X : Cx) (scope : Scope) (elt : Expr) : TE := fun σ H Q => Blk X scope fun Y => wE Y elt σ H Q
/-- [elt for x in xs] -/
theorem exl_lc (j : Nat) {x : Str} {px : Pos} {scope : Scope} (Rs : List Pd) (G : Good P w K mg base k X) (hi : EXS X Γ iter Ps) (hl : Rs.length = Ps.length) (hl2 : Ps.length ≤ 1000)
    (he : ∀ (i : Nat) (Pt Rt : Pd), Ps[i]? = some Pt → Rs[i]? = some Rt → Blk X scope fun Y => EX Y (Γ.set j (.val Pt)) elt Rt)
    (hj : j < X.N.length) (ok : BlkOk X.N X.env.scope scope [(x, j)])
    (hg : Blk X scope fun Y => PG Y (.Name x px) (gName j))
    (hs : ∀ x, foldedSetIterable iter X.env x = pure x := by intro _; rfl) : EXL X Γ (.ListComp elt [⟨.Name x px, iter, [], 0⟩] scope pos) Rs := fun H0 σ Hb H xx s => wE.len fun hσ => by
  have hp := pe_lc (X := X) (elt := elt) (tg := .Name x px) (iter := iter) (ifs := []) (scope := scope) (own := [(x, j)]) (pos := pos) (wi := iList X.K (wE X iter)) (g := gName j) (tt := tYes) (te := wB X scope elt) G.calm G.nd (pi_list pe_w) ok hg (fun _ _ _ _ _ => pts_nil)
    (fun s' H' C cl fp => ⟨fun pins s2 σ2 H2 Q I h => h s' H' C cl fp pins s2 I⟩) hs
  refine wE.of hp ?_
  refine (hi H0 σ Hb H xx s).mono fun v H1 ⟨Hb1, l, vs, ev, st, e2, e3⟩ => ?_
  subst ev
  refine ⟨l, rfl, ⟨vs, sq_at e2⟩, fun D hD => lc_list (xs := vs) (Lw Hb1 H1 D Rs) ⟨Hb1, [], (Step.refl st.s).priv hD, none_back st.s hD, upd_same, .nil⟩ (fun i H' _ q => ?_) (fun i u H' hu q => ?_) fun H' q => ?_⟩
  · obtain ⟨Hb', acc, g1, g2, g3, g4⟩ := q
    exact sq_at (g1.h _ _ e2)
  · obtain ⟨Hb', acc, g1, g2, g3, g4⟩ := q
    have hlt : i < Ps.length := by rw [e3.length]; exact (List.getElem?_eq_some_iff.mp hu).1
    obtain ⟨u', hu', pu⟩ := (e3.mono g1.b).get (List.getElem?_eq_getElem hlt)
    rw [hu] at hu'
    cases hu'
    have hr : Rs[i]? = some Rs[i] := List.getElem?_eq_getElem (by omega)
    refine ⟨show wipe ((wipe σ [j]).set j (some u)) [j] = wipe σ [j] by rw [wipe1s]; exact wipe1, ?_⟩
    refine iteT (B := Lw Hb1 H1 D Rs (i + 1) H') ?_
    have ew : List.set (wipe σ (List.map (fun x : Str × Nat => x.snd) [(x, j)])) j (some u) = σ.set j (some u) := wipe1s
    rw [ew]
    intro s' HH C cl fp
    refine (he i _ _ (List.getElem?_eq_getElem hlt) hr s' HH C cl fp H0 _ Hb' H' g1.s (((s.step st).step g1).set (by rw [hσ]; exact hj) pu)).mono fun y H2 ⟨Hb2, st2, py⟩ => ?_
    refine ⟨acc, st2.h _ _ g3, ?_, Lw.turn hD g1 g2 g3 g4 st2 hr py⟩
    rw [← g4.length, List.length_take]
    exact small1000 (by omega)
  · obtain ⟨Hb', acc, g1, g2, g3, g4⟩ := q
    refine ⟨Hb', D, acc, rfl, st.trans g1, none_back st.h hD, g2, g3, ?_⟩
    rw [← e3.length, ← hl, List.take_length] at g4
    exact g4
end
end Ty
set_option Elab.async false
set_option linter.all false
set_option maxRecDepth 100000
set_option maxHeartbeats 1000000
/-! K5: the rule of a def, instances made, own operators, range and zip comprehensions, isinstance, ==. -/
namespace Ty
open PySem PySem.Spec PyProof.Rows L2
section
variable {P : Program} {w : World} {K : PySem.W.Frag} {mg : Str → Option Value} {base : Heap} {k j : Nat} {X : Cx} {E : Ec} {Γ Γ' : List Sl} {e a b c o iter elt : Expr} {es : List Expr} {Pt P1 P2 R : Pd} {Ps Qs Ds : List Pd} {pos p : Pos} {rest sts sa sb body : List Stmt} {α : Type}
/-- no value -/
def tX : Pd := ⟨fun _ _ => False, fun _ h => h⟩
/-- the ends of a def -/
abbrev Ec.fn (Hb H : Hp) (R : Pd) : Ec := { Hb0 := Hb, H0 := H, Hk := Hb, R := R, nx := fun _ H' => ∃ Hb', Step Hb H Hb' H' ∧ R.p .non Hb' }
theorem bl_none (h : ∀ Hb', E.R.p .non Hb') (e : E.nx = fun _ H' => ∃ Hb', Step E.Hb0 E.H0 Hb' H' ∧ E.R.p .non Hb') : BL X E Γ [] := bl_end fun σ H ⟨_, Hb, h2, _, _⟩ => by rw [e]; exact ⟨Hb, h2, h Hb⟩
/-- the slots at the entry -/
def G0 (Ps : List Pd) (n : Nat) : List Sl := Ps.map Sl.val ++ List.replicate n Sl.no
theorem sat0 {N : List Str} {vs : List V} {H0 Hb H : Hp} (h : Its Ps vs Hb) (hl : vs.length ≤ N.length) : Sat H0 (G0 Ps (N.length - Ps.length)) (L2.start N vs) Hb H := by
  have no : ∀ (i : Nat) (Qs : List Pd), (G0 Ps (N.length - Ps.length))[i]? ≠ some (Sl.own Qs) := fun i Qs e => by
    unfold G0 at e
    by_cases hi : i < (Ps.map Sl.val).length
    · rw [List.getElem?_append_left hi, List.getElem?_map] at e
      cases q : Ps[i]? with
      | none => rw [q] at e; cases e
      | some P => rw [q] at e; cases e
    · rw [List.getElem?_append_right (by omega), List.getElem?_replicate] at e
      split at e <;> cases e
  refine ⟨fun i P e => ?_, fun i Qs e => absurd e (no i Qs), fun i j Qs Rs l e1 _ _ _ => absurd e1 (no i Qs)⟩
  unfold G0 at e
  by_cases hi : i < (Ps.map Sl.val).length
  · rw [List.getElem?_append_left hi, List.getElem?_map] at e
    cases q : Ps[i]? with
    | none => rw [q] at e; cases e
    | some P' =>
      rw [q] at e
      cases e
      obtain ⟨v, hv, pv⟩ := h.get q
      refine ⟨v, ?_, pv⟩
      unfold L2.start
      have hi2 : i < (vs.map some).length := by rw [List.length_map, ← h.length]; simpa using hi
      rw [List.getElem?_append_left hi2, List.getElem?_map, hv]
      rfl
  · rw [List.getElem?_append_right (by omega), List.getElem?_replicate] at e
    split at e <;> cases e
/-- the context of a def's body -/
abbrev cxB (P : Program) (w : World) (K : PySem.W.Frag) (mg : Str → Option Value) (base : Heap) (N : List Str) (qual : Str) (scope : Scope) (f : Addr) (cd : Value) (A : Around) (outer : List Env) (s : Shared) (H : Hp) (E : XK) : Cx := (cxOf CX0 P w K mg base N qual scope f cd A outer s H E).nox
theorem good_cx {N : List Str} {qual : Str} {scope : Scope} {f : Addr} {cd : Value} {A : Around} {outer : List Env} {s : Shared} {H : Hp} {E : XK} (hr : Room k (A.deeper (envOfC qual scope s.heap.objs.size f cd))) (nd : N.Nodup) : Good P w K mg base k (cxB P w K mg base N qual scope f cd A outer s H E) :=
  ⟨rfl, rfl, rfl, rfl, rfl, hr, rfl, rfl, nd⟩
theorem start_len {N ps : List Str} {vs : List V} (h : vs.length ≤ N.length) : (L2.start N vs).length = N.length := by
  unfold L2.start
  rw [List.length_append, List.length_map, List.length_replicate]
  omega
theorem scope_le {N ps : List Str} {sc : Scope} (S : FnScope N ps sc) : ps.length ≤ N.length := by
  have h := congrArg List.length S.pre
  rw [List.length_take] at h
  omega
/-- THE RULE of a def -/
theorem fn_ty {x qual : Str} {params : Arguments} {sc : Scope} {dvs : List V} {kws : List (Str × V)} {f : Addr} {fd : FuncData} {N ps : List Str} {pre : α → Prop} {A : α → List Pd} {Rr : α → Pd} (F : FunD K x qual params body sc dvs kws f fd) (S : FnScope N ps sc) (hA : ∀ y, (A y).length = ps.length)
    (hbody : ∀ (cdv : Value) (B : Around) (outer : List Env) (s : Shared) (H : Hp) (E : XK), Good P w K mg base k (cxB P w K mg base N qual sc f cdv B outer s H E) → ∀ (y : α) (Hb : Hp), pre y → BL (cxB P w K mg base N qual sc f cdv B outer s H E) (Ec.fn Hb H (Rr y)) (G0 (A y) (N.length - (A y).length)) body) :
    FnOk P w K mg base CX0 (k + 1) f fd ps (spT pre A Rr) := by
  refine F.ok S (fun vs H Q E h => ?_) (fun cdv B outer s H vs Q E hr h => ?_)
  · obtain ⟨y, Hb, _, _, its, _⟩ := h
    rw [← its.length, hA]
  · obtain ⟨y, Hb, hp, x0, its, q⟩ := h
    have hl : vs.length ≤ N.length := by rw [← its.length, hA]; exact scope_le S
    refine ⟨wS (cxB P w K mg base N qual sc f cdv B outer s H E) body, PSs.nox pss_w, ?_⟩
    refine (hbody cdv B outer s H E (good_cx hr S.nd) y Hb hp (L2.start N vs) H ⟨start_len (ps := ps) hl, Hb, Step.refl x0, Ext.rfl', sat0 its hl⟩).mono ?_ ?_ ?_ ?_
    · intro σ H' ⟨Hb', st, z⟩
      exact q _ Hb' H' st z
    · intro v H' ⟨Hb', st, z⟩
      exact q v Hb' H' st z
    · intro _ _ z; exact z.elim
    · intro _ _ z; exact z.elim
/-- the promise of an __init__: the fields fs -/
def spI (C : Addr) (pre : α → Prop) (A : α → List Pd) (fs : α → List (Str × Pd)) : Sp := fun vs H Q _ => ∃ y x dx us Hb, vs = .ref x :: us ∧ pre y ∧ H x = some (.ins C dx []) ∧ Hb x = none ∧ Ext Hb H ∧ Its (A y) us Hb ∧
  ∀ Hb' H' gs, Ext Hb Hb' → (∀ a o, a ≠ x → H a = some o → H' a = some o) → Ext Hb' H' → (∀ a o, Hb a = none → H a = some o → Hb' a = none) → H' x = some (.ins C dx gs) → Flds (fs y) gs Hb' → Q .non H'
/-- C(..) -/
theorem ex_make {x : Str} {C f : Addr} {fd : FuncData} {ps : List Str} {pre : α → Prop} {A : α → List Pd} {fs : α → List (Str × Pd)} {dvs : List V} {ds : List Value} (M : Mk K C f) (F : FnOk P w K mg base CX0 k f fd ps (spI C pre A fs)) (G : Good P w K mg base j X) (hk : k + 1 ≤ j) (hm : mg x = some (.ref C)) (hb : Binds K fd ps ds) (hd : Vals dvs ds)
    (y : α) (ha : EXA X Γ (e :: es) Ps) (hA : A y = Ps ++ Ds) (hD : ∀ H, Its Ds dvs H) (hp : pre y) (hg : Gl X x := by rfl) (hdb : (x == ("__debug__" : Str)) = false := by decide)
    (he : starEach (e :: es) X.env = (false, eval e X.env) :: starEach es X.env := by rfl) (hpl : (backTo pos (starEach es X.env)).any (·.1) = false := by rfl) : EX X Γ (.Call (.Name x p) (e :: es) [] pos) (tO C (fs y)) := by
  obtain ⟨h1, h2, h3, h4, h5, hr, hc, hxe, nd⟩ := G
  subst h1 h2 h3 h4 h5
  exact fun H0 σ Hb H xx s => wE.of (pe_make M F (hr.mono hk) hg hm hb hd pass0 pa_w hdb he hpl) ((ha H0 σ Hb H xx s).mono fun vs H1 ⟨Hb1, st1, q1⟩ => fun z dx hz hdx ne => by
    refine ⟨y, z, dx, vs ++ dvs, Hb1, rfl, hp, upd_same, none_back st1.s hz, ?_, by rw [hA]; exact Its.app q1 (hD Hb1), fun Hb2 H2 gs x1 k1 x2 f1 ez fl => ⟨rfl, ?_⟩⟩
    · intro b u e
      rw [upd_ne (ne_of_none (st1.s b u e) hz), upd_ne (ne_of_none (st1.s b u e) hdx)]
      exact st1.s b u e
    · have h2z : Hb2 z = none := f1 z _ (none_back st1.s hz) upd_same
      have new : ∀ b u, H1 b = some u → upd (upd H1 dx (HO.own z)) z (HO.ins C dx []) b = some u := fun b u e => by
        rw [upd_ne (ne_of_none e hz), upd_ne (ne_of_none e hdx)]; exact e
      refine ⟨upd Hb2 z (.ins C dx gs), st1.trans ⟨x1.trans (Ext.upd h2z), fun b u e => k1 b u (ne_of_none e hz) (new b u e), fun b u e => ?_, fun b u n e => ?_⟩, z, dx, gs, rfl, upd_same, fl.mono (Ext.upd h2z)⟩
      · by_cases hb : b = z
        · subst hb; rw [upd_same] at e; cases e; exact ez
        · rw [upd_ne hb] at e; exact x2 b u e
      · rw [upd_ne (ne_of_none e hz)]
        exact f1 b u n (new b u e))
/-- the end of an __init__: self.f1 = e1; self.f2 = e2 -/
theorem init2 {C : Addr} {f1 f2 self : Str} {px1 px2 q1 q2 r1 r2 : Pos} {e1 e2 : Expr} {x dx : Addr} {H0 Hb0 : Hp} (hcl : Cls X.K C) (n1 : NoAttr X.K C f1) (n2 : NoAttr X.K C f2) (hne : ¬ f2 = f1) (h0 : H0 x = some (.ins C dx [])) (hb0 : Hb0 x = none)
    (hself : Γ[0]? = some (.val (tV (.ref x)))) (h1 : EX X Γ e1 P1) (h2 : EX X Γ e2 P2)
    (hN : X.N[0]? = some self := by rfl) (hv : Vis X.env.scope self := by first | exact Or.inl rfl | exact Or.inr (Or.inl rfl) | exact Or.inr (Or.inr rfl)) (hd : (self == ("__debug__" : Str)) = false := by decide) (hcd : (self == ("__classdict__" : Str)) = false := by decide)
    (hs1 : swapsWith e1 (some (.Attribute (.Name self px1) f1 q1)) r1.line X.env = pure false := by rfl) (hs2 : swapsWith e2 (some (.Attribute (.Name self px2) f2 q2)) r2.line X.env = pure false := by rfl) :
    BL X { Hb0 := Hb0, H0 := H0, Hk := Hb0, R := R, nx := fun _ H' => ∃ Hb' gs, Ext Hb0 Hb' ∧ (∀ a o, a ≠ x → H0 a = some o → H' a = some o) ∧ Ext Hb' H' ∧ (∀ a o, Hb0 a = none → H0 a = some o → Hb' a = none) ∧ H' x = some (.ins C dx gs) ∧ Flds [(f1, P1), (f2, P2)] gs Hb' } Γ
      [.Assign [.Attribute (.Name self px1) f1 q1] e1 r1, .Assign [.Attribute (.Name self px2) f2 q2] e2 r2] := fun σ H ⟨g1, Hb, g2, g3, g4⟩ => by
  refine wS.of (pss_cons (ps_fld (pe_var hN hv hd hcd) pe_w hs1) (pss_one (ps_fld (pe_var hN hv hd hcd) pe_w hs2))) ?_
  have hx : Hb x = none := g2.f _ _ hb0 h0
  refine (h1 H0 σ Hb H g2.s g4).mono fun v1 H1 ⟨Hb1, st1, p1⟩ => ?_
  obtain ⟨s0, hs0, es0⟩ := g4.val 0 _ hself
  cases es0
  have hx1 : Hb1 x = none := st1.f _ _ hx (g2.h _ _ h0)
  have hH1 : H1 x = some (.ins C dx []) := st1.h _ _ (g2.h _ _ h0)
  refine ⟨.ref x, hs0, x, C, dx, [], rfl, hH1, hcl, n1, by decide, ?_⟩
  have hH1' : upd H1 x (.ins C dx (putF f1 v1 [])) x = some (.ins C dx [(f1, v1)]) := upd_same
  have x1 : Ext Hb1 (upd H1 x (.ins C dx (putF f1 v1 []))) := fun b u e => by rw [upd_ne (ne_of_none e hx1)]; exact st1.s b u e
  have s1 := g4.step st1
  have s1' : Sat H0 Γ σ Hb1 (upd H1 x (.ins C dx (putF f1 v1 []))) := ⟨s1.val, fun i Ps e => by
    obtain ⟨l, vs, k1, k2, k3, k4, k5⟩ := s1.own i Ps e
    have hl : l ≠ x := fun z => by rw [z, hH1] at k4; cases k4
    exact ⟨l, vs, k1, k2, k3, by rw [upd_ne hl]; exact k4, k5⟩, s1.apart⟩
  refine (h2 H0 σ Hb1 _ x1 s1').mono fun v2 H2 ⟨Hb2, st2, p2⟩ => ?_
  have hH2 : H2 x = some (.ins C dx [(f1, v1)]) := st2.h _ _ hH1'
  refine ⟨.ref x, hs0, x, C, dx, [(f1, v1)], rfl, hH2, hcl, n2, (by show 1 < 1000; decide), Hb2, [(f1, v1), (f2, v2)], (g2.b.trans st1.b).trans st2.b, ?_, ?_, ?_, ?_, ?_⟩
  · intro b u hb e
    rw [upd_ne hb]
    refine st2.h _ _ ?_
    rw [upd_ne hb]
    exact st1.h _ _ (g2.h _ _ e)
  · intro b u e
    have hb : b ≠ x := fun z => by rw [z, st2.f _ _ hx1 hH1'] at e; cases e
    rw [upd_ne hb]
    exact st2.s _ _ e
  · intro b u n e
    by_cases hb : b = x
    · subst hb; exact st2.f _ _ hx1 hH1'
    · refine st2.f b u (st1.f b u (g2.f b u n e) (g2.h _ _ e)) ?_
      rw [upd_ne hb]; exact st1.h _ _ (g2.h _ _ e)
  · rw [upd_same]
    have e : putF f2 v2 [(f1, v1)] = [(f1, v1), (f2, v2)] := by
      show (if f1 = f2 then _ else (f1, v1) :: putF f2 v2 []) = _
      rw [if_neg (fun z => hne z.symm)]
      rfl
    rw [e]
  · exact .cons ⟨rfl, P1.mono st2.b p1⟩ (.cons ⟨rfl, p2⟩ .nil)
/-- an __init__'s rule: its body comes to the wish of init2 -/
theorem fn_init {x qual : Str} {params : Arguments} {sc : Scope} {dvs : List V} {kws : List (Str × V)} {f C : Addr} {fd : FuncData} {N ps : List Str} {pre : α → Prop} {A : α → List Pd} {fs : α → List (Str × Pd)} (F : FunD K x qual params body sc dvs kws f fd) (S : FnScope N ps sc) (hA : ∀ y, (A y).length + 1 = ps.length)
    (hbody : ∀ (cdv : Value) (B : Around) (outer : List Env) (s : Shared) (H : Hp) (E : XK), Good P w K mg base k (cxB P w K mg base N qual sc f cdv B outer s H E) → ∀ (y : α) (Hb : Hp) (z dx : Addr), pre y → H z = some (.ins C dx []) → Hb z = none →
      BL (cxB P w K mg base N qual sc f cdv B outer s H E) { Hb0 := Hb, H0 := H, Hk := Hb, R := tX, nx := fun _ H' => ∃ Hb' gs, Ext Hb Hb' ∧ (∀ a o, a ≠ z → H a = some o → H' a = some o) ∧ Ext Hb' H' ∧ (∀ a o, Hb a = none → H a = some o → Hb' a = none) ∧ H' z = some (.ins C dx gs) ∧ Flds (fs y) gs Hb' }
        (G0 (tV (.ref z) :: A y) (N.length - (tV (.ref z) :: A y).length)) body) :
    FnOk P w K mg base CX0 (k + 1) f fd ps (spI C pre A fs) := by
  refine F.ok S (fun vs H Q E h => ?_) (fun cdv B outer s H vs Q E hr h => ?_)
  · obtain ⟨y, z, dx, us, Hb, rfl, _, _, _, _, its, _⟩ := h
    show us.length + 1 = _
    rw [← its.length, hA]
  · obtain ⟨y, z, dx, us, Hb, rfl, hp, hz, hbz, x0, its, q⟩ := h
    have its2 : Its (tV (.ref z) :: A y) (V.ref z :: us) Hb := .cons rfl its
    have hl : (V.ref z :: us).length ≤ N.length := by
      rw [← its2.length]
      show (A y).length + 1 ≤ _
      rw [hA]; exact scope_le S
    have hb := hbody cdv B outer s H E (good_cx hr S.nd) y Hb z dx hp hz hbz (L2.start N (V.ref z :: us)) H ⟨start_len (ps := ps) hl, Hb, Step.refl x0, Ext.rfl', sat0 its2 hl⟩
    refine ⟨wS (cxB P w K mg base N qual sc f cdv B outer s H E) body, PSs.nox pss_w, hb.mono ?_ ?_ ?_ ?_⟩
    · intro σ H' ⟨Hb', gs, a1, a2, a3, a4, a5, a6⟩
      exact q Hb' H' gs a1 a2 a3 a4 a5 a6
    · intro v H' ⟨Hb', st, z0⟩
      exact z0.elim
    · intro _ _ z; exact z.elim
    · intro _ _ z; exact z.elim
end
end Ty
set_option Elab.async false
set_option linter.all false
set_option maxRecDepth 100000
set_option maxHeartbeats 1000000
/-! K6: // of any ints, own operators, built-in functions, range and zip comprehensions, isinstance, ==. -/
namespace Ty
open PySem PySem.Spec PyProof.Rows L2
/-- a size that products bear -/
def Bg (i : Int) : Prop := ∃ a, a ≤ 60000000 ∧ i.natAbs < 2 ^ a
theorem Bg.mul {i j : Int} (h : Bg i) (k : Bg j) : CMulX i j := by
  obtain ⟨a, ha, h⟩ := h
  obtain ⟨b, hb, k⟩ := k
  exact mulx_ok h k (by omega)
theorem Bg.of {i : Int} {a : Nat} (h : i.natAbs < 2 ^ a) (ha : a ≤ 60000000) : Bg i := ⟨a, ha, h⟩
/-- an object whose keys are all names -/
def nsB (K : PySem.W.Frag) (a : Addr) : Bool := match K.lookup a with
  | some ⟨_, _, .dict es _, _⟩ => es.all fun e => match e.key with
    | .str _ _ => true
    | _ => false
  | _ => false
theorem ns_of {K : PySem.W.Frag} {h : Heap} {a : Addr} (X : K.In h) (c : nsB K a = true) : ∃ m, h.Ns a m := by
  unfold nsB at c
  cases q : K.lookup a with
  | none => rw [q] at c; cases c
  | some o =>
    obtain ⟨oc, od, dt, osl⟩ := o
    rw [q] at c
    cases dt with
    | dict es ep =>
      refine ⟨fun x => nsFind es x, _, es, ep, X _ _ q, rfl, fun e he => ?_, fun _ => rfl⟩
      have h1 := Array.all_eq_true'.mp (show (es.all fun e => match e.key with
        | .str _ _ => true
        | _ => false) = true from c) e he
      revert h1
      cases e.key with
      | str x t => intro _; exact ⟨x, t, rfl⟩
      | _ => intro h1; cases h1
    | _ => cases c
theorem ns_none {K : PySem.W.Frag} {h : Heap} {a : Addr} {m : Str → Option Value} {x : Str} (X : K.In h) (G : h.Ns a m) (e : PySem.W.nsIn K a x = some none) : m x = none := by
  obtain ⟨o, es, ep, ho, hd, hk, hf⟩ := G
  unfold PySem.W.nsIn at e
  split at e
  · rename_i c d es' n' sl q
    have h1 := X _ _ q
    rw [ho] at h1
    cases h1
    cases hd
    split at e
    · cases e
    · rename_i he
      rw [← hf]
      unfold nsFind findBy
      rw [← Array.find?_toList, he]
      rfl
  · cases e
/-- what // of great ints asks of the written part -/
structure SeerK (K : PySem.W.Frag) : Prop where
  s1 : PySem.W.nsIn K cStatics "sys.audit-hooks" = some none
  s2 : PySem.W.nsIn K cStatics "sys.dict" = some none
  m0 : nsB K sysModules = true
  m1 : PySem.W.nsIn K sysModules "_pylong" = some none
  b : ∃ bm ob, PySem.W.nsIn K mainGlobals "__builtins__" = some (some (.ref bm)) ∧ K.lookup bm = some ob ∧ ob.cls = .type "module" ∧ ob.dict = some builtinsNs
theorem SeerK.no {K : PySem.W.Frag} {mg : Str → Option Value} {base : Heap} (s : SeerK K) (M : Mod K mg base) : base.NoSeer := by
  obtain ⟨mc, n1, _⟩ := M.nolimit
  obtain ⟨mm, n2⟩ := ns_of M.kin s.m0
  obtain ⟨bm, ob, b1, b2, b3, b4⟩ := s.b
  exact ⟨⟨mc, n1, ns_none M.kin n1 s.s1, ns_none M.kin n1 s.s2⟩, ⟨mm, n2, ns_none M.kin n2 s.m1⟩, M.blt, ⟨mg, bm, ob, M.glob, PySem.W.mg_of M.kin M.glob b1, M.kin _ _ b2, b3, b4⟩⟩
/-- .. and of the frame at the top -/
structure Deep (X : Cx) : Prop where
  seer : SeerK X.K
  tree : X.prog.given.tree = none
  top : ∃ env l, X.stack = env :: l ∧ env.scope.isGenerator = false ∧ env.scope.isCoroutine = false ∧ env.builtins = builtinsNs ∧ env.globals = mainGlobals
section
variable {P : Program} {w : World} {K : PySem.W.Frag} {mg : Str → Option Value} {base : Heap} {k j : Nat} {X : Cx} {E : Ec} {Γ Γ' : List Sl} {e a b c o iter elt : Expr} {es : List Expr} {Pt P1 P2 R : Pd} {Ps Qs Ds : List Pd} {pos p : Pos} {rest sts sa sb body : List Stmt} {α : Type}
theorem Deep.blk (D : Deep X) (s : Shared) (H : Hp) (scope : Scope) (cenv : Env) (fp : List Addr) : Deep (X.blk s H scope cenv fp) := ⟨D.seer, D.tree, D.top⟩
theorem deep_cx {N : List Str} {qual : Str} {scope : Scope} {f : Addr} {cd : Value} {A : Around} {outer : List Env} {s : Shared} {H : Hp} {E : XK} (h : SeerK K) (ht : P.given.tree = none) (hg : scope.isGenerator = false) (hc : scope.isCoroutine = false) : Deep (cxB P w K mg base N qual scope f cd A outer s H E) :=
  ⟨h, ht, _, _, rfl, hg, hc, rfl, rfl⟩
theorem op_fdivA (D : Deep X) (hr : Room 32 X.A) : OpR X (binaryOp .FloorDiv) (rI (fun _ j => j ≠ 0) fun i j => .int (i.fdiv j)) := by
  intro pins s σ H x y u v Q I rx ry hq
  obtain ⟨i, j, rfl, rfl, hj, q⟩ := hq
  obtain ⟨t, rfl⟩ := rx
  obtain ⟨t', rfl⟩ := ry
  obtain ⟨env, l, e1, e2, e3, e4, e5⟩ := D.top
  refine floordiv_int hj ⟨.int (i.fdiv j), H, I.tok _, ⟨_, rfl⟩, q⟩ (.inr (PySem.PylongRoom.of I.nolimit ?_ ?_))
  · have := hr.dp
    show X.A.depth + 100 < recursionLimit
    omega
  · exact PySem.SeerAt.of ((D.seer.no I.mod).keeps I.bk) D.tree (I.ok.frames.trans (by rw [e1])) e2 e3 e4 e5
theorem ex_fdiv {i j : Int} (D : Deep X) (G : Good P w K mg base k X) (hk : 32 ≤ k) (ha : EX X Γ a (tI i)) (hb : EX X Γ b (tI j)) (hj : j ≠ 0) : EX X Γ (.BinOp a .FloorDiv b pos) (tI (i.fdiv j)) := ex_i2c (op_fdivA D (G.room.mono hk)) ha hb hj
theorem ex_mul {i j : Int} (ha : EX X Γ a (tI i)) (hb : EX X Γ b (tI j)) (hi : Bg i) (hj : Bg j) : EX X Γ (.BinOp a .Mult b pos) (tI (i * j)) := ex_i2c op_mulX ha hb (hi.mul hj)
theorem ex_pow {i j : Int} (ha : EX X Γ a (tI i)) (hb : EX X Γ b (tI j)) (hc : CPow i j) : EX X Γ (.BinOp a .Pow b pos) (tI (i ^ j.toNat)) := ex_i2c op_pow ha hb hc
/-! built-in functions -/
theorem its1 {P1 : Pd} {vs : List V} {H : Hp} (h : Its [P1] vs H) : ∃ v, vs = [v] ∧ P1.p v H := by
  cases h with
  | cons a t => cases t; exact ⟨_, rfl, a⟩
theorem its2 {P1 P2 : Pd} {vs : List V} {H : Hp} (h : Its [P1, P2] vs H) : ∃ u v, vs = [u, v] ∧ P1.p u H ∧ P2.p v H := by
  cases h with
  | cons a t =>
    obtain ⟨v, rfl, h⟩ := its1 t
    exact ⟨_, v, rfl, a, h⟩
theorem ex_abs {i : Int} (ha : EXA X Γ [a] [tI i]) (hm : X.mg "abs" = none) (hg : Gl X "abs" := by rfl) (he : starEach [a] X.env = (false, eval a X.env) :: starEach [] X.env := by rfl) (hpl : (backTo pos (starEach [] X.env)).any (·.1) = false := by rfl) : EX X Γ (.Call (.Name "abs" p) [a] [] pos) (tI (if i < 0 then -i else i)) :=
  ex_callB call_abs ha hm (by decide +kernel) (fun vs Hb H Q x h k => by obtain ⟨v, rfl, rfl⟩ := its1 h; exact ⟨i, rfl, k _ Hb H (Step.refl x) rfl⟩) hg (by decide) (by decide) he hpl
theorem ex_max {i j : Int} (G : Good P w K mg base k X) (ha : EXA X Γ [a, b] [tI i, tI j]) (hm : X.mg "max" = none) (hg : Gl X "max" := by rfl) (he : starEach [a, b] X.env = (false, eval a X.env) :: starEach [b] X.env := by rfl) (hpl : (backTo pos (starEach [b] X.env)).any (·.1) = false := by rfl) : EX X Γ (.Call (.Name "max" p) [a, b] [] pos) (tI (if j > i then j else i)) :=
  ex_callB (call_max2 G.calm) ha hm (by decide +kernel) (fun vs Hb H Q x h k => by obtain ⟨u, v, rfl, rfl, rfl⟩ := its2 h; exact ⟨i, j, rfl, k _ Hb H (Step.refl x) rfl⟩) hg (by decide) (by decide) he hpl
theorem ex_toint {i : Int} (ha : EXA X Γ [a] [tI i]) (hm : X.mg "int" = none) (hg : Gl X "int" := by rfl) (he : starEach [a] X.env = (false, eval a X.env) :: starEach [] X.env := by rfl) (hpl : (backTo pos (starEach [] X.env)).any (·.1) = false := by rfl) : EX X Γ (.Call (.Name "int" p) [a] [] pos) (tI i) :=
  ex_callTy call_int1 ha hm (by decide +kernel) (fun vs Hb H Q x h k => by obtain ⟨v, rfl, rfl⟩ := its1 h; exact .inl ⟨i, rfl, k _ Hb H (Step.refl x) rfl⟩) hg (by decide) (by decide) he hpl
theorem ex_tointB {i : Bool} (ha : EXA X Γ [a] [tB i]) (hm : X.mg "int" = none) (hg : Gl X "int" := by rfl) (he : starEach [a] X.env = (false, eval a X.env) :: starEach [] X.env := by rfl) (hpl : (backTo pos (starEach [] X.env)).any (·.1) = false := by rfl) : EX X Γ (.Call (.Name "int" p) [a] [] pos) (tI (if i then 1 else 0)) :=
  ex_callTy call_int1 ha hm (by decide +kernel) (fun vs Hb H Q x h k => by obtain ⟨v, rfl, rfl⟩ := its1 h; exact .inr ⟨i, rfl, k _ Hb H (Step.refl x) rfl⟩) hg (by decide) (by decide) he hpl
theorem ex_gcd {i j : Int} (ha : EXA X Γ [a, b] [tI i, tI j]) (hm : X.mg "gcd" = some (.builtin "math.gcd")) (hg : Gl X "gcd" := by rfl) (he : starEach [a, b] X.env = (false, eval a X.env) :: starEach [b] X.env := by rfl) (hpl : (backTo pos (starEach [b] X.env)).any (·.1) = false := by rfl) : EX X Γ (.Call (.Name "gcd" p) [a, b] [] pos) (tI ((Nat.gcd i.natAbs j.natAbs : Nat) : Int)) :=
  ex_callG cr_gcd ha hm (fun vs Hb H Q x h k => by obtain ⟨u, v, rfl, rfl, rfl⟩ := its2 h; exact ⟨i, j, rfl, k _ Hb H (Step.refl x) rfl⟩) hg (by decide) he hpl
def rLcm : List V → Hp → VK → Prop := fun vs H Q => ∃ a b : Int, vs = [.int a, .int b] ∧ a.natAbs < 2 ^ 13499 ∧ b.natAbs < 2 ^ 13499 ∧ Q (.int ((Nat.lcm a.natAbs b.natAbs : Nat) : Int)) H
theorem log_lt {n m : Nat} (h : n < 2 ^ (m + 1)) : n.log2 ≤ m := PySem.W.mg_log h
theorem cr_lcm : CallR X (.builtin "math.lcm") rLcm := by
  intro pins s σ H vs us Q I r h
  obtain ⟨a, b, rfl, ha, hb, q⟩ := h
  obtain ⟨t, u, rfl⟩ := Vals.int2 r
  have hp : (1 : Nat) < 2 ^ 13499 := Nat.one_lt_two_pow (by decide)
  have h1 : (max 1 a.natAbs).log2 ≤ 13498 := log_lt (by show max 1 a.natAbs < 2 ^ 13499; omega)
  have h2 : (max a.natAbs b.natAbs).log2 ≤ 13498 := log_lt (by show max a.natAbs b.natAbs < 2 ^ 13499; omega)
  have e1 : (Nat.lcm 1 a.natAbs).lcm b.natAbs = Nat.lcm a.natAbs b.natAbs := by rw [Nat.lcm_one_left]
  have h3 : Nat.lcm a.natAbs b.natAbs < 2 ^ 26998 := by
    have : Nat.lcm a.natAbs b.natAbs ≤ a.natAbs * b.natAbs := by
      by_cases hz : a.natAbs * b.natAbs = 0
      · rcases Nat.mul_eq_zero.mp hz with z | z <;> rw [z] <;> simp
      · exact Nat.le_of_dvd (Nat.pos_of_ne_zero hz) (Nat.lcm_dvd (Nat.dvd_mul_right _ _) (Nat.dvd_mul_left _ _))
    refine Nat.lt_of_le_of_lt this ?_
    have e : (26998 : Nat) = 13499 + 13499 := rfl
    rw [e, Nat.pow_add]
    exact Nat.mul_lt_mul'' ha hb
  have hs : ((((Nat.lcm 1 a.natAbs).lcm b.natAbs : Nat) : Int)).natAbs.log2 < bitsLine := by
    rw [e1, Int.natAbs_natCast]
    have := log_lt (m := 26997) h3
    have e : bitsLine = 134217728 := by decide
    omega
  refine call_function_meets PySem.W.MGF.kind_lcm PySem.W.MGF.plain_lcm PySem.W.MGF.entry_lcm (PySem.W.MGF.args_lcm _ _) (PySem.W.mg_run_lcm a t b u (by omega) (by omega) hs).meets ?_
  rw [e1]
  exact ⟨.int _, H, I.tok _, ⟨_, rfl⟩, q⟩
theorem ex_lcm {i j : Int} (ha : EXA X Γ [a, b] [tI i, tI j]) (hi : i.natAbs < 2 ^ 13499) (hj : j.natAbs < 2 ^ 13499) (hm : X.mg "lcm" = some (.builtin "math.lcm")) (hg : Gl X "lcm" := by rfl) (he : starEach [a, b] X.env = (false, eval a X.env) :: starEach [b] X.env := by rfl) (hpl : (backTo pos (starEach [b] X.env)).any (·.1) = false := by rfl) : EX X Γ (.Call (.Name "lcm" p) [a, b] [] pos) (tI ((Nat.lcm i.natAbs j.natAbs : Nat) : Int)) :=
  ex_callG cr_lcm ha hm (fun vs Hb H Q x h k => by obtain ⟨u, v, rfl, rfl, rfl⟩ := its2 h; exact ⟨i, j, rfl, hi, hj, k _ Hb H (Step.refl x) rfl⟩) hg (by decide) he hpl
theorem ex_divmod {i j : Int} (ha : EXA X Γ [a, b] [tI i, tI j]) (hj : 0 < j) (hj2 : j < 1000000) (hm : X.mg "divmod" = none) (hg : Gl X "divmod" := by rfl) (he : starEach [a, b] X.env = (false, eval a X.env) :: starEach [b] X.env := by rfl) (hpl : (backTo pos (starEach [b] X.env)).any (·.1) = false := by rfl) :
    EX X Γ (.Call (.Name "divmod" p) [a, b] [] pos) (tU [tI (i / j), tI (i % j)]) :=
  ex_callB call_divmod ha hm (by decide +kernel) (fun vs Hb H Q x h k => by
    obtain ⟨u, v, rfl, rfl, rfl⟩ := its2 h
    exact ⟨i, j, rfl, ⟨hj, by omega⟩, fun q hq => k _ (upd Hb q (.tup [.int (i / j), .int (i % j)])) _ ((Step.refl x).new hq) ⟨q, _, rfl, upd_same, .cons rfl (.cons rfl .nil)⟩⟩) hg (by decide) (by decide) he hpl
theorem its_bl {H : Hp} : ∀ {bs : List Bool} {ws : List V}, Its (bs.map tB) ws H → ws = bs.map V.bl
  | [], _, .nil => rfl
  | b :: bs, _, .cons h t => by
    cases h
    rw [its_bl t]
    rfl
/-- all(..) of bools -/
theorem ex_all {bs : List Bool} (G : Good P w K mg base k X) (ha : EX X Γ a (tL (bs.map tB))) (hm : X.mg "all" = none) (hg : Gl X "all" := by rfl) (he : starEach [a] X.env = (false, eval a X.env) :: starEach [] X.env := by rfl) (hpl : (backTo pos (starEach [] X.env)).any (·.1) = false := by rfl) : EX X Γ (.Call (.Name "all" p) [a] [] pos) (tB (bs.all id)) :=
  ex_callB (cr_all G.calm) (exa_cons ha exa_nil he) hm (by decide +kernel) (fun vs Hb H Q x h k => by
    obtain ⟨v, rfl, l, ws, e1, e2, e3⟩ := its1 h
    have e4 : ws = bs.map V.bl := its_bl e3
    subst e4
    exact ⟨l, bs, by rw [e1], sq_at (x _ _ e2), k _ Hb H (Step.refl x) rfl⟩) hg (by decide) (by decide) he hpl
/-! own operators -/
theorem cmpbk {Q : Value → Shared → Prop} {z : V} {v : Value} {s' : Shared} (r : RelV z v) (h : Q v s') : PySem.W.CmpBack Q v s' := by
  cases z with
  | non => cases (show v = Value.none from r); exact h
  | bl b => cases (show v = Value.bool b from r); exact h
  | int i => obtain ⟨t, e⟩ := (show ∃ t, v = Value.int i t from r); cases e; exact h
  | str x => obtain ⟨t, e⟩ := (show ∃ t, v = Value.str x t from r); cases e; exact h
  | byt b => obtain ⟨t, e⟩ := (show ∃ t, v = Value.bytes b t from r); cases e; exact h
  | flt b => obtain ⟨t, e⟩ := (show ∃ t, v = Value.float b t from r); cases e; exact h
  | ref a => cases (show v = Value.ref a from r); exact h
  | ty n => cases (show v = Value.type n from r); exact h
/-- x op y, both instances of the class at C -/
theorem ex_own {op : Operator} {C f : Addr} {fd : FuncData} {ps : List Str} {fs gs : List (Str × Pd)} {pre : α → Prop} {A : α → List Pd} {Rr : α → Pd} (F : FnOk P w K mg base CX0 k f fd ps (spT pre A Rr)) (bd : Binds K fd ps []) (G : Good P w K mg base j X) (hk : k ≤ j) (hc : PySem.W.selfFirst K C = true)
    (hs : PySem.W.findIn K (.ref C) (PySem.dunder op.info.2) = some (some (.ref f))) (hf : PySem.W.isFn K (.ref f) = true) (y : α) (ha : EX X Γ a (tO C fs)) (hb : EX X Γ b (tO C gs)) (hA : A y = [tO C fs, tO C gs]) (hp : pre y) : EX X Γ (.BinOp a op b pos) (Rr y) := by
  obtain ⟨h1, h2, h3, h4, h5, hr, hcm, hxe, nd⟩ := G
  subst h1 h2 h3 h4 h5
  refine ex_op (r := fun x y' H Q => ∃ Hb, Ext Hb H ∧ (tO C fs).p x Hb ∧ (tO C gs).p y' Hb ∧ ∀ v Hb' H', Step Hb H Hb' H' → (Rr y).p v Hb' → Q v H') ?_ ha hb fun x z Hb H Q e p q kk => ⟨Hb, e, p, q, kk⟩
  intro pins s σ H x z u v Q I rx ry hq
  obtain ⟨Hb, e, ⟨l, dx, g1, rfl, e1, fl1⟩, ⟨m, dy, g2, rfl, e2, fl2⟩, kk⟩ := hq
  cases rx
  cases ry
  obtain ⟨mA, O, _⟩ := ins_get I.hok (e _ _ e1)
  obtain ⟨mB, O', _⟩ := ins_get I.hok (e _ _ e2)
  obtain ⟨od, J, _⟩ := O.look
  obtain ⟨od', J', _⟩ := O'.look
  obtain ⟨mm, hF⟩ := I.fr
  refine PySem.W.binop_K hF I.ok.mod.kin J J'.type hc hs hf (thn (run_fn (Q := Q) (us := [.ref l, .ref m]) (vs := [.ref l, .ref m]) F (hr.mono hk) bd .nil pass0 I (.cons rfl (.cons rfl .nil)) ?_) fun v s' q => ?_)
  · exact ⟨y, Hb, hp, e, by rw [hA]; exact .cons ⟨l, dx, g1, rfl, e1, fl1⟩ (.cons ⟨m, dy, g2, rfl, e2, fl2⟩ .nil), kk⟩
  · obtain ⟨z, H', I', rz, q⟩ := id q
    exact cmpbk rz ⟨z, H', I', rz, q⟩
/-- x op n, x an instance of the class at C, n an int -/
theorem ex_ownI {op : Operator} {C f : Addr} {fd : FuncData} {ps : List Str} {fs : List (Str × Pd)} {i : Int} {fo ro rc : Option Value} {pre : α → Prop} {A : α → List Pd} {Rr : α → Pd} (F : FnOk P w K mg base CX0 k f fd ps (spT pre A Rr)) (bd : Binds K fd ps []) (G : Good P w K mg base j X) (hk : k ≤ j) (hc : PySem.W.selfFirst K C = true)
    (hs : PySem.W.findIn K (.ref C) (PySem.dunder op.info.2) = some (some (.ref f))) (hf : PySem.W.isFn K (.ref f) = true) (hr' : PySem.W.findIn K (.ref C) (dunderR op.info.2) = some rc) (hp' : rc = none ∨ ∃ g : Addr, rc = some (.ref g))
    (h1 : PySem.W.findIn K (.type "int") (PySem.dunder op.info.2) = some fo) (h2 : PySem.W.findIn K (.type "int") (dunderR op.info.2) = some ro) (hsub : PySem.W.subIn K (.type "int") (.ref C) = some false)
    (y : α) (ha : EX X Γ a (tO C fs)) (hb : EX X Γ b (tI i)) (hA : A y = [tO C fs, tI i]) (hp : pre y) : EX X Γ (.BinOp a op b pos) (Rr y) := by
  obtain ⟨g1, g2, g3, g4, g5, hr, hcm, hxe, nd⟩ := G
  subst g1 g2 g3 g4 g5
  refine ex_op (r := fun x y' H Q => ∃ Hb, Ext Hb H ∧ (tO C fs).p x Hb ∧ (tI i).p y' Hb ∧ ∀ v Hb' H', Step Hb H Hb' H' → (Rr y).p v Hb' → Q v H') ?_ ha hb fun x z Hb H Q e p q kk => ⟨Hb, e, p, q, kk⟩
  intro pins s σ H x z u v Q I rx ry hq
  obtain ⟨Hb, e, ⟨l, dx, g1, rfl, e1, fl1⟩, ez, kk⟩ := hq
  cases ez
  cases rx
  obtain ⟨t, rfl⟩ := ry
  obtain ⟨mA, O, _⟩ := ins_get I.hok (e _ _ e1)
  obtain ⟨od, J, _⟩ := O.look
  obtain ⟨mm, hF⟩ := I.fr
  refine PySem.W.ksp_binT (T := "int") hF I.ok.mod.kin J rfl hc hs hf hr' hp' h1 h2 hsub (thn (run_fn (Q := Q) (us := [.ref l, .int i t]) (vs := [.ref l, .int i]) F (hr.mono hk) bd .nil pass0 I (.cons rfl (.cons ⟨_, rfl⟩ .nil)) ?_) fun v s' q => ?_)
  · exact ⟨y, Hb, hp, e, by rw [hA]; exact .cons ⟨l, dx, g1, rfl, e1, fl1⟩ (.cons rfl .nil), kk⟩
  · obtain ⟨z, H', I', rz, q⟩ := id q
    exact cmpbk rz ⟨z, H', I', rz, q⟩
/-- -x, x an instance of the class at C -/
theorem ex_neg {C f : Addr} {fd : FuncData} {ps : List Str} {fs : List (Str × Pd)} {pre : α → Prop} {A : α → List Pd} {Rr : α → Pd} (F : FnOk P w K mg base CX0 k f fd ps (spT pre A Rr)) (bd : Binds K fd ps []) (G : Good P w K mg base j X) (hk : k ≤ j)
    (hs : PySem.W.findIn K (.ref C) "__neg__" = some (some (.ref f))) (hf : PySem.W.isFn K (.ref f) = true) (y : α) (ha : EX X Γ a (tO C fs)) (hA : A y = [tO C fs]) (hp : pre y) : EX X Γ (.UnaryOp .USub a pos) (Rr y) := by
  obtain ⟨h1, h2, h3, h4, h5, hr, hcm, hxe, nd⟩ := G
  subst h1 h2 h3 h4 h5
  refine ex_un (r := fun x H Q => ∃ Hb, Ext Hb H ∧ (tO C fs).p x Hb ∧ ∀ v Hb' H', Step Hb H Hb' H' → (Rr y).p v Hb' → Q v H') ?_ ha fun x Hb H Q e p kk => ⟨Hb, e, p, kk⟩
  intro pins s σ H x u Q I rx hq
  obtain ⟨Hb, e, ⟨l, dx, g1, rfl, e1, fl1⟩, kk⟩ := hq
  cases rx
  obtain ⟨mA, O, _⟩ := ins_get I.hok (e _ _ e1)
  obtain ⟨od, J, _⟩ := O.look
  obtain ⟨mm, hF⟩ := I.fr
  exact PySem.W.ksp_neg hF I.ok.mod.kin J hs hf (run_fn (us := [.ref l]) (vs := [.ref l]) F (hr.mono hk) bd .nil pass0 I (.cons rfl .nil) ⟨y, Hb, hp, e, by rw [hA]; exact .cons ⟨l, dx, g1, rfl, e1, fl1⟩ .nil, kk⟩)
end
end Ty
set_option Elab.async false
set_option linter.all false
set_option maxRecDepth 100000
set_option maxHeartbeats 1000000
/-! K7: == and != of lists, isinstance, range and zip comprehensions. -/
namespace Ty
open PySem PySem.SeqAt
open AutoSeq1 (wpAny_loadPart')
open MeetsSeq MeetsSeq2 MeetsSeq3 SeqRoads2
section
variable {prog : Program} {w : World} {A : Around} {R : Result → Shared → Prop}
theorem ne_loopG (l b : Addr) (N : Nat) (I : Nat → Shared → Prop) (hl : GQ.ListI prog w A (fun e s' => R (.error e) s') l b N I)
    (fin : ∀ s, I N s → R (.ok (.ret (.bool false))) s) (k : Nat) :
    ∀ i : Nat, N - i = k → i ≤ N → ∀ s, I i s →
      wpAny (model prog w) A.in1 (Builtin.«list.__eq__.loop» ⟨[.ref l, .ref b, rawInt i, rawInt 3], []⟩) (GQ.FinOf prog w A R) (fun e s' => R (.error e) s') s := by
  induction k with
  | zero =>
    intro i hk hi s h
    obtain ⟨items, items2, n, n2, hl1, hb1, hs1, hs2, _⟩ := hl _ _ h
    have hi' : i = N := by omega
    have hR : R (.ok (.ret (.bool false))) s := fin s (hi' ▸ h)
    obtain ⟨hp, g, d, tk, os⟩ := s
    wp_walk using wpAny_loadPart' hl1, wpAny_loadPart' hb1
    have hi1 : items[((i : Nat) : Int).toNat]? = none := by simp; omega
    have hi2 : items2[((i : Nat) : Int).toNat]? = none := by simp; omega
    rw [hi1, hi2]
    wp_walk using wpAny_loadPart' hl1, wpAny_loadPart' hb1
    show R (.ok (.ret (.bool (items.size != items2.size)))) _
    rw [hs1, hs2]
    simpa using hR
  | succ k ih =>
    intro i hk hi s h
    obtain ⟨items, items2, n, n2, hl1, hb1, hs1, hs2, turn⟩ := hl _ _ h
    have hlt : i < items.size := by omega
    have hlt2 : i < items2.size := by omega
    have ht := turn hlt hlt2
    obtain ⟨hp, g, d, tk, os⟩ := s
    wp_walk using wpAny_loadPart' hl1, wpAny_loadPart' hb1
    have hi1 : items[((i : Nat) : Int).toNat]? = some items[i] := by simp [hlt]
    have hi2 : items2[((i : Nat) : Int).toNat]? = some items2[i] := by simp [hlt2]
    have hc : ((i : Int) + 1) = ((i + 1 : Nat) : Int) := by omega
    rw [hi1, hi2]
    refine wpAny_bind (wpAny_mono ht (fun r s2 h2 => ?_) fun _ _ x => x)
    obtain ⟨hr, h2⟩ := h2
    subst hr
    have hrec := ih (i + 1) (by omega) (by omega) s2 h2
    obtain ⟨hp2, g2, d2, tk2, os2⟩ := s2
    wp_walk
    rw [hc]
    exact ⟨plainId_quiet plain_eq_loop _, codeAny_builtin entry_eq_loop (by
      rw [Around.under_plainId plain_eq_loop _]
      exact hrec)⟩
theorem list_neG (l b : Addr) (N : Nat) (I : Nat → Shared → Prop) (hl : GQ.ListI prog w A (fun e s' => R (.error e) s') l b N I)
    (fin : ∀ s, I N s → R (.ok (.ret (.bool false))) s) {s : Shared} (h : I 0 s) :
    wpAny (model prog w) A.in1 (Builtin.«list.__ne__» ⟨[.ref l, .ref b], []⟩) (GQ.FinOf prog w A R) (fun e s' => R (.error e) s') s := by
  obtain ⟨items, items2, n, n2, hl1, hb1, hs1, hs2, _⟩ := hl _ _ h
  have hrec := ne_loopG (A := A) (R := R) l b N I hl fin _ 0 rfl (Nat.zero_le _) s h
  obtain ⟨hp, g, d, tk, os⟩ := s
  have f3 := AutoSeq1.sub_list_list
  have hne : ¬ (items.size != items2.size) = true := by simp [hs1, hs2]
  wp_walk using wpAny_loadPart' hl1, wpAny_loadPart' hb1
  exact ⟨plainId_quiet plain_eq_loop _, codeAny_builtin entry_eq_loop (by
    rw [Around.under_plainId plain_eq_loop _]
    exact hrec)⟩
end
section
variable {prog : Program} {w : World} {A : Around} {E : Value → Shared → Prop} {s : Shared}
theorem rc_listN {l b : Addr} {N : Nat} {Q : Value → Shared → Prop} (hu : A.units < cLine) (I : Nat → Shared → Prop) (hl : GQ.ListI prog w A E l b N I)
    (fin : ∀ s, I N s → Q (.bool false) s) (h : I 0 s) : wpAny (model prog w) A (richCompare .NotEq (.ref l) (.ref b)) Q E s := by
  obtain ⟨items, items2, n, n2, hl1, hb1, _, _, _⟩ := hl _ _ h
  refine wpAny_richCompare_same_room (op := .NotEq) ⟨_, hl1, rfl⟩ ⟨_, hb1, rfl⟩ F.slot_list_ne (GQ.call_here F.slot_list_ne ⟨_, hl1, rfl⟩ F.entry_list_ne (F.args_list_ne_2 _ _) ?_) hu
  exact list_neG (R := wants (fun v s' => v ≠ .notImplemented ∧ Q v s') E) l b N I hl (fun s' q => ⟨(fun x => nomatch x), fin s' q⟩) h
/-- lists of unlike lengths -/
theorem rc_len_ne {l b : Addr} {items items2 : Array Value} {n n2 : Nat} {Q : Value → Shared → Prop} (hu : A.units < cLine) (h1 : s.heap.get? l = some { cls := .type "list", data := .seq items n }) (h2 : s.heap.get? b = some { cls := .type "list", data := .seq items2 n2 })
    (hne : (items.size != items2.size) = true) (h : Q (.bool true) s) : wpAny (model prog w) A (richCompare .NotEq (.ref l) (.ref b)) Q E s :=
  wpAny_richCompare_same_room (op := .NotEq) ⟨_, h1, rfl⟩ ⟨_, h2, rfl⟩ F.slot_list_ne (call_meets F.slot_list_ne ⟨_, h1, rfl⟩ F.entry_list_ne (F.args_list_ne_2 _ _) (SeqAt.list_ne_lengthsAt l b items items2 n n2 none none #[] #[] hne) ⟨h1, h2, (fun x => nomatch x), h⟩) hu
theorem rc_len_eq {l b : Addr} {items items2 : Array Value} {n n2 : Nat} {Q : Value → Shared → Prop} (hu : A.units < cLine) (h1 : s.heap.get? l = some { cls := .type "list", data := .seq items n }) (h2 : s.heap.get? b = some { cls := .type "list", data := .seq items2 n2 })
    (hne : (items.size != items2.size) = true) (h : Q (.bool false) s) : wpAny (model prog w) A (richCompare .Eq (.ref l) (.ref b)) Q E s :=
  wpAny_richCompare_same_room (op := .Eq) ⟨_, h1, rfl⟩ ⟨_, h2, rfl⟩ F.slot_list_eq (call_meets F.slot_list_eq ⟨_, h1, rfl⟩ F.entry_list_eq (F.args_list_eq_2 _ _) (AutoSeq1.list___eq___list_list_0 l items n b items2 n2 hne) ⟨h1, h2, (fun x => nomatch x), h⟩) hu
end
end Ty
namespace Ty
open PySem PySem.Spec PyProof.Rows L2
section
variable {P : Program} {w : World} {K : PySem.W.Frag} {mg : Str → Option Value} {base : Heap} {k j : Nat} {X : Cx} {E : Ec} {Γ Γ' : List Sl} {e a b c o iter elt : Expr} {es : List Expr} {Pt P1 P2 R : Pd} {Ps Qs Ds : List Pd} {pos p : Pos} {rest sts sa sb body : List Stmt} {α : Type}
/-- a list against an empty one -/
def rNilE (neg : Bool) : R2 := fun x y H Q => ∃ l m xs, x = .ref l ∧ y = .ref m ∧ H l = some (.lst xs) ∧ H m = some (.lst []) ∧ Q (.bl (if neg then !xs.isEmpty else xs.isEmpty)) H
theorem op_eqNil (hu : X.A.units < cLine) : OpR X (compareOp .Eq) (rNilE false) := by
  intro pins s σ H x y u v Q I rx ry hq
  obtain ⟨l, m, xs, rfl, rfl, h1, h2, q⟩ := hq
  cases rx
  cases ry
  obtain ⟨_, its, n, r, e1⟩ := I.hok l _ h1
  obtain ⟨_, its2, n2, r2, e2⟩ := I.hok m _ h2
  cases r2
  show wpAny (model X.prog X.w) X.A (richCompare .Eq (.ref l) (.ref m)) (EP X pins σ Q) X.xe s
  cases r with
  | nil => exact GQ.rc_listG (N := 0) hu (fun _ s' => s' = s) (fun i s' q' => by subst q'; exact ⟨_, _, _, _, e1, e2, rfl, rfl, fun h1 _ => absurd h1 (Nat.not_lt_zero _)⟩) (fun s' q' => by subst q'; exact ⟨.bl true, H, I, rfl, q⟩) rfl
  | cons a t => exact rc_len_eq hu e1 e2 (by simp) ⟨.bl false, H, I, rfl, q⟩
theorem op_neNil (hu : X.A.units < cLine) : OpR X (compareOp .NotEq) (rNilE true) := by
  intro pins s σ H x y u v Q I rx ry hq
  obtain ⟨l, m, xs, rfl, rfl, h1, h2, q⟩ := hq
  cases rx
  cases ry
  obtain ⟨_, its, n, r, e1⟩ := I.hok l _ h1
  obtain ⟨_, its2, n2, r2, e2⟩ := I.hok m _ h2
  cases r2
  show wpAny (model X.prog X.w) X.A (richCompare .NotEq (.ref l) (.ref m)) (EP X pins σ Q) X.xe s
  cases r with
  | nil => exact rc_listN (N := 0) hu (fun _ s' => s' = s) (fun i s' q' => by subst q'; exact ⟨_, _, _, _, e1, e2, rfl, rfl, fun h1 _ => absurd h1 (Nat.not_lt_zero _)⟩) (fun s' q' => by subst q'; exact ⟨.bl false, H, I, rfl, q⟩) rfl
  | cons a t => exact rc_len_ne hu e1 e2 (by simp) ⟨.bl true, H, I, rfl, q⟩
/-- xs == [], xs != [] -/
theorem nil_core {op : CmpOp} {neg : Bool} (ho : OpR X (compareOp op) (rNilE neg)) (ha : EXS X Γ a Ps) (hm : behindInMarks op (.List [] p) = false := by exact nomark _) : EXT X Γ (.Compare a [op] [.List [] p] pos) (if neg then !Ps.isEmpty else Ps.isEmpty) := fun H0 σ Hb H x s =>
  wT.of (pt_cmpR ho pe_w pe_w hm) ((ha H0 σ Hb H x s).mono fun v H1 ⟨Hb1, l, vs, e1, st1, e2, e3⟩ => ((exl_lst (X := X) (Γ := Γ) (pos := p) exa_nil (by decide)) H0 σ Hb1 H1 st1.s (s.step st1)).mono fun u H2 ⟨Hb2, m, us, f1, st2, f0, f2, f3, f4⟩ => by
    cases f4
    refine ⟨l, m, vs, e1, f1, st2.h _ _ e2, f3, _, rfl, Hb2, st1.trans st2, ?_⟩
    have : vs.isEmpty = Ps.isEmpty := by cases e3 <;> rfl
    rw [this])
theorem ext_eqNil (G : Good P w K mg base k X) (ha : EXS X Γ a Ps) : EXT X Γ (.Compare a [.Eq] [.List [] p] pos) Ps.isEmpty := nil_core (op_eqNil (Nat.lt_of_succ_lt G.units)) ha
theorem ext_neNil (G : Good P w K mg base k X) (ha : EXS X Γ a Ps) : EXT X Γ (.Compare a [.NotEq] [.List [] p] pos) (!Ps.isEmpty) := nil_core (op_neNil (Nat.lt_of_succ_lt G.units)) ha
/-! == of instances and of lists of them: True -/
/-- the own == of the class at C, for two that are of one type T y -/
def RT (T : α → Pd) : Addr → Addr → Hp → Prop := fun x y H => ∃ q, (T q).p (.ref x) H ∧ (T q).p (.ref y) H
theorem sp_eq {T : α → Pd} {f : Addr} {fd : FuncData} {ps : List Str} (F : FnOk P w K mg base CX0 k f fd ps (spT (fun _ : α => True) (fun q => [T q, T q]) fun _ => tB true)) : FnOk P w K mg base CX0 k f fd ps (spEq (RT T)) :=
  F.imp fun vs H Q E h => by
    obtain ⟨x, y, rfl, ⟨q, q1, q2⟩, k⟩ := h
    exact ⟨q, H, trivial, Ext.rfl', .cons q1 (.cons q2 .nil), fun v Hb' H' st e => by cases e; exact k H' st.h⟩
theorem rc_ins {T : α → Pd} {C f : Addr} {fd : FuncData} {ps : List Str} (G : Good P w K mg base j X) (F : FnOk P w K mg base CX0 k f fd ps (spT (fun _ : α => True) (fun q => [T q, T q]) fun _ => tB true)) (hs : PySem.W.findIn K (.ref C) "__eq__" = some (some (.ref f))) (hf : PySem.W.isFn K (.ref f) = true) (bd : Binds K fd ps []) : RcG X k (DIns C (RT T)) := by
  obtain ⟨h1, h2, h3, h4, h5, hr, hc, hxe, nd⟩ := G
  subst h1 h2 h3 h4 h5
  exact rcG_ins (E := E0) (sp_eq F) hs hf bd pass0
theorem mon_RT {T : α → Pd} {C : Addr} : Mon (DIns C (RT T)) := mon_ins fun _ _ _ _ e ⟨q, q1, q2⟩ => ⟨q, (T q).mono e q1, (T q).mono e q2⟩
/-- T q is an instance of the class at C -/
def OfC (C : Addr) (T : α → Pd) : Prop := ∀ q v H, (T q).p v H → ∃ a dx fs, v = .ref a ∧ H a = some (.ins C dx fs)
theorem prs_of {T : α → Pd} {C : Addr} (hT : OfC C T) {H : Hp} : ∀ {qs : List α} {xs ys : List V}, Its (qs.map T) xs H → Its (qs.map T) ys H → Prs (DIns C (RT T)) xs ys H
  | [], _, _, .nil, .nil => Prs.nil
  | q :: qs, _, _, .cons a t, .cons b u => Prs.cons (by
      obtain ⟨x, dx, fs, rfl, e⟩ := hT _ _ _ a
      obtain ⟨y, dy, gs, rfl, e'⟩ := hT _ _ _ b
      exact ⟨x, y, dx, dy, fs, gs, rfl, rfl, e, e', q, a, b⟩) (prs_of hT t u)
theorem ex_eqC {T : α → Pd} {C f : Addr} {fd : FuncData} {ps : List Str} (G : Good P w K mg base j X) (F : FnOk P w K mg base CX0 k f fd ps (spT (fun _ : α => True) (fun q => [T q, T q]) fun _ => tB true)) (hs : PySem.W.findIn K (.ref C) "__eq__" = some (some (.ref f))) (hf : PySem.W.isFn K (.ref f) = true) (bd : Binds K fd ps []) (hT : OfC C T) (hk : k ≤ j)
    {q : α} (ha : EX X Γ a (T q)) (hb : EX X Γ b (T q)) : EX X Γ (.Compare a [.Eq] [b] pos) (tB true) :=
  ex_cmp (op_eqG (rc_ins G F hs hf bd) (G.room.mono hk)) ha hb fun x y Hb H Q e p1 p2 kk => by
    obtain ⟨x1, dx, fs, rfl, e1⟩ := hT _ _ _ ((T q).mono e p1)
    obtain ⟨y1, dy, gs, rfl, e2⟩ := hT _ _ _ ((T q).mono e p2)
    exact ⟨⟨x1, y1, dx, dy, fs, gs, rfl, rfl, e1, e2, q, (T q).mono e p1, (T q).mono e p2⟩, fun H' x' => kk _ Hb H' ⟨Ext.rfl', x', e.trans x', fun _ _ h _ => h⟩ rfl⟩
theorem ex_eqLs {T : α → Pd} {C f : Addr} {fd : FuncData} {ps : List Str} (G : Good P w K mg base j X) (F : FnOk P w K mg base CX0 k f fd ps (spT (fun _ : α => True) (fun q => [T q, T q]) fun _ => tB true)) (hs : PySem.W.findIn K (.ref C) "__eq__" = some (some (.ref f))) (hf : PySem.W.isFn K (.ref f) = true) (bd : Binds K fd ps []) (hT : OfC C T) (hk : k + 2 ≤ j)
    {qs : List α} (ha : EX X Γ a (tL (qs.map T))) (hb : EX X Γ b (tL (qs.map T))) : EX X Γ (.Compare a [.Eq] [b] pos) (tB true) := by
  have h1 : RcG X (k + 1) (DList (DIns C (RT T))) := rcG_list mon_RT ((rc_ins G F hs hf bd).eqG fun _ _ _ d => let ⟨a, b, _, _, _, _, hx, hy, _⟩ := d; ⟨a, b, hx, hy⟩)
  exact ex_cmp (op_eqG h1 (G.room.mono (by omega))) ha hb fun x y Hb H Q e p1 p2 kk => by
    obtain ⟨l, vs, rfl, e1, i1⟩ := p1
    obtain ⟨m, us, rfl, e2, i2⟩ := p2
    exact ⟨⟨l, m, vs, us, rfl, rfl, e _ _ e1, e _ _ e2, prs_of hT (i1.mono e) (i2.mono e)⟩, fun H' x' => kk _ Hb H' ⟨Ext.rfl', x', e.trans x', fun _ _ h _ => h⟩ rfl⟩
/-- != of such lists: False -/
def rNeG (D : Eqv) : R2 := fun x y H Q => DList D x y H ∧ ∀ H', Ext H H' → Q (.bl false) H'
theorem op_neG {n : Nat} {D : Eqv} (hD : Mon D) (h : EqG X n D) (hr : Room (n + 1) X.A) : OpR X (compareOp .NotEq) (rNeG D) := by
  intro pins s σ H x y u v Q I rx ry hq
  obtain ⟨⟨a, b, xs, ys, rfl, rfl, ha, hb, p⟩, q⟩ := hq
  cases rx
  cases ry
  show wpAny (model X.prog X.w) X.A (richCompare .NotEq (.ref a) (.ref b)) (EP X pins σ Q) X.xe s
  refine rc_listN (N := xs.length) hr.units0 (fun _ s' => LoopI X pins σ H s') (fun i s' q => ?_) (fun s' q' => ?_) ⟨H, I, Ext.rfl'⟩
  · obtain ⟨H1, I1, e1⟩ := id q
    obtain ⟨z, its, k, r, e⟩ := I1.hok a _ (e1 _ _ ha)
    obtain ⟨z2, its2, k2, r2, e2⟩ := I1.hok b _ (e1 _ _ hb)
    refine ⟨its.toArray, its2.toArray, k, k2, e, e2, by rw [List.size_toArray, ← r.length], by rw [List.size_toArray, ← r2.length, ← p.1], fun h1 h2 => ?_⟩
    exact turnG hD h ⟨hr, rfl⟩ p r r2 i h1 h2 s' q
  · obtain ⟨H', I', e⟩ := q'
    exact ⟨.bl false, H', I', rfl, q H' e⟩
theorem ext_neLs {T : α → Pd} {C f : Addr} {fd : FuncData} {ps : List Str} (G : Good P w K mg base j X) (F : FnOk P w K mg base CX0 k f fd ps (spT (fun _ : α => True) (fun q => [T q, T q]) fun _ => tB true)) (hs : PySem.W.findIn K (.ref C) "__eq__" = some (some (.ref f))) (hf : PySem.W.isFn K (.ref f) = true) (bd : Binds K fd ps []) (hT : OfC C T) (hk : k + 2 ≤ j)
    {qs : List α} (ha : EX X Γ a (tL (qs.map T))) (hb : EX X Γ b (tL (qs.map T))) : EXT X Γ (.Compare a [.NotEq] [b] pos) false := by
  have h1 : EqG X k (DIns C (RT T)) := (rc_ins G F hs hf bd).eqG fun _ _ _ d => let ⟨a, b, _, _, _, _, hx, hy, _⟩ := d; ⟨a, b, hx, hy⟩
  exact ext_cmp (op_neG mon_RT h1 (G.room.mono (by omega))) ha hb fun x y Hb H Q e p1 p2 kk => by
    obtain ⟨l, vs, rfl, e1, i1⟩ := p1
    obtain ⟨m, us, rfl, e2, i2⟩ := p2
    exact ⟨⟨l, m, vs, us, rfl, rfl, e _ _ e1, e _ _ e2, prs_of hT (i1.mono e) (i2.mono e)⟩, fun H' x' => kk Hb H' ⟨Ext.rfl', x', e.trans x', fun _ _ h _ => h⟩⟩
/-! isinstance -/
/-- a built-in class by its name -/
theorem ex_ty (T : String) {x : Str} (hm : X.mg x = none) (hv : bootBuiltins x = some (.type T) := by decide +kernel) (hg : Gl X x := by rfl) (hn : x ≠ "__name__" := by decide) (hd : (x == ("__debug__" : Str)) = false := by decide) : EX X Γ (.Name x pos) (tV (.ty T)) :=
  ex_bltn hm hv rfl hg hn hd
theorem ex_isi {P1 : Pd} {cv : V} {u t : Value} {r : Bool} (ha : EX X Γ a P1) (hc : EX X Γ b (tV cv)) (kc : ClsV cv u) (ty : ∀ v H, P1.p v H → TyX X.K H v t) (hk : PySem.W.kitOne X.K t u = some r) (hm : X.mg "isinstance" = none) (hg : Gl X "isinstance" := by rfl)
    (he : starEach [a, b] X.env = (false, eval a X.env) :: starEach [b] X.env := by rfl) (he2 : starEach [b] X.env = (false, eval b X.env) :: starEach [] X.env := by rfl) (hpl : (backTo pos (starEach [b] X.env)).any (·.1) = false := by rfl) : EX X Γ (.Call (.Name "isinstance" p) [a, b] [] pos) (tB r) :=
  ex_callB call_isi (exa_cons ha (exa_cons hc exa_nil he2) he) hm (by decide +kernel) (fun vs Hb H Q x h k => by
    obtain ⟨y, z, rfl, h1, rfl⟩ := its2 h
    exact ⟨y, _, t, u, r, rfl, kc, ty _ _ (P1.mono x h1), hk, k _ Hb H (Step.refl x) rfl⟩) hg (by decide) (by decide) he hpl
theorem ex_isiT {P1 : Pd} {c1 c2 : V} {u1 u2 t : Value} {r : Bool} (ha : EX X Γ a P1) (hc : EX X Γ b (tU [tV c1, tV c2])) (k1 : ClsV c1 u1) (k2 : ClsV c2 u2) (ty : ∀ v H, P1.p v H → TyX X.K H v t) (hk : PySem.W.kitAny X.K t [u1, u2] = some r) (hm : X.mg "isinstance" = none) (hg : Gl X "isinstance" := by rfl)
    (he : starEach [a, b] X.env = (false, eval a X.env) :: starEach [b] X.env := by rfl) (he2 : starEach [b] X.env = (false, eval b X.env) :: starEach [] X.env := by rfl) (hpl : (backTo pos (starEach [b] X.env)).any (·.1) = false := by rfl) : EX X Γ (.Call (.Name "isinstance" p) [a, b] [] pos) (tB r) :=
  ex_callB call_isiT (exa_cons ha (exa_cons hc exa_nil he2) he) hm (by decide +kernel) (fun vs Hb H Q x h k => by
    obtain ⟨y, z, rfl, h1, tp, ws, rfl, e1, e2⟩ := its2 h
    obtain ⟨w1, w2, rfl, rfl, rfl⟩ := its2 e2
    exact ⟨y, tp, _, t, [u1, u2], r, rfl, x _ _ e1, .cons k1 (.cons k2 .nil), ty _ _ (P1.mono x h1), hk, k _ Hb H (Step.refl x) rfl⟩) hg (by decide) (by decide) he hpl
/-! range, zip in comprehensions -/
theorem exl_lcR (jx : Nat) {x : Str} {px pn pe : Pos} {n : Int} {scope : Scope} (Rs : List Pd) (G : Good P w K mg base k X) (hi : EX X Γ a (tI n)) (hn : -(2 ^ 62) ≤ n) (hl : Rs.length = n.toNat) (hl2 : n ≤ 1000)
    (he : ∀ (i : Nat) (Rt : Pd), (i : Int) < n → Rs[i]? = some Rt → Blk X scope fun Y => EX Y (Γ.set jx (.val (tI i))) elt Rt)
    (hm : X.mg "range" = none) (hj : jx < X.N.length) (ok : BlkOk X.N X.env.scope scope [(x, jx)]) (hg : Blk X scope fun Y => PG Y (.Name x px) (gName jx)) (hgl : Gl X "range" := by rfl) (hse : starEach [a] X.env = [(false, eval a X.env)] := by rfl)
    (hs : ∀ x, foldedSetIterable (.Call (.Name "range" pn) [a] [] pe) X.env x = pure x := by intro _; rfl) : EXL X Γ (.ListComp elt [⟨.Name x px, .Call (.Name "range" pn) [a] [] pe, [], 0⟩] scope pos) Rs := fun H0 σ Hb H xx s => wE.len fun hσ => by
  have hp := pe_lc (X := X) (elt := elt) (tg := .Name x px) (iter := .Call (.Name "range" pn) [a] [] pe) (ifs := []) (scope := scope) (own := [(x, jx)]) (pos := pos) (g := gName jx) (tt := tYes) (te := wB X scope elt) G.calm G.nd (pi_range1 hgl hm (pa_cons (pe_w (X := X)) pa_nil hse) hse) ok hg (fun _ _ _ _ _ => pts_nil)
    (fun s' H' C cl fp => ⟨fun pins s2 σ2 H2 Q I h => h s' H' C cl fp pins s2 I⟩) hs
  refine wE.of hp ?_
  refine (hi H0 σ Hb H xx s).mono fun v H1 ⟨Hb1, st, ev⟩ => ?_
  subst ev
  refine ⟨n, rfl, hn, by omega, fun D hD => lc_range (lo := 0) (n := n.toNat) (Lw Hb1 H1 D Rs) ⟨Hb1, [], (Step.refl st.s).priv hD, none_back st.s hD, upd_same, .nil⟩ (fun i H' hlt q => ?_) fun H' q => ?_⟩
  · obtain ⟨Hb', acc, g1, g2, g3, g4⟩ := q
    have hr : Rs[i]? = some Rs[i] := List.getElem?_eq_getElem (by omega)
    have e0 : (0 : Int) + (i : Nat) = (i : Int) := Int.zero_add _
    rw [e0]
    refine ⟨show wipe ((wipe σ [jx]).set jx (some (.int i))) [jx] = wipe σ [jx] by rw [wipe1s]; exact wipe1, ?_⟩
    refine iteT (B := Lw Hb1 H1 D Rs (i + 1) H') ?_
    have ew : List.set (wipe σ (List.map (fun x : Str × Nat => x.snd) [(x, jx)])) jx (some (.int i)) = σ.set jx (some (.int i)) := wipe1s
    rw [ew]
    intro s' HH C cl fp
    refine (he i _ (by omega) hr s' HH C cl fp H0 _ Hb' H' g1.s (((s.step st).step g1).set (by rw [hσ]; exact hj) rfl)).mono fun y H2 ⟨Hb2, st2, py⟩ => ?_
    refine ⟨acc, st2.h _ _ g3, ?_, Lw.turn hD g1 g2 g3 g4 st2 hr py⟩
    rw [← g4.length, List.length_take]
    exact small1000 (by omega)
  · obtain ⟨Hb', acc, g1, g2, g3, g4⟩ := q
    refine ⟨Hb', D, acc, rfl, st.trans g1, none_back st.h hD, g2, g3, ?_⟩
    rw [← hl, List.take_length] at g4
    exact g4
/-- range(lo, n) -/
theorem exl_lcR2 (jx : Nat) {x : Str} {px pn pe : Pos} {lo n : Int} {scope : Scope} (Rs : List Pd) (G : Good P w K mg base k X) (ha : EX X Γ a (tI lo)) (hb : EX X Γ b (tI n)) (hlo : 0 ≤ lo ∧ lo ≤ 1000) (hn : 0 ≤ n ∧ n ≤ 1000) (hl : Rs.length = (n - lo).toNat)
    (he : ∀ (i : Nat) (Rt : Pd), i < (n - lo).toNat → Rs[i]? = some Rt → Blk X scope fun Y => EX Y (Γ.set jx (.val (tI (lo + i)))) elt Rt)
    (hm : X.mg "range" = none) (hj : jx < X.N.length) (ok : BlkOk X.N X.env.scope scope [(x, jx)]) (hg : Blk X scope fun Y => PG Y (.Name x px) (gName jx)) (hgl : Gl X "range" := by rfl)
    (hse : starEach [a, b] X.env = [(false, eval a X.env), (false, eval b X.env)] := by rfl) (hse2 : starEach [b] X.env = [(false, eval b X.env)] := by rfl)
    (hs : ∀ x, foldedSetIterable (.Call (.Name "range" pn) [a, b] [] pe) X.env x = pure x := by intro _; rfl) : EXL X Γ (.ListComp elt [⟨.Name x px, .Call (.Name "range" pn) [a, b] [] pe, [], 0⟩] scope pos) Rs := fun H0 σ Hb H xx s => wE.len fun hσ => by
  have hp := pe_lc (X := X) (elt := elt) (tg := .Name x px) (iter := .Call (.Name "range" pn) [a, b] [] pe) (ifs := []) (scope := scope) (own := [(x, jx)]) (pos := pos) (g := gName jx) (tt := tYes) (te := wB X scope elt) G.calm G.nd (pi_range2 hgl hm (pa_cons (pe_w (X := X)) (pa_cons (pe_w (X := X)) pa_nil hse2) (by rw [hse, hse2])) hse hse2) ok hg (fun _ _ _ _ _ => pts_nil)
    (fun s' H' C cl fp => ⟨fun pins s2 σ2 H2 Q I h => h s' H' C cl fp pins s2 I⟩) hs
  refine wE.of hp ?_
  refine (ha H0 σ Hb H xx s).mono fun v H1 ⟨Hb1, st1, ev⟩ => (hb H0 σ Hb1 H1 st1.s (s.step st1)).mono fun v2 H2 ⟨Hb2, st2, ev2⟩ => ?_
  subst ev ev2
  have st := st1.trans st2
  refine ⟨lo, n, rfl, ⟨by omega, by omega, by omega, by omega⟩, fun D hD => lc_range (lo := lo) (n := (n - lo).toNat) (Lw Hb2 H2 D Rs) ⟨Hb2, [], (Step.refl st.s).priv hD, none_back st.s hD, upd_same, .nil⟩ (fun i H' hlt q => ?_) fun H' q => ?_⟩
  · obtain ⟨Hb', acc, g1, g2, g3, g4⟩ := q
    have hr : Rs[i]? = some Rs[i] := List.getElem?_eq_getElem (by omega)
    refine ⟨show wipe ((wipe σ [jx]).set jx (some (.int (lo + i)))) [jx] = wipe σ [jx] by rw [wipe1s]; exact wipe1, ?_⟩
    refine iteT (B := Lw Hb2 H2 D Rs (i + 1) H') ?_
    have ew : List.set (wipe σ (List.map (fun x : Str × Nat => x.snd) [(x, jx)])) jx (some (.int (lo + i))) = σ.set jx (some (.int (lo + i))) := wipe1s
    rw [ew]
    intro s' HH C cl fp
    refine (he i _ hlt hr s' HH C cl fp H0 _ Hb' H' g1.s (((s.step st).step g1).set (by rw [hσ]; exact hj) rfl)).mono fun y H3 ⟨Hb3, st3, py⟩ => ?_
    refine ⟨acc, st3.h _ _ g3, ?_, Lw.turn hD g1 g2 g3 g4 st3 hr py⟩
    rw [← g4.length, List.length_take]
    exact small1000 (by omega)
  · obtain ⟨Hb', acc, g1, g2, g3, g4⟩ := q
    refine ⟨Hb', D, acc, rfl, st.trans g1, none_back st.h hD, g2, g3, ?_⟩
    rw [← hl, List.take_length] at g4
    exact g4
end
end Ty
set_option Elab.async false
set_option linter.all false
set_option maxRecDepth 100000
set_option maxHeartbeats 1000000
/-! K8: comprehensions in general, also behind «name =». -/
namespace Ty
open PySem PySem.Spec PyProof.Rows L2
/-- a comprehension's block fits -/
def blkB (N : List Str) (sc scope : Scope) (own : List (Str × Nat)) : Bool :=
  decide (scope.kind = .function) && (scope.names.all (fun y => decide (scope.names.lookup y.1 = some y.2)) && (own.all (fun p => decide (N[p.2]? = some p.1)) &&
  (scope.names.all (fun y => !decide (y.2 = .free) || (decide (sc.names.lookup y.1 = some .cell) || decide (sc.names.lookup y.1 = some .free))) &&
  scope.names.all fun y => !(decide (y.2 = .local) || decide (y.2 = .cell)) || (decide (y.1 ∈ own.map (·.1)) || !decide (y.1 ∈ N)))))
theorem blk_of {N : List Str} {sc scope : Scope} {own : List (Str × Nat)} (h : blkB N sc scope own = true) : BlkOk N sc scope own := by
  unfold blkB at h
  simp only [Bool.and_eq_true, List.all_eq_true, decide_eq_true_eq, Bool.or_eq_true, Bool.not_eq_true', decide_eq_false_iff_not, Bool.or_eq_false_iff] at h
  obtain ⟨h1, h2, h3, h4, h5⟩ := h
  refine ⟨h1, h2, h3, fun y hy e => ?_, fun y hy e => ?_⟩
  · rcases h4 y hy with q | q
    · exact absurd e q
    · exact q
  · rcases h5 y hy with q | q
    · rcases e with e | e
      · exact absurd e q.1
      · exact absurd e q.2
    · exact q
section
variable {P : Program} {w : World} {K : PySem.W.Frag} {mg : Str → Option Value} {base : Heap} {k j : Nat} {X : Cx} {E : Ec} {Γ Γ' : List Sl} {e a b c o iter elt tg : Expr} {es : List Expr} {Pt P1 P2 R : Pd} {Ps Qs Ds Rs : List Pd} {pos p : Pos} {rest sts sa sb body : List Stmt} {α : Type} {scope : Scope}
theorem wB.mono {σ : St} {H : Hp} {Q Q' : VK} (h : wB X scope elt σ H Q) (q : ∀ v H', Q v H' → Q' v H') : wB X scope elt σ H Q' := fun s H2 C cl fp => (h s H2 C cl fp).mono q
/-- what a finished one gives -/
def Lf (Hb1 H1 : Hp) (D : Addr) (Rs : List Pd) (H' : Hp) : Prop := ∃ Hb' acc, Step Hb1 H1 Hb' H' ∧ Hb' D = none ∧ H' D = some (.lst acc) ∧ Its Rs acc Hb'
theorem lc_gen {J : It} {n : Nat} {Gd : Hp → Prop} {Y : Nat → Hp → V → Hp → Prop} (w : Walk J n Gd Y) {g : TG} {own : List Nat} {σ : St} {Hb1 H1 : Hp} {D : Addr} (hn : Rs.length = n) (hn2 : n ≤ 1000) (x1 : Ext Hb1 H1) (hD : H1 D = none) (hG : ∀ H', Ext H1 H' → Gd H') {Qd : Hp → Prop} (hQ : ∀ H', Lf Hb1 H1 D Rs H' → Qd H')
    (hs : ∀ i x Hb' H' H2 Rt (F : VK), i < n → Rs[i]? = some Rt → Step Hb1 H1 Hb' H' → Y i H' x H2 → (∀ y H4 Hb4, Step Hb' H' Hb4 H4 → Rt.p y Hb4 → F y H4) → g x (wipe σ own) H2 fun σ2 H3 => wipe σ2 own = wipe σ own ∧ wB X scope elt σ2 H3 F) :
    ∃ W : Nat → Nat → Hp → Prop, (∃ m, W 0 m (upd H1 D (.lst []))) ∧ ∀ i m H, W i m H →
      (J.stop i H ∧ Qd H) ∨ (J.go i H ∧ ∃ Nx : Hp → Prop, (∀ H', Nx H' → ∃ m', m' < m ∧ W (i + 1) m' H') ∧ ∀ x H', J.yld i H x H' → g x (wipe σ own) H' fun σ2 H2 => wipe σ2 own = wipe σ own ∧ tYes σ2 H2 fun b H3 =>
        if b = true then wB X scope elt σ2 H3 fun y H4 => ∃ acc, H4 D = some (.lst acc) ∧ acc.length < sizeLine ∧ Nx (upd H4 D (.lst (acc ++ [y]))) else Nx H3) := by
  refine lc_it w (Lw Hb1 H1 D Rs) ⟨Hb1, [], (Step.refl x1).priv hD, none_back x1 hD, upd_same, .nil⟩ (fun i H' _ q => ?_) (fun i x H' H2 hlt q y => ?_) fun H' q => ?_
  · obtain ⟨Hb', acc, g1, _⟩ := q
    exact hG _ g1.h
  · obtain ⟨Hb', acc, g1, g2, g3, g4⟩ := q
    have hr : Rs[i]? = some Rs[i] := List.getElem?_eq_getElem (by omega)
    refine hs i x Hb' H' H2 _ (fun y H4 => ∃ acc, H4 D = some (.lst acc) ∧ acc.length < sizeLine ∧ Lw Hb1 H1 D Rs (i + 1) (upd H4 D (.lst (acc ++ [y])))) hlt hr g1 y fun y H4 Hb4 st py => ?_
    refine ⟨acc, st.h _ _ g3, ?_, Lw.turn hD g1 g2 g3 g4 st hr py⟩
    rw [← g4.length, List.length_take]
    exact small1000 (by omega)
  · obtain ⟨Hb', acc, g1, g2, g3, g4⟩ := q
    rw [← hn, List.take_length] at g4
    exact hQ _ ⟨Hb', acc, g1, g2, g3, g4⟩
/-- a comprehension of these types -/
def LC (X : Cx) (Γ : List Sl) (elt tg iter : Expr) (scope : Scope) (Rs : List Pd) : Prop := ∃ (wi : TI) (g : TG) (own : List (Str × Nat)), PI X tg iter wi ∧ BlkOk X.N X.env.scope scope own ∧ Blk X scope (fun Y => PG Y tg g) ∧
  ∀ H0 σ Hb H (Q : VK), Ext Hb H → Sat H0 Γ σ Hb H → σ.length = X.N.length → (∀ v H' Hb' l vs, v = .ref l → Step Hb H Hb' H' → H l = none → Hb' l = none → H' l = some (.lst vs) → Its Rs vs Hb' → Q v H') → tLc wi g tYes (wB X scope elt) (own.map (·.2)) σ H Q
theorem exl_of (h : LC X Γ elt tg iter scope Rs) (G : Good P w K mg base k X) (hs : ∀ x, foldedSetIterable iter X.env x = pure x := by intro _; rfl) : EXL X Γ (.ListComp elt [⟨tg, iter, [], 0⟩] scope pos) Rs := fun H0 σ Hb H xx s => wE.len fun hσ => by
  obtain ⟨wi, g, own, hi, ok, hg, t⟩ := h
  exact wE.of (pe_lc (tt := tYes) (te := wB X scope elt) G.calm G.nd hi ok hg (fun _ _ _ _ _ => pts_nil) (fun s' H' C cl fp => ⟨fun pins s2 σ2 H2 Q I h => h s' H' C cl fp pins s2 I⟩) hs) (t H0 σ Hb H _ xx s hσ fun v H' Hb' l vs e1 e2 e3 e4 e5 e6 => ⟨Hb', l, vs, e1, e2, e3, e4, e5, e6⟩)
theorem ex_of (h : LC X Γ elt tg iter scope Rs) (G : Good P w K mg base k X) (hs : ∀ x, foldedSetIterable iter X.env x = pure x := by intro _; rfl) : EX X Γ (.ListComp elt [⟨tg, iter, [], 0⟩] scope pos) (tL Rs) := (exl_of h G hs).ex
/-- name = [..] -/
theorem bl_setC (i : Nat) {x : Str} {p' : Pos} (G : Good P w K mg base k X) (h : LC X Γ elt tg iter scope Rs) (kk : BL X E (Γ.set i (.own Rs)) rest) (hi : X.N[i]? = some x := by rfl) (hx : X.env.scope.names.lookup x = some .local := by rfl)
    (hsw : swapsWith (.ListComp elt [⟨tg, iter, [], 0⟩] scope pos) (some (.Name x p')) p.line X.env = pure true := by exact sw_true rfl rfl rfl rfl) (hs : ∀ x, foldedSetIterable iter X.env x = pure x := by intro _; rfl) : BL X E Γ (.Assign [.Name x p'] (.ListComp elt [⟨tg, iter, [], 0⟩] scope pos) p :: rest) := fun σ H ⟨h1, Hb, h2, hk, h3⟩ => by
  obtain ⟨wi, g, own, hi', ok, hg, t⟩ := h
  refine wS.of (pss_cons (ps_setLc (tt := tYes) (te := wB X scope elt) G.calm G.nd hi hx hsw hi' ok hg (fun _ _ _ _ _ => pts_nil) (fun s' H' C cl fp => ⟨fun pins s2 σ2 H2 Q I h => h s' H' C cl fp pins s2 I⟩) hs) pss_w) ?_
  show tLc wi g tYes (wB X scope elt) (own.map (·.2)) σ H (fun v H1 => gName i v σ H1 (fun σ' H' => wS X rest E.D σ' H'))
  refine t E.H0 σ Hb H _ h2.s h3 h1 fun v H1 Hb1 l vs ev st q0 q1 q2 q3 => ?_
  subst ev
  exact kk _ _ ⟨by rw [List.length_set]; exact h1, Hb1, h2.trans st, hk.trans st.b, h3.setO st h2.h (nlt hi h1) q0 q1 q2 q3⟩
theorem lf_go {Hb H Hb1 H1 : Hp} {D : Addr} {Q : VK} (st : Step Hb H Hb1 H1) (hD : H1 D = none) (q : (∀ v H' Hb' l vs, v = .ref l → Step Hb H Hb' H' → H l = none → Hb' l = none → H' l = some (.lst vs) → Its Rs vs Hb' → Q v H')) : ∀ H', Lf Hb1 H1 D Rs H' → Q (.ref D) H' := fun H' ⟨Hb', acc, g1, g2, g3, g4⟩ =>
  q _ H' Hb' D acc rfl (st.trans g1) (none_back st.h hD) g2 g3 g4
/-- over a list -/
theorem lcL {x : Str} {px : Pos} {β γ : Type} {T : β → Pd} {T' : γ → Pd} {xs : List β} (jx : Nat) (f : Nat → β → γ) (hi : EXS X Γ iter (xs.map T)) (hl : xs.length ≤ 1000) (he : ∀ i u, xs[i]? = some u → Blk X scope fun Y => EX Y (Γ.set jx (.val (T u))) elt (T' (f i u)))
    (G : Good P w K mg base k X) (hg : Blk X scope (fun Y => Loc Y.env.scope x ∧ (Y.fn x = true ∨ Y.env.scope.names.lookup x = some .local)) := by exact fun _ _ _ _ _ => ⟨.inl rfl, .inr rfl⟩)
    (ok : blkB X.N X.env.scope scope [(x, jx)] = true := by first | rfl | kernel_rfl) : LC X Γ elt (.Name x px) iter scope ((xs.mapIdx f).map T') := by
  have ok' := blk_of ok
  have hj := ok'.ix _ (List.mem_singleton.mpr rfl)
  refine ⟨iList X.K (wE X iter), gName jx, [(x, jx)], pi_list pe_w, ok', fun s' H' C cl fp => pg_name G.nd hj (hg s' H' C cl fp).1 (hg s' H' C cl fp).2, fun H0 σ Hb H Q xx s hσ q => ?_⟩
  refine (hi H0 σ Hb H xx s).mono fun v H1 ⟨Hb1, l, vs, ev, st, e2, e3⟩ => ?_
  subst ev
  refine ⟨l, rfl, ⟨vs, sq_at e2⟩, fun D hD => lc_gen (n := vs.length) walk_list (by rw [← e3.length]; simp) (by rw [← e3.length]; simpa using hl) st.s hD (fun H' x => sq_at (x _ _ e2)) (lf_go st hD q) fun i xv Hb' H' H2 Rt F hlt hr g1 yy kf => ?_⟩
  obtain ⟨rfl, hu⟩ := yy
  rw [List.getElem?_map, List.getElem?_mapIdx] at hr
  have hlt2 : i < xs.length := by rw [← e3.length] at hlt; simpa using hlt
  rw [List.getElem?_eq_getElem hlt2] at hr
  cases hr
  obtain ⟨u', hu', pu⟩ := (e3.mono g1.b).get (i := i) (P := T xs[i]) (by rw [List.getElem?_map, List.getElem?_eq_getElem hlt2]; rfl)
  rw [hu] at hu'
  cases hu'
  refine ⟨show wipe ((wipe σ [jx]).set jx (some xv)) [jx] = wipe σ [jx] by rw [wipe1s]; exact wipe1, ?_⟩
  show wB X scope elt (List.set (wipe σ [jx]) jx (some xv)) _ F
  rw [show List.set (wipe σ [jx]) jx (some xv) = σ.set jx (some xv) from wipe1s]
  intro s' HH C cl fp
  exact (he i _ (List.getElem?_eq_getElem hlt2) s' HH C cl fp H0 _ Hb' _ g1.s (((s.step st).step g1).set (by rw [hσ]; exact (List.getElem?_eq_some_iff.mp hj).1) pu)).mono fun y H4 ⟨Hb4, st2, py⟩ => kf y H4 Hb4 st2 py
/-- over a tuple -/
theorem lcT {x : Str} {px : Pos} {β γ : Type} {T : β → Pd} {T' : γ → Pd} {xs : List β} (jx : Nat) (f : Nat → β → γ) (hi : EX X Γ iter (tU (xs.map T))) (hl : xs.length ≤ 1000) (he : ∀ i u, xs[i]? = some u → Blk X scope fun Y => EX Y (Γ.set jx (.val (T u))) elt (T' (f i u)))
    (G : Good P w K mg base k X) (hg : Blk X scope (fun Y => Loc Y.env.scope x ∧ (Y.fn x = true ∨ Y.env.scope.names.lookup x = some .local)) := by exact fun _ _ _ _ _ => ⟨.inl rfl, .inr rfl⟩)
    (ok : blkB X.N X.env.scope scope [(x, jx)] = true := by first | rfl | kernel_rfl) : LC X Γ elt (.Name x px) iter scope ((xs.mapIdx f).map T') := by
  have ok' := blk_of ok
  have hj := ok'.ix _ (List.mem_singleton.mpr rfl)
  refine ⟨iTup X.K (wE X iter), gName jx, [(x, jx)], pi_tup pe_w, ok', fun s' H' C cl fp => pg_name G.nd hj (hg s' H' C cl fp).1 (hg s' H' C cl fp).2, fun H0 σ Hb H Q xx s hσ q => ?_⟩
  refine (hi H0 σ Hb H xx s).mono fun v H1 ⟨Hb1, st, l, vs, ev, e2', e3⟩ => ?_
  subst ev
  have e2 := st.s _ _ e2'
  refine ⟨l, rfl, ⟨vs, st_at e2⟩, fun D hD => lc_gen (n := vs.length) walk_tup (by rw [← e3.length]; simp) (by rw [← e3.length]; simpa using hl) st.s hD (fun H' x => st_at (x _ _ e2)) (lf_go st hD q) fun i xv Hb' H' H2 Rt F hlt hr g1 yy kf => ?_⟩
  obtain ⟨rfl, hu⟩ := yy
  rw [List.getElem?_map, List.getElem?_mapIdx] at hr
  have hlt2 : i < xs.length := by rw [← e3.length] at hlt; simpa using hlt
  rw [List.getElem?_eq_getElem hlt2] at hr
  cases hr
  obtain ⟨u', hu', pu⟩ := (e3.mono g1.b).get (i := i) (P := T xs[i]) (by rw [List.getElem?_map, List.getElem?_eq_getElem hlt2]; rfl)
  rw [hu] at hu'
  cases hu'
  refine ⟨show wipe ((wipe σ [jx]).set jx (some xv)) [jx] = wipe σ [jx] by rw [wipe1s]; exact wipe1, ?_⟩
  show wB X scope elt (List.set (wipe σ [jx]) jx (some xv)) _ F
  rw [show List.set (wipe σ [jx]) jx (some xv) = σ.set jx (some xv) from wipe1s]
  intro s' HH C cl fp
  exact (he i _ (List.getElem?_eq_getElem hlt2) s' HH C cl fp H0 _ Hb' _ g1.s (((s.step st).step g1).set (by rw [hσ]; exact (List.getElem?_eq_some_iff.mp hj).1) pu)).mono fun y H4 ⟨Hb4, st2, py⟩ => kf y H4 Hb4 st2 py
/-- over range(n) -/
theorem lcR {x : Str} {px pn pe : Pos} {γ : Type} {T' : γ → Pd} {n : Int} (jx : Nat) (f : Nat → γ) (hi : EX X Γ a (tI n)) (hn : -1000 ≤ n ∧ n ≤ 1000) (he : ∀ i : Nat, (i : Int) < n → Blk X scope fun Y => EX Y (Γ.set jx (.val (tI i))) elt (T' (f i)))
    (G : Good P w K mg base k X) (hm : X.mg "range" = none) (hgl : Gl X "range" := by rfl) (hse : starEach [a] X.env = [(false, eval a X.env)] := by rfl) (hg : Blk X scope (fun Y => Loc Y.env.scope x ∧ (Y.fn x = true ∨ Y.env.scope.names.lookup x = some .local)) := by exact fun _ _ _ _ _ => ⟨.inl rfl, .inr rfl⟩)
    (ok : blkB X.N X.env.scope scope [(x, jx)] = true := by first | rfl | kernel_rfl) : LC X Γ elt (.Name x px) (.Call (.Name "range" pn) [a] [] pe) scope (((List.range n.toNat).map f).map T') := by
  have ok' := blk_of ok
  have hj := ok'.ix _ (List.mem_singleton.mpr rfl)
  refine ⟨_, gName jx, [(x, jx)], pi_range1 hgl hm (pa_cons (pe_w (X := X)) pa_nil hse) hse, ok', fun s' H' C cl fp => pg_name G.nd hj (hg s' H' C cl fp).1 (hg s' H' C cl fp).2, fun H0 σ Hb H Q xx s hσ q => ?_⟩
  refine (hi H0 σ Hb H xx s).mono fun v H1 ⟨Hb1, st, ev⟩ => ?_
  subst ev
  refine ⟨n, rfl, by omega, by omega, fun D hD => lc_gen (n := n.toNat) walk_range (by simp) (by omega) st.s hD (fun H' x => trivial) (lf_go st hD q) fun i x Hb' H' H2 Rt F hlt hr g1 y kf => ?_⟩
  obtain ⟨rfl, rfl⟩ := y
  rw [List.getElem?_map, List.getElem?_map, List.getElem?_range hlt] at hr
  cases hr
  show gName jx (V.int (0 + (i : Nat))) _ _ _
  rw [show (0 : Int) + (i : Nat) = (i : Int) from Int.zero_add _]
  refine ⟨show wipe ((wipe σ [jx]).set jx (some (V.int i))) [jx] = wipe σ [jx] by rw [wipe1s]; exact wipe1, ?_⟩
  show wB X scope elt (List.set (wipe σ [jx]) jx (some (V.int i))) _ F
  rw [show List.set (wipe σ [jx]) jx (some (V.int i)) = σ.set jx (some (V.int i)) from wipe1s]
  intro s' HH C cl fp
  exact (he i (by omega) s' HH C cl fp H0 _ Hb' _ g1.s (((s.step st).step g1).set (by rw [hσ]; exact (List.getElem?_eq_some_iff.mp hj).1) rfl)).mono fun y H4 ⟨Hb4, st2, py⟩ => kf y H4 Hb4 st2 py
/-- over range(lo, n) -/
theorem lcR2 {x : Str} {px pn pe : Pos} {γ : Type} {T' : γ → Pd} {lo n : Int} (jx : Nat) (f : Nat → γ) (ha : EX X Γ a (tI lo)) (hb : EX X Γ b (tI n)) (hlo : 0 ≤ lo ∧ lo ≤ 1000) (hn : 0 ≤ n ∧ n ≤ 1000) (he : ∀ i : Nat, i < (n - lo).toNat → Blk X scope fun Y => EX Y (Γ.set jx (.val (tI (lo + i)))) elt (T' (f i)))
    (G : Good P w K mg base k X) (hm : X.mg "range" = none) (hgl : Gl X "range" := by rfl) (hse : starEach [a, b] X.env = [(false, eval a X.env), (false, eval b X.env)] := by rfl) (hse2 : starEach [b] X.env = [(false, eval b X.env)] := by rfl)
    (hg : Blk X scope (fun Y => Loc Y.env.scope x ∧ (Y.fn x = true ∨ Y.env.scope.names.lookup x = some .local)) := by exact fun _ _ _ _ _ => ⟨.inl rfl, .inr rfl⟩)
    (ok : blkB X.N X.env.scope scope [(x, jx)] = true := by first | rfl | kernel_rfl) : LC X Γ elt (.Name x px) (.Call (.Name "range" pn) [a, b] [] pe) scope (((List.range (n - lo).toNat).map f).map T') := by
  have ok' := blk_of ok
  have hj := ok'.ix _ (List.mem_singleton.mpr rfl)
  refine ⟨_, gName jx, [(x, jx)], pi_range2 hgl hm (pa_cons (pe_w (X := X)) (pa_cons (pe_w (X := X)) pa_nil hse2) (by rw [hse, hse2])) hse hse2, ok', fun s' H' C cl fp => pg_name G.nd hj (hg s' H' C cl fp).1 (hg s' H' C cl fp).2, fun H0 σ Hb H Q xx s hσ q => ?_⟩
  refine (ha H0 σ Hb H xx s).mono fun v H1 ⟨Hb1, st1, ev⟩ => (hb H0 σ Hb1 H1 st1.s (s.step st1)).mono fun v2 H2 ⟨Hb2, st2, ev2⟩ => ?_
  subst ev ev2
  have st := st1.trans st2
  refine ⟨lo, n, rfl, ⟨by omega, by omega, by omega, by omega⟩, fun D hD => lc_gen (n := (n - lo).toNat) walk_range (by simp) (by omega) st.s hD (fun H' x => trivial) (lf_go st hD q) fun i x Hb' H' H2 Rt F hlt hr g1 y kf => ?_⟩
  obtain ⟨rfl, rfl⟩ := y
  rw [List.getElem?_map, List.getElem?_map, List.getElem?_range hlt] at hr
  cases hr
  refine ⟨show wipe ((wipe σ [jx]).set jx (some (V.int (lo + i)))) [jx] = wipe σ [jx] by rw [wipe1s]; exact wipe1, ?_⟩
  show wB X scope elt (List.set (wipe σ [jx]) jx (some (V.int (lo + i)))) _ F
  rw [show List.set (wipe σ [jx]) jx (some (V.int (lo + i))) = σ.set jx (some (V.int (lo + i))) from wipe1s]
  intro s' HH C cl fp
  exact (he i hlt s' HH C cl fp H0 _ Hb' _ g1.s (((s.step st).step g1).set (by rw [hσ]; exact (List.getElem?_eq_some_iff.mp hj).1) rfl)).mono fun y H4 ⟨Hb4, st2, py⟩ => kf y H4 Hb4 st2 py
/-- over zip(xs, ys), of one length -/
theorem lcZ {x y : Str} {px py pt pn pe : Pos} {kt : Nat} {β γ : Type} {T : β → Pd} {T' : γ → Pd} {xs ys : List β} (jx jy : Nat) (f : β → β → γ) (ha : EX X Γ a (tL (xs.map T))) (hb : EX X Γ b (tL (ys.map T))) (hl : xs.length = ys.length) (hl2 : xs.length ≤ 1000)
    (he : ∀ (i : Nat) u v, xs[i]? = some u → ys[i]? = some v → Blk X scope fun Y => EX Y ((Γ.set jx (.val (T u))).set jy (.val (T v))) elt (T' (f u v)))
    (G : Good P w K mg base k X) (hm : X.mg "zip" = none) (hij : jx ≠ jy := by decide) (hgl : Gl X "zip" := by rfl) (hse : starEach [a, b] X.env = (false, eval a X.env) :: starEach [b] X.env := by rfl) (hse2 : starEach [b] X.env = (false, eval b X.env) :: starEach [] X.env := by rfl) (hpl : (backTo pe (starEach [b] X.env)).any (·.1) = false := by rfl)
    (hg : Blk X scope (fun Y => (Loc Y.env.scope x ∧ (Y.fn x = true ∨ Y.env.scope.names.lookup x = some .local)) ∧ (Loc Y.env.scope y ∧ (Y.fn y = true ∨ Y.env.scope.names.lookup y = some .local)) ∧ (assignEach [.Name x px, .Name y py] Y.env).length = 2 ∧ (assignEach [.Name x px, .Name y py] Y.env).findIdx? (·.1) = none) := by exact fun _ _ _ _ _ => ⟨⟨.inl rfl, .inr rfl⟩, ⟨.inl rfl, .inr rfl⟩, rfl, rfl⟩)
    (ok : blkB X.N X.env.scope scope [(x, jx), (y, jy)] = true := by first | rfl | kernel_rfl) : LC X Γ elt (.Tuple [.Name x px, .Name y py] kt pt) (.Call (.Name "zip" pn) [a, b] [] pe) scope ((List.zipWith f xs ys).map T') := by
  have ok' := blk_of ok
  have hj := ok'.ix (x, jx) (by simp)
  have hj2 := ok'.ix (y, jy) (by simp)
  refine ⟨_, gTup X.K 2 (gCons (gName jx) (gCons (gName jy) gNil)), [(x, jx), (y, jy)], pi_zip (p := pn) hgl hm (pa_cons (pe_w (X := X)) (pa_cons (pe_w (X := X)) pa_nil hse2) hse) hse hpl, ok', fun s' H' C cl fp => ?_, fun H0 σ Hb H Q xx s hσ q => ?_⟩
  · obtain ⟨⟨h1, h2⟩, ⟨h3, h4⟩, h5, h6⟩ := hg s' H' C cl fp
    exact pg_tup G.calm (pgs_cons (pg_name G.nd hj h1 h2) (pgs_cons (pg_name G.nd hj2 h3 h4) pgs_nil)) h5 h6
  refine (ha H0 σ Hb H xx s).mono fun v H1 ⟨Hb1, st1, l1, vs, ev, e2, e3⟩ => (hb H0 σ Hb1 H1 st1.s (s.step st1)).mono fun v2 H2 ⟨Hb2, st2, l2, us, ev2, f2, f3⟩ => ?_
  subst ev ev2
  have st := st1.trans st2
  have e2' := st2.s _ _ (st2.b _ _ e2)
  have f2' := st2.s _ _ f2
  have lv : vs.length = xs.length := by rw [← e3.length]; simp
  have lu : us.length = xs.length := by rw [← f3.length, hl]; simp
  refine ⟨l1, l2, vs, us, rfl, sq_at e2', sq_at f2', fun D hD => lc_gen (n := xs.length) (walk_zip (by omega)) (by simp [hl]) hl2 st.s hD (fun H' x => ⟨sq_at (x _ _ e2'), sq_at (x _ _ f2')⟩) (lf_go st hD q) fun i x Hb' H' H3 Rt F hlt hr g1 yy kf => ?_⟩
  obtain ⟨t, u, v, rfl, ht, rfl, hu, hv⟩ := yy
  have hy : i < ys.length := by omega
  have hr' : Rt = T' (f xs[i] ys[i]) := by
    rw [List.getElem?_map, List.getElem?_zipWith, List.getElem?_eq_getElem hlt, List.getElem?_eq_getElem hy] at hr
    cases hr
    rfl
  subst hr'
  obtain ⟨u', hu', pu⟩ := ((e3.mono st2.b).mono g1.b).get (i := i) (P := T xs[i]) (by rw [List.getElem?_map, List.getElem?_eq_getElem hlt]; rfl)
  obtain ⟨v', hv', pv⟩ := (f3.mono g1.b).get (i := i) (P := T ys[i]) (by rw [List.getElem?_map, List.getElem?_eq_getElem hy]; rfl)
  have hu := (show vs[i]? = some u from hu).symm.trans hu'
  have hv := (show us[i]? = some v from hv).symm.trans hv'
  cases hu
  cases hv
  refine ⟨t, [u, v], rfl, st_at upd_same, rfl, u, [v], rfl, v, [], rfl, rfl, ?_, ?_⟩
  · show wipe (((wipe σ [jx, jy]).set jx (some u)).set jy (some v)) [jx, jy] = wipe σ [jx, jy]
    show ((((((σ.set jy none).set jx none).set jx (some u)).set jy (some v)).set jy none).set jx none) = (σ.set jy none).set jx none
    rw [List.set_set, List.set_set, List.set_comm _ _ hij, List.set_set, List.set_set]
  · have ew : ((wipe σ [jx, jy]).set jx (some u)).set jy (some v) = (σ.set jx (some u)).set jy (some v) := by
      show (((σ.set jy none).set jx none).set jx (some u)).set jy (some v) = _
      rw [List.set_set, List.set_comm _ _ (Ne.symm hij), List.set_set]
    show wB X scope elt (((wipe σ [jx, jy]).set jx (some u)).set jy (some v)) _ F
    rw [ew]
    have stp := (Step.refl g1.s).priv (o := HO.tup [u, v]) ht
    intro s' HH C cl fp
    refine (he i _ _ (List.getElem?_eq_getElem hlt) (List.getElem?_eq_getElem hy) s' HH C cl fp H0 _ Hb' _ stp.s ((((((s.step st).step g1).step stp).set (by rw [hσ]; exact (List.getElem?_eq_some_iff.mp hj).1) pu)).set (by rw [List.length_set, hσ]; exact (List.getElem?_eq_some_iff.mp hj2).1) pv)).mono fun y H4 ⟨Hb4, st3, py⟩ => kf y H4 Hb4 (stp.trans st3) py
/-- each item alike -/
theorem mapIdx_c {β γ : Type} (f : β → γ) (xs : List β) : xs.mapIdx (fun _ => f) = xs.map f := by
  apply List.ext_getElem?
  intro i
  rw [List.getElem?_mapIdx, List.getElem?_map]
theorem lcM {x : Str} {px : Pos} {β γ : Type} {T : β → Pd} {T' : γ → Pd} {xs : List β} (jx : Nat) (f : β → γ) (hi : EXS X Γ iter (xs.map T)) (hl : xs.length ≤ 1000) (he : ∀ u, u ∈ xs → Blk X scope fun Y => EX Y (Γ.set jx (.val (T u))) elt (T' (f u)))
    (G : Good P w K mg base k X) (hg : Blk X scope (fun Y => Loc Y.env.scope x ∧ (Y.fn x = true ∨ Y.env.scope.names.lookup x = some .local)) := by exact fun _ _ _ _ _ => ⟨.inl rfl, .inr rfl⟩)
    (ok : blkB X.N X.env.scope scope [(x, jx)] = true := by first | rfl | kernel_rfl) : LC X Γ elt (.Name x px) iter scope ((xs.map f).map T') := by
  rw [← mapIdx_c f xs]
  exact lcL jx (fun _ => f) hi hl (fun i u hu => he u (List.mem_of_getElem? hu)) G hg ok
theorem lcMT {x : Str} {px : Pos} {β γ : Type} {T : β → Pd} {T' : γ → Pd} {xs : List β} (jx : Nat) (f : β → γ) (hi : EX X Γ iter (tU (xs.map T))) (hl : xs.length ≤ 1000) (he : ∀ u, u ∈ xs → Blk X scope fun Y => EX Y (Γ.set jx (.val (T u))) elt (T' (f u)))
    (G : Good P w K mg base k X) (hg : Blk X scope (fun Y => Loc Y.env.scope x ∧ (Y.fn x = true ∨ Y.env.scope.names.lookup x = some .local)) := by exact fun _ _ _ _ _ => ⟨.inl rfl, .inr rfl⟩)
    (ok : blkB X.N X.env.scope scope [(x, jx)] = true := by first | rfl | kernel_rfl) : LC X Γ elt (.Name x px) iter scope ((xs.map f).map T') := by
  rw [← mapIdx_c f xs]
  exact lcT jx (fun _ => f) hi hl (fun i u hu => he u (List.mem_of_getElem? hu)) G hg ok
end
end Ty
set_option Elab.async false
set_option linter.all false
set_option maxRecDepth 100000
set_option maxHeartbeats 1000000
/-! K9: values known in part, the pot, pairs of fields. -/
namespace Ty
open PySem PySem.Spec PyProof.Rows L2
/-- of one of these types -/
def tEx {ι : Type} (T : ι → Pd) : Pd := ⟨fun v H => ∃ y, (T y).p v H, fun e ⟨y, h⟩ => ⟨y, (T y).mono e h⟩⟩
theorem le_no : ∀ (i : Nat) (Γ : List Sl), Le (Γ.set i .no) Γ
  | _, [] => .nil
  | 0, s :: r => .no (Le.refl r)
  | i + 1, s :: r => .same (le_no i r)
theorem Sat.case {ι : Type} {T : ι → Pd} {H0 : Hp} {Γ : List Sl} {σ : St} {Hb H : Hp} (s : Sat H0 Γ σ Hb H) {i : Nat} (hΓ : Γ[i]? = some (.val (tEx T))) : ∃ y, Sat H0 (Γ.set i (.val (T y))) σ Hb H := by
  obtain ⟨v, hv, y, py⟩ := s.val i _ hΓ
  have hi := (List.getElem?_eq_some_iff.mp hv).1
  have h := s.set hi py
  have e : σ.set i (some v) = σ := by
    apply List.ext_getElem?
    intro j
    by_cases hj : i = j
    · subst hj; rw [List.getElem?_set_self hi, hv]
    · rw [List.getElem?_set_ne hj]
  rw [e] at h
  exact ⟨y, h⟩
section
variable {P : Program} {w : World} {K : PySem.W.Frag} {mg : Str → Option Value} {base : Heap} {k j : Nat} {X : Cx} {E : Ec} {Γ Γ' : List Sl} {e a b c o iter elt tg : Expr} {es : List Expr} {Pt P1 P2 R : Pd} {Ps Qs Ds Rs : List Pd} {pos p : Pos} {rest sts sa sb body : List Stmt} {α ι : Type} {T : ι → Pd} {scope : Scope}
theorem ex_case (i : Nat) (h : ∀ y, EX X (Γ.set i (.val (T y))) e R) (hΓ : Γ[i]? = some (.val (tEx T)) := by rfl) : EX X Γ e R := fun H0 σ Hb H x s => let ⟨y, s'⟩ := s.case hΓ; h y H0 σ Hb H x s'
theorem exl_case (i : Nat) (h : ∀ y, EXL X (Γ.set i (.val (T y))) e Rs) (hΓ : Γ[i]? = some (.val (tEx T)) := by rfl) : EXL X Γ e Rs := fun H0 σ Hb H x s => let ⟨y, s'⟩ := s.case hΓ; h y H0 σ Hb H x s'
theorem bl_case (i : Nat) (h : ∀ y, BL X E (Γ.set i (.val (T y))) sts) (hΓ : Γ[i]? = some (.val (tEx T)) := by rfl) : BL X E Γ sts := fun σ H ⟨h1, Hb, h2, hk, h3⟩ => let ⟨y, s'⟩ := h3.case hΓ; h y σ H ⟨h1, Hb, h2, hk, s'⟩
theorem EX.some (h : EX X Γ e (T y)) : EX X Γ e (tEx T) := h.imp fun _ _ q => ⟨_, q⟩
/-- a test whose answer is not known -/
def EXU (X : Cx) (Γ : List Sl) (e : Expr) : Prop := ∀ H0 σ Hb H, Ext Hb H → Sat H0 Γ σ Hb H → wT X e σ H fun _ H' => ∃ Hb', Step Hb H Hb' H'
theorem EXT.u {t : Bool} (h : EXT X Γ e t) : EXU X Γ e := fun H0 σ Hb H x s => (h H0 σ Hb H x s).mono fun _ _ ⟨Hb', st, _⟩ => ⟨Hb', st⟩
theorem ex_ifU (hc : EXU X Γ c) (ha : EX X Γ a R) (hb : EX X Γ b R) : EX X Γ (.IfExp c a b pos) R := fun H0 σ Hb H x s =>
  wE.of (pe_ifExp pt_w pe_w pe_w) ((hc H0 σ Hb H x s).mono fun u H1 ⟨Hb1, st1⟩ => by
    cases u with
    | true => exact iteT ((ha H0 σ Hb1 H1 st1.s (s.step st1)).mono fun v H2 ⟨Hb2, st2, q2⟩ => ⟨Hb2, st1.trans st2, q2⟩)
    | false => exact iteF ((hb H0 σ Hb1 H1 st1.s (s.step st1)).mono fun v H2 ⟨Hb2, st2, q2⟩ => ⟨Hb2, st1.trans st2, q2⟩))
/-- if .. whose first suite does not come to its end, the answer not known -/
theorem bl_ifU (hc : EXU X Γ c) (h1 : BL X E.never Γ sa) (h2 : BL X E Γ rest) : BL X E Γ (.If c sa [] pos :: rest) := fun σ H ⟨g1, Hb, g2, gk, g3⟩ =>
  wS.of (pss_cons (ps_if pt_w pss_w pss_nil) pss_w) ((hc E.H0 σ Hb H g2.s g3).mono fun u H1 ⟨Hb1, st⟩ => by
    cases u with
    | true => exact iteT ((h1 σ H1 ⟨g1, Hb1, g2.trans st, gk.trans st.b, g3.step st⟩).mono (fun _ _ z => z.elim) (fun _ _ z => z) (fun _ _ z => z) fun _ _ z => z)
    | false => exact iteF (h2 σ H1 ⟨g1, Hb1, g2.trans st, gk.trans st.b, g3.step st⟩))
/-- a test and another one that is not known -/
def EXWU (X : Cx) (Γ : List Sl) (e : Expr) : Prop := ∀ H0 σ Hb H, Ext Hb H → Sat H0 Γ σ Hb H → wW X e σ H fun _ H' => ∃ Hb', Step Hb H Hb' H'
theorem EXWU.u (h : EXWU X Γ e) : EXU X Γ e := fun H0 σ Hb H x s pins s' I => h H0 σ Hb H x s _ pins s' I
theorem exu_and (ha : EXU X Γ a) (hb : EXU X Γ b) : EXU X Γ (.BoolOp .And [a, b] pos) := EXWU.u fun H0 σ Hb H x s =>
  wW.of (pw_and pt_w (pw_and1 pt_w)) ((ha H0 σ Hb H x s).mono fun u H1 ⟨Hb1, st1⟩ => by
    cases u with
    | true => exact iteT ((hb H0 σ Hb1 H1 st1.s (s.step st1)).mono fun v H2 ⟨Hb2, st2⟩ => ⟨Hb2, st1.trans st2⟩)
    | false => exact iteF ⟨Hb1, st1⟩)
/-! ints of which something is known -/
def tIn (p : Int → Prop) : Pd := ⟨fun v _ => ∃ i, p i ∧ v = .int i, fun _ h => h⟩
theorem EX.tin {q : Int → Prop} {i : Int} (h : EX X Γ e (tI i)) (hq : q i) : EX X Γ e (tIn q) := h.imp fun _ _ z => ⟨i, hq, z⟩
theorem EX.tim {q r : Int → Prop} (h : EX X Γ e (tIn q)) (hq : ∀ i, q i → r i) : EX X Γ e (tIn r) := h.imp fun _ _ ⟨i, z, ev⟩ => ⟨i, hq i z, ev⟩
section
variable {q r t : Int → Prop}
theorem exn_op {op : Operator} {C : Int → Int → Prop} {g : Int → Int → Int} (ho : OpR X (binaryOp op) (rI C fun i j => .int (g i j))) (ha : EX X Γ a (tIn q)) (hb : EX X Γ b (tIn r)) (h : ∀ i j, q i → r j → C i j ∧ t (g i j)) : EX X Γ (.BinOp a op b pos) (tIn t) :=
  ex_op ho ha hb fun x y Hb H Q e ⟨i, hi, ei⟩ ⟨j, hj, ej⟩ kk => ⟨i, j, ei, ej, (h i j hi hj).1, kk _ Hb H (Step.refl e) ⟨_, (h i j hi hj).2, rfl⟩⟩
theorem exn_op0 {op : Operator} {g : Int → Int → Int} (ho : OpR X (binaryOp op) (rI0 fun i j => .int (g i j))) (ha : EX X Γ a (tIn q)) (hb : EX X Γ b (tIn r)) (h : ∀ i j, q i → r j → t (g i j)) : EX X Γ (.BinOp a op b pos) (tIn t) :=
  ex_op ho ha hb fun x y Hb H Q e ⟨i, hi, ei⟩ ⟨j, hj, ej⟩ kk => ⟨i, j, ei, ej, kk _ Hb H (Step.refl e) ⟨_, h i j hi hj, rfl⟩⟩
theorem exn_int (ha : EX X Γ a (tIn q)) (hm : X.mg "int" = none) (hg : Gl X "int" := by rfl) (he : starEach [a] X.env = (false, eval a X.env) :: starEach [] X.env := by rfl) (hpl : (backTo pos (starEach [] X.env)).any (·.1) = false := by rfl) : EX X Γ (.Call (.Name "int" p) [a] [] pos) (tIn q) :=
  ex_callTy call_int1 (exa_cons ha exa_nil he) hm (by decide +kernel) (fun vs Hb H Q x h k => by obtain ⟨v, rfl, i, hi, rfl⟩ := its1 h; exact .inl ⟨i, rfl, k _ Hb H (Step.refl x) ⟨i, hi, rfl⟩⟩) hg (by decide) (by decide) he hpl
theorem exn_abs (ha : EX X Γ a (tIn q)) (h : ∀ i, q i → r (if i < 0 then -i else i)) (hm : X.mg "abs" = none) (hg : Gl X "abs" := by rfl) (he : starEach [a] X.env = (false, eval a X.env) :: starEach [] X.env := by rfl) (hpl : (backTo pos (starEach [] X.env)).any (·.1) = false := by rfl) : EX X Γ (.Call (.Name "abs" p) [a] [] pos) (tIn r) :=
  ex_callB call_abs (exa_cons ha exa_nil he) hm (by decide +kernel) (fun vs Hb H Q x hh k => by obtain ⟨v, rfl, i, hi, rfl⟩ := its1 hh; exact ⟨i, rfl, k _ Hb H (Step.refl x) ⟨_, h i hi, rfl⟩⟩) hg (by decide) (by decide) he hpl
theorem exn_max (G : Good P w K mg base k X) (ha : EX X Γ a (tIn q)) (hb : EX X Γ b (tIn r)) (h : ∀ i j, q i → r j → t (if j > i then j else i)) (hm : X.mg "max" = none) (hg : Gl X "max" := by rfl) (he : starEach [a, b] X.env = (false, eval a X.env) :: starEach [b] X.env := by rfl) (he2 : starEach [b] X.env = (false, eval b X.env) :: starEach [] X.env := by rfl) (hpl : (backTo pos (starEach [b] X.env)).any (·.1) = false := by rfl) : EX X Γ (.Call (.Name "max" p) [a, b] [] pos) (tIn t) :=
  ex_callB (call_max2 G.calm) (exa_cons ha (exa_cons hb exa_nil he2) he) hm (by decide +kernel) (fun vs Hb H Q x hh kk => by obtain ⟨u, v, rfl, ⟨i, hi, rfl⟩, j, hj, rfl⟩ := its2 hh; exact ⟨i, j, rfl, kk _ Hb H (Step.refl x) ⟨_, h i j hi hj, rfl⟩⟩) hg (by decide) (by decide) he hpl
theorem exu_cmp {op : CmpOp} {g : Int → Int → Bool} (ho : OpR X (compareOp op) (rI0 fun i j => .bl (g i j))) (ha : EX X Γ a (tIn q)) (hb : EX X Γ b (tIn r)) (hm : behindInMarks op b = false := by first | exact nomark _ | rfl) : EXU X Γ (.Compare a [op] [b] pos) := fun H0 σ Hb H x s =>
  wT.of (pt_cmpR ho pe_w pe_w hm) ((ha H0 σ Hb H x s).mono fun v H1 ⟨Hb1, st1, i, _, ei⟩ => (hb H0 σ Hb1 H1 st1.s (s.step st1)).mono fun u H2 ⟨Hb2, st2, j, _, ej⟩ => ⟨i, j, ei, ej, _, rfl, Hb2, st1.trans st2⟩)
theorem exu_eq (ha : EX X Γ a (tIn q)) (hb : EX X Γ b (tIn r)) (hm : behindInMarks .Eq b = false := by first | exact nomark _ | rfl) : EXU X Γ (.Compare a [.Eq] [b] pos) := fun H0 σ Hb H x s =>
  wT.of (pt_cmpR op_eq pe_w pe_w hm) ((ha H0 σ Hb H x s).mono fun v H1 ⟨Hb1, st1, i, _, ei⟩ => (hb H0 σ Hb1 H1 st1.s (s.step st1)).mono fun u H2 ⟨Hb2, st2, j, _, ej⟩ => by
    subst ei ej
    exact ⟨rfl, _, rfl, Hb2, st1.trans st2⟩)
theorem exn_divmod {i j : Int → Prop} (ha : EX X Γ a (tIn q)) (hb : EX X Γ b (tIn r)) (h : ∀ x y, q x → r y → 0 < y ∧ y < 1000000 ∧ i (x / y) ∧ j (x % y)) (hm : X.mg "divmod" = none) (hg : Gl X "divmod" := by rfl) (he : starEach [a, b] X.env = (false, eval a X.env) :: starEach [b] X.env := by rfl) (he2 : starEach [b] X.env = (false, eval b X.env) :: starEach [] X.env := by rfl) (hpl : (backTo pos (starEach [b] X.env)).any (·.1) = false := by rfl) :
    EX X Γ (.Call (.Name "divmod" p) [a, b] [] pos) (tU [tIn i, tIn j]) :=
  ex_callB call_divmod (exa_cons ha (exa_cons hb exa_nil he2) he) hm (by decide +kernel) (fun vs Hb H Q x hh kk => by
    obtain ⟨u, v, rfl, ⟨x1, hx, rfl⟩, y1, hy, rfl⟩ := its2 hh
    obtain ⟨h1, h2, h3, h4⟩ := h _ _ hx hy
    exact ⟨x1, y1, rfl, ⟨h1, by omega⟩, fun q hq => kk _ (upd Hb q (.tup [.int (x1 / y1), .int (x1 % y1)])) _ ((Step.refl x).new hq) ⟨q, _, rfl, upd_same, .cons ⟨_, h3, rfl⟩ (.cons ⟨_, h4, rfl⟩ .nil)⟩⟩) hg (by decide) (by decide) he hpl
/-- xs[i], i known in part -/
theorem exn_ix (h : EX X Γ a (tL Ps)) (hb : EX X Γ b (tIn q)) (e : ∀ i, q i → ∃ Pt, atI Ps i = some Pt ∧ ∀ v H, Pt.p v H → R.p v H) (hs : PlainIx b := by exact fun _ _ => rfl) : EX X Γ (.Subscript a b pos) R := fun H0 σ Hb H x s =>
  wE.of (pe_ix ix_list pe_w pe_w hs) ((h.s H0 σ Hb H x s).mono fun v H1 ⟨Hb1, l, vs, e1, st1, e2, e3⟩ => (hb H0 σ Hb1 H1 st1.s (s.step st1)).mono fun u H2 ⟨Hb2, st2, i, hi, ei⟩ => by
    obtain ⟨Pt, f1, f2⟩ := e i hi
    obtain ⟨z, z1, z2⟩ := (e3.mono st2.b).at f1
    exact ⟨l, vs, i, z, e1, ei, sq_at (st2.h _ _ e2), z1, Hb2, st1.trans st2, f2 _ _ z2⟩)
end
/-! ### the pot -/
def potφ (a : Addr) : Heap → Prop := fun h => ∃ (i j : Int) (t u : Tok) (n : Nat), 0 ≤ i ∧ 0 ≤ j ∧ j < 2147483648 ∧ h.get? a = some { cls := .type "list", data := .seq #[.int i t, .int j u] n }
def tPot : Pd := ⟨fun v H => ∃ a, v = .ref a ∧ H a = some (.ext (potφ a)), fun e ⟨a, h1, h2⟩ => ⟨a, h1, e _ _ h2⟩⟩
def potOk (k : Int) (i : Int) : Prop := 0 ≤ i ∧ (k = 1 → i < 2147483648)
theorem pot_ok {a : Addr} {h : Heap} {H : Hp} {P : Program} {w : World} (x : potφ a h) : ObjOk P w H h a (.ext (potφ a)) := by
  refine ⟨x, ?_, fun h1 h2 ⟨i, j, t, u, n, a1, a2, a3, e⟩ k => ⟨i, j, t, u, n, a1, a2, a3, k _ e⟩⟩
  obtain ⟨i, j, t, u, n, _, _, _, e⟩ := x
  exact ⟨_, e⟩
def rIxPot : R2 := fun x y H Q => ∃ (p : Addr) (k : Int), x = .ref p ∧ y = .int k ∧ (k = 0 ∨ k = 1) ∧ H p = some (.ext (potφ p)) ∧ ∀ i, potOk k i → Q (.int i) H
theorem ix_pot : IxR X rIxPot := by
  intro value slice pins s σ H x y v u Q I rx ry h hs
  obtain ⟨p, k, rfl, rfl, hk, hq, q⟩ := h
  cases rx
  obtain ⟨t, rfl⟩ := ry
  obtain ⟨⟨i, j, t1, u1, n, a1, a2, a3, e⟩, _⟩ := I.hok p _ hq
  have pl : s.heap.IsList p #[.int i t1, .int j u1] := PySem.IsL.isList (n := n) e
  rcases hk with rfl | rfl
  · exact item_listR pl (by decide) (by decide) (x := .int i t1) rfl ⟨.int i, H, I, ⟨_, rfl⟩, q i ⟨a1, fun z => by cases z⟩⟩ hs
  · exact item_listR pl (by decide) (by decide) (x := .int j u1) rfl ⟨.int j, H, I, ⟨_, rfl⟩, q j ⟨a2, fun _ => a3⟩⟩ hs
theorem ex_pot {k : Int} (hk : k = 0 ∨ k = 1) (h : EX X Γ a tPot) (hb : EX X Γ b (tI k)) (hs : PlainIx b := by exact fun _ _ => rfl) : EX X Γ (.Subscript a b pos) (tIn (potOk k)) := fun H0 σ Hb H x s =>
  wE.of (pe_ix ix_pot pe_w pe_w hs) ((h H0 σ Hb H x s).mono fun v H1 ⟨Hb1, st1, l, e1, e2⟩ => (hb H0 σ Hb1 H1 st1.s (s.step st1)).mono fun u H2 ⟨Hb2, st2, q2⟩ =>
    ⟨l, k, e1, q2, hk, st2.s _ _ (st2.b _ _ e2), fun i hi => ⟨Hb2, st1.trans st2, i, hi, rfl⟩⟩)
def rSetPot : TSet := fun o i v H Q => ∃ (p : Addr) (k z : Int), o = .ref p ∧ i = .int k ∧ v = .int z ∧ (k = 0 ∨ k = 1) ∧ potOk k z ∧ H p = some (.ext (potφ p)) ∧ Q H
theorem set_pot : PSet X rSetPot := by
  intro pins s σ H o i v ov iv u Q I ro ri rv h
  obtain ⟨p, k, z, rfl, rfl, rfl, hk, hz, hp, q⟩ := h
  cases ro
  obtain ⟨t, rfl⟩ := ri
  obtain ⟨tz, rfl⟩ := rv
  obtain ⟨⟨i, j, t1, u1, n, a1, a2, a3, e⟩, _⟩ := I.hok p _ hp
  have hH : ∀ o', o' = HO.ext (potφ p) → upd H p o' = H := fun o' e => by
    subst e
    funext b
    unfold upd
    split
    · rename_i hb; rw [hb, hp]
    · rfl
  have go : ∀ (i' j' : Int) (t' u' : Tok) (f : Obj → Obj), 0 ≤ i' → 0 ≤ j' → j' < 2147483648 → f { cls := .type "list", data := .seq #[.int i t1, .int j u1] n } = { cls := .type "list", data := .seq #[.int i' t', .int j' u'] n } → Inv X pins σ H { s with heap := s.heap.update p f } := fun i' j' t' u' f b1 b2 b3 ef => by
    have hget : (s.heap.update p f).get? p = some { cls := .type "list", data := .seq #[.int i' t', .int j' u'] n } := by
      rw [Heap.get?_update_self f e (by rw [ef] <;> rfl), ef]
    have I' := I.write (x := p) (e := p) (o := .ext (potφ p)) (h' := s.heap.update p f) (t' := s.toks) (by rw [hp]; trivial) (.inl rfl) (fun b o hb z => (Heap.get?_update_other _ _ (Ne.symm hb)).trans z) ⟨_, hget⟩ (pot_ok ⟨i', j', t', u', n, b1, b2, b3, hget⟩)
    rw [hH _ rfl] at I'
    exact I'
  rcases hk with rfl | rfl
  · exact PySem.W.ki_setAt (items := #[.int i t1, .int j u1]) e (by decide) (by decide) (by simp) ⟨H, go z j tz u1 _ hz.1 a2 a3 (by simp [Obj.mapSeq, Array.setIfInBounds]), q⟩
  · exact PySem.W.ki_setAt (items := #[.int i t1, .int j u1]) e (by decide) (by decide) (by simp) ⟨H, go i z t1 tz _ a1 hz.1 (hz.2 rfl) (by simp [Obj.mapSeq, Array.setIfInBounds]), q⟩
/-- pot[k] = e -/
theorem bl_potset {k' : Int} (hk' : k' = 0 ∨ k' = 1) {po : Expr} (hp : EX X Γ po tPot) (h : EX X Γ e (tIn (potOk k'))) (hb : EX X Γ b (tI k')) (kk : BL X E Γ rest)
    (hps : ∀ {to ti te : TE}, PE X po to → PE X b ti → PE X e te → PS X (.Assign [.Subscript po b pos] e p) (tAsg te (gSub to ti rSetPot)) := by exact fun h1 h2 h3 => ps_asg h3 (pg_sub h1 h2 set_pot)) :
    BL X E Γ (.Assign [.Subscript po b pos] e p :: rest) := fun σ H ⟨h1, Hb, h2, hk, h3⟩ => by
  refine wS.of (pss_cons (hps pe_w pe_w pe_w) pss_w) ?_
  refine (h E.H0 σ Hb H h2.s h3).mono fun v H1 ⟨Hb1, st, z, hz, ez⟩ => ?_
  refine (hp E.H0 σ Hb1 H1 st.s (h3.step st)).mono fun u H2 ⟨Hb2, st2, l, e1, e2⟩ => (hb E.H0 σ Hb2 H2 st2.s ((h3.step st).step st2)).mono fun i H3 ⟨Hb3, st3, e3⟩ => ?_
  exact ⟨l, k', z, e1, e3, ez, hk', hz, st3.s _ _ (st3.b _ _ e2), kk σ _ ⟨h1, Hb3, ((h2.trans st).trans st2).trans st3, ((hk.trans st.b).trans st2.b).trans st3.b, ((h3.step st).step st2).step st3⟩⟩
/-- pot[0], x = e -/
theorem bl_potdiv (jx : Nat) {x : Str} {po : Expr} {px pt : Pos} {kt : Nat} {q : Int → Prop} (G : Good P w K mg base k X) (hp : EX X (Γ.set jx .no) po tPot) (hb : EX X (Γ.set jx .no) b (tI 0)) (h : EX X Γ e (tU [tIn (potOk 0), tIn q])) (kk : BL X E (Γ.set jx (.val (tIn q))) rest)
    (hj : X.N[jx]? = some x := by rfl) (hx : Loc X.env.scope x := by first | exact Or.inl rfl | exact Or.inr rfl) (hfx : X.fn x = true ∨ X.env.scope.names.lookup x = some .local := by first | exact .inl rfl | exact .inr rfl)
    (hps : ∀ {to ti te : TE} {g : TG}, PE X po to → PE X b ti → PE X e te → PG X (.Name x px) g → PS X (.Assign [.Tuple [.Subscript po b pos, .Name x px] kt pt] e p) (tAsg te (gTup X.K 2 (gCons (gSub to ti rSetPot) (gCons g gNil)))) := by exact fun h1 h2 h3 h4 => ps_asg h3 (pg_tup rfl (pgs_cons (pg_sub h1 h2 set_pot) (pgs_cons h4 pgs_nil)))) :
    BL X E Γ (.Assign [.Tuple [.Subscript po b pos, .Name x px] kt pt] e p :: rest) := fun σ H ⟨h1, Hb, h2, hk, h3⟩ => by
  refine wS.of (pss_cons (hps pe_w pe_w pe_w (pg_name G.nd hj hx hfx)) pss_w) ?_
  refine (h E.H0 σ Hb H h2.s h3).mono fun v H1 ⟨Hb1, st, t, vs, ev, e1, e2⟩ => ?_
  subst ev
  cases e2 with
  | cons q1 r1 =>
    cases r1 with
    | cons q2 r2 =>
      cases r2
      rename_i u v
      obtain ⟨z, hz, rfl⟩ := q1
      have weak : ∀ {Hb H : Hp}, Sat E.H0 Γ σ Hb H → Sat E.H0 (Γ.set jx .no) σ Hb H := fun s => s.le (le_no jx Γ)
      refine ⟨t, [.int z, v], rfl, st_at (st.s _ _ e1), rfl, .int z, [v], rfl, ?_⟩
      refine (hp E.H0 σ Hb1 H1 st.s (weak (h3.step st))).mono fun u H2 ⟨Hb2, st2, l, e1, e2⟩ => (hb E.H0 σ Hb2 H2 st2.s (weak ((h3.step st).step st2))).mono fun i H3 ⟨Hb3, st3, e3⟩ => ?_
      refine ⟨l, 0, z, e1, e3, rfl, .inl rfl, hz, st3.s _ _ (st3.b _ _ e2), v, [], rfl, rfl, kk _ _ ⟨by rw [List.length_set]; exact h1, Hb3, ((h2.trans st).trans st2).trans st3, ((hk.trans st.b).trans st2.b).trans st3.b, ?_⟩⟩
      exact (((h3.step st).step st2).step st3).set (nlt hj h1) (((tIn q).mono st3.b ((tIn q).mono st2.b q2)))
/-- a new list of two ints becomes the pot -/
theorem wE.monoI {σ : St} {H : Hp} {Q Q' : VK} (h : wE X e σ H Q) (k : ∀ v H' pins s', Inv X pins σ H' s' → Q v H' → ∃ H'', Inv X pins σ H'' s' ∧ Q' v H'') : wE X e σ H Q' := fun pins s I => thn (h pins s I) fun u s' ⟨v, H', I', r, q⟩ =>
  let ⟨H'', I'', q''⟩ := k v H' pins s' I' q
  ⟨v, H'', I'', r, q''⟩
theorem ex_mkPot (h : EXL X Γ e [tIn (potOk 0), tIn (potOk 1)]) : EX X Γ e tPot := fun H0 σ Hb H x s => (h H0 σ Hb H x s).monoI fun v H' pins s' I ⟨Hb', l, vs, ev, st, h0, h1, h2, its⟩ => by
  subst ev
  obtain ⟨u1, u2, rfl, ⟨i, hi, rfl⟩, j, hj, rfl⟩ := its2 its
  obtain ⟨_, ws, n, rv, eg⟩ := I.hok l _ h2
  obtain ⟨t, t2, rfl⟩ := Vals.int2 rv
  have hφ : potφ l s'.heap := ⟨i, j, t, t2, n, hi.1, hj.1, hj.2 rfl, eg⟩
  have I' := I.write (x := l) (e := l) (o := .ext (potφ l)) (h' := s'.heap) (t' := s'.toks) (by rw [h2]; trivial) (.inl rfl) (fun b o hb z => z) ⟨_, eg⟩ (pot_ok hφ)
  refine ⟨_, I', upd Hb' l (.ext (potφ l)), ?_, l, rfl, upd_same⟩
  exact (st.mut (o := .ext (potφ l)) h0 h1).share h0 h1 upd_same
end
/-! ### pairs of fields -/
def gFld (K : PySem.W.Frag) (ta : TE) (f : Str) : TG := fun v σ H Q => ta σ H fun x H2 => ∃ a C dx fs, x = .ref a ∧ H2 a = some (.ins C dx fs) ∧ Cls K C ∧ NoAttr K C f ∧ fs.length < 1000 ∧ Q σ (upd H2 a (.ins C dx (putF f v fs)))
section
variable {P : Program} {w : World} {K : PySem.W.Frag} {mg : Str → Option Value} {base : Heap} {k j : Nat} {X : Cx} {E : Ec} {Γ Γ' : List Sl} {e a b c o iter elt tg : Expr} {es : List Expr} {Pt P1 P2 R : Pd} {Ps Qs Ds Rs : List Pd} {pos p : Pos} {rest sts sa sb body : List Stmt} {α : Type}
theorem pg_fld {f : Str} {ta : TE} (ha : PE X o ta) : PG X (.Attribute o f pos) (gFld X.K ta f) := by
  refine ⟨fun pins s σ H v u Q I r h => ?_⟩
  rw [assign_Attribute]
  refine wpAny_bind (wpAny_holding (thn (ha.run pins s σ H _ I h) fun ov s2 ⟨x, H2, I2, rx, a, C, dx, fs, ex, ea, c, n, l, q2⟩ => ?_))
  subst ex
  obtain rfl : ov = Value.ref a := rx
  refine wpAny_bind (wpAny_standAt (wpAny_bind (wpAny_holding (setattr_ok I2 ea c n l r fun s3 I3 => ?_))))
  exact wpAny_release ⟨σ, _, I3, q2⟩
/-- the end of an __init__: self.f1, self.f2 = e -/
theorem init2T {C : Addr} {f1 f2 self : Str} {px1 px2 q1 q2 pt : Pos} {kt : Nat} {x dx : Addr} {H0 Hb0 : Hp} (hcl : Cls X.K C) (n1 : NoAttr X.K C f1) (n2 : NoAttr X.K C f2) (hne : ¬ f2 = f1) (h0 : H0 x = some (.ins C dx [])) (hb0 : Hb0 x = none)
    (hself : Γ[0]? = some (.val (tV (.ref x)))) (h1 : EX X Γ e (tU [P1, P2]))
    (hN : X.N[0]? = some self := by rfl) (hv : Vis X.env.scope self := by first | exact Or.inl rfl | exact Or.inr (Or.inl rfl) | exact Or.inr (Or.inr rfl)) (hd : (self == ("__debug__" : Str)) = false := by decide) (hcd : (self == ("__classdict__" : Str)) = false := by decide)
    (hps : ∀ {g1 g2 : TG} {te : TE}, PG X (.Attribute (.Name self px1) f1 q1) g1 → PG X (.Attribute (.Name self px2) f2 q2) g2 → PE X e te → PS X (.Assign [.Tuple [.Attribute (.Name self px1) f1 q1, .Attribute (.Name self px2) f2 q2] kt pt] e p) (tAsg te (gTup X.K 2 (gCons g1 (gCons g2 gNil)))) := by exact fun h1 h2 h3 => ps_asg h3 (pg_tup rfl (pgs_cons h1 (pgs_cons h2 pgs_nil)))) :
    BL X { Hb0 := Hb0, H0 := H0, Hk := Hb0, R := R, nx := fun _ H' => ∃ Hb' gs, Ext Hb0 Hb' ∧ (∀ a o, a ≠ x → H0 a = some o → H' a = some o) ∧ Ext Hb' H' ∧ (∀ a o, Hb0 a = none → H0 a = some o → Hb' a = none) ∧ H' x = some (.ins C dx gs) ∧ Flds [(f1, P1), (f2, P2)] gs Hb' } Γ
      [.Assign [.Tuple [.Attribute (.Name self px1) f1 q1, .Attribute (.Name self px2) f2 q2] kt pt] e p] := fun σ H ⟨g1, Hb, g2, g3, g4⟩ => by
  refine wS.of (pss_one (hps (pg_fld (pe_var hN hv hd hcd)) (pg_fld (pe_var hN hv hd hcd)) pe_w)) ?_
  have hx : Hb x = none := g2.f _ _ hb0 h0
  refine (h1 H0 σ Hb H g2.s g4).mono fun v1 H1 ⟨Hb1, st1, t, vs, ev, et, its⟩ => ?_
  subst ev
  obtain ⟨u1, u2, rfl, p1, p2⟩ := its2 its
  obtain ⟨s0, hs0, es0⟩ := g4.val 0 _ hself
  cases es0
  have hx1 : Hb1 x = none := st1.f _ _ hx (g2.h _ _ h0)
  have hH1 : H1 x = some (.ins C dx []) := st1.h _ _ (g2.h _ _ h0)
  refine ⟨t, [u1, u2], rfl, st_at (st1.s _ _ et), rfl, u1, [u2], rfl, ?_⟩
  refine ⟨.ref x, hs0, x, C, dx, [], rfl, hH1, hcl, n1, by decide, u2, [], rfl, ?_⟩
  refine ⟨.ref x, hs0, x, C, dx, [(f1, u1)], rfl, upd_same, hcl, n2, (by show 1 < 1000; decide), rfl, Hb1, [(f1, u1), (f2, u2)], g2.b.trans st1.b, ?_, ?_, ?_, ?_, ?_⟩
  · intro b u hb e
    rw [upd_ne hb, upd_ne hb]
    exact st1.h _ _ (g2.h _ _ e)
  · intro b u e
    have hb : b ≠ x := fun z => by rw [z, hx1] at e; cases e
    rw [upd_ne hb, upd_ne hb]
    exact st1.s _ _ e
  · intro b u n e
    exact st1.f b u (g2.f b u n e) (g2.h _ _ e)
  · rw [upd_same]
    have e : putF f2 u2 [(f1, u1)] = [(f1, u1), (f2, u2)] := by
      show (if f1 = f2 then _ else (f1, u1) :: putF f2 u2 []) = _
      rw [if_neg (fun z => hne z.symm)]
      rfl
    rw [e]
  · exact .cons ⟨rfl, p1⟩ (.cons ⟨rfl, p2⟩ .nil)
/-- tuple(xs) -/
theorem ex_tuple (h : EX X Γ e (tL Ps)) (hm : X.mg "tuple" = none) (hg : Gl X "tuple" := by rfl) (he : starEach [e] X.env = (false, eval e X.env) :: starEach [] X.env := by rfl) (hpl : (backTo pos (starEach [] X.env)).any (·.1) = false := by rfl) : EX X Γ (.Call (.Name "tuple" p) [e] [] pos) (tU Ps) :=
  ex_callTy call_tuple_of (exa_cons h exa_nil he) hm (by decide +kernel) (fun vs Hb H Q x hh k => by
    obtain ⟨v, rfl, l, us, rfl, e1, e2⟩ := its1 hh
    exact ⟨l, us, rfl, .inl ⟨sq_at (x _ _ e1), fun q hq => k _ (upd Hb q (.tup us)) _ ((Step.refl x).new hq) ⟨q, us, rfl, upd_same, e2.mono (Ext.upd (none_back x hq))⟩⟩⟩) hg (by decide) (by decide) he hpl
/-! ### != of lists of pairs of ints -/
def tP2 (x : Int × Int) : Pd := tU [tI x.1, tI x.2]
def pD (x : Int × Int) : PyData := .tuple [.int x.1, .int x.2]
theorem dp_pair {K : PySem.W.Frag} {x : Int × Int} {v : V} {H : Hp} (h : (tP2 x).p v H) : Dp K H v (pD x) := by
  obtain ⟨a, vs, rfl, h1, h2⟩ := h
  obtain ⟨u1, u2, rfl, rfl, rfl⟩ := its2 h2
  exact .tup (st_at h1) (.cons (.int _) (.cons (.int _) .nil))
theorem dp_all {K : PySem.W.Frag} {H : Hp} : ∀ {xs : List (Int × Int)} {vs : List V}, Its (xs.map tP2) vs H → DpAll K H vs (xs.map pD)
  | [], _, .nil => .nil
  | _ :: _, _, .cons h t => .cons (dp_pair h) (dp_all t)
theorem lay_all : ∀ xs : List (Int × Int), PyData.canLayAll0 (xs.map pD) = true
  | [] => by simp [PyData.canLayAll0]
  | x :: xs => by
    show PyData.canLayAll0 (pD x :: xs.map pD) = true
    rw [PyData.canLayAll0, lay_all xs]
    simp [pD, PyData.canLay0, PyData.canLayAll0]
theorem depth_all : ∀ xs : List (Int × Int), PyData.depthAll (xs.map pD) ≤ 3
  | [] => by simp [PyData.depthAll]
  | x :: xs => by
    show PyData.depthAll (pD x :: xs.map pD) ≤ 3
    have := depth_all xs
    simp [PyData.depthAll, pD, PyData.depth]
    omega
theorem shaped_pairs (xs : List (Int × Int)) : SeqAt.shaped (.list (xs.map pD)) = true := by
  unfold SeqAt.shaped
  have h1 := lay_all xs
  have h2 := depth_all xs
  simp [PyData.canLay0, h1, PyData.depth]
  omega
theorem ext_neP {xs : List (Int × Int)} (G : Good P w K mg base k X) (hk : 32 ≤ k) (ha : EX X Γ a (tL (xs.map tP2))) (hb : EX X Γ b (tL (xs.map tP2))) : EXT X Γ (.Compare a [.NotEq] [b] pos) false :=
  ext_cmp (op_neD (by have := G.room.un; omega)) ha hb fun x y Hb H Q e p1 p2 kk => by
    obtain ⟨l, vs, rfl, e1, i1⟩ := p1
    obtain ⟨m, us, rfl, e2, i2⟩ := p2
    refine ⟨_, _, .lst (sq_at (e _ _ e1)) (dp_all (i1.mono e)), .lst (sq_at (e _ _ e2)) (dp_all (i2.mono e)), shaped_pairs xs, shaped_pairs xs, ?_⟩
    rw [PySem.SeqAt.eqv_refl _ (by have := shaped_pairs xs; unfold SeqAt.shaped at this; exact (Bool.and_eq_true_iff.mp this).1)]
    exact kk Hb H (Step.refl e)
end
end Ty
set_option Elab.async false
set_option linter.all false
set_option maxRecDepth 100000
set_option maxHeartbeats 1000000
/-! K10: calls with arguments known in part; comprehensions of a length known in part. -/
namespace Ty
open PySem PySem.Spec PyProof.Rows L2
section
variable {P : Program} {w : World} {K : PySem.W.Frag} {mg : Str → Option Value} {base : Heap} {k j : Nat} {X : Cx} {E : Ec} {Γ Γ' : List Sl} {e a b c o iter elt tg : Expr} {es : List Expr} {Pt P1 P2 R : Pd} {Ps Qs Ds Rs : List Pd} {pos p : Pos} {rest sts sa sb body : List Stmt} {α : Type} {scope : Scope}
theorem ex_callX {pre : α → Prop} {A : α → List Pd} {Rr : α → Pd} {x : Str} {ps : List Str} (F : Fn P w K mg base x k ps (spT pre A Rr)) (G : Good P w K mg base j X) (hk : k ≤ j) (ha : EXA X Γ (e :: es) Ps) (hs : ∀ vs H, Its Ps vs H → ∃ y, pre y ∧ Its (A y) vs H ∧ ∀ v H', (Rr y).p v H' → R.p v H') (hg : Gl X x := by rfl) (hdb : (x == ("__debug__" : Str)) = false := by decide)
    (he : starEach (e :: es) X.env = (false, eval e X.env) :: starEach es X.env := by rfl) (hpl : (backTo pos (starEach es X.env)).any (·.1) = false := by rfl) : EX X Γ (.Call (.Name x p) (e :: es) [] pos) R := by
  obtain ⟨f, fd, hm, kp, bd, F⟩ := F
  obtain ⟨h1, h2, h3, h4, h5, hr, hc, hxe, nd⟩ := G
  subst h1 h2 h3 h4 h5
  exact fun H0 σ Hb H xx s => wE.of (pe_call F (hr.mono hk) hg hm kp bd .nil pass0 pa_w hdb he hpl) ((ha H0 σ Hb H xx s).mono fun vs H1 ⟨Hb1, st1, q1⟩ => by
    obtain ⟨y, hp, its, kr⟩ := hs vs Hb1 q1
    exact ⟨y, Hb1, hp, st1.s, by rw [List.append_nil]; exact its, fun v Hb2 H2 st2 q2 => ⟨Hb2, st1.trans st2, kr _ _ q2⟩⟩)
theorem ex_makeX {x : Str} {C f : Addr} {fd : FuncData} {ps : List Str} {pre : α → Prop} {A : α → List Pd} {fs : α → List (Str × Pd)} (M : Mk K C f) (F : FnOk P w K mg base CX0 k f fd ps (spI C pre A fs)) (G : Good P w K mg base j X) (hk : k + 1 ≤ j) (hm : mg x = some (.ref C)) (hb : Binds K fd ps [])
    (ha : EXA X Γ (e :: es) Ps) (hs : ∀ vs H, Its Ps vs H → ∃ y, pre y ∧ Its (A y) vs H ∧ ∀ v H', (tO C (fs y)).p v H' → R.p v H') (hg : Gl X x := by rfl) (hdb : (x == ("__debug__" : Str)) = false := by decide)
    (he : starEach (e :: es) X.env = (false, eval e X.env) :: starEach es X.env := by rfl) (hpl : (backTo pos (starEach es X.env)).any (·.1) = false := by rfl) : EX X Γ (.Call (.Name x p) (e :: es) [] pos) R := by
  obtain ⟨h1, h2, h3, h4, h5, hr, hc, hxe, nd⟩ := G
  subst h1 h2 h3 h4 h5
  exact fun H0 σ Hb H xx s => wE.of (pe_make M F (hr.mono hk) hg hm hb .nil pass0 pa_w hdb he hpl) ((ha H0 σ Hb H xx s).mono fun vs H1 ⟨Hb1, st1, q1⟩ => fun z dx hz hdx ne => by
    obtain ⟨y, hp, its, kr⟩ := hs vs Hb1 q1
    refine ⟨y, z, dx, vs ++ [], Hb1, rfl, hp, upd_same, none_back st1.s hz, ?_, by rw [List.append_nil]; exact its, fun Hb2 H2 gs x1 k1 x2 f1 ez fl => ⟨rfl, ?_⟩⟩
    · intro b u e
      rw [upd_ne (ne_of_none (st1.s b u e) hz), upd_ne (ne_of_none (st1.s b u e) hdx)]
      exact st1.s b u e
    · have h2z : Hb2 z = none := f1 z _ (none_back st1.s hz) upd_same
      have new : ∀ b u, H1 b = some u → upd (upd H1 dx (HO.own z)) z (HO.ins C dx []) b = some u := fun b u e => by
        rw [upd_ne (ne_of_none e hz), upd_ne (ne_of_none e hdx)]; exact e
      refine ⟨upd Hb2 z (.ins C dx gs), st1.trans ⟨x1.trans (Ext.upd h2z), fun b u e => k1 b u (ne_of_none e hz) (new b u e), fun b u e => ?_, fun b u n e => ?_⟩, kr _ _ ⟨z, dx, gs, rfl, upd_same, fl.mono (Ext.upd h2z)⟩⟩
      · by_cases hb : b = z
        · subst hb; rw [upd_same] at e; cases e; exact ez
        · rw [upd_ne hb] at e; exact x2 b u e
      · rw [upd_ne (ne_of_none e hz)]
        exact f1 b u n (new b u e))
/-- one of several types -/
def tOne (Ps : List Pd) : Pd := ⟨fun v H => ∃ Q, Q ∈ Ps ∧ Q.p v H, fun e ⟨Q, h1, h2⟩ => ⟨Q, h1, Q.mono e h2⟩⟩
/-- xs * n, n known in part -/
theorem exl_repU {q : Int → Prop} (ha : EX X Γ a (tL [Pt])) (hb : EX X Γ b (tIn q)) (hq : ∀ i, q i → 0 ≤ i ∧ i ≤ 1000) : EX X Γ (.BinOp a .Mult b pos) (tEx fun n : { n : Nat // q n } => tL (List.replicate n.1 Pt)) := fun H0 σ Hb H x s =>
  wE.of (pe_op op_rep pe_w pe_w) ((ha.s H0 σ Hb H x s).mono fun v H1 ⟨Hb1, l, vs, e1, st1, e2, e3⟩ => (hb H0 σ Hb1 H1 st1.s (s.step st1)).mono fun u H2 ⟨Hb2, st2, n, hn, f1⟩ => by
    subst e1
    obtain ⟨n0, n1⟩ := hq n hn
    cases e3 with
    | cons h t =>
      cases t
      rename_i z
      have ez : (List.replicate n.toNat [z]).flatten = List.replicate n.toNat z := by
        generalize n.toNat = m
        induction m with
        | zero => rfl
        | succ m ih => rw [List.replicate_succ, List.replicate_succ, List.flatten_cons, ih]; rfl
      refine ⟨l, n, [z], rfl, f1, st2.h _ _ e2, by omega, by omega, ?_, fun q hq => ⟨upd Hb2 q (.lst (List.replicate n.toNat z)), ?_, ⟨n.toNat, by rw [Int.toNat_of_nonneg n0]; exact hn⟩, q, _, rfl, upd_same, (Its.rep (Pt.mono st2.b h) _).mono (Ext.upd (none_back st2.s hq))⟩⟩
      · show 1 * n.toNat ≤ sizeLine
        have : n.toNat ≤ 1000 := by omega
        rw [Nat.one_mul]
        exact Nat.le_of_lt (small1000 this)
      · rw [ez]
        exact (st1.trans st2).new hq)
/-- xs + ys, ys of a length known in part -/
theorem ex_catU {ι : Type} {T : ι → List Pd} (ha : EX X Γ a (tL Ps)) (hb : EX X Γ b (tEx fun y => tL (T y))) (hl : ∀ y, Ps.length + (T y).length ≤ 1000) : EX X Γ (.BinOp a .Add b pos) (tEx fun y => tL (Ps ++ T y)) := fun H0 σ Hb H x s =>
  wE.of (pe_op op_cat pe_w pe_w) ((ha.s H0 σ Hb H x s).mono fun v H1 ⟨Hb1, l, vs, e1, st1, e2, e3⟩ => (hb H0 σ Hb1 H1 st1.s (s.step st1)).mono fun u H2 ⟨Hb2, st2, y, m, us, f1, f2, f3⟩ => by
    subst e1 f1
    have f2' := st2.s _ _ f2
    exact ⟨l, m, vs, us, rfl, rfl, st2.h _ _ e2, f2', by rw [← e3.length, ← f3.length]; exact Nat.le_of_lt (small1000 (hl y)), fun q hq => ⟨upd Hb2 q (.lst (vs ++ us)), (st1.trans st2).new hq, y, q, _, rfl, upd_same, (Its.app (e3.mono st2.b) f3).mono (Ext.upd (none_back st2.s hq))⟩⟩)
/-- [elt for x in range(n)], n known in part -/
def LCU (X : Cx) (Γ : List Sl) (elt tg iter : Expr) (scope : Scope) (R : Pd) : Prop := ∃ (wi : TI) (g : TG) (own : List (Str × Nat)), PI X tg iter wi ∧ BlkOk X.N X.env.scope scope own ∧ Blk X scope (fun Y => PG Y tg g) ∧
  ∀ H0 σ Hb H (Q : VK), Ext Hb H → Sat H0 Γ σ Hb H → σ.length = X.N.length → (∀ v H' Hb', Step Hb H Hb' H' → R.p v Hb' → Q v H') → tLc wi g tYes (wB X scope elt) (own.map (·.2)) σ H Q
theorem exu_of (h : LCU X Γ elt tg iter scope R) (G : Good P w K mg base k X) (hs : ∀ x, foldedSetIterable iter X.env x = pure x := by intro _; rfl) : EX X Γ (.ListComp elt [⟨tg, iter, [], 0⟩] scope pos) R := fun H0 σ Hb H xx s => wE.len fun hσ => by
  obtain ⟨wi, g, own, hi, ok, hg, t⟩ := h
  exact wE.of (pe_lc (tt := tYes) (te := wB X scope elt) G.calm G.nd hi ok hg (fun _ _ _ _ _ => pts_nil) (fun s' H' C cl fp => ⟨fun pins s2 σ2 H2 Q I h => h s' H' C cl fp pins s2 I⟩) hs) (t H0 σ Hb H _ xx s hσ fun v H' Hb' st r => ⟨Hb', st, r⟩)
theorem bl_setCU (i : Nat) {x : Str} {p' : Pos} (G : Good P w K mg base k X) (h : LCU X Γ elt tg iter scope R) (kk : BL X E (Γ.set i (.val R)) rest) (hi : X.N[i]? = some x := by rfl) (hx : X.env.scope.names.lookup x = some .local := by rfl)
    (hsw : swapsWith (.ListComp elt [⟨tg, iter, [], 0⟩] scope pos) (some (.Name x p')) p.line X.env = pure true := by exact sw_true rfl rfl rfl rfl) (hs : ∀ x, foldedSetIterable iter X.env x = pure x := by intro _; rfl) : BL X E Γ (.Assign [.Name x p'] (.ListComp elt [⟨tg, iter, [], 0⟩] scope pos) p :: rest) := fun σ H ⟨h1, Hb, h2, hk, h3⟩ => by
  obtain ⟨wi, g, own, hi', ok, hg, t⟩ := h
  refine wS.of (pss_cons (ps_setLc (tt := tYes) (te := wB X scope elt) G.calm G.nd hi hx hsw hi' ok hg (fun _ _ _ _ _ => pts_nil) (fun s' H' C cl fp => ⟨fun pins s2 σ2 H2 Q I h => h s' H' C cl fp pins s2 I⟩) hs) pss_w) ?_
  show tLc wi g tYes (wB X scope elt) (own.map (·.2)) σ H (fun v H1 => gName i v σ H1 (fun σ' H' => wS X rest E.D σ' H'))
  refine t E.H0 σ Hb H _ h2.s h3 h1 fun v H1 Hb1 st r => ?_
  exact kk _ _ ⟨by rw [List.length_set]; exact h1, Hb1, h2.trans st, hk.trans st.b, (h3.step st).set (nlt hi h1) r⟩
theorem lcRU {x : Str} {px pn pe : Pos} {q : Int → Prop} (jx : Nat) (hi : EX X Γ a (tIn q)) (hn : ∀ n, q n → 0 ≤ n ∧ n ≤ 1000) (he : ∀ n, q n → ∀ i : Nat, (i : Int) < n → Blk X scope fun Y => EX Y (Γ.set jx (.val (tI i))) elt Pt)
    (G : Good P w K mg base k X) (hm : X.mg "range" = none) (hgl : Gl X "range" := by rfl) (hse : starEach [a] X.env = [(false, eval a X.env)] := by rfl) (hg : Blk X scope (fun Y => Loc Y.env.scope x ∧ (Y.fn x = true ∨ Y.env.scope.names.lookup x = some .local)) := by exact fun _ _ _ _ _ => ⟨.inl rfl, .inr rfl⟩)
    (ok : blkB X.N X.env.scope scope [(x, jx)] = true := by first | rfl | kernel_rfl) : LCU X Γ elt (.Name x px) (.Call (.Name "range" pn) [a] [] pe) scope (tEx fun n : { n : Nat // q n } => tL (List.replicate n.1 Pt)) := by
  have ok' := blk_of ok
  have hj := ok'.ix _ (List.mem_singleton.mpr rfl)
  refine ⟨_, gName jx, [(x, jx)], pi_range1 hgl hm (pa_cons (pe_w (X := X)) pa_nil hse) hse, ok', fun s' H' C cl fp => pg_name G.nd hj (hg s' H' C cl fp).1 (hg s' H' C cl fp).2, fun H0 σ Hb H Q xx s hσ kq => ?_⟩
  refine (hi H0 σ Hb H xx s).mono fun v H1 ⟨Hb1, st, n, hqn, ev⟩ => ?_
  subst ev
  obtain ⟨n0, n1⟩ := hn n hqn
  refine ⟨n, rfl, by omega, by omega, fun D hD => lc_gen (n := n.toNat) (Rs := List.replicate n.toNat Pt) walk_range (by simp) (by omega) st.s hD (fun H' x => trivial) (fun H' ⟨Hb', acc, g1, g2, g3, g4⟩ => ?_) fun i x Hb' H' H2 Rt F hlt hr g1 y kf => ?_⟩
  · have hD' : H D = none := none_back st.h hD
    refine kq _ H' (upd Hb' D (.lst acc)) ((st.trans g1).share hD' g2 g3) ⟨⟨n.toNat, by rw [Int.toNat_of_nonneg n0]; exact hqn⟩, D, acc, rfl, upd_same, g4.mono (Ext.upd g2)⟩
  · obtain ⟨rfl, rfl⟩ := y
    rw [List.getElem?_replicate, if_pos hlt] at hr
    cases hr
    show gName jx (V.int (0 + (i : Nat))) _ _ _
    rw [show (0 : Int) + (i : Nat) = (i : Int) from Int.zero_add _]
    refine ⟨show wipe ((wipe σ [jx]).set jx (some (V.int i))) [jx] = wipe σ [jx] by rw [wipe1s]; exact wipe1, ?_⟩
    show wB X scope elt (List.set (wipe σ [jx]) jx (some (V.int i))) _ F
    rw [show List.set (wipe σ [jx]) jx (some (V.int i)) = σ.set jx (some (V.int i)) from wipe1s]
    intro s' HH C cl fp
    exact (he n hqn i (by omega) s' HH C cl fp H0 _ Hb' _ g1.s (((s.step st).step g1).set (by rw [hσ]; exact (List.getElem?_eq_some_iff.mp hj).1) rfl)).mono fun y H4 ⟨Hb4, st2, py⟩ => kf y H4 Hb4 st2 py
end
/-- items each of one of these types: a row of choices -/
theorem its_choice {ι : Type} {T : ι → Pd} {H : Hp} : ∀ {n : Nat} {vs : List V}, Its (List.replicate n (tEx T)) vs H → ∃ ys : List ι, ys.length = n ∧ Its (ys.map T) vs H
  | 0, _, h => by cases h; exact ⟨[], rfl, .nil⟩
  | n + 1, _, h => by
    cases h with
    | cons a t =>
      obtain ⟨y, hy⟩ := a
      obtain ⟨ys, h1, h2⟩ := its_choice t
      exact ⟨y :: ys, by simp [h1], .cons hy h2⟩
theorem its_snoc {P : Pd} {H : Hp} : ∀ {Ps : List Pd} {vs : List V}, Its (Ps ++ [P]) vs H → ∃ us u, vs = us ++ [u] ∧ Its Ps us H ∧ P.p u H
  | [], _, h => by
    cases h with
    | cons a t => cases t; exact ⟨[], _, rfl, .nil, a⟩
  | Q :: Ps, _, h => by
    cases h with
    | cons a t =>
      obtain ⟨us, u, h1, h2, h3⟩ := its_snoc t
      exact ⟨_ :: us, u, by rw [h1]; rfl, .cons a h2, h3⟩
end Ty
set_option Elab.async false
set_option linter.all false
set_option maxRecDepth 100000
set_option maxHeartbeats 1000000
/-! T1: what a walk is given. -/
namespace Tx
open PySem PySem.Spec PyProof.Rows L2 Ty
/-- what a walk is given: the facts of the objects, of the module's names, of the base -/
structure Wf (P : Program) (w : World) (K : PySem.W.Frag) (mg : Str → Option Value) (base : Heap) : Prop where
  c : Fc K
  mgl : ∀ (i : Nat) {x : Str}, fas[i]? = some (.glo x) → mg x = some (.ref (He.ga K x))
  mfr : ∀ (i : Nat) {x : Str}, fas[i]? = some (.free x) → mg x = none
  min : ∀ (i : Nat) {x : Str} {n : Int}, fas[i]? = some (.int x n) → ∃ t, mg x = some (.int n t)
  mst : ∀ (i : Nat) {x z : Str}, fas[i]? = some (.str x z) → ∃ t, mg x = some (.str z t)
  gcd : mg "gcd" = some (.builtin "math.gcd")
  lcm : mg "lcm" = some (.builtin "math.lcm")
  seer : SeerK K
  tree : P.given.tree = none
section
variable {P : Program} {w : World} {K : PySem.W.Frag} {mg : Str → Option Value} {base : Heap}
theorem Wf.g_is_integer (z : Wf P w K mg base) : mg "is_integer" = some (.ref (He.ga K "is_integer")) := z.mgl 0 rfl
theorem Wf.g_is_list (z : Wf P w K mg base) : mg "is_list" = some (.ref (He.ga K "is_list")) := z.mgl 1 rfl
theorem Wf.g_want_at_most (z : Wf P w K mg base) : mg "want_at_most" = some (.ref (He.ga K "want_at_most")) := z.mgl 2 rfl
theorem Wf.g_divisor_of (z : Wf P w K mg base) : mg "divisor_of" = some (.ref (He.ga K "divisor_of")) := z.mgl 3 rfl
theorem Wf.g_told_pair (z : Wf P w K mg base) : mg "told_pair" = some (.ref (He.ga K "told_pair")) := z.mgl 4 rfl
theorem Wf.g_is_number (z : Wf P w K mg base) : mg "is_number" = some (.ref (He.ga K "is_number")) := z.mgl 5 rfl
theorem Wf.g_ratio_of (z : Wf P w K mg base) : mg "ratio_of" = some (.ref (He.ga K "ratio_of")) := z.mgl 6 rfl
theorem Wf.g_wholes (z : Wf P w K mg base) : mg "wholes" = some (.ref (He.ga K "wholes")) := z.mgl 7 rfl
theorem Wf.g_is_poly (z : Wf P w K mg base) : mg "is_poly" = some (.ref (He.ga K "is_poly")) := z.mgl 8 rfl
theorem Wf.g_trimmed (z : Wf P w K mg base) : mg "trimmed" = some (.ref (He.ga K "trimmed")) := z.mgl 9 rfl
theorem Wf.g_want_poly (z : Wf P w K mg base) : mg "want_poly" = some (.ref (He.ga K "want_poly")) := z.mgl 10 rfl
theorem Wf.g_sum_of (z : Wf P w K mg base) : mg "sum_of" = some (.ref (He.ga K "sum_of")) := z.mgl 11 rfl
theorem Wf.g_by_number (z : Wf P w K mg base) : mg "by_number" = some (.ref (He.ga K "by_number")) := z.mgl 12 rfl
theorem Wf.g_less_of (z : Wf P w K mg base) : mg "less_of" = some (.ref (He.ga K "less_of")) := z.mgl 13 rfl
theorem Wf.g_int_product (z : Wf P w K mg base) : mg "int_product" = some (.ref (He.ga K "int_product")) := z.mgl 14 rfl
theorem Wf.g_product_of (z : Wf P w K mg base) : mg "product_of" = some (.ref (He.ga K "product_of")) := z.mgl 15 rfl
theorem Wf.g_slope_of (z : Wf P w K mg base) : mg "slope_of" = some (.ref (He.ga K "slope_of")) := z.mgl 16 rfl
theorem Wf.g_headed (z : Wf P w K mg base) : mg "headed" = some (.ref (He.ga K "headed")) := z.mgl 17 rfl
theorem Wf.g_parts_of (z : Wf P w K mg base) : mg "parts_of" = some (.ref (He.ga K "parts_of")) := z.mgl 18 rfl
theorem Wf.g_plain_row (z : Wf P w K mg base) : mg "plain_row" = some (.ref (He.ga K "plain_row")) := z.mgl 19 rfl
theorem Wf.g_int_rest (z : Wf P w K mg base) : mg "int_rest" = some (.ref (He.ga K "int_rest")) := z.mgl 20 rfl
theorem Wf.g_int_common (z : Wf P w K mg base) : mg "int_common" = some (.ref (He.ga K "int_common")) := z.mgl 21 rfl
theorem Wf.g_common_of (z : Wf P w K mg base) : mg "common_of" = some (.ref (He.ga K "common_of")) := z.mgl 22 rfl
theorem Wf.g_lowest (z : Wf P w K mg base) : mg "lowest" = some (.ref (He.ga K "lowest")) := z.mgl 23 rfl
theorem Wf.g_powers_of (z : Wf P w K mg base) : mg "powers_of" = some (.ref (He.ga K "powers_of")) := z.mgl 24 rfl
theorem Wf.g_put_pair (z : Wf P w K mg base) : mg "put_pair" = some (.ref (He.ga K "put_pair")) := z.mgl 25 rfl
theorem Wf.g_right_pair (z : Wf P w K mg base) : mg "right_pair" = some (.ref (He.ga K "right_pair")) := z.mgl 26 rfl
theorem Wf.g_known_fraction (z : Wf P w K mg base) : mg "known_fraction" = some (.ref (He.ga K "known_fraction")) := z.mgl 27 rfl
theorem Wf.g_want_fraction (z : Wf P w K mg base) : mg "want_fraction" = some (.ref (He.ga K "want_fraction")) := z.mgl 28 rfl
theorem Wf.g_headed_pair (z : Wf P w K mg base) : mg "headed_pair" = some (.ref (He.ga K "headed_pair")) := z.mgl 29 rfl
theorem Wf.g_put (z : Wf P w K mg base) : mg "put" = some (.ref (He.ga K "put")) := z.mgl 30 rfl
theorem Wf.g_is_place (z : Wf P w K mg base) : mg "is_place" = some (.ref (He.ga K "is_place")) := z.mgl 31 rfl
theorem Wf.g_want_place (z : Wf P w K mg base) : mg "want_place" = some (.ref (He.ga K "want_place")) := z.mgl 32 rfl
theorem Wf.g_is_beyond (z : Wf P w K mg base) : mg "is_beyond" = some (.ref (He.ga K "is_beyond")) := z.mgl 33 rfl
theorem Wf.g_pair_of (z : Wf P w K mg base) : mg "pair_of" = some (.ref (He.ga K "pair_of")) := z.mgl 34 rfl
theorem Wf.g_place_by (z : Wf P w K mg base) : mg "place_by" = some (.ref (He.ga K "place_by")) := z.mgl 35 rfl
theorem Wf.g_worth_by (z : Wf P w K mg base) : mg "worth_by" = some (.ref (He.ga K "worth_by")) := z.mgl 36 rfl
theorem Wf.g_worth_of (z : Wf P w K mg base) : mg "worth_of" = some (.ref (He.ga K "worth_of")) := z.mgl 37 rfl
theorem Wf.g_plain_of (z : Wf P w K mg base) : mg "plain_of" = some (.ref (He.ga K "plain_of")) := z.mgl 38 rfl
theorem Wf.g_filled (z : Wf P w K mg base) : mg "filled" = some (.ref (He.ga K "filled")) := z.mgl 39 rfl
theorem Wf.g_told_of (z : Wf P w K mg base) : mg "told_of" = some (.ref (He.ga K "told_of")) := z.mgl 40 rfl
theorem Wf.g_product_in (z : Wf P w K mg base) : mg "product_in" = some (.ref (He.ga K "product_in")) := z.mgl 41 rfl
theorem Wf.g_rest_in (z : Wf P w K mg base) : mg "rest_in" = some (.ref (He.ga K "rest_in")) := z.mgl 42 rfl
theorem Wf.g_divides_in (z : Wf P w K mg base) : mg "divides_in" = some (.ref (He.ga K "divides_in")) := z.mgl 43 rfl
theorem Wf.g_how_often (z : Wf P w K mg base) : mg "how_often" = some (.ref (He.ga K "how_often")) := z.mgl 44 rfl
theorem Wf.g_form_in (z : Wf P w K mg base) : mg "form_in" = some (.ref (He.ga K "form_in")) := z.mgl 45 rfl
theorem Wf.g_want_form (z : Wf P w K mg base) : mg "want_form" = some (.ref (He.ga K "want_form")) := z.mgl 46 rfl
theorem Wf.g_are_like (z : Wf P w K mg base) : mg "are_like" = some (.ref (He.ga K "are_like")) := z.mgl 47 rfl
theorem Wf.g_product (z : Wf P w K mg base) : mg "product" = some (.ref (He.ga K "product")) := z.mgl 48 rfl
theorem Wf.g_divides (z : Wf P w K mg base) : mg "divides" = some (.ref (He.ga K "divides")) := z.mgl 49 rfl
theorem Wf.g_rest_form (z : Wf P w K mg base) : mg "rest_form" = some (.ref (He.ga K "rest_form")) := z.mgl 50 rfl
theorem Wf.g_want_full (z : Wf P w K mg base) : mg "want_full" = some (.ref (He.ga K "want_full")) := z.mgl 51 rfl
theorem Wf.g_fibre_of (z : Wf P w K mg base) : mg "fibre_of" = some (.ref (He.ga K "fibre_of")) := z.mgl 52 rfl
theorem Wf.g_turning_of (z : Wf P w K mg base) : mg "turning_of" = some (.ref (He.ga K "turning_of")) := z.mgl 53 rfl
theorem Wf.g_fibre (z : Wf P w K mg base) : mg "fibre" = some (.ref (He.ga K "fibre")) := z.mgl 54 rfl
theorem Wf.g_turning (z : Wf P w K mg base) : mg "turning" = some (.ref (He.ga K "turning")) := z.mgl 55 rfl
theorem Wf.g_part_of (z : Wf P w K mg base) : mg "part_of" = some (.ref (He.ga K "part_of")) := z.mgl 56 rfl
theorem Wf.g_part (z : Wf P w K mg base) : mg "part" = some (.ref (He.ga K "part")) := z.mgl 57 rfl
theorem Wf.g_taken (z : Wf P w K mg base) : mg "taken" = some (.ref (He.ga K "taken")) := z.mgl 58 rfl
theorem Wf.g_law_pot (z : Wf P w K mg base) : mg "_law_pot" = some (.ref (He.ga K "_law_pot")) := z.mgl 59 rfl
theorem Wf.g_law_draw (z : Wf P w K mg base) : mg "_law_draw" = some (.ref (He.ga K "_law_draw")) := z.mgl 60 rfl
theorem Wf.g_law_pick (z : Wf P w K mg base) : mg "_law_pick" = some (.ref (He.ga K "_law_pick")) := z.mgl 61 rfl
theorem Wf.g_law_low (z : Wf P w K mg base) : mg "_law_low" = some (.ref (He.ga K "_law_low")) := z.mgl 62 rfl
theorem Wf.g_law_sum (z : Wf P w K mg base) : mg "_law_sum" = some (.ref (He.ga K "_law_sum")) := z.mgl 63 rfl
theorem Wf.g_law_by (z : Wf P w K mg base) : mg "_law_by" = some (.ref (He.ga K "_law_by")) := z.mgl 64 rfl
theorem Wf.g_law_over (z : Wf P w K mg base) : mg "_law_over" = some (.ref (He.ga K "_law_over")) := z.mgl 65 rfl
theorem Wf.g_law_trim (z : Wf P w K mg base) : mg "_law_trim" = some (.ref (He.ga K "_law_trim")) := z.mgl 66 rfl
theorem Wf.g_law_plus (z : Wf P w K mg base) : mg "_law_plus" = some (.ref (He.ga K "_law_plus")) := z.mgl 67 rfl
theorem Wf.g_law_scaled (z : Wf P w K mg base) : mg "_law_scaled" = some (.ref (He.ga K "_law_scaled")) := z.mgl 68 rfl
theorem Wf.g_law_times (z : Wf P w K mg base) : mg "_law_times" = some (.ref (He.ga K "_law_times")) := z.mgl 69 rfl
theorem Wf.g_law_worth (z : Wf P w K mg base) : mg "_law_worth" = some (.ref (He.ga K "_law_worth")) := z.mgl 70 rfl
theorem Wf.g_law_divided (z : Wf P w K mg base) : mg "_law_divided" = some (.ref (He.ga K "_law_divided")) := z.mgl 71 rfl
theorem Wf.g_law_common (z : Wf P w K mg base) : mg "_law_common" = some (.ref (He.ga K "_law_common")) := z.mgl 72 rfl
theorem Wf.g_law_passed (z : Wf P w K mg base) : mg "_law_passed" = some (.ref (He.ga K "_law_passed")) := z.mgl 73 rfl
theorem Wf.g_law_given (z : Wf P w K mg base) : mg "_law_given" = some (.ref (He.ga K "_law_given")) := z.mgl 74 rfl
theorem Wf.g_law_told (z : Wf P w K mg base) : mg "_law_told" = some (.ref (He.ga K "_law_told")) := z.mgl 75 rfl
theorem Wf.g_law_entry (z : Wf P w K mg base) : mg "_law_entry" = some (.ref (He.ga K "_law_entry")) := z.mgl 76 rfl
theorem Wf.g_law_poly (z : Wf P w K mg base) : mg "_law_poly" = some (.ref (He.ga K "_law_poly")) := z.mgl 77 rfl
theorem Wf.g_law_standing (z : Wf P w K mg base) : mg "_law_standing" = some (.ref (He.ga K "_law_standing")) := z.mgl 78 rfl
theorem Wf.g_law_filled (z : Wf P w K mg base) : mg "_law_filled" = some (.ref (He.ga K "_law_filled")) := z.mgl 79 rfl
theorem Wf.g_law_headed (z : Wf P w K mg base) : mg "_law_headed" = some (.ref (He.ga K "_law_headed")) := z.mgl 80 rfl
theorem Wf.g_law_lowest (z : Wf P w K mg base) : mg "_law_lowest" = some (.ref (He.ga K "_law_lowest")) := z.mgl 81 rfl
theorem Wf.g_law_degree (z : Wf P w K mg base) : mg "_law_degree" = some (.ref (He.ga K "_law_degree")) := z.mgl 82 rfl
theorem Wf.g_law_full (z : Wf P w K mg base) : mg "_law_full" = some (.ref (He.ga K "_law_full")) := z.mgl 83 rfl
theorem Wf.g_law_worth_at (z : Wf P w K mg base) : mg "_law_worth_at" = some (.ref (He.ga K "_law_worth_at")) := z.mgl 84 rfl
theorem Wf.g_law_fibre (z : Wf P w K mg base) : mg "_law_fibre" = some (.ref (He.ga K "_law_fibre")) := z.mgl 85 rfl
theorem Wf.g_law_part (z : Wf P w K mg base) : mg "_law_part" = some (.ref (He.ga K "_law_part")) := z.mgl 86 rfl
theorem Wf.g_law_of (z : Wf P w K mg base) : mg "_law_of" = some (.ref (He.ga K "_law_of")) := z.mgl 87 rfl
theorem Wf.g_law_made (z : Wf P w K mg base) : mg "_law_made" = some (.ref (He.ga K "_law_made")) := z.mgl 88 rfl
theorem Wf.g_law_place (z : Wf P w K mg base) : mg "_law_place" = some (.ref (He.ga K "_law_place")) := z.mgl 89 rfl
theorem Wf.g_law_given_place (z : Wf P w K mg base) : mg "_law_given_place" = some (.ref (He.ga K "_law_given_place")) := z.mgl 90 rfl
theorem Wf.g_law_led (z : Wf P w K mg base) : mg "_law_led" = some (.ref (He.ga K "_law_led")) := z.mgl 91 rfl
theorem Wf.g_law_given_form (z : Wf P w K mg base) : mg "_law_given_form" = some (.ref (He.ga K "_law_given_form")) := z.mgl 92 rfl
theorem Wf.g_law_place_right (z : Wf P w K mg base) : mg "_law_place_right" = some (.ref (He.ga K "_law_place_right")) := z.mgl 93 rfl
theorem Wf.g_law_turning_right (z : Wf P w K mg base) : mg "_law_turning_right" = some (.ref (He.ga K "_law_turning_right")) := z.mgl 94 rfl
theorem Wf.g_law_right (z : Wf P w K mg base) : mg "_law_right" = some (.ref (He.ga K "_law_right")) := z.mgl 95 rfl
theorem Wf.g_law (z : Wf P w K mg base) : mg "law" = some (.ref (He.ga K "law")) := z.mgl 96 rfl
theorem Wf.g_Ratio (z : Wf P w K mg base) : mg "Ratio" = some (.ref (He.ga K "Ratio")) := z.mgl 97 rfl
theorem Wf.g_Known (z : Wf P w K mg base) : mg "Known" = some (.ref (He.ga K "Known")) := z.mgl 98 rfl
theorem Wf.g_Fraction (z : Wf P w K mg base) : mg "Fraction" = some (.ref (He.ga K "Fraction")) := z.mgl 99 rfl
theorem Wf.b_len (z : Wf P w K mg base) : mg "len" = none := z.mfr 100 rfl
theorem Wf.b_range (z : Wf P w K mg base) : mg "range" = none := z.mfr 101 rfl
theorem Wf.b_max (z : Wf P w K mg base) : mg "max" = none := z.mfr 102 rfl
theorem Wf.b_min (z : Wf P w K mg base) : mg "min" = none := z.mfr 103 rfl
theorem Wf.b_abs (z : Wf P w K mg base) : mg "abs" = none := z.mfr 104 rfl
theorem Wf.b_int (z : Wf P w K mg base) : mg "int" = none := z.mfr 105 rfl
theorem Wf.b_list (z : Wf P w K mg base) : mg "list" = none := z.mfr 106 rfl
theorem Wf.b_tuple (z : Wf P w K mg base) : mg "tuple" = none := z.mfr 107 rfl
theorem Wf.b_isinstance (z : Wf P w K mg base) : mg "isinstance" = none := z.mfr 108 rfl
theorem Wf.b_bool (z : Wf P w K mg base) : mg "bool" = none := z.mfr 109 rfl
theorem Wf.b_str (z : Wf P w K mg base) : mg "str" = none := z.mfr 110 rfl
theorem Wf.b_all (z : Wf P w K mg base) : mg "all" = none := z.mfr 111 rfl
theorem Wf.b_enumerate (z : Wf P w K mg base) : mg "enumerate" = none := z.mfr 112 rfl
theorem Wf.b_zip (z : Wf P w K mg base) : mg "zip" = none := z.mfr 113 rfl
theorem Wf.b_divmod (z : Wf P w K mg base) : mg "divmod" = none := z.mfr 114 rfl
theorem Wf.n_MOST_NUMBERS (z : Wf P w K mg base) : ∃ t, mg "MOST_NUMBERS" = some (.int 25 t) := z.min 115 rfl
theorem Wf.n_MOST_DEGREE_fractions (z : Wf P w K mg base) : ∃ t, mg "MOST_DEGREE_fractions" = some (.int 24 t) := z.min 116 rfl
theorem Wf.n_MOST_DEGREE_forms (z : Wf P w K mg base) : ∃ t, mg "MOST_DEGREE_forms" = some (.int 24 t) := z.min 117 rfl
theorem Wf.n_MOST_TURNING (z : Wf P w K mg base) : ∃ t, mg "MOST_TURNING" = some (.int 12 t) := z.min 118 rfl
theorem Wf.s_BEYOND (z : Wf P w K mg base) : ∃ t, mg "BEYOND" = some (.str "beyond" t) := z.mst 119 rfl
theorem Wf.c_Ratio (z : Wf P w K mg base) : Cls K (He.ga K "Ratio") := He.cls_ok (z.c.fact 120 (f := .cls "Ratio") rfl)
theorem Wf.a_Ratio_own_top (z : Wf P w K mg base) : NoAttr K (He.ga K "Ratio") "own_top" := He.noat_ok (z.c.fact 121 (f := .noat "Ratio" "own_top") rfl)
theorem Wf.a_Ratio_own_bottom (z : Wf P w K mg base) : NoAttr K (He.ga K "Ratio") "own_bottom" := He.noat_ok (z.c.fact 122 (f := .noat "Ratio" "own_bottom") rfl)
theorem Wf.m_Ratio (z : Wf P w K mg base) : Mk K (He.ga K "Ratio") (He.ma K (He.ga K "Ratio") "__init__") := He.mkr_ok (z.c.fact 123 (f := .mkr "Ratio") rfl)
theorem Wf.c_Known (z : Wf P w K mg base) : Cls K (He.ga K "Known") := He.cls_ok (z.c.fact 124 (f := .cls "Known") rfl)
theorem Wf.a_Known_own_top (z : Wf P w K mg base) : NoAttr K (He.ga K "Known") "own_top" := He.noat_ok (z.c.fact 125 (f := .noat "Known" "own_top") rfl)
theorem Wf.a_Known_own_bottom (z : Wf P w K mg base) : NoAttr K (He.ga K "Known") "own_bottom" := He.noat_ok (z.c.fact 126 (f := .noat "Known" "own_bottom") rfl)
theorem Wf.m_Known (z : Wf P w K mg base) : Mk K (He.ga K "Known") (He.ma K (He.ga K "Known") "__init__") := He.mkr_ok (z.c.fact 127 (f := .mkr "Known") rfl)
theorem Wf.c_Fraction (z : Wf P w K mg base) : Cls K (He.ga K "Fraction") := He.cls_ok (z.c.fact 128 (f := .cls "Fraction") rfl)
theorem Wf.a_Fraction_own_top (z : Wf P w K mg base) : NoAttr K (He.ga K "Fraction") "own_top" := He.noat_ok (z.c.fact 129 (f := .noat "Fraction" "own_top") rfl)
theorem Wf.a_Fraction_own_bottom (z : Wf P w K mg base) : NoAttr K (He.ga K "Fraction") "own_bottom" := He.noat_ok (z.c.fact 130 (f := .noat "Fraction" "own_bottom") rfl)
theorem Wf.m_Fraction (z : Wf P w K mg base) : Mk K (He.ga K "Fraction") (He.ma K (He.ga K "Fraction") "__init__") := He.mkr_ok (z.c.fact 131 (f := .mkr "Fraction") rfl)
theorem Wf.o_Ratio_over (z : Wf P w K mg base) : Meth K (He.ga K "Ratio") "over" (He.ma K (He.ga K "Ratio") "over") := He.meth_ok (z.c.fact 132 (f := .meth "Ratio" "over") rfl)
end
end Tx
set_option Elab.async false
set_option linter.all false
set_option maxHeartbeats 1000000
/-! M0: the plain functions that the defs compute; what a walk asks of them. -/
namespace Mt
section
variable {α : Type} [Zero α]
/-- the coefficient at i -/
def cf (p : List α) (i : Nat) : α := p.getD i 0
theorem get_cf {p : List α} {i : Nat} (h : i < p.length) : p[i]? = some (cf p i) := by
  unfold cf
  rw [List.getD_eq_getElem?_getD, List.getElem?_eq_getElem h]
  rfl
theorem cf_of {p : List α} {i : Nat} {x : α} (h : p[i]? = some x) : cf p i = x := by
  unfold cf
  rw [List.getD_eq_getElem?_getD, h]
  rfl
theorem cf_big {p : List α} {i : Nat} (h : p.length ≤ i) : cf p i = 0 := by
  unfold cf
  rw [List.getD_eq_getElem?_getD, List.getElem?_eq_none h]
  rfl
/-- the last one -/
def hd (p : List α) : α := cf p (p.length - 1)
theorem last_hd {p : List α} (h : p ≠ []) : p.getLast? = some (hd p) := by
  rw [List.getLast?_eq_getElem?]
  exact get_cf (by have := List.length_pos_iff.mpr h; omega)
variable [DecidableEq α]
def trim : List α → List α
  | [] => []
  | a :: t => match trim t with
    | [] => if a = 0 then [] else [a]
    | b :: u => a :: b :: u
theorem trim_zero {p : List α} (a : α) (h : a = 0) : trim (p ++ [a]) = trim p := by
  induction p with
  | nil => show (match trim ([] : List α) with | [] => if a = 0 then [] else [a] | b :: u => a :: b :: u) = _; rw [trim]; simp [h]
  | cons b t ih => show (match trim (t ++ [a]) with | [] => if b = 0 then [] else [b] | c :: u => b :: c :: u) = _; rw [ih]; rfl
theorem trim_last {p : List α} (a : α) (h : a ≠ 0) : trim (p ++ [a]) = p ++ [a] := by
  induction p with
  | nil => show (match trim ([] : List α) with | [] => if a = 0 then [] else [a] | b :: u => a :: b :: u) = _; rw [trim]; simp [h]
  | cons b t ih =>
    show (match trim (t ++ [a]) with | [] => if b = 0 then [] else [b] | c :: u => b :: c :: u) = _
    rw [ih]
    cases t <;> rfl
theorem take_cf {p : List α} {m : Nat} (h : m < p.length) : p.take (m + 1) = p.take m ++ [cf p m] := by
  rw [List.take_succ, get_cf h]; rfl
theorem trim_step {p : List α} {m : Nat} (h : m < p.length) (z : cf p m = 0) : trim (p.take (m + 1)) = trim (p.take m) := by
  rw [take_cf h, trim_zero _ z]
theorem trim_done {p : List α} {m : Nat} (h : m < p.length) (z : cf p m ≠ 0) : trim (p.take (m + 1)) = p.take (m + 1) := by
  rw [take_cf h, trim_last _ z]
theorem trim_le (p : List α) : (trim p).length ≤ p.length := by
  induction p with
  | nil => exact Nat.le_refl _
  | cons a t ih =>
    show (match trim t with | [] => if a = 0 then [] else [a] | b :: u => a :: b :: u : List α).length ≤ _
    split
    · split <;> simp
    · rename_i b u e
      rw [e] at ih
      simp only [List.length_cons] at ih ⊢
      omega
/-- nothing to trim -/
def Tr (p : List α) : Prop := p = [] ∨ hd p ≠ 0
theorem cf_append_last (p : List α) (a : α) : hd (p ++ [a]) = a := by
  unfold hd
  apply cf_of
  simp
theorem trim_tr (p : List α) : Tr (trim p) := by
  rcases List.eq_nil_or_concat p with rfl | ⟨q, a, rfl⟩
  · exact .inl rfl
  · generalize hn : q.length = n
    induction n generalizing q a with
    | zero =>
      have : q = [] := List.length_eq_zero_iff.mp hn
      subst this
      by_cases h : a = 0
      · rw [List.concat_eq_append, trim_zero _ h]; exact .inl rfl
      · rw [List.concat_eq_append, trim_last _ h]; exact .inr (by rw [cf_append_last]; exact h)
    | succ n ih =>
      by_cases h : a = 0
      · rw [List.concat_eq_append, trim_zero _ h]
        rcases List.eq_nil_or_concat q with rfl | ⟨r, b, rfl⟩
        · cases hn
        · exact ih r b (by simpa using hn)
      · rw [List.concat_eq_append, trim_last _ h]; exact .inr (by rw [cf_append_last]; exact h)
theorem trim_of_tr {p : List α} (h : Tr p) : trim p = p := by
  rcases List.eq_nil_or_concat p with rfl | ⟨q, a, rfl⟩
  · rfl
  · rw [List.concat_eq_append] at h ⊢
    rcases h with h | h
    · simp at h
    · exact trim_last _ (by rw [cf_append_last] at h; exact h)
theorem cf_append_zero (p : List α) (n i : Nat) : cf (p ++ List.replicate n 0) i = cf p i := by
  unfold cf
  rw [List.getD_eq_getElem?_getD, List.getD_eq_getElem?_getD]
  by_cases h : i < p.length
  · rw [List.getElem?_append_left h]
  · rw [List.getElem?_append_right (by omega), List.getElem?_replicate, List.getElem?_eq_none (by omega)]
    split <;> rfl
theorem trim_pad (p : List α) : ∃ n, p = trim p ++ List.replicate n 0 := by
  induction p with
  | nil => exact ⟨0, rfl⟩
  | cons a t ih =>
    obtain ⟨n, e⟩ := ih
    show ∃ n, a :: t = (match trim t with | [] => if a = 0 then [] else [a] | b :: u => a :: b :: u) ++ _
    split
    · rename_i e2
      rw [e2] at e
      split
      · rename_i h; exact ⟨n + 1, by rw [h, List.replicate_succ]; simpa using e⟩
      · exact ⟨n, by simpa using e⟩
    · rename_i b u e2
      rw [e2] at e
      exact ⟨n, by rw [e]; rfl⟩
theorem cf_trim (p : List α) (i : Nat) : cf (trim p) i = cf p i := by
  obtain ⟨n, e⟩ := trim_pad p
  have := cf_append_zero (trim p) n i
  rw [← e] at this
  exact this.symm
end
section
variable {α : Type} [Zero α] [Add α] [Mul α] [DecidableEq α]
/-- two rows, place by place -/
def addL : List α → List α → List α
  | [], q => q
  | p, [] => p
  | a :: p, b :: q => (a + b) :: addL p q
/-- ys put onto xs from the place k on -/
def addAt : Nat → List α → List α → List α
  | _, [], _ => []
  | _, xs, [] => xs
  | 0, x :: xs, y :: ys => (x + y) :: addAt 0 xs ys
  | k + 1, x :: xs, ys => x :: addAt k xs ys
theorem addAt_len (k : Nat) (xs ys : List α) : (addAt k xs ys).length = xs.length := by
  induction xs generalizing k ys with
  | nil => cases k <;> rfl
  | cons x xs ih =>
    cases ys with
    | nil => cases k <;> rfl
    | cons y ys =>
      cases k with
      | zero => show (addAt 0 xs ys).length + 1 = _; rw [ih]; rfl
      | succ k => show (addAt k xs (y :: ys)).length + 1 = _; rw [ih]; rfl
theorem addAt_nil (k : Nat) (xs : List α) : addAt k xs [] = xs := by
  cases xs <;> cases k <;> rfl
/-- one more place -/
theorem addAt_step (k j : Nat) (xs ys : List α) (hj : j < ys.length) (hk : k + j < xs.length) :
    (addAt k xs (ys.take j)).set (k + j) (cf (addAt k xs (ys.take j)) (k + j) + cf ys j) = addAt k xs (ys.take (j + 1)) := by
  induction xs generalizing k j ys with
  | nil => simp at hk
  | cons x xs ih =>
    cases ys with
    | nil => simp at hj
    | cons y ys =>
      cases k with
      | zero =>
        cases j with
        | zero =>
          show ((addAt 0 (x :: xs) []).set 0 (cf (addAt 0 (x :: xs) []) 0 + y)) = (x + y) :: addAt 0 xs []
          rw [addAt_nil, addAt_nil]
          rfl
        | succ j =>
          have h := ih 0 j ys (by simpa using hj) (by simp at hk ⊢; omega)
          show (((x + y) :: addAt 0 xs (ys.take j)).set (0 + (j + 1)) _) = (x + y) :: addAt 0 xs (ys.take (j + 1))
          rw [← h]
          have e1 : 0 + (j + 1) = (0 + j) + 1 := by omega
          rw [e1, List.set_cons_succ]
          rfl
      | succ k =>
        have h := ih k j (y :: ys) hj (by simp at hk ⊢; omega)
        have e1 : k + 1 + j = (k + j) + 1 := by omega
        cases j with
        | zero =>
          rw [e1]
          show (addAt (k + 1) (x :: xs) []).set (k + 0 + 1) (cf (addAt (k + 1) (x :: xs) []) (k + 0 + 1) + y) = x :: addAt k xs [y]
          rw [addAt_nil, List.set_cons_succ]
          have h' : (addAt k xs []).set (k + 0) (cf (addAt k xs []) (k + 0) + y) = addAt k xs [y] := h
          rw [addAt_nil] at h'
          rw [← h']
          rfl
        | succ j =>
          rw [e1]
          show (x :: addAt k xs ((y :: ys).take (j + 1))).set (k + (j + 1) + 1) _ = x :: addAt k xs ((y :: ys).take (j + 1 + 1))
          rw [List.set_cons_succ, ← h]
          rfl
/-- the rows' product after i turns -/
def convS (near far : List α) : Nat → List α
  | 0 => List.replicate (near.length + far.length - 1) 0
  | i + 1 => addAt i (convS near far i) (far.map (cf near i * ·))
theorem convS_len (near far : List α) (i : Nat) : (convS near far i).length = near.length + far.length - 1 := by
  induction i with
  | zero => exact List.length_replicate
  | succ i ih => unfold convS; rw [addAt_len, ih]
def conv (near far : List α) : List α := convS near far near.length
end
theorem addL_nil {α : Type} [Add α] (p : List α) : addL p [] = p := by cases p <;> rfl
theorem addL_len {α : Type} [Add α] (p q : List α) : (addL p q).length = max p.length q.length := by
  induction p generalizing q with
  | nil => show q.length = _; simp
  | cons a p ih =>
    cases q with
    | nil => rw [addL_nil]; simp
    | cons b q => show (addL p q).length + 1 = _; rw [ih]; simp only [List.length_cons]; omega
theorem cf_cons {α : Type} [Zero α] (a : α) (p : List α) (i : Nat) : cf (a :: p) (i + 1) = cf p i := rfl
theorem cf_nil {α : Type} [Zero α] (i : Nat) : cf ([] : List α) i = 0 := by cases i <;> rfl
theorem cf_addL (p q : List Rat) (i : Nat) : cf (addL p q) i = cf p i + cf q i := by
  induction p generalizing q i with
  | nil => show cf q i = _; rw [cf_nil]; grind
  | cons a p ih =>
    cases q with
    | nil => rw [addL_nil, cf_nil]; grind
    | cons b q =>
      cases i with
      | zero => rfl
      | succ i => exact ih q i
theorem addL_comm (p q : List Rat) : addL p q = addL q p := by
  induction p generalizing q with
  | nil => rw [addL_nil]; rfl
  | cons a p ih =>
    cases q with
    | nil => rfl
    | cons b q => show (a + b) :: addL p q = (b + a) :: addL q p; rw [ih, Rat.add_comm]
/-! ## the program's own -/
def sumOf (p q : List Rat) : List Rat := trim (addL p q)
def byNumber (p : List Rat) (r : Rat) : List Rat := trim (p.map (· * r))
def lessOf (p q : List Rat) : List Rat := sumOf p (byNumber q (-1))
def lcmD : List Rat → Nat := fun p => p.foldl (fun n c => Nat.lcm n c.den) 1
def intsOf (p : List Rat) : List Int := p.map fun c => c.num * ((lcmD p / c.den : Nat) : Int)
def productOf (p q : List Rat) : List Rat := if p = [] ∨ q = [] then [] else conv p q
def slopeOf (p : List Rat) : List Rat := (List.range (p.length - 1)).map fun i => cf p (1 + i) * (((1 : Int) + (i : Nat) : Int) : Rat)
def headed (p : List Rat) : List Rat := p.map (· / hd p)
/-- one turn of a division -/
def pRest (other rest : List Rat) : List Rat := trim (addAt (rest.length - other.length) rest (other.dropLast.map fun o => -(hd rest / hd other * o))).dropLast
def pQuo (other rest quo : List Rat) : List Rat := quo.set (rest.length - other.length) (hd rest / hd other)
theorem pRest_lt {other rest : List Rat} (h : 0 < rest.length) : (pRest other rest).length < rest.length := by
  have := trim_le (addAt (rest.length - other.length) rest (other.dropLast.map fun o => -(hd rest / hd other * o))).dropLast
  rw [List.length_dropLast, addAt_len] at this
  unfold pRest
  omega
def partsG (other : List Rat) : Nat → List Rat × List Rat → List Rat × List Rat
  | 0, x => x
  | n + 1, (quo, rest) => if other.length ≤ rest.length then partsG other n (pQuo other rest quo, pRest other rest) else (quo, rest)
def partsOf (one other : List Rat) : List Rat × List Rat := partsG other (one.length + 1) (List.replicate (one.length + 1 - other.length) 0, one)
theorem partsG_more {other : List Rat} (ho : other ≠ []) : ∀ (n m : Nat) (x : List Rat × List Rat), x.2.length < n → n ≤ m → partsG other m x = partsG other n x := by
  intro n
  induction n with
  | zero => intro m x h; omega
  | succ n ih =>
    intro m x h1 h2
    cases m with
    | zero => omega
    | succ m =>
      obtain ⟨quo, rest⟩ := x
      unfold partsG
      split
      · rename_i h
        have := List.length_pos_iff.mpr ho
        exact ih m _ (by have := pRest_lt (other := other) (rest := rest) (by omega); simp only at h1 ⊢; omega) (by omega)
      · rfl
theorem partsG_step {other quo rest : List Rat} (ho : other ≠ []) (h : other.length ≤ rest.length) : partsG other (rest.length + 1) (quo, rest) = partsG other ((pRest other rest).length + 1) (pQuo other rest quo, pRest other rest) := by
  rw [partsG, if_pos h]
  have := List.length_pos_iff.mpr ho
  have := pRest_lt (other := other) (rest := rest) (by omega)
  exact partsG_more ho _ _ _ (by simp) (by omega)
theorem partsG_end {other quo rest : List Rat} (h : ¬ other.length ≤ rest.length) : partsG other (rest.length + 1) (quo, rest) = (quo, rest) := by
  rw [partsG, if_neg h]
end Mt
namespace Mt
theorem ext_cf {α : Type} [Zero α] {p q : List α} (hl : p.length = q.length) (h : ∀ i, i < p.length → cf p i = cf q i) : p = q := by
  apply List.ext_getElem?
  intro i
  by_cases hi : i < p.length
  · rw [get_cf hi, get_cf (by omega), h i hi]
  · rw [List.getElem?_eq_none (by omega), List.getElem?_eq_none (by omega)]
theorem cf_range {α : Type} [Zero α] (f : Nat → α) {n i : Nat} (h : i < n) : cf ((List.range n).map f) i = f i := cf_of (by rw [List.getElem?_map, List.getElem?_range h]; rfl)
theorem cf_map {α β : Type} [Zero α] [Zero β] (f : α → β) {p : List α} {i : Nat} (h : i < p.length) : cf (p.map f) i = f (cf p i) := cf_of (by rw [List.getElem?_map, get_cf h]; rfl)
theorem addL_range {p q : List Rat} (h : q.length ≤ p.length) : (List.range p.length).map (fun i => if i < q.length then cf p i + cf q i else cf p i) = addL p q := by
  apply ext_cf
  · rw [addL_len]; simp; omega
  · intro i hi
    have hi' : i < p.length := by simpa using hi
    rw [cf_range _ hi', cf_addL]
    split
    · rfl
    · rw [cf_big (p := q) (by omega)]; grind
theorem addAt_zero (k : Nat) (xs ys : List Int) : addAt k xs (ys.map ((0 : Int) * ·)) = xs := by
  induction xs generalizing k ys with
  | nil => cases k <;> rfl
  | cons x xs ih =>
    cases ys with
    | nil => cases k <;> rfl
    | cons y ys =>
      cases k with
      | zero => show (x + 0 * y) :: addAt 0 xs (ys.map _) = _; rw [ih]; simp
      | succ k => show x :: addAt k xs ((y :: ys).map _) = _; rw [ih]
theorem addAt_map {α β : Type} [Add α] [Add β] (f : α → β) (hf : ∀ a b, f (a + b) = f a + f b) (k : Nat) (xs ys : List α) : (addAt k xs ys).map f = addAt k (xs.map f) (ys.map f) := by
  induction xs generalizing k ys with
  | nil => cases k <;> rfl
  | cons x xs ih =>
    cases ys with
    | nil => cases k <;> rfl
    | cons y ys =>
      cases k with
      | zero => show f (x + y) :: (addAt 0 xs ys).map f = (f x + f y) :: addAt 0 (xs.map f) (ys.map f); rw [ih, hf]
      | succ k => show f x :: (addAt k xs (y :: ys)).map f = f x :: addAt k (xs.map f) ((y :: ys).map f); rw [ih]
/-! the common bottom -/
theorem foldl_lcm_dvd (p : List Rat) (n : Nat) : n ∣ p.foldl (fun n c => Nat.lcm n c.den) n ∧ ∀ c ∈ p, c.den ∣ p.foldl (fun n c => Nat.lcm n c.den) n := by
  induction p generalizing n with
  | nil => exact ⟨Nat.dvd_refl _, fun c h => by cases h⟩
  | cons a p ih =>
    obtain ⟨h1, h2⟩ := ih (Nat.lcm n a.den)
    refine ⟨Nat.dvd_trans (Nat.dvd_lcm_left _ _) h1, fun c hc => ?_⟩
    rcases List.mem_cons.mp hc with rfl | hc
    · exact Nat.dvd_trans (Nat.dvd_lcm_right _ _) h1
    · exact h2 c hc
theorem foldl_lcm_le (p : List Rat) (n D : Nat) (hn : n ∣ D) (h : ∀ c ∈ p, c.den ∣ D) : p.foldl (fun n c => Nat.lcm n c.den) n ∣ D := by
  induction p generalizing n with
  | nil => exact hn
  | cons a p ih => exact ih _ (Nat.lcm_dvd hn (h a (by simp))) fun c hc => h c (by simp [hc])
theorem lcmD_dvd {p : List Rat} {c : Rat} (h : c ∈ p) : c.den ∣ lcmD p := (foldl_lcm_dvd p 1).2 c h
theorem lcmD_le {p : List Rat} {D : Nat} (h : ∀ c ∈ p, c.den ∣ D) : lcmD p ∣ D := foldl_lcm_le p 1 D (Nat.one_dvd _) h
theorem lcmD_pos (p : List Rat) : 0 < lcmD p := by
  have : ∀ (p : List Rat) (n : Nat), 0 < n → 0 < p.foldl (fun n c => Nat.lcm n c.den) n := by
    intro p
    induction p with
    | nil => intro n h; exact h
    | cons a p ih => intro n h; exact ih _ (Nat.lcm_pos h a.den_pos)
  exact this p 1 (by decide)
/-- a whole number over the common bottom -/
theorem int_over {c : Rat} {L : Nat} (h : c.den ∣ L) (hL : 0 < L) : Rat.divInt (c.num * ((L / c.den : Nat) : Int)) L = c := by
  obtain ⟨k, rfl⟩ := h
  have hd : 0 < c.den := c.den_pos
  have hk : 0 < k := Nat.pos_of_mul_pos_left hL
  rw [Nat.mul_div_cancel_left _ hd]
  have e : ((c.den * k : Nat) : Int) = (c.den : Int) * k := by simp
  rw [e, Rat.divInt_mul_right (by omega), Rat.num_divInt_den]
theorem divInt_eq (t : Int) (L : Nat) : Rat.divInt t L = (t : Rat) * (1 / (L : Rat)) := by
  rw [Rat.divInt_eq_div, Rat.div_def, Rat.div_def, Rat.intCast_natCast]
  simp
theorem ints_eq {p : List Rat} : (intsOf p).map (fun (t : Int) => (t : Rat) * (1 / (lcmD p : Rat))) = p := by
  unfold intsOf
  rw [List.map_map]
  refine Eq.trans ?_ (List.map_id p)
  apply List.map_congr_left
  intro c hc
  show ((c.num * ((lcmD p / c.den : Nat) : Int) : Int) : Rat) * (1 / (lcmD p : Rat)) = c
  rw [← divInt_eq]
  exact int_over (lcmD_dvd hc) (lcmD_pos p)
theorem convS_ints (P Q : List Int) (a b : Rat) (i : Nat) (hi : i ≤ P.length) : (convS P Q i).map (fun (t : Int) => (t : Rat) * (a * b)) = convS (P.map fun (t : Int) => (t : Rat) * a) (Q.map fun (t : Int) => (t : Rat) * b) i := by
  induction i with
  | zero =>
    unfold convS
    rw [List.map_replicate]
    simp
  | succ i ih =>
    unfold convS
    rw [addAt_map _ (by intro a b; rw [Rat.intCast_add]; grind), ih (by omega), List.map_map, List.map_map]
    congr 1
    apply List.map_congr_left
    intro t _
    show (((cf P i * t : Int)) : Rat) * (a * b) = _ * ((t : Rat) * b)
    rw [cf_map (fun (t : Int) => (t : Rat) * a) (by omega), Rat.intCast_mul]
    grind
theorem ints_len (p : List Rat) : (intsOf p).length = p.length := by unfold intsOf; simp
/-- the product by whole numbers -/
theorem prod_ints (p q : List Rat) : (conv (intsOf p) (intsOf q)).map (fun t => Rat.divInt t ((lcmD p * lcmD q : Nat) : Int)) = conv p q := by
  have e : (fun t : Int => Rat.divInt t ((lcmD p * lcmD q : Nat) : Int)) = fun (t : Int) => (t : Rat) * ((1 / (lcmD p : Rat)) * (1 / (lcmD q : Rat))) := by
    funext t
    have h1 := lcmD_pos p
    have h2 := lcmD_pos q
    rw [divInt_eq, Rat.natCast_mul]
    have : (1 : Rat) / ((lcmD p : Rat) * (lcmD q : Rat)) = (1 / (lcmD p : Rat)) * (1 / (lcmD q : Rat)) := by
      rw [Rat.div_def, Rat.div_def, Rat.div_def, Rat.inv_mul_rev]
      grind
    rw [this]
  rw [e]
  unfold conv
  rw [convS_ints _ _ _ _ _ (Nat.le_refl _), ints_eq, ints_eq, ints_len]
end Mt
namespace Mt
theorem cf_addAt (k : Nat) (xs ys : List Rat) (i : Nat) (h : i < xs.length) : cf (addAt k xs ys) i = cf xs i + (if k ≤ i then cf ys (i - k) else 0) := by
  induction xs generalizing k ys i with
  | nil => simp at h
  | cons x xs ih =>
    cases ys with
    | nil => rw [addAt_nil]; simp [cf_nil]; grind
    | cons y ys =>
      cases k with
      | zero =>
        cases i with
        | zero => rfl
        | succ i =>
          show cf (addAt 0 xs ys) i = _
          rw [ih 0 ys i (by simpa using h)]
          simp
          rfl
      | succ k =>
        cases i with
        | zero => show x = x + _; simp; grind
        | succ i =>
          show cf (addAt k xs (y :: ys)) i = _
          rw [ih k (y :: ys) i (by simpa using h)]
          simp
          rfl
theorem cf_take {α : Type} [Zero α] (p : List α) {n i : Nat} (h : i < n) : cf (p.take n) i = cf p i := by
  unfold cf
  rw [List.getD_eq_getElem?_getD, List.getD_eq_getElem?_getD, List.getElem?_take_of_lt h]
theorem addAt_fresh (k j : Nat) (xs ys : List Rat) (h : k + j < xs.length) : cf (addAt k xs (ys.take j)) (k + j) = cf xs (k + j) := by
  rw [cf_addAt _ _ _ _ h, if_pos (by omega), cf_big (p := ys.take j) (by rw [List.length_take]; omega)]
  grind
theorem cf_dropLast {α : Type} [Zero α] (p : List α) {i : Nat} (h : i < p.length - 1) : cf p.dropLast i = cf p i := by
  rw [List.dropLast_eq_take, cf_take _ h]
/-! ## rows of whole numbers -/
def gcdL (p : List Int) : Nat := p.foldl (fun g n => Nat.gcd g n.natAbs) 0
def plainRow (p : List Int) : List Int := (trim p).map fun n => n.fdiv ((gcdL (trim p) : Nat) : Int)
theorem foldl_gcd_dvd (p : List Int) (g : Nat) : p.foldl (fun g n => Nat.gcd g n.natAbs) g ∣ g ∧ ∀ n ∈ p, p.foldl (fun g n => Nat.gcd g n.natAbs) g ∣ n.natAbs := by
  induction p generalizing g with
  | nil => exact ⟨Nat.dvd_refl _, fun n h => by cases h⟩
  | cons a p ih =>
    obtain ⟨h1, h2⟩ := ih (Nat.gcd g a.natAbs)
    refine ⟨Nat.dvd_trans h1 (Nat.gcd_dvd_left _ _), fun n hn => ?_⟩
    rcases List.mem_cons.mp hn with rfl | hn
    · exact Nat.dvd_trans h1 (Nat.gcd_dvd_right _ _)
    · exact h2 n hn
theorem gcdL_dvd {p : List Int} {n : Int} (h : n ∈ p) : gcdL p ∣ n.natAbs := (foldl_gcd_dvd p 0).2 n h
theorem hd_mem' {α : Type} [Zero α] {p : List α} (h : p ≠ []) : hd p ∈ p := List.mem_of_getElem? (get_cf (by have := List.length_pos_iff.mpr h; omega))
theorem gcdL_pos {p : List Int} (h : p ≠ []) (h2 : hd p ≠ 0) : 0 < gcdL p := by
  have := gcdL_dvd (hd_mem' h)
  exact Nat.pos_of_dvd_of_pos this (by omega)
theorem plainRow_len (p : List Int) : (plainRow p).length = (trim p).length := by unfold plainRow; simp
/-- one turn of a division by whole numbers -/
def iLast (other rest : List Int) : Int := if hd other > 0 then hd rest else 0 - hd rest
def iMid (other rest : List Int) : List Int := addAt (rest.length - other.length) (rest.map (· * ((hd other).natAbs : Int))) (other.map fun n => -(iLast other rest * n))
def iStep (other rest : List Int) : List Int := plainRow (iMid other rest)
theorem cf_addAtI (k : Nat) (xs ys : List Int) (i : Nat) (h : i < xs.length) : cf (addAt k xs ys) i = cf xs i + (if k ≤ i then cf ys (i - k) else 0) := by
  induction xs generalizing k ys i with
  | nil => simp at h
  | cons x xs ih =>
    cases ys with
    | nil => rw [addAt_nil]; simp [cf_nil]
    | cons y ys =>
      cases k with
      | zero =>
        cases i with
        | zero => rfl
        | succ i =>
          show cf (addAt 0 xs ys) i = _
          rw [ih 0 ys i (by simpa using h)]
          simp
          rfl
      | succ k =>
        cases i with
        | zero => show x = x + _; simp
        | succ i =>
          show cf (addAt k xs (y :: ys)) i = _
          rw [ih k (y :: ys) i (by simpa using h)]
          simp
          rfl
theorem addAt_freshI (k j : Nat) (xs ys : List Int) (h : k + j < xs.length) : cf (addAt k xs (ys.take j)) (k + j) = cf xs (k + j) := by
  rw [cf_addAtI _ _ _ _ h, if_pos (by omega), cf_big (p := ys.take j) (by rw [List.length_take]; omega)]
  simp
theorem iMid_len (other rest : List Int) : (iMid other rest).length = rest.length := by unfold iMid; rw [addAt_len]; simp
theorem iMid_last {other rest : List Int} (ho : other ≠ []) (h : other.length ≤ rest.length) : hd (iMid other rest) = 0 := by
  have h1 := List.length_pos_iff.mpr ho
  unfold hd
  rw [iMid_len]
  unfold iMid
  rw [cf_addAtI _ _ _ _ (by simp; omega), if_pos (by omega), cf_map _ (by omega), cf_map _ (by omega)]
  have e : rest.length - 1 - (rest.length - other.length) = other.length - 1 := by omega
  rw [e]
  unfold iLast hd
  generalize cf rest (rest.length - 1) = r
  generalize cf other (other.length - 1) = o
  split
  · have : ((o.natAbs : Nat) : Int) = o := by omega
    rw [this]; omega
  · have : ((o.natAbs : Nat) : Int) = -o := by omega
    rw [this, show (0 : Int) - r = -r by omega]
    grind
theorem trim_lt {α : Type} [Zero α] [DecidableEq α] {p : List α} (h : p ≠ []) (z : hd p = 0) : (trim p).length < p.length := by
  rcases List.eq_nil_or_concat p with rfl | ⟨q, a, rfl⟩
  · exact absurd rfl h
  · rw [List.concat_eq_append] at z ⊢
    rw [cf_append_last] at z
    rw [trim_zero _ z]
    have := trim_le q
    simp; omega
theorem iStep_lt {other rest : List Int} (ho : other ≠ []) (h : other.length ≤ rest.length) : (iStep other rest).length < rest.length := by
  have h1 := List.length_pos_iff.mpr ho
  unfold iStep
  rw [plainRow_len]
  have h2 : iMid other rest ≠ [] := fun z => by have := iMid_len other rest; rw [z] at this; simp at this; omega
  have := trim_lt h2 (iMid_last ho h)
  rw [iMid_len] at this
  exact this
def iRestG (other : List Int) : Nat → List Int → List Int
  | 0, r => r
  | n + 1, r => if other.length ≤ r.length then iRestG other n (iStep other r) else r
def intRest (one other : List Int) : List Int := plainRow (iRestG other (one.length + 1) one)
theorem iRestG_more {other : List Int} (ho : other ≠ []) : ∀ (n m : Nat) (x : List Int), x.length < n → n ≤ m → iRestG other m x = iRestG other n x := by
  intro n
  induction n with
  | zero => intro m x h; omega
  | succ n ih =>
    intro m x h1 h2
    cases m with
    | zero => omega
    | succ m =>
      unfold iRestG
      split
      · rename_i h
        exact ih m _ (by have := iStep_lt ho h; omega) (by omega)
      · rfl
theorem iRestG_step {other r : List Int} (ho : other ≠ []) (h : other.length ≤ r.length) : iRestG other (r.length + 1) r = iRestG other ((iStep other r).length + 1) (iStep other r) := by
  rw [iRestG, if_pos h]
  have := iStep_lt ho h
  exact iRestG_more ho _ _ _ (by omega) (by omega)
theorem iRestG_end {other r : List Int} (h : ¬ other.length ≤ r.length) : iRestG other (r.length + 1) r = r := by
  rw [iRestG, if_neg h]
theorem iRestG_lt {other : List Int} (ho : other ≠ []) : ∀ (n : Nat) (r : List Int), r.length < n → (iRestG other n r).length < other.length := by
  intro n
  induction n with
  | zero => intro r h; omega
  | succ n ih =>
    intro r h
    unfold iRestG
    split
    · rename_i h2
      exact ih _ (by have := iStep_lt ho h2; omega)
    · omega
theorem intRest_lt {one other : List Int} (ho : other ≠ []) : (intRest one other).length < other.length := by
  unfold intRest
  rw [plainRow_len]
  exact Nat.lt_of_le_of_lt (trim_le _) (iRestG_lt ho _ _ (Nat.lt_succ_self _))
def iComG : Nat → List Int → List Int → List Int
  | 0, a, _ => a
  | n + 1, a, b => if b = [] then a else iComG n b (intRest a b)
def intCommon (one other : List Int) : List Int := iComG ((plainRow other).length + 1) (plainRow one) (plainRow other)
theorem iComG_more : ∀ (n m : Nat) (a b : List Int), b.length < n → n ≤ m → iComG m a b = iComG n a b := by
  intro n
  induction n with
  | zero => intro m a b h; omega
  | succ n ih =>
    intro m a b h1 h2
    cases m with
    | zero => omega
    | succ m =>
      unfold iComG
      split
      · rfl
      · rename_i h
        exact ih m _ _ (by have := intRest_lt (one := a) h; omega) (by omega)
theorem iComG_step {a b : List Int} (h : b ≠ []) : iComG (b.length + 1) a b = iComG ((intRest a b).length + 1) b (intRest a b) := by
  rw [iComG, if_neg h]
  have := intRest_lt (one := a) h
  exact iComG_more _ _ _ _ (by omega) (by omega)
theorem iComG_end {a : List Int} : iComG (([] : List Int).length + 1) a [] = a := by
  rw [iComG, if_pos rfl]
def commonOf (one other : List Rat) : List Rat := (intCommon (intsOf one) (intsOf other)).map fun n => Rat.divInt n (hd (intCommon (intsOf one) (intsOf other)))
def lowest (top bottom : List Rat) : List Rat × List Rat :=
  if top = [] then ([], [1]) else
  let sh := commonOf top bottom
  let near := if sh.length > 1 then (partsOf top sh).1 else top
  let far := if sh.length > 1 then (partsOf bottom sh).1 else bottom
  (near.map (· / hd far), far.map (· / hd far))
/-- powers -/
def pw (p : List Rat) : Nat → List Rat
  | 0 => [1]
  | n + 1 => productOf (pw p n) p
/-- Σ a_i near^i far^(high - i) -/
def putS (high : Nat) (near far poly : List Rat) : Nat → List Rat
  | 0 => []
  | i + 1 => if cf poly i ≠ 0 then sumOf (putS high near far poly i) (byNumber (productOf (pw near i) (pw far (high - i))) (cf poly i)) else putS high near far poly i
theorem putS_pos {high : Nat} {near far poly : List Rat} {i : Nat} {c : Rat} (h : cf poly i = c) (h0 : c ≠ 0) : putS high near far poly (i + 1) = sumOf (putS high near far poly i) (byNumber (productOf (pw near i) (pw far (high - i))) c) := by
  show (if cf poly i ≠ 0 then sumOf (putS high near far poly i) (byNumber (productOf (pw near i) (pw far (high - i))) (cf poly i)) else putS high near far poly i) = _
  rw [h, if_pos h0]
theorem putS_neg {high : Nat} {near far poly : List Rat} {i : Nat} (h : cf poly i = 0) : putS high near far poly (i + 1) = putS high near far poly i := by
  show (if cf poly i ≠ 0 then sumOf (putS high near far poly i) (byNumber (productOf (pw near i) (pw far (high - i))) (cf poly i)) else putS high near far poly i) = _
  rw [h, if_neg (fun q => q rfl)]
theorem hd_map' {α β : Type} [Zero α] [Zero β] (f : α → β) {p : List α} (h : p ≠ []) : hd (p.map f) = f (hd p) := by
  have := List.length_pos_iff.mpr h
  unfold hd
  rw [List.length_map, cf_map f (by omega)]
theorem plainRow_tr (p : List Int) : Tr (plainRow p) := by
  by_cases h : trim p = []
  · left; unfold plainRow; rw [h]; rfl
  · right
    unfold plainRow
    rw [hd_map' _ h]
    have h0 : hd (trim p) ≠ 0 := (trim_tr p).resolve_left h
    have hg := gcdL_pos h h0
    have hdv := gcdL_dvd (hd_mem' h)
    intro z
    have hd' : ((gcdL (trim p) : Nat) : Int) ∣ hd (trim p) := Int.ofNat_dvd_left.mpr hdv
    rw [Int.fdiv_eq_ediv_of_dvd hd'] at z
    have := Int.ediv_mul_cancel hd'
    rw [z] at this
    simp at this
    exact h0 this.symm
theorem iCom_tr : ∀ (n : Nat) (a b : List Int), Tr a → Tr b → Tr (iComG n a b) := by
  intro n
  induction n with
  | zero => intro a b h _; exact h
  | succ n ih =>
    intro a b h1 h2
    unfold iComG
    split
    · exact h1
    · exact ih _ _ h2 (plainRow_tr _)
theorem intCommon_tr (a b : List Int) : Tr (intCommon a b) := iCom_tr _ _ _ (plainRow_tr _) (plainRow_tr _)
end Mt
set_option Elab.async false
set_option linter.all false
set_option maxHeartbeats 1000000
/-! M1: what the defs on places and forms compute. -/
namespace Mt
/-- the worth of a form at (a : b), from above: found and scale after i turns -/
def wS (poly : List Rat) (high : Nat) (a b : Rat) : Nat → Rat × Rat
  | 0 => (0, 1)
  | i + 1 => ((wS poly high a b i).1 * a + cf poly (high - i) * (wS poly high a b i).2, (wS poly high a b i).2 * b)
/-- a place as two numbers -/
def pair : Option Rat → Rat × Rat
  | none => (1, 0)
  | some q => (q, 1)
def placeBy (a b : Rat) : Option Rat := if b = 0 then none else some (a / b)
def worthBy (poly : List Rat) (high : Nat) (o : Option Rat) : Rat := (wS poly high (pair o).1 (pair o).2 (high + 1)).1
def degP (x : List Rat × List Rat) : Nat := max x.1.length x.2.length - 1
def worthOf (x : List Rat × List Rat) (o : Option Rat) : Option Rat := placeBy (worthBy x.1 (degP x) o) (worthBy x.2 (degP x) o)
def fillF (p : List Rat) (n : Nat) : List Rat := p ++ List.replicate (n - p.length) 0
def toldOf (f : List Rat) : List Rat := fillF (headed (trim f)) f.length
def productIn (f g : List Rat) : List Rat := toldOf (fillF (productOf (trim f) (trim g)) (f.length + g.length - 1))
def restIn (f g : List Rat) : List Rat := toldOf (fillF (partsOf (trim g) (trim f)).1 (g.length - f.length + 1))
def fibreOf (x : List Rat × List Rat) : Option Rat → List Rat
  | none => toldOf (fillF x.2 (degP x + 1))
  | some q => toldOf (fillF (lessOf x.1 (byNumber x.2 q)) (degP x + 1))
def turnPoly (x : List Rat × List Rat) : List Rat := lessOf (productOf (slopeOf x.1) x.2) (productOf x.1 (slopeOf x.2))
def turningOf (x : List Rat × List Rat) : List Rat := toldOf (fillF (turnPoly x) (2 * degP x - 1))
def partAt (x : List Rat × List Rat) (o : Option Rat) : List Rat := fibreOf x (worthOf x o)
theorem fillF_len (p : List Rat) (n : Nat) (h : p.length ≤ n) : (fillF p n).length = n := by unfold fillF; simp; omega
theorem toldOf_len (f : List Rat) : (toldOf f).length = f.length := by
  unfold toldOf
  apply fillF_len
  unfold headed
  rw [List.length_map]
  exact trim_le f
end Mt
set_option Elab.async false
set_option linter.all false
set_option maxHeartbeats 1000000
/-! M2: what the law's own defs compute. -/
namespace Mt
def lTimes (p q : List Rat) : List Rat := trim (conv p q)
def hS (p : List Rat) (x : Rat) : Nat → Rat
  | 0 => 0
  | i + 1 => hS p x i * x + cf p.reverse i
def lWorth (p : List Rat) (x : Rat) : Rat := hS p x p.length
/-- one turn of a division -/
def lFac (other rest : List Rat) : Rat := hd rest / hd other
def lSub (other rest : List Rat) : List Rat := List.replicate (rest.length - other.length) 0 ++ byNumber other (-(lFac other rest))
def lStep (other rest : List Rat) : List Rat := sumOf rest (lSub other rest)
def lG (other : List Rat) : Nat → List Rat × List Rat → List Rat × List Rat
  | 0, x => x
  | n + 1, (quo, rest) => if other.length ≤ rest.length then lG other n (pQuo other rest quo, lStep other rest) else (quo, rest)
def lDivided (one other : List Rat) : List Rat × List Rat :=
  let x := lG other (one.length + 1) (List.replicate (one.length + 1 - other.length) 0, one)
  (trim x.1, x.2)
theorem cf_zeros_app (n : Nat) (p : List Rat) (i : Nat) (h : n ≤ i) : cf (List.replicate n 0 ++ p) i = cf p (i - n) := by
  unfold cf
  rw [List.getD_eq_getElem?_getD, List.getD_eq_getElem?_getD, List.getElem?_append_right (by simpa using h)]
  simp
theorem lStep_lt {other rest : List Rat} (ho : other ≠ []) (h0 : hd other ≠ 0) (h : other.length ≤ rest.length) : (lStep other rest).length < rest.length := by
  have h1 := List.length_pos_iff.mpr ho
  have hb : (byNumber other (-(lFac other rest))).length ≤ other.length := Nat.le_trans (trim_le _) (by simp)
  have hl : (addL rest (lSub other rest)).length = rest.length := by
    rw [addL_len]; unfold lSub; simp; omega
  unfold lStep sumOf
  rw [← hl]
  have ne : addL rest (lSub other rest) ≠ [] := List.ne_nil_of_length_pos (by rw [hl]; omega)
  apply trim_lt ne
  unfold hd
  rw [hl, cf_addL]
  unfold lSub
  rw [cf_zeros_app _ _ _ (by omega)]
  unfold byNumber
  rw [cf_trim, cf_map _ (by omega)]
  have e : rest.length - 1 - (rest.length - other.length) = other.length - 1 := by omega
  rw [e]
  unfold lFac hd
  unfold hd at h0
  grind
theorem lG_more {other : List Rat} (ho : other ≠ []) (h0 : hd other ≠ 0) : ∀ (n m : Nat) (x : List Rat × List Rat), x.2.length < n → n ≤ m → lG other m x = lG other n x := by
  intro n
  induction n with
  | zero => intro m x h; omega
  | succ n ih =>
    intro m x h1 h2
    cases m with
    | zero => omega
    | succ m =>
      obtain ⟨quo, rest⟩ := x
      unfold lG
      split
      · rename_i h
        exact ih m _ (by have := lStep_lt ho h0 h; simp only at h1 ⊢; omega) (by omega)
      · rfl
theorem lG_step {other quo rest : List Rat} (ho : other ≠ []) (h0 : hd other ≠ 0) (h : other.length ≤ rest.length) : lG other (rest.length + 1) (quo, rest) = lG other ((lStep other rest).length + 1) (pQuo other rest quo, lStep other rest) := by
  rw [lG, if_pos h]
  have := lStep_lt ho h0 h
  exact lG_more ho h0 _ _ _ (by simp) (by omega)
theorem lG_end {other quo rest : List Rat} (h : ¬ other.length ≤ rest.length) : lG other (rest.length + 1) (quo, rest) = (quo, rest) := by
  rw [lG, if_neg h]
theorem lG_lt {other : List Rat} (ho : other ≠ []) (h0 : hd other ≠ 0) : ∀ (n : Nat) (x : List Rat × List Rat), x.2.length < n → (lG other n x).2.length < other.length := by
  intro n
  induction n with
  | zero => intro x h; omega
  | succ n ih =>
    intro x h
    obtain ⟨quo, rest⟩ := x
    unfold lG
    split
    · rename_i h2
      exact ih _ (by have := lStep_lt ho h0 h2; simp only at h ⊢; omega)
    · simp only at h ⊢; omega
theorem lDivided_lt {one other : List Rat} (ho : other ≠ []) (h0 : hd other ≠ 0) : (lDivided one other).2.length < other.length := lG_lt ho h0 _ _ (Nat.lt_succ_self _)
theorem lG_tr {other : List Rat} : ∀ (n : Nat) (x : List Rat × List Rat), Tr x.2 → Tr (lG other n x).2 := by
  intro n
  induction n with
  | zero => intro x h; exact h
  | succ n ih =>
    intro x h
    obtain ⟨quo, rest⟩ := x
    unfold lG
    split
    · exact ih _ (trim_tr _)
    · exact h
theorem lDivided_tr {one other : List Rat} (h : Tr one) : Tr (lDivided one other).2 := lG_tr _ _ h
def lComG : Nat → List Rat → List Rat → List Rat
  | 0, a, _ => a
  | n + 1, a, b => if b = [] then a else lComG n b (lDivided a b).2
def lNear (one other : List Rat) : List Rat := lComG (other.length + 1) one other
def lCommon (one other : List Rat) : List Rat := if lNear one other = [] then [] else byNumber (lNear one other) (1 / hd (lNear one other))
theorem lComG_more : ∀ (n m : Nat) (a b : List Rat), Tr b → Tr a → b.length < n → n ≤ m → lComG m a b = lComG n a b := by
  intro n
  induction n with
  | zero => intro m a b _ _ h; omega
  | succ n ih =>
    intro m a b t1 t2 h1 h2
    cases m with
    | zero => omega
    | succ m =>
      unfold lComG
      split
      · rfl
      · rename_i h
        have h0 := t1.resolve_left h
        exact ih m _ _ (lDivided_tr t2) t1 (by have := lDivided_lt (one := a) h h0; omega) (by omega)
theorem lComG_step {a b : List Rat} (h : b ≠ []) (t1 : Tr b) (t2 : Tr a) : lComG (b.length + 1) a b = lComG ((lDivided a b).2.length + 1) b (lDivided a b).2 := by
  rw [lComG, if_neg h]
  have h0 := t1.resolve_left h
  have := lDivided_lt (one := a) h h0
  exact lComG_more _ _ _ _ (lDivided_tr t2) t1 (by omega) (by omega)
theorem lComG_end {a : List Rat} : lComG (([] : List Rat).length + 1) a [] = a := by
  rw [lComG, if_pos rfl]
def lHeaded (f : List Rat) : List Rat := f.map (· / hd (trim f))
def lLowest (top bottom : List Rat) : List Rat × List Rat :=
  let near := (lDivided top (lCommon top bottom)).1
  let far := (lDivided bottom (lCommon top bottom)).1
  (byNumber near (1 / hd far), byNumber far (1 / hd far))
def lWorthAt (x : List Rat × List Rat) : Option Rat → Option Rat
  | none => if x.1.length > x.2.length then none else if x.1.length = x.2.length then some (hd x.1 / hd x.2) else some 0
  | some q => if lWorth x.2 q = 0 then none else some (lWorth x.1 q / lWorth x.2 q)
def lFibre (x : List Rat × List Rat) : Option Rat → List Rat
  | none => lHeaded (fillF x.2 (degP x + 1))
  | some q => lHeaded (fillF (sumOf x.1 (byNumber x.2 (-q))) (degP x + 1))
def lPart (x : List Rat × List Rat) (o : Option Rat) : List Rat := lFibre x (lWorthAt x o)
/-- entry · inner.1^at · inner.2^(high - at), after t turns -/
def tS (inner : List Rat × List Rat) (entry : Rat) (at_ : Nat) : Nat → List Rat
  | 0 => if entry ≠ 0 then [entry] else []
  | t + 1 => lTimes (tS inner entry at_ t) (if t < at_ then inner.1 else inner.2)
def totS (poly : List Rat) (inner : List Rat × List Rat) (high : Nat) : Nat → List Rat
  | 0 => []
  | i + 1 => sumOf (totS poly inner high i) (tS inner (cf poly i) i high)
def ofT (x inner : List Rat × List Rat) : List Rat := totS x.1 inner (degP x) x.1.length
def ofB (x inner : List Rat × List Rat) : List Rat := totS x.2 inner (degP x) x.2.length
def lOf (x inner : List Rat × List Rat) : List Rat × List Rat := (byNumber (ofT x inner) (1 / hd (ofB x inner)), byNumber (ofB x inner) (1 / hd (ofB x inner)))
def ledT (form : List Rat) (inner : List Rat × List Rat) : List Rat := totS form inner (form.length - 1) form.length
def lLed (form : List Rat) (inner : List Rat × List Rat) : List Rat := lHeaded (fillF (ledT form inner) ((form.length - 1) * degP inner + 1))
end Mt
set_option Elab.async false
set_option linter.all false
set_option maxRecDepth 100000
set_option maxHeartbeats 1000000
/-! R1: whole numbers, Ratios. -/
namespace Wk
open PySem PySem.Spec PyProof.Rows L2 Ty Tx
/-- a Ratio of the worth q -/
def tQ (K : PySem.W.Frag) (q : Rat) : Pd := tO (rA K) [("own_top", tI q.num), ("own_bottom", tI q.den)]
def Bq (q : Rat) : Prop := Bg q.num ∧ Bg (q.den : Int)
/-! the arithmetic of the class -/
theorem den_ne (q : Rat) : (q.den : Int) ≠ 0 := by have := q.den_nz; omega
theorem fdiv_exact {a c : Int} (hc : c ≠ 0) (h : c ∣ a) : a.fdiv c = a / c := by
  rw [Int.fdiv_eq_ediv_of_dvd h]
/-- the sign of the bottom goes into the common divisor -/
def comm (a b : Int) : Int := if b < 0 then 0 - ((Nat.gcd a.natAbs b.natAbs : Nat) : Int) else ((Nat.gcd a.natAbs b.natAbs : Nat) : Int)
theorem gcd_pos {a b : Int} (hb : b ≠ 0) : 0 < Nat.gcd a.natAbs b.natAbs := Nat.gcd_pos_of_pos_right _ (by omega)
theorem comm_ne {a b : Int} (hb : b ≠ 0) : comm a b ≠ 0 := by
  have h := gcd_pos (a := a) hb
  unfold comm
  split <;> omega
theorem comm_eq {a b : Int} (hb : b ≠ 0) : comm a b = b.sign * ((Int.gcd b a : Nat) : Int) := by
  unfold comm
  have e : (Nat.gcd a.natAbs b.natAbs) = Int.gcd b a := by rw [Int.gcd_comm]; rfl
  rw [e]
  split
  · rename_i h
    rw [Int.sign_eq_neg_one_of_neg h]; omega
  · rw [Int.sign_eq_one_of_pos (by omega)]; omega
theorem sgn_sq {b : Int} (hb : b ≠ 0) : b.sign * b.sign = 1 := by
  rcases Int.lt_or_gt_of_ne hb with h | h
  · rw [Int.sign_eq_neg_one_of_neg h]; rfl
  · rw [Int.sign_eq_one_of_pos h]; rfl
theorem cancel {s g m : Int} (hs : s * s = 1) (hg : g ≠ 0) : (g * m).fdiv (s * g) = s * m ∧ (g * m) = (s * g) * (s * m) := by
  have e : g * m = (s * g) * (s * m) := by
    have : s * g * (s * m) = (s * s) * (g * m) := by ac_rfl
    rw [this, hs, Int.one_mul]
  have hs0 : s ≠ 0 := by intro z; rw [z] at hs; cases hs
  have h0 : s * g ≠ 0 := Int.mul_ne_zero hs0 hg
  refine ⟨?_, e⟩
  rw [e, fdiv_exact h0 ⟨s * m, rfl⟩, Int.mul_ediv_cancel_left _ h0]
theorem gcd0 {a b : Int} (hb : b ≠ 0) : ((Int.gcd b a : Nat) : Int) ≠ 0 := by
  have hc := comm_ne (a := a) hb
  intro z; rw [comm_eq hb, z, Int.mul_zero] at hc; exact hc rfl
theorem top_eq {a b : Int} (hb : b ≠ 0) : a.fdiv (comm a b) = (Rat.divInt a b).num := by
  obtain ⟨m, hm⟩ := Int.gcd_dvd_right b a
  have hg := gcd0 (a := a) hb
  rw [Rat.num_divInt, comm_eq hb]
  generalize ((Int.gcd b a : Nat) : Int) = g at hm hg ⊢
  subst hm
  rw [(cancel (sgn_sq hb) hg).1]
  have e1 : b.sign * (g * m) = g * (b.sign * m) := by ac_rfl
  rw [e1, Int.mul_ediv_cancel_left _ hg]
theorem bot_eq {a b : Int} (hb : b ≠ 0) : b.fdiv (comm a b) = ((Rat.divInt a b).den : Int) := by
  obtain ⟨m, hm⟩ := Int.gcd_dvd_left b a
  have hg := gcd0 (a := a) hb
  have e4 : ((b.natAbs : Nat) : Int) = b.sign * b := by
    rcases Int.lt_or_gt_of_ne hb with h | h
    · rw [Int.sign_eq_neg_one_of_neg h]; omega
    · rw [Int.sign_eq_one_of_pos h]; omega
  rw [Rat.den_divInt, if_neg hb, Int.natCast_ediv, e4, comm_eq hb]
  have hs := sgn_sq hb
  generalize ((Int.gcd b a : Nat) : Int) = g at hm hg ⊢
  generalize b.sign = s at hs ⊢
  rw [hm, (cancel hs hg).1]
  have e1 : s * (g * m) = g * (s * m) := by ac_rfl
  rw [e1, Int.mul_ediv_cancel_left _ hg]
theorem add_eq (p q : Rat) : Rat.divInt (p.num * q.den + q.num * p.den) (p.den * q.den) = p + q := by
  rw [← Rat.divInt_add_divInt _ _ (den_ne p) (den_ne q), Rat.num_divInt_den, Rat.num_divInt_den]
theorem sub_eq (p q : Rat) : Rat.divInt (p.num * q.den - q.num * p.den) (p.den * q.den) = p - q := by
  have e : p.num * q.den - q.num * p.den = p.num * q.den + (-q.num) * p.den := by rw [Int.neg_mul]; omega
  rw [e, ← Rat.divInt_add_divInt _ _ (den_ne p) (den_ne q), Rat.num_divInt_den, ← Rat.neg_divInt, Rat.num_divInt_den, Rat.sub_eq_add_neg]
theorem mul_eq (p q : Rat) : Rat.divInt (p.num * q.num) (p.den * q.den) = p * q := by
  rw [← Rat.divInt_mul_divInt, Rat.num_divInt_den, Rat.num_divInt_den]
theorem num_ne {q : Rat} (h : q ≠ 0) : q.num ≠ 0 := fun z => h (Rat.num_eq_zero.mp z)
theorem div_eq (p : Rat) {q : Rat} (h : q ≠ 0) : Rat.divInt (p.num * q.den) (p.den * q.num) = p / q := by
  rw [Rat.div_def, Rat.inv_def, ← Rat.divInt_mul_divInt, Rat.num_divInt_den]
theorem neg_eq (p : Rat) : Rat.divInt (0 - p.num) p.den = -p := by
  have e : 0 - p.num = -p.num := by omega
  rw [e, ← Rat.neg_divInt, Rat.num_divInt_den]
theorem int_eq (i : Int) : Rat.divInt i 1 = (i : Rat) := by rw [← Rat.num_divInt_den (i : Rat)]; rfl
section
variable {P : Program} {w : World} {K : PySem.W.Frag} {mg : Str → Option Value} {base : Heap}
theorem tyI (i : Int) : ∀ v H, (tI i).p v H → TyX K H v (.type "int") := fun v H h => by cases h; exact .base (.int _)
theorem tyO (z : Wf P w K mg base) {c : Str} (hc : Cls K (He.ga K c)) (x : clsX K (He.ga K c) = true) {fs : List (Str × Pd)} : ∀ v H, (tO (He.ga K c) fs).p v H → TyX K H v (.ref (He.ga K c)) := fun v H ⟨a, dx, gs, e1, e2, _⟩ => by
  subst e1
  obtain ⟨x1, x2⟩ := He.ba x
  exact .base (.ins e2 hc (bIs_ok x1) (bIs_ok (z.c.x 10 rfl)) (bSub_ok (z.c.x 11 rfl)) (bSub_ok x2))
theorem tyQ (z : Wf P w K mg base) (q : Rat) : ∀ v H, (tQ K q).p v H → TyX K H v (.ref (rA K)) := tyO z z.c_Ratio (z.c.x 7 rfl)
theorem fnb {f : Addr} {fd : FuncData} {x : Str} {k : Nat} {ps : List Str} {sp : Sp} (h1 : mg x = some (.ref f)) (h2 : PySem.W.keepIn K (.ref f) = true) (h3 : Binds K fd ps []) (h4 : FnOk P w K mg base CX0 k f fd ps sp) : Fn P w K mg base x k ps sp := ⟨f, fd, h1, h2, h3, h4⟩

theorem scIsInteger : FnScope ["value"] ["value"] (defScope sIsInteger) := ⟨rfl, rfl, rfl, by decide +kernel, rfl, by decide +kernel, by decide +kernel⟩
theorem c_isInteger_int (z : Wf P w K mg base) : Fn P w K mg base "is_integer" 33 ["value"] (spT (fun _ : Int => True) (fun i => [tI i]) fun _ => tB true) := by
  obtain ⟨fd, F⟩ := z.c.fIsInteger
  refine fnb z.g_is_integer F.kp (FunD.bindsN F fun _ _ _ _ _ _ us hl => match us, hl with | [_], _ => rfl) ?_
  refine fn_ty F scIsInteger (fun _ => rfl) fun cdv B outer s H E G y Hb _ => ?_
  exact bl_ret (ex_and (ex_isi (ex_v 0) (ex_ty "int" z.b_int) (.ty "int") (tyI y) (kit_ty (r := true) (by decide +kernel)) z.b_isinstance)
    fun _ => ex_one (ex_not (ex_isi (ex_v 0) (ex_ty "bool" z.b_bool) (.ty "bool") (tyI y) (kit_ty (r := false) (by decide +kernel)) z.b_isinstance)))
theorem c_isInteger_q (z : Wf P w K mg base) : Fn P w K mg base "is_integer" 33 ["value"] (spT (fun _ : Rat => True) (fun q => [tQ K q]) fun _ => tB false) := by
  obtain ⟨fd, F⟩ := z.c.fIsInteger
  refine fnb z.g_is_integer F.kp (FunD.bindsN F fun _ _ _ _ _ _ us hl => match us, hl with | [_], _ => rfl) ?_
  refine fn_ty F scIsInteger (fun _ => rfl) fun cdv B outer s H E G y Hb _ => ?_
  exact bl_ret (ex_and (l := false) (ex_isi (ex_v 0) (ex_ty "int" z.b_int) (.ty "int") (tyQ z y) (r := false) (bSub_ok (z.c.x 27 rfl)) z.b_isinstance) fun h => by cases h)
theorem c_isInteger_s (z : Wf P w K mg base) : Fn P w K mg base "is_integer" 33 ["value"] (spT (fun _ : Str => True) (fun q => [tV (.str q)]) fun _ => tB false) := by
  obtain ⟨fd, F⟩ := z.c.fIsInteger
  refine fnb z.g_is_integer F.kp (FunD.bindsN F fun _ _ _ _ _ _ us hl => match us, hl with | [_], _ => rfl) ?_
  refine fn_ty F scIsInteger (fun _ => rfl) fun cdv B outer s H E G y Hb _ => ?_
  exact bl_ret (ex_and (l := false) (ex_isi (ex_v 0) (ex_ty "int" z.b_int) (.ty "int") (fun v H h => by cases h; exact .base (.str _)) (kit_ty (r := false) (by decide +kernel)) z.b_isinstance) fun h => by cases h)
theorem scDivisorOf : FnScope ["one", "other"] ["one", "other"] (defScope sDivisorOf) := ⟨rfl, rfl, rfl, by decide +kernel, rfl, by decide +kernel, by decide +kernel⟩
theorem c_divisorOf (z : Wf P w K mg base) : Fn P w K mg base "divisor_of" 33 ["one", "other"] (spT (fun _ : Int × Int => True) (fun y => [tI y.1, tI y.2]) fun y => tI ((Nat.gcd y.1.natAbs y.2.natAbs : Nat) : Int)) := by
  obtain ⟨fd, F⟩ := z.c.fDivisorOf
  refine fnb z.g_divisor_of F.kp (FunD.bindsN F fun _ _ _ _ _ _ us hl => match us, hl with | [_, _], _ => rfl) ?_
  refine fn_ty F scDivisorOf (fun _ => rfl) fun cdv B outer s H E G y Hb _ => ?_
  exact bl_ret (ex_gcd (exa_cons (ex_v 0) (exa_cons (ex_v 1) exa_nil)) z.gcd)
theorem scRatioInit : FnScope ["self", "top", "bottom", "common"] ["self", "top", "bottom"] (defScope sRatio_Init) := ⟨rfl, rfl, rfl, by decide +kernel, rfl, by decide +kernel, by decide +kernel⟩
theorem wfDeep {N : List Str} {qual : Str} {scope : Scope} {f : Addr} {cd : Value} {A : Around} {outer : List Env} {s : Shared} {H : Hp} {E : XK} (z : Wf P w K mg base) (hg : scope.isGenerator = false) (hc : scope.isCoroutine = false) : Deep (cxB P w K mg base N qual scope f cd A outer s H E) := deep_cx z.seer z.tree hg hc
abbrev spRatio (K : PySem.W.Frag) : Sp := spI (rA K) (fun y : Int × Int => y.2 ≠ 0) (fun y => [tI y.1, tI y.2]) fun y => [("own_top", tI (Rat.divInt y.1 y.2).num), ("own_bottom", tI (Rat.divInt y.1 y.2).den)]
theorem c_ratioInit (z : Wf P w K mg base) : ∃ fd, FnOk P w K mg base CX0 34 (He.ma K (He.ga K "Ratio") "__init__") fd ["self", "top", "bottom"] (spRatio K) ∧ Binds K fd ["self", "top", "bottom"] [] ∧ ∃ ds, Vals [.int 1] ds ∧ Binds K fd ["self", "top", "bottom"] ds := by
  obtain ⟨fd, F⟩ := z.c.fRatio_Init
  refine ⟨fd, ?_, ?_, FunD.binds1 F 2 0 (by decide) rfl fun T kV doc pm an cdv ct us its h1 h2 => ?_⟩
  · refine fn_init F scRatioInit (fun _ => rfl) fun cdv B outer s H E G y Hb a dx hp ha hb => ?_
    obtain ⟨t, b⟩ := y
    have hb0 : b ≠ 0 := hp
    refine bl_ifr (ext_not (ext_val (ex_call (c_isInteger_int z) G t (by decide) (exa_cons (ex_v 1) exa_nil) trivial))) (fun h => by cases h) fun _ => ?_
    refine bl_ifr (EXW.ext (exw_or (ext_not (ext_val (ex_call (c_isInteger_int z) G b (by decide) (exa_cons (ex_v 2) exa_nil) trivial))) fun _ => exw_or1 ((ext_eqi (ex_v 2) ex_int).eq (decide_eq_false hb0)))) (fun h => by cases h) fun _ => ?_
    refine bl_set 3 G (ex_call (c_divisorOf z) G (t, b) (by decide) (exa_cons (ex_v 1) (exa_cons (ex_v 2) exa_nil)) trivial) ?_
    refine bl_ifj [.val (tV (.ref a)), .val (tI t), .val (tI b), .val (tI (comm t b))] (ext_lt (ex_v 2) ex_int) (fun h => ?_) (fun h => ?_) ?_
    · refine bl_set 3 G (ex_sub ex_int (ex_v 3)) (bl_fin (.same (.same (.same (.val ?_ .nil)))) rfl)
      show tI _ = tI _
      unfold comm
      rw [if_pos (of_decide_eq_true h)]
    · refine bl_fin (.same (.same (.same (.val ?_ .nil)))) rfl
      show tI _ = tI _
      unfold comm
      rw [if_neg (of_decide_eq_false h)]
    · have D := wfDeep z (N := ["self", "top", "bottom", "common"]) (qual := "Ratio.__init__") (scope := defScope sRatio_Init) (f := plA K (.meth "Ratio" "__init__")) (cd := cdv) (A := B) (outer := outer) (s := s) (H := H) (E := E) rfl rfl
      refine init2 z.c_Ratio z.a_Ratio_own_top z.a_Ratio_own_bottom (by decide +kernel) ha hb rfl ((ex_fdiv D G (by decide) (ex_v 1) (ex_v 3) (comm_ne hb0)).eq (by rw [top_eq hb0])) ((ex_fdiv D G (by decide) (ex_v 2) (ex_v 3) (comm_ne hb0)).eq (by rw [bot_eq hb0]))
  · obtain ⟨ds, hd, hb⟩ := FunD.binds1 F (ps := ["self", "top", "bottom"]) 3 1 (by decide) rfl fun T kV doc pm an cdv ct us its h1 h2 => match us, h1, its, h2 with | [_, _, _], _, [_], _ => ⟨_, rfl, rfl⟩
    cases hd
    exact hb
  · exact match us, h1, its, h2 with | [_, _], _, [_], _ => ⟨_, rfl, rfl⟩
end
end Wk
set_option Elab.async false
set_option linter.all false
set_option maxRecDepth 100000
set_option maxHeartbeats 1000000
/-! R2: the rest of the Ratios. -/
namespace Wk
open PySem PySem.Spec PyProof.Rows L2 Ty Tx
theorem Bg.one : Bg 1 := Bg.of (a := 1) (by decide) (by decide)
theorem Bg.zero : Bg 0 := Bg.of (a := 1) (by decide) (by decide)
theorem Bg.negOne : Bg (-1) := Bg.of (a := 1) (by decide) (by decide)
section
variable {P : Program} {w : World} {K : PySem.W.Frag} {mg : Str → Option Value} {base : Heap} {j : Nat} {X : Cx} {Γ : List Sl} {e a b c : Expr} {pos p : Pos}
/-- what a walk of the class's own gives -/
theorem ex_top (z : Wf P w K mg base) (hX : X.K = K) {q : Rat} (h : EX X Γ e (tQ K q)) (hb : attributeBase e "own_top" X.env (eval e X.env) = eval e X.env := by rfl) : EX X Γ (.Attribute e "own_top" pos) (tI q.num) := ex_fld h rfl (hX ▸ z.c_Ratio) (hX ▸ z.a_Ratio_own_top) hb
theorem ex_bot (z : Wf P w K mg base) (hX : X.K = K) {q : Rat} (h : EX X Γ e (tQ K q)) (hb : attributeBase e "own_bottom" X.env (eval e X.env) = eval e X.env := by rfl) : EX X Γ (.Attribute e "own_bottom" pos) (tI q.den) := ex_fld h rfl (hX ▸ z.c_Ratio) (hX ▸ z.a_Ratio_own_bottom) hb
theorem ex_mkQ2 (z : Wf P w K mg base) (G : Good P w K mg base j X) (hk : 35 ≤ j) {t u : Int} (ha : EX X Γ a (tI t)) (hb : EX X Γ b (tI u)) (hu : u ≠ 0) (hg : Gl X "Ratio" := by rfl) (he : starEach [a, b] X.env = (false, eval a X.env) :: starEach [b] X.env := by rfl) (he2 : starEach [b] X.env = (false, eval b X.env) :: starEach [] X.env := by rfl) (hpl : (backTo pos (starEach [b] X.env)).any (·.1) = false := by rfl) :
    EX X Γ (.Call (.Name "Ratio" p) [a, b] [] pos) (tQ K (Rat.divInt t u)) := by
  obtain ⟨fd, F, bd, _⟩ := c_ratioInit z
  exact ex_make (Ds := []) (dvs := []) z.m_Ratio F G hk (G.hm ▸ z.g_Ratio) bd .nil (t, u) (exa_cons ha (exa_cons hb exa_nil he2) he) rfl (fun _ => .nil) hu hg (by decide) he hpl
theorem ex_mkQ1 (z : Wf P w K mg base) (G : Good P w K mg base j X) (hk : 35 ≤ j) {t : Int} (ha : EX X Γ a (tI t)) (hg : Gl X "Ratio" := by rfl) (he : starEach [a] X.env = (false, eval a X.env) :: starEach [] X.env := by rfl) (hpl : (backTo pos (starEach [] X.env)).any (·.1) = false := by rfl) :
    EX X Γ (.Call (.Name "Ratio" p) [a] [] pos) (tQ K (t : Rat)) := by
  obtain ⟨fd, F, _, ds, hd, bd⟩ := c_ratioInit z
  rw [← int_eq]
  exact ex_make (Ds := [tI 1]) (dvs := [.int 1]) z.m_Ratio F G hk (G.hm ▸ z.g_Ratio) bd hd (t, 1) (exa_cons ha exa_nil he) rfl (fun _ => .cons rfl .nil) (show (1 : Int) ≠ 0 by decide) hg (by decide) he hpl
/-- the class's name -/
theorem ex_nmR (z : Wf P w K mg base) (hm : X.mg = mg) (hg : Gl X "Ratio" := by rfl) : EX X Γ (.Name "Ratio" pos) (tV (.ref (rA K))) := ex_glob (hm ▸ z.g_Ratio) rfl hg
theorem ex_isQ (z : Wf P w K mg base) (G : Good P w K mg base j X) {q : Rat} (h : EX X Γ e (tQ K q)) (hg : Gl X "isinstance" := by rfl) (hg2 : Gl X "Ratio" := by rfl) {p2 : Pos}
    (he : starEach [e, .Name "Ratio" p2] X.env = (false, eval e X.env) :: starEach [.Name "Ratio" p2] X.env := by rfl) (he2 : starEach [.Name "Ratio" p2] X.env = (false, eval (.Name "Ratio" p2) X.env) :: starEach [] X.env := by rfl) (hpl : (backTo pos (starEach [.Name "Ratio" p2] X.env)).any (·.1) = false := by rfl) : EX X Γ (.Call (.Name "isinstance" p) [e, .Name "Ratio" p2] [] pos) (tB true) :=
  ex_isi h (ex_nmR z G.hm hg2) (.own _) (by rw [G.hK]; exact tyQ z q) (by rw [G.hK]; exact bSub_ok (z.c.x 28 rfl)) (G.hm ▸ z.b_isinstance) hg he he2 hpl
theorem ex_isQi (z : Wf P w K mg base) (G : Good P w K mg base j X) {i : Int} (h : EX X Γ e (tI i)) (hg : Gl X "isinstance" := by rfl) (hg2 : Gl X "Ratio" := by rfl) {p2 : Pos}
    (he : starEach [e, .Name "Ratio" p2] X.env = (false, eval e X.env) :: starEach [.Name "Ratio" p2] X.env := by rfl) (he2 : starEach [.Name "Ratio" p2] X.env = (false, eval (.Name "Ratio" p2) X.env) :: starEach [] X.env := by rfl) (hpl : (backTo pos (starEach [.Name "Ratio" p2] X.env)).any (·.1) = false := by rfl) : EX X Γ (.Call (.Name "isinstance" p) [e, .Name "Ratio" p2] [] pos) (tB false) :=
  ex_isi h (ex_nmR z G.hm hg2) (.own _) (tyI i) (by rw [G.hK]; exact bSub_ok (z.c.x 29 rfl)) (G.hm ▸ z.b_isinstance) hg he he2 hpl

theorem sc_c_toldPair_q : FnScope ["value"] ["value"] (defScope sToldPair) := ⟨rfl, rfl, rfl, by decide +kernel, rfl, by decide +kernel, by decide +kernel⟩
theorem c_toldPair_q (z : Wf P w K mg base) : Fn P w K mg base "told_pair" 34 ["value"] (spT (fun y : Rat => True) (fun y => [tQ K y]) fun y => tU [tI y.num, tI y.den]) := by
  obtain ⟨fd, F⟩ := z.c.fToldPair
  refine fnb z.g_told_pair F.kp (FunD.bindsN F fun _ _ _ _ _ _ us hl => match us, hl with | [_], _ => rfl) ?_
  refine fn_ty F sc_c_toldPair_q (fun _ => rfl) fun cdv B outer s H E G y Hb hp => ?_
  exact bl_ifr (ext_val (ex_isQ z G (ex_v 0))) (fun _ => bl_ret (ex_tup (exa_cons (ex_top z rfl (ex_v 0)) (exa_cons (ex_bot z rfl (ex_v 0)) exa_nil)) (Nat.le_of_ble_eq_true rfl))) (fun h => by cases h)
theorem sc_c_toldPair_i : FnScope ["value"] ["value"] (defScope sToldPair) := ⟨rfl, rfl, rfl, by decide +kernel, rfl, by decide +kernel, by decide +kernel⟩
theorem c_toldPair_i (z : Wf P w K mg base) : Fn P w K mg base "told_pair" 34 ["value"] (spT (fun y : Int => True) (fun y => [tI y]) fun y => tU [tI y, tI 1]) := by
  obtain ⟨fd, F⟩ := z.c.fToldPair
  refine fnb z.g_told_pair F.kp (FunD.bindsN F fun _ _ _ _ _ _ us hl => match us, hl with | [_], _ => rfl) ?_
  refine fn_ty F sc_c_toldPair_i (fun _ => rfl) fun cdv B outer s H E G y Hb hp => ?_
  refine bl_ifr (ext_val (ex_isQi z G (ex_v 0))) (fun h => by cases h) fun _ => ?_
  refine bl_ifr (ext_not (ext_val (ex_call (c_isInteger_int z) G y (by decide) (exa_cons (ex_v 0) exa_nil) trivial))) (fun h => by cases h) fun _ => ?_
  exact bl_ret (ex_tup (exa_cons (ex_v 0) (exa_cons ex_int exa_nil)) (Nat.le_of_ble_eq_true rfl))
theorem sc_c_isNumber_q : FnScope ["value"] ["value"] (defScope sIsNumber) := ⟨rfl, rfl, rfl, by decide +kernel, rfl, by decide +kernel, by decide +kernel⟩
theorem c_isNumber_q (z : Wf P w K mg base) : Fn P w K mg base "is_number" 34 ["value"] (spT (fun y : Rat => True) (fun y => [tQ K y]) fun y => tB true) := by
  obtain ⟨fd, F⟩ := z.c.fIsNumber
  refine fnb z.g_is_number F.kp (FunD.bindsN F fun _ _ _ _ _ _ us hl => match us, hl with | [_], _ => rfl) ?_
  refine fn_ty F sc_c_isNumber_q (fun _ => rfl) fun cdv B outer s H E G y Hb hp => ?_
  exact bl_ret (ex_or (l := true) (ex_call (c_isInteger_q z) G y (by decide) (exa_cons (ex_v 0) exa_nil) trivial) fun _ => ex_one (ex_isQ z G (ex_v 0)))
theorem sc_c_isNumber_i : FnScope ["value"] ["value"] (defScope sIsNumber) := ⟨rfl, rfl, rfl, by decide +kernel, rfl, by decide +kernel, by decide +kernel⟩
theorem c_isNumber_i (z : Wf P w K mg base) : Fn P w K mg base "is_number" 34 ["value"] (spT (fun y : Int => True) (fun y => [tI y]) fun y => tB true) := by
  obtain ⟨fd, F⟩ := z.c.fIsNumber
  refine fnb z.g_is_number F.kp (FunD.bindsN F fun _ _ _ _ _ _ us hl => match us, hl with | [_], _ => rfl) ?_
  refine fn_ty F sc_c_isNumber_i (fun _ => rfl) fun cdv B outer s H E G y Hb hp => ?_
  exact bl_ret (ex_or (l := true) (ex_call (c_isInteger_int z) G y (by decide) (exa_cons (ex_v 0) exa_nil) trivial) fun h => by cases h)
theorem sc_c_ratioOf_q : FnScope ["number"] ["number"] (defScope sRatioOf) := ⟨rfl, rfl, rfl, by decide +kernel, rfl, by decide +kernel, by decide +kernel⟩
theorem c_ratioOf_q (z : Wf P w K mg base) : Fn P w K mg base "ratio_of" 36 ["number"] (spT (fun y : Rat => True) (fun y => [tQ K y]) fun y => tQ K y) := by
  obtain ⟨fd, F⟩ := z.c.fRatioOf
  refine fnb z.g_ratio_of F.kp (FunD.bindsN F fun _ _ _ _ _ _ us hl => match us, hl with | [_], _ => rfl) ?_
  refine fn_ty F sc_c_ratioOf_q (fun _ => rfl) fun cdv B outer s H E G y Hb hp => ?_
  exact bl_ret (ex_if (ext_val (ex_isQ z G (ex_v 0))) (fun _ => ex_v 0) (fun h => by cases h))
theorem sc_c_ratioOf_i : FnScope ["number"] ["number"] (defScope sRatioOf) := ⟨rfl, rfl, rfl, by decide +kernel, rfl, by decide +kernel, by decide +kernel⟩
theorem c_ratioOf_i (z : Wf P w K mg base) : Fn P w K mg base "ratio_of" 36 ["number"] (spT (fun y : Int => True) (fun y => [tI y]) fun y => tQ K (y : Rat)) := by
  obtain ⟨fd, F⟩ := z.c.fRatioOf
  refine fnb z.g_ratio_of F.kp (FunD.bindsN F fun _ _ _ _ _ _ us hl => match us, hl with | [_], _ => rfl) ?_
  refine fn_ty F sc_c_ratioOf_i (fun _ => rfl) fun cdv B outer s H E G y Hb hp => ?_
  exact bl_ret (ex_if (ext_val (ex_isQi z G (ex_v 0))) (fun h => by cases h) (fun _ => ex_mkQ1 z G (by decide) (ex_v 0)))
theorem sc_m_top : FnScope ["self"] ["self"] (defScope sRatio_Top) := ⟨rfl, rfl, rfl, by decide +kernel, rfl, by decide +kernel, by decide +kernel⟩
theorem m_top (z : Wf P w K mg base) : ∃ fd, FnOk P w K mg base CX0 33 (plA K (.get "Ratio" "top")) fd ["self"] (spT (fun y : Rat => True) (fun y => [tQ K y]) fun y => tI y.num) ∧ Binds K fd ["self"] [] := by
  obtain ⟨fd, F⟩ := z.c.fRatio_Top
  refine ⟨fd, ?_, (FunD.bindsN F fun _ _ _ _ _ _ us hl => match us, hl with | [_], _ => rfl)⟩
  refine fn_ty F sc_m_top (fun _ => rfl) fun cdv B outer s H E G y Hb hp => ?_
  exact bl_ret (ex_top z rfl (ex_v 0))
theorem sc_m_bottom : FnScope ["self"] ["self"] (defScope sRatio_Bottom) := ⟨rfl, rfl, rfl, by decide +kernel, rfl, by decide +kernel, by decide +kernel⟩
theorem m_bottom (z : Wf P w K mg base) : ∃ fd, FnOk P w K mg base CX0 33 (plA K (.get "Ratio" "bottom")) fd ["self"] (spT (fun y : Rat => True) (fun y => [tQ K y]) fun y => tI y.den) ∧ Binds K fd ["self"] [] := by
  obtain ⟨fd, F⟩ := z.c.fRatio_Bottom
  refine ⟨fd, ?_, (FunD.bindsN F fun _ _ _ _ _ _ us hl => match us, hl with | [_], _ => rfl)⟩
  refine fn_ty F sc_m_bottom (fun _ => rfl) fun cdv B outer s H E G y Hb hp => ?_
  exact bl_ret (ex_bot z rfl (ex_v 0))
theorem sc_m_sign : FnScope ["self"] ["self"] (defScope sRatio_Sign) := ⟨rfl, rfl, rfl, by decide +kernel, rfl, by decide +kernel, by decide +kernel⟩
theorem m_sign (z : Wf P w K mg base) : ∃ fd, FnOk P w K mg base CX0 33 (plA K (.get "Ratio" "sign")) fd ["self"] (spT (fun y : Rat => True) (fun y => [tQ K y]) fun y => tI ((if decide (0 < y.num) then 1 else 0) - (if decide (y.num < 0) then 1 else 0))) ∧ Binds K fd ["self"] [] := by
  obtain ⟨fd, F⟩ := z.c.fRatio_Sign
  refine ⟨fd, ?_, (FunD.bindsN F fun _ _ _ _ _ _ us hl => match us, hl with | [_], _ => rfl)⟩
  refine fn_ty F sc_m_sign (fun _ => rfl) fun cdv B outer s H E G y Hb hp => ?_
  exact bl_ret (ex_sub (ex_tointB (exa_cons (ex_ci2 op_gt (ex_top z rfl (ex_v 0)) ex_int) exa_nil) z.b_int) (ex_tointB (exa_cons (ex_ci2 op_lt (ex_top z rfl (ex_v 0)) ex_int) exa_nil) z.b_int))
theorem sc_m_add : FnScope ["self", "other", "top", "bottom"] ["self", "other"] (defScope sRatio_Add) := ⟨rfl, rfl, rfl, by decide +kernel, rfl, by decide +kernel, by decide +kernel⟩
theorem m_add (z : Wf P w K mg base) : ∃ fd, FnOk P w K mg base CX0 36 (plA K (.meth "Ratio" "__add__")) fd ["self", "other"] (spT (fun y : Rat × Rat => Bq y.1 ∧ Bq y.2) (fun y => [tQ K y.1, tQ K y.2]) fun y => tQ K (y.1 + y.2)) ∧ Binds K fd ["self", "other"] [] := by
  obtain ⟨fd, F⟩ := z.c.fRatio_Add
  refine ⟨fd, ?_, (FunD.bindsN F fun _ _ _ _ _ _ us hl => match us, hl with | [_, _], _ => rfl)⟩
  refine fn_ty F sc_m_add (fun _ => rfl) fun cdv B outer s H E G y Hb hp => ?_
  obtain ⟨⟨h1, h2⟩, h3, h4⟩ := hp
  refine bl_unp 2 3 G (ex_call (c_toldPair_q z) G y.2 (by decide) (exa_cons (ex_v 1) exa_nil) trivial) (bl_ret ((ex_mkQ2 z G (by decide) (ex_add (ex_mul (ex_top z rfl (ex_v 0)) (ex_v 3) h1 h4) (ex_mul (ex_v 2) (ex_bot z rfl (ex_v 0)) h3 h2)) (ex_mul (ex_bot z rfl (ex_v 0)) (ex_v 3) h2 h4) (Int.mul_ne_zero (den_ne _) (den_ne _))).eq (by rw [add_eq])))
theorem sc_m_sub : FnScope ["self", "other", "top", "bottom"] ["self", "other"] (defScope sRatio_Sub) := ⟨rfl, rfl, rfl, by decide +kernel, rfl, by decide +kernel, by decide +kernel⟩
theorem m_sub (z : Wf P w K mg base) : ∃ fd, FnOk P w K mg base CX0 36 (plA K (.meth "Ratio" "__sub__")) fd ["self", "other"] (spT (fun y : Rat × Rat => Bq y.1 ∧ Bq y.2) (fun y => [tQ K y.1, tQ K y.2]) fun y => tQ K (y.1 - y.2)) ∧ Binds K fd ["self", "other"] [] := by
  obtain ⟨fd, F⟩ := z.c.fRatio_Sub
  refine ⟨fd, ?_, (FunD.bindsN F fun _ _ _ _ _ _ us hl => match us, hl with | [_, _], _ => rfl)⟩
  refine fn_ty F sc_m_sub (fun _ => rfl) fun cdv B outer s H E G y Hb hp => ?_
  obtain ⟨⟨h1, h2⟩, h3, h4⟩ := hp
  refine bl_unp 2 3 G (ex_call (c_toldPair_q z) G y.2 (by decide) (exa_cons (ex_v 1) exa_nil) trivial) (bl_ret ((ex_mkQ2 z G (by decide) (ex_sub (ex_mul (ex_top z rfl (ex_v 0)) (ex_v 3) h1 h4) (ex_mul (ex_v 2) (ex_bot z rfl (ex_v 0)) h3 h2)) (ex_mul (ex_bot z rfl (ex_v 0)) (ex_v 3) h2 h4) (Int.mul_ne_zero (den_ne _) (den_ne _))).eq (by rw [sub_eq])))
theorem sc_m_mul : FnScope ["self", "other", "top", "bottom"] ["self", "other"] (defScope sRatio_Mul) := ⟨rfl, rfl, rfl, by decide +kernel, rfl, by decide +kernel, by decide +kernel⟩
theorem m_mul (z : Wf P w K mg base) : ∃ fd, FnOk P w K mg base CX0 36 (plA K (.meth "Ratio" "__mul__")) fd ["self", "other"] (spT (fun y : Rat × Rat => Bq y.1 ∧ Bq y.2) (fun y => [tQ K y.1, tQ K y.2]) fun y => tQ K (y.1 * y.2)) ∧ Binds K fd ["self", "other"] [] := by
  obtain ⟨fd, F⟩ := z.c.fRatio_Mul
  refine ⟨fd, ?_, (FunD.bindsN F fun _ _ _ _ _ _ us hl => match us, hl with | [_, _], _ => rfl)⟩
  refine fn_ty F sc_m_mul (fun _ => rfl) fun cdv B outer s H E G y Hb hp => ?_
  obtain ⟨⟨h1, h2⟩, h3, h4⟩ := hp
  refine bl_unp 2 3 G (ex_call (c_toldPair_q z) G y.2 (by decide) (exa_cons (ex_v 1) exa_nil) trivial) (bl_ret ((ex_mkQ2 z G (by decide) (ex_mul (ex_top z rfl (ex_v 0)) (ex_v 2) h1 h3) (ex_mul (ex_bot z rfl (ex_v 0)) (ex_v 3) h2 h4) (Int.mul_ne_zero (den_ne _) (den_ne _))).eq (by rw [mul_eq])))
theorem sc_m_mulI : FnScope ["self", "other", "top", "bottom"] ["self", "other"] (defScope sRatio_Mul) := ⟨rfl, rfl, rfl, by decide +kernel, rfl, by decide +kernel, by decide +kernel⟩
theorem m_mulI (z : Wf P w K mg base) : ∃ fd, FnOk P w K mg base CX0 36 (plA K (.meth "Ratio" "__mul__")) fd ["self", "other"] (spT (fun y : Rat × Int => Bq y.1 ∧ Bg y.2) (fun y => [tQ K y.1, tI y.2]) fun y => tQ K (y.1 * (y.2 : Rat))) ∧ Binds K fd ["self", "other"] [] := by
  obtain ⟨fd, F⟩ := z.c.fRatio_Mul
  refine ⟨fd, ?_, (FunD.bindsN F fun _ _ _ _ _ _ us hl => match us, hl with | [_, _], _ => rfl)⟩
  refine fn_ty F sc_m_mulI (fun _ => rfl) fun cdv B outer s H E G y Hb hp => ?_
  obtain ⟨⟨h1, h2⟩, h3⟩ := hp
  refine bl_unp 2 3 G (ex_call (c_toldPair_i z) G y.2 (by decide) (exa_cons (ex_v 1) exa_nil) trivial) (bl_ret ((ex_mkQ2 z G (by decide) (ex_mul (ex_top z rfl (ex_v 0)) (ex_v 2) h1 h3) (ex_mul (ex_bot z rfl (ex_v 0)) (ex_v 3) h2 Bg.one) (Int.mul_ne_zero (den_ne _) (by decide))).eq (R := tQ K (y.1 * (y.2 : Rat))) (by rw [← mul_eq]; rfl)))
theorem sc_m_neg : FnScope ["self"] ["self"] (defScope sRatio_Neg) := ⟨rfl, rfl, rfl, by decide +kernel, rfl, by decide +kernel, by decide +kernel⟩
theorem m_neg (z : Wf P w K mg base) : ∃ fd, FnOk P w K mg base CX0 36 (plA K (.meth "Ratio" "__neg__")) fd ["self"] (spT (fun y : Rat => True) (fun y => [tQ K y]) fun y => tQ K (-y)) ∧ Binds K fd ["self"] [] := by
  obtain ⟨fd, F⟩ := z.c.fRatio_Neg
  refine ⟨fd, ?_, (FunD.bindsN F fun _ _ _ _ _ _ us hl => match us, hl with | [_], _ => rfl)⟩
  refine fn_ty F sc_m_neg (fun _ => rfl) fun cdv B outer s H E G y Hb hp => ?_
  exact bl_ret ((ex_mkQ2 z G (by decide) (ex_sub ex_int (ex_top z rfl (ex_v 0))) (ex_bot z rfl (ex_v 0)) (den_ne _)).eq (by rw [neg_eq]))
theorem sc_m_over : FnScope ["self", "other", "top", "bottom"] ["self", "other"] (defScope sRatio_Over) := ⟨rfl, rfl, rfl, by decide +kernel, rfl, by decide +kernel, by decide +kernel⟩
theorem m_over (z : Wf P w K mg base) : ∃ fd, FnOk P w K mg base CX0 36 (plA K (.meth "Ratio" "over")) fd ["self", "other"] (spT (fun y : Rat × Rat => y.2 ≠ 0 ∧ Bq y.1 ∧ Bq y.2) (fun y => [tQ K y.1, tQ K y.2]) fun y => tQ K (y.1 / y.2)) ∧ Binds K fd ["self", "other"] [] := by
  obtain ⟨fd, F⟩ := z.c.fRatio_Over
  refine ⟨fd, ?_, (FunD.bindsN F fun _ _ _ _ _ _ us hl => match us, hl with | [_, _], _ => rfl)⟩
  refine fn_ty F sc_m_over (fun _ => rfl) fun cdv B outer s H E G y Hb hp => ?_
  obtain ⟨h0, ⟨h1, h2⟩, h3, h4⟩ := hp
  refine bl_unp 2 3 G (ex_call (c_toldPair_q z) G y.2 (by decide) (exa_cons (ex_v 1) exa_nil) trivial) ?_
  refine bl_ifr (ext_eqi (ex_v 2) ex_int) (fun h => absurd (of_decide_eq_true h) (num_ne h0)) fun _ => ?_
  exact bl_ret ((ex_mkQ2 z G (by decide) (ex_mul (ex_top z rfl (ex_v 0)) (ex_v 3) h1 h4) (ex_mul (ex_bot z rfl (ex_v 0)) (ex_v 2) h2 h3) (Int.mul_ne_zero (den_ne _) (num_ne h0))).eq (by rw [div_eq _ h0]))
theorem sc_m_eq : FnScope ["self", "other"] ["self", "other"] (defScope sRatio_Eq) := ⟨rfl, rfl, rfl, by decide +kernel, rfl, by decide +kernel, by decide +kernel⟩
theorem m_eq (z : Wf P w K mg base) : ∃ fd, FnOk P w K mg base CX0 34 (plA K (.meth "Ratio" "__eq__")) fd ["self", "other"] (spT (fun y : Rat => True) (fun y => [tQ K y, tQ K y]) fun y => tB true) ∧ Binds K fd ["self", "other"] [] := by
  obtain ⟨fd, F⟩ := z.c.fRatio_Eq
  refine ⟨fd, ?_, (FunD.bindsN F fun _ _ _ _ _ _ us hl => match us, hl with | [_, _], _ => rfl)⟩
  refine fn_ty F sc_m_eq (fun _ => rfl) fun cdv B outer s H E G y Hb hp => ?_
  refine bl_ifr (ext_not (ext_val (ex_isQ z G (ex_v 1)))) (fun h => by cases h) fun _ => ?_
  exact bl_ret ((ex_and (l := true) ((ex_eqV (ex_top z rfl (ex_v 0)) (ex_top z rfl (ex_v 1)) rfl).eq (by rw [decide_eq_true rfl])) fun _ => ex_one ((ex_eqV (ex_bot z rfl (ex_v 0)) (ex_bot z rfl (ex_v 1)) rfl).eq (by rw [decide_eq_true rfl]))))
/-! the operators -/
theorem opf (z : Wf P w K mg base) (i : Nat) {c m : Str} (h : (exBs K)[i]? = some (opB K c m)) : PySem.W.findIn K (.ref (He.ga K c)) m = some (some (.ref (He.ma K (He.ga K c) m))) ∧ PySem.W.isFn K (.ref (He.ma K (He.ga K c) m)) = true := by
  have h1 := z.c.x i h
  obtain ⟨x1, x2⟩ := He.ba h1
  exact ⟨bIs_ok x1, x2⟩
theorem ex_qadd (z : Wf P w K mg base) (G : Good P w K mg base j X) (hk : 36 ≤ j) {q r : Rat} (ha : EX X Γ a (tQ K q)) (hb : EX X Γ b (tQ K r)) (h1 : Bq q) (h2 : Bq r) : EX X Γ (.BinOp a .Add b pos) (tQ K (q + r)) := by
  obtain ⟨fd, F, bd⟩ := m_add z
  exact ex_own (op := .Add) F bd G hk (z.c.x 23 rfl) (opf z 16 rfl).1 (opf z 16 rfl).2 (q, r) ha hb rfl ⟨h1, h2⟩
theorem ex_qsub (z : Wf P w K mg base) (G : Good P w K mg base j X) (hk : 36 ≤ j) {q r : Rat} (ha : EX X Γ a (tQ K q)) (hb : EX X Γ b (tQ K r)) (h1 : Bq q) (h2 : Bq r) : EX X Γ (.BinOp a .Sub b pos) (tQ K (q - r)) := by
  obtain ⟨fd, F, bd⟩ := m_sub z
  exact ex_own (op := .Sub) F bd G hk (z.c.x 23 rfl) (opf z 17 rfl).1 (opf z 17 rfl).2 (q, r) ha hb rfl ⟨h1, h2⟩
theorem ex_qmul (z : Wf P w K mg base) (G : Good P w K mg base j X) (hk : 36 ≤ j) {q r : Rat} (ha : EX X Γ a (tQ K q)) (hb : EX X Γ b (tQ K r)) (h1 : Bq q) (h2 : Bq r) : EX X Γ (.BinOp a .Mult b pos) (tQ K (q * r)) := by
  obtain ⟨fd, F, bd⟩ := m_mul z
  exact ex_own (op := .Mult) F bd G hk (z.c.x 23 rfl) (opf z 18 rfl).1 (opf z 18 rfl).2 (q, r) ha hb rfl ⟨h1, h2⟩
theorem ex_qneg (z : Wf P w K mg base) (G : Good P w K mg base j X) (hk : 36 ≤ j) {q : Rat} (ha : EX X Γ a (tQ K q)) : EX X Γ (.UnaryOp .USub a pos) (tQ K (-q)) := by
  obtain ⟨fd, F, bd⟩ := m_neg z
  exact ex_neg F bd G hk (opf z 19 rfl).1 (opf z 19 rfl).2 q ha rfl trivial
theorem ex_qmulI (z : Wf P w K mg base) (G : Good P w K mg base j X) (hk : 36 ≤ j) {q : Rat} {i : Int} (ha : EX X Γ a (tQ K q)) (hb : EX X Γ b (tI i)) (h1 : Bq q) (h2 : Bg i) : EX X Γ (.BinOp a .Mult b pos) (tQ K (q * (i : Rat))) := by
  obtain ⟨fd, F, bd⟩ := m_mulI z
  obtain ⟨fo, h5⟩ := Option.isSome_iff_exists.mp (z.c.x 24 rfl)
  obtain ⟨ro, h6⟩ := Option.isSome_iff_exists.mp (z.c.x 25 rfl)
  exact ex_ownI (op := .Mult) (fo := fo) (ro := ro) F bd G hk (z.c.x 23 rfl) (opf z 18 rfl).1 (opf z 18 rfl).2 (opf z 21 rfl).1 (.inr ⟨_, rfl⟩) h5 h6 (bSub_ok (z.c.x 26 rfl)) (q, i) ha hb rfl ⟨h1, h2⟩
theorem ex_over (z : Wf P w K mg base) (G : Good P w K mg base j X) (hk : 36 ≤ j) {q r : Rat} {pl : Sem Bool} {apos : Pos} (ha : EX X Γ a (tQ K q)) (hb : EX X Γ b (tQ K r)) (h0 : r ≠ 0) (h1 : Bq q) (h2 : Bq r)
    (hst : starEach [b] X.env = (false, eval b X.env) :: starEach [] X.env := by rfl) (hpl : (backTo pos (starEach [] X.env)).any (·.1) = false := by rfl)
    (ht : eval (.Call (.Attribute a "over" apos) [b] [] pos) X.env = (do
      let ov ← eval a X.env
      standAt apos.atName
      let (f, first) ← holding [ov] (getMethod ov "over" pl)
      callWith pos f first (backTo pos (starEach [b] X.env)) (backToKw pos (keywordEach [] X.env))) := by rfl) : EX X Γ (.Call (.Attribute a "over" apos) [b] [] pos) (tQ K (q / r)) := by
  obtain ⟨fd, F, bd⟩ := m_over z
  exact ex_meth ha (exa_cons hb exa_nil hst) G z.c_Ratio z.o_Ratio_over F bd (q, r) rfl ⟨h0, h1, h2⟩ hk rfl hst hpl ht
theorem prop_of {K : PySem.W.Frag} {c m : Str} (h : proB K c m = true) : PropOf K (He.ga K c) m (prA K c m) (plA K (.get c m)) := by
  obtain ⟨x1, x2⟩ := He.ba h
  obtain ⟨x2, x3⟩ := He.ba x2
  obtain ⟨x3, x4⟩ := He.ba x3
  refine ⟨bIs_ok x1, bIs_ok x2, bSub_ok x3, ?_⟩
  cases q : PySem.W.recIn K (prA K c m) "property" with
  | none => rw [q] at x4; cases x4
  | some l =>
    rw [q] at x4
    cases l with
    | nil => cases x4
    | cons v r =>
      cases v with
      | ref g =>
        have e : plA K (.get c m) = g := by
          show (match PySem.W.recIn K (prA K c m) "property" with
            | some (.ref g :: _) => g
            | _ => 0) = g
          rw [q]
        rw [e]
        exact ⟨r, rfl⟩
      | _ => cases x4
theorem ex_ptop (z : Wf P w K mg base) (G : Good P w K mg base j X) (hk : 34 ≤ j) {q : Rat} (h : EX X Γ e (tQ K q)) (hb : attributeBase e "top" X.env (eval e X.env) = eval e X.env := by rfl) : EX X Γ (.Attribute e "top" pos) (tI q.num) := by
  obtain ⟨fd, F, bd⟩ := m_top z
  exact ex_prop h G z.c_Ratio (prop_of (z.c.x 12 rfl)) F bd q rfl trivial hk hb
theorem ex_pbottom (z : Wf P w K mg base) (G : Good P w K mg base j X) (hk : 34 ≤ j) {q : Rat} (h : EX X Γ e (tQ K q)) (hb : attributeBase e "bottom" X.env (eval e X.env) = eval e X.env := by rfl) : EX X Γ (.Attribute e "bottom" pos) (tI q.den) := by
  obtain ⟨fd, F, bd⟩ := m_bottom z
  exact ex_prop h G z.c_Ratio (prop_of (z.c.x 13 rfl)) F bd q rfl trivial hk hb
theorem ex_psign (z : Wf P w K mg base) (G : Good P w K mg base j X) (hk : 34 ≤ j) {q : Rat} (h : EX X Γ e (tQ K q)) (hb : attributeBase e "sign" X.env (eval e X.env) = eval e X.env := by rfl) : EX X Γ (.Attribute e "sign" pos) (tI ((if decide (0 < q.num) then 1 else 0) - (if decide (q.num < 0) then 1 else 0))) := by
  obtain ⟨fd, F, bd⟩ := m_sign z
  exact ex_prop h G z.c_Ratio (prop_of (z.c.x 14 rfl)) F bd q rfl trivial hk hb
theorem ofC_Q : OfC (rA K) (tQ K) := fun q v H ⟨a, dx, gs, h1, h2, _⟩ => ⟨a, dx, gs, h1, h2⟩
theorem ex_eqQs (z : Wf P w K mg base) (G : Good P w K mg base j X) (hk : 36 ≤ j) {qs : List Rat} (ha : EX X Γ a (tL (qs.map (tQ K)))) (hb : EX X Γ b (tL (qs.map (tQ K)))) : EX X Γ (.Compare a [.Eq] [b] pos) (tB true) := by
  obtain ⟨fd, F, bd⟩ := m_eq z
  exact ex_eqLs G F (opf z 20 rfl).1 (opf z 20 rfl).2 bd ofC_Q hk ha hb
theorem ext_neQs (z : Wf P w K mg base) (G : Good P w K mg base j X) (hk : 36 ≤ j) {qs : List Rat} (ha : EX X Γ a (tL (qs.map (tQ K)))) (hb : EX X Γ b (tL (qs.map (tQ K)))) : EXT X Γ (.Compare a [.NotEq] [b] pos) false := by
  obtain ⟨fd, F, bd⟩ := m_eq z
  exact ext_neLs G F (opf z 20 rfl).1 (opf z 20 rfl).2 bd ofC_Q hk ha hb
end
end Wk
set_option Elab.async false
set_option linter.all false
set_option maxRecDepth 100000
set_option maxHeartbeats 1000000
/-! S0: sizes that the model bears. -/
namespace Mt
open Ty Wk
/-- all numbers over one bottom D ≤ 2^d, tops ≤ 2^n -/
def Bd (n d : Nat) (p : List Rat) : Prop := ∃ D : Nat, 0 < D ∧ D ≤ 2 ^ d ∧ ∀ c ∈ p, ∃ m : Int, m.natAbs ≤ 2 ^ n ∧ c = Rat.divInt m D
theorem divInt_den {m : Int} {D : Nat} (h : 0 < D) : (Rat.divInt m D).den ∣ D := by
  rw [Rat.den_divInt]
  rw [if_neg (by omega)]
  exact Nat.div_dvd_of_dvd (by have := Int.gcd_dvd_natAbs_left (a := (D : Int)) (b := m); simpa using this)
theorem divInt_num {m : Int} {D : Nat} (h : 0 < D) : (Rat.divInt m D).num.natAbs ≤ m.natAbs := by
  rw [Rat.num_divInt]
  have hs : (D : Int).sign = 1 := Int.sign_eq_one_of_pos (by omega)
  rw [hs, Int.one_mul, Int.natAbs_ediv_of_dvd (Int.gcd_dvd_right _ _)]
  exact Nat.div_le_self _ _
theorem Bd.den {n d : Nat} {p : List Rat} (h : Bd n d p) {c : Rat} (hc : c ∈ p) : c.den ≤ 2 ^ d := by
  obtain ⟨D, h0, h1, h2⟩ := h
  obtain ⟨m, _, rfl⟩ := h2 c hc
  exact Nat.le_trans (Nat.le_of_dvd h0 (divInt_den h0)) h1
theorem Bd.num {n d : Nat} {p : List Rat} (h : Bd n d p) {c : Rat} (hc : c ∈ p) : c.num.natAbs ≤ 2 ^ n := by
  obtain ⟨D, h0, h1, h2⟩ := h
  obtain ⟨m, h3, rfl⟩ := h2 c hc
  exact Nat.le_trans (divInt_num h0) h3
theorem Bg.le {i : Int} {a : Nat} (h : i.natAbs ≤ 2 ^ a) (ha : a < 60000000) : Bg i := ⟨a + 1, by omega, Nat.lt_of_le_of_lt h (Nat.pow_lt_pow_right (by decide) (Nat.lt_succ_self a))⟩
theorem Bd.q {n d : Nat} {p : List Rat} (h : Bd n d p) (hn : n < 60000000) (hd : d < 60000000) {c : Rat} (hc : c ∈ p) : Bq c := ⟨Bg.le (h.num hc) hn, Bg.le (by simpa using h.den hc) hd⟩
/-- a row that a product takes -/
def PB (p : List Rat) : Prop := p.length ≤ 100 ∧ Bd 1000000 13000 p
theorem PB.lcm {p : List Rat} (h : PB p) : lcmD p ≤ 2 ^ 13000 := by
  obtain ⟨_, D, h0, h1, h2⟩ := h
  refine Nat.le_trans (Nat.le_of_dvd h0 (lcmD_le fun c hc => ?_)) h1
  obtain ⟨m, _, rfl⟩ := h2 c hc
  exact divInt_den h0
theorem PB.part {p : List Rat} (h : PB p) (k : Nat) : (p.take k).foldl (fun n c => Nat.lcm n c.den) 1 ≤ 2 ^ 13000 := by
  obtain ⟨_, D, h0, h1, h2⟩ := h
  refine Nat.le_trans (Nat.le_of_dvd h0 (lcmD_le (p := p.take k) fun c hc => ?_)) h1
  obtain ⟨m, _, rfl⟩ := h2 c (List.mem_of_mem_take hc)
  exact divInt_den h0
theorem PB.q {p : List Rat} (h : PB p) {c : Rat} (hc : c ∈ p) : Bq c := h.2.q (by decide) (by decide) hc
theorem PB.int {p : List Rat} (h : PB p) {t : Int} (ht : t ∈ intsOf p) : t.natAbs ≤ 2 ^ 1013000 := by
  unfold Mt.intsOf at ht
  obtain ⟨c, hc, rfl⟩ := List.mem_map.mp ht
  rw [Int.natAbs_mul, show (1013000 : Nat) = 1000000 + 13000 by decide, Nat.pow_add]
  refine Nat.mul_le_mul (h.2.num hc) ?_
  rw [Int.natAbs_natCast]
  exact Nat.le_trans (Nat.div_le_self _ _) h.lcm
theorem pw_lt {a b : Nat} (h : a < b) : 2 ^ a < 2 ^ b := Nat.pow_lt_pow_right (by decide) h
end Mt
set_option Elab.async false
set_option linter.all false
set_option maxRecDepth 100000
set_option maxHeartbeats 1000000
/-! R3: rows of Ratios. -/
namespace Wk
open PySem PySem.Spec PyProof.Rows L2 Ty Tx Mt
/-- a list of Ratios -/
abbrev tQs (K : PySem.W.Frag) (p : List Rat) : Pd := tL (p.map (tQ K))
abbrev tIs (p : List Int) : Pd := tL (p.map tI)
abbrev BqL (p : List Rat) : Prop := ∀ c ∈ p, Bq c
theorem cf_mem {α : Type} [Zero α] {p : List α} {i : Nat} (h : i < p.length) : cf p i ∈ p := List.mem_of_getElem? (get_cf h)
theorem hd_mem {α : Type} [Zero α] {p : List α} (h : p ≠ []) : hd p ∈ p := cf_mem (by have := List.length_pos_iff.mpr h; omega)
theorem Bg.small {i : Int} (h : i.natAbs < 1000000) : Bg i := Bg.of (a := 20) (by omega) (by decide)
theorem small2 {P1 P2 : Pd} : [P1, P2].length ≤ 1000 := Nat.le_of_ble_eq_true rfl
theorem mget {α : Type} {T : α → Pd} {p : List α} {i : Nat} {Pt : Pd} (h : (p.map T)[i]? = some Pt) : ∃ x, p[i]? = some x ∧ Pt = T x := by
  rw [List.getElem?_map] at h
  cases q : p[i]? with
  | none => rw [q] at h; cases h
  | some x => rw [q] at h; cases h; exact ⟨x, rfl, rfl⟩
theorem mset {α : Type} {T : α → Pd} {p : List α} {i : Nat} {x : α} : (p.map T).set i (T x) = (p.set i x).map T := by
  induction p generalizing i with
  | nil => rfl
  | cons a p ih => cases i with
    | zero => rfl
    | succ i => show T a :: (p.map T).set i (T x) = _; rw [ih]; rfl
theorem mat {α : Type} [Zero α] {T : α → Pd} {p : List α} {i : Nat} (h : i < p.length) : atI (p.map T) (i : Int) = some (T (cf p i)) := at_nat (by rw [List.getElem?_map, get_cf h]; rfl)
theorem mlast {α : Type} [Zero α] {T : α → Pd} {p : List α} (h : p ≠ []) : atI (p.map T) (-1) = some (T (hd p)) := at_last (by rw [List.getLast?_map, last_hd h]; rfl)
theorem getL {α : Type} {p : List α} {i : Nat} {x : α} (h : p[i]? = some x) : x ∈ p := List.mem_of_getElem? h
section
variable {P : Program} {w : World} {K : PySem.W.Frag} {mg : Str → Option Value} {base : Heap} {j : Nat} {X : Cx} {Γ : List Sl} {e a b c : Expr} {pos p : Pos}

theorem sc_c_trimmed : FnScope ["ratios", "many"] ["ratios"] (defScope sTrimmed) := ⟨rfl, rfl, rfl, by decide +kernel, rfl, by decide +kernel, by decide +kernel⟩
theorem c_trimmed (z : Wf P w K mg base) : Fn P w K mg base "trimmed" 33 ["ratios"] (spT (fun y : List Rat => True) (fun y => [tQs K y]) fun y => tQs K (trim y)) := by
  obtain ⟨fd, F⟩ := z.c.fTrimmed
  refine fnb z.g_trimmed F.kp (FunD.bindsN F fun _ _ _ _ _ _ us hl => match us, hl with | [_], _ => rfl) ?_
  refine fn_ty F sc_c_trimmed (fun _ => rfl) fun cdv B outer s H E G y Hb hp => ?_
  refine bl_set 1 G (ex_len (EX.s (ex_v 0)) z.b_len) ?_
  refine bl_while G (β := { m : Nat // m ≤ y.length ∧ trim (y.take m) = trim y }) (fun m => [.val (tQs K y), .val (tI (m.1 : Nat))]) (fun m => m.1) (fun m => decide ((0 : Int) < (m.1 : Nat)) && decide ((cf y (m.1 - 1)).num = 0)) ⟨y.length, Nat.le_refl _, by rw [List.take_length]⟩ (.same (.val (by rw [List.length_map]) .nil)) (fun m => ?_) (fun m hm => ?_) fun m hm => ?_
  · refine EXW.ext (exw_and (ext_gt (ex_v 1) ex_int) fun h => exw_and1 (ext_eqi (ex_top z rfl (ex_ix (EX.s (ex_v 0)) ((ex_sub (ex_v 1) ex_int).eq (R := tI ((m.1 - 1 : Nat) : Int)) ?_) (mat ?_))) ex_int))
    · have := of_decide_eq_true h
      congr 2
      omega
    · have := of_decide_eq_true h
      have := m.2.1
      omega
  · obtain ⟨h1, h2⟩ := Bool.and_eq_true_iff.mp hm
    have h1 := of_decide_eq_true h1
    have h2 := of_decide_eq_true h2
    obtain ⟨m, m1, m2⟩ := m
    refine bl_set 1 G (ex_sub (ex_v 1) ex_int) (bl_again (W := fun m : { m : Nat // m ≤ y.length ∧ trim (y.take m) = trim y } => [.val (tQs K y), .val (tI (m.1 : Nat))]) (m := fun m => m.1) (y := ⟨m, m1, m2⟩) ⟨m - 1, by omega, ?_⟩ (.same (.val ?_ .nil)) ?_ rfl)
    · have e : m - 1 + 1 = m := by simp only at h1; omega
      rw [← m2, ← trim_step (p := y) (m := m - 1) (by simp only at h1; omega) (Rat.num_eq_zero.mp h2), e]
    · have h3 : (0 : Int) < (m : Nat) := h1
      show tI ((m - 1 : Nat) : Int) = tI ((m : Nat) - 1)
      rw [show ((m - 1 : Nat) : Int) = (m : Nat) - 1 by omega]
    · show m - 1 < m
      simp only at h1; omega
  · obtain ⟨m, m1, m2⟩ := m
    refine bl_ret (EXL.ex (exl_list (EXL.s (exl_sl (EX.s (ex_v 0)) exo_n (exo_s (ex_v 1)))) z.b_list)) ?_
    show tL _ = tL _
    simp only at hm ⊢
    rw [cut_take, ← List.map_take]
    refine congrArg (fun q => tL (List.map (tQ K) q)) (Eq.trans ?_ m2)
    by_cases h0 : m = 0
    · subst h0; rfl
    · have e : m - 1 + 1 = m := by omega
      rw [← e]
      refine (trim_done (p := y) (m := m - 1) (by omega) fun z => ?_).symm
      have z2 : (cf y (m - 1)).num = 0 := by rw [z]; rfl
      rw [z2, decide_eq_true (by omega : (0 : Int) < (m : Nat))] at hm
      cases hm
theorem sc_c_byNumber : FnScope ["poly", "ratio", "number"] ["poly", "ratio"] (defScope sByNumber) := ⟨rfl, rfl, rfl, by decide +kernel, rfl, by decide +kernel, by decide +kernel⟩
theorem c_byNumber (z : Wf P w K mg base) : Fn P w K mg base "by_number" 38 ["poly", "ratio"] (spT (fun y : List Rat × Rat => BqL y.1 ∧ Bq y.2 ∧ y.1.length ≤ 1000) (fun y => [tQs K y.1, tQ K y.2]) fun y => tQs K (byNumber y.1 y.2)) := by
  obtain ⟨fd, F⟩ := z.c.fByNumber
  refine fnb z.g_by_number F.kp (FunD.bindsN F fun _ _ _ _ _ _ us hl => match us, hl with | [_, _], _ => rfl) ?_
  refine fn_ty F sc_c_byNumber (fun _ => rfl) fun cdv B outer s H E G y Hb hp => ?_
  obtain ⟨h1, h2, h3⟩ := hp
  exact bl_ret (ex_call (c_trimmed z) G (y.1.map (· * y.2)) (by decide) (exa_cons (ex_of (lcM 2 (· * y.2) (EX.s (ex_v 0)) h3 (fun u hu _ _ _ _ _ => ex_qmul z (G.blk _ _ _ _ _) (by decide) (ex_v 2) (ex_v 1) (h1 u hu) h2) G) G) exa_nil) trivial)

theorem ex_lenM (z : Wf P w K mg base) (hm : X.mg = mg) {α : Type} {T : α → Pd} {p0 : List α} (h : EXS X Γ e (p0.map T)) (hg : Gl X "len" := by rfl) (he : starEach [e] X.env = (false, eval e X.env) :: starEach [] X.env := by rfl) (hpl : (backTo pos (starEach [] X.env)).any (·.1) = false := by rfl) : EX X Γ (.Call (.Name "len" p) [e] [] pos) (tI p0.length) := by
  have := ex_len (p := p) h (hm ▸ z.b_len) hg he hpl
  rwa [List.length_map] at this
theorem ex_lenMT (z : Wf P w K mg base) (hm : X.mg = mg) {α : Type} {T : α → Pd} {p0 : List α} (h : EX X Γ e (tU (p0.map T))) (hg : Gl X "len" := by rfl) (he : starEach [e] X.env = (false, eval e X.env) :: starEach [] X.env := by rfl) (hpl : (backTo pos (starEach [] X.env)).any (·.1) = false := by rfl) : EX X Γ (.Call (.Name "len" p) [e] [] pos) (tI p0.length) := by
  have := ex_lenT (p := p) h (hm ▸ z.b_len) hg he hpl
  rwa [List.length_map] at this
/-- n as a natural number's int -/
theorem EX.nat {i : Int} {n : Nat} (h : EX X Γ e (tI i)) (k : i = (n : Int)) : EX X Γ e (tI (n : Int)) := k ▸ h

theorem sc_c_sumOf : FnScope ["one", "other", "near", "far", "at"] ["one", "other"] (defScope sSumOf) := ⟨rfl, rfl, rfl, by decide +kernel, rfl, by decide +kernel, by decide +kernel⟩
theorem c_sumOf (z : Wf P w K mg base) : Fn P w K mg base "sum_of" 38 ["one", "other"] (spT (fun y : List Rat × List Rat => BqL y.1 ∧ BqL y.2 ∧ y.1.length ≤ 1000 ∧ y.2.length ≤ 1000) (fun y => [tQs K y.1, tQs K y.2]) fun y => tQs K (sumOf y.1 y.2)) := by
  obtain ⟨fd, F⟩ := z.c.fSumOf
  refine fnb z.g_sum_of F.kp (FunD.bindsN F fun _ _ _ _ _ _ us hl => match us, hl with | [_, _], _ => rfl) ?_
  refine fn_ty F sc_c_sumOf (fun _ => rfl) fun cdv B outer s H E G y Hb hp => ?_
  obtain ⟨h1, h2, h3, h4⟩ := hp
  have key : ∃ near far : List Rat, far.length ≤ near.length ∧ near.length ≤ 1000 ∧ BqL near ∧ BqL far ∧ addL near far = addL y.1 y.2 ∧ ((decide (((y.2.length : Nat) : Int) ≤ ((y.1.length : Nat) : Int)) = true → near = y.1 ∧ far = y.2) ∧ (decide (((y.2.length : Nat) : Int) ≤ ((y.1.length : Nat) : Int)) = false → near = y.2 ∧ far = y.1)) := by
    by_cases h : y.2.length ≤ y.1.length
    · exact ⟨y.1, y.2, h, h3, h1, h2, rfl, fun _ => ⟨rfl, rfl⟩, fun e => absurd (of_decide_eq_false e) (by omega)⟩
    · exact ⟨y.2, y.1, by omega, h4, h2, h1, addL_comm _ _, fun e => absurd (of_decide_eq_true e) (by omega), fun _ => ⟨rfl, rfl⟩⟩
  obtain ⟨near, far, k1, k2, k3, k4, k5, k6, k7⟩ := key
  refine bl_unp 2 3 G (P1 := tQs K near) (P2 := tQs K far) (ex_if (ext_ge (ex_lenM z rfl (EX.s (ex_v 0))) (ex_lenM z rfl (EX.s (ex_v 1)))) (fun h => ?_) fun h => ?_) ?_
  · obtain ⟨rfl, rfl⟩ := k6 h
    exact ex_tup (exa_cons (ex_v 0) (exa_cons (ex_v 1) exa_nil)) small2
  · obtain ⟨rfl, rfl⟩ := k7 h
    exact ex_tup (exa_cons (ex_v 1) (exa_cons (ex_v 0) exa_nil)) small2
  refine bl_ret (ex_call (c_trimmed z) G (addL near far) (by decide) (exa_cons ((ex_of (lcR (T' := tQ K) 4 (fun i => if i < far.length then cf near i + cf far i else cf near i) (ex_lenM z rfl (EX.s (ex_v 2))) (by omega) (fun i hi _ _ _ _ _ => ?_) G z.b_range) G).eq ?_) exa_nil) trivial) (by show tQs K _ = tQs K _; rw [k5]; rfl)
  · refine ex_if (ext_lt (ex_v 4) (ex_lenM z rfl (EX.s (ex_v 3)))) (fun h => ?_) fun h => ?_
    · have h' := of_decide_eq_true h
      exact (ex_qadd z (G.blk _ _ _ _ _) (by decide) (ex_ix (EX.s (ex_v 2)) (ex_v 4) (mat (by omega))) (ex_ix (EX.s (ex_v 3)) (ex_v 4) (mat (by omega))) (k3 _ (cf_mem (by omega))) (k4 _ (cf_mem (by omega)))).eq (by rw [if_pos (by omega)])
    · have h' := of_decide_eq_false h
      exact (ex_ix (EX.s (ex_v 2)) (ex_v 4) (mat (by omega))).eq (by rw [if_neg (by omega)])
  · show tQs K _ = tQs K _
    rw [Int.toNat_natCast, addL_range k1]
theorem sc_c_lessOf : FnScope ["one", "other"] ["one", "other"] (defScope sLessOf) := ⟨rfl, rfl, rfl, by decide +kernel, rfl, by decide +kernel, by decide +kernel⟩
theorem c_lessOf (z : Wf P w K mg base) : Fn P w K mg base "less_of" 40 ["one", "other"] (spT (fun y : List Rat × List Rat => BqL y.1 ∧ BqL y.2 ∧ BqL (byNumber y.2 (-1)) ∧ y.1.length ≤ 1000 ∧ y.2.length ≤ 1000) (fun y => [tQs K y.1, tQs K y.2]) fun y => tQs K (lessOf y.1 y.2)) := by
  obtain ⟨fd, F⟩ := z.c.fLessOf
  refine fnb z.g_less_of F.kp (FunD.bindsN F fun _ _ _ _ _ _ us hl => match us, hl with | [_, _], _ => rfl) ?_
  refine fn_ty F sc_c_lessOf (fun _ => rfl) fun cdv B outer s H E G y Hb hp => ?_
  obtain ⟨h1, h2, h5, h3, h4⟩ := hp
  exact bl_ret (ex_call (c_sumOf z) G (y.1, byNumber y.2 (-1)) (by decide) (exa_cons (ex_v 0) (exa_cons (ex_call (c_byNumber z) G (y.2, (-1 : Rat)) (by decide) (exa_cons (ex_v 1) (exa_cons (ex_mkQ1 z G (by decide) ex_neg1) exa_nil)) ⟨h2, ⟨Bg.negOne, Bg.one⟩, h4⟩) exa_nil)) ⟨h1, h5, h3, Nat.le_trans (trim_le _) (by rw [List.length_map]; exact h4)⟩)
theorem sc_c_slopeOf : FnScope ["poly", "at"] ["poly"] (defScope sSlopeOf) := ⟨rfl, rfl, rfl, by decide +kernel, rfl, by decide +kernel, by decide +kernel⟩
theorem c_slopeOf (z : Wf P w K mg base) : Fn P w K mg base "slope_of" 37 ["poly"] (spT (fun y : List Rat => BqL y ∧ y.length ≤ 1000) (fun y => [tQs K y]) fun y => tQs K (slopeOf y)) := by
  obtain ⟨fd, F⟩ := z.c.fSlopeOf
  refine fnb z.g_slope_of F.kp (FunD.bindsN F fun _ _ _ _ _ _ us hl => match us, hl with | [_], _ => rfl) ?_
  refine fn_ty F sc_c_slopeOf (fun _ => rfl) fun cdv B outer s H E G y Hb hp => ?_
  obtain ⟨h1, h2⟩ := hp
  refine bl_ret ((ex_of (lcR2 (T' := tQ K) 1 (fun i => cf y (1 + i) * (((1 : Int) + (i : Nat) : Int) : Rat)) ex_int (ex_lenM z rfl (EX.s (ex_v 0))) (by decide) (by omega) (fun i hi _ _ _ _ _ => ?_) G z.b_range) G).eq ?_)
  · exact ex_qmulI z (G.blk _ _ _ _ _) (by decide) (ex_ix (EX.s (ex_v 0)) ((ex_v 1).eq (show tI (1 + (i : Int)) = tI ((1 + i : Nat) : Int) by congr 2)) (mat (by omega))) (ex_v 1) (h1 _ (cf_mem (by omega))) (Bg.small (by omega))
  · show tQs K _ = tQs K _
    rw [show (((y.length : Nat) : Int) - 1).toNat = y.length - 1 by omega]
    rfl
theorem sc_c_headed : FnScope ["poly", "number"] ["poly"] (defScope sHeaded) := ⟨rfl, rfl, rfl, by decide +kernel, rfl, by decide +kernel, by decide +kernel⟩
theorem c_headed (z : Wf P w K mg base) : Fn P w K mg base "headed" 37 ["poly"] (spT (fun y : List Rat => BqL y ∧ y.length ≤ 1000 ∧ (y ≠ [] → hd y ≠ 0)) (fun y => [tQs K y]) fun y => tQs K (headed y)) := by
  obtain ⟨fd, F⟩ := z.c.fHeaded
  refine fnb z.g_headed F.kp (FunD.bindsN F fun _ _ _ _ _ _ us hl => match us, hl with | [_], _ => rfl) ?_
  refine fn_ty F sc_c_headed (fun _ => rfl) fun cdv B outer s H E G y Hb hp => ?_
  obtain ⟨h1, h2, h3⟩ := hp
  refine bl_ret (ex_of (lcM (T' := tQ K) 1 (· / hd y) (EX.s (ex_v 0)) h2 (fun u hu _ _ _ _ _ => ?_) G) G)
  have hne : y ≠ [] := List.ne_nil_of_mem hu
  exact ex_over z (G.blk _ _ _ _ _) (by decide) (ex_v 1) (ex_ix (EX.s (ex_v 0)) ex_neg1 (mlast hne)) (h3 hne) (h1 u hu) (h1 _ (hd_mem hne))
theorem sc_c_wholes : FnScope ["ratios", "bottom", "ratio"] ["ratios"] (defScope sWholes) := ⟨rfl, rfl, rfl, by decide +kernel, rfl, by decide +kernel, by decide +kernel⟩
theorem c_wholes (z : Wf P w K mg base) : Fn P w K mg base "wholes" 33 ["ratios"] (spT (fun y : List Rat => PB y) (fun y => [tQs K y]) fun y => tU [tI (lcmD y : Nat), tIs (intsOf y)]) := by
  obtain ⟨fd, F⟩ := z.c.fWholes
  refine fnb z.g_wholes F.kp (FunD.bindsN F fun _ _ _ _ _ _ us hl => match us, hl with | [_], _ => rfl) ?_
  refine fn_ty F sc_c_wholes (fun _ => rfl) fun cdv B outer s H E G y Hb hp => ?_
  have hl : y.length ≤ 1000 := Nat.le_trans hp.1 (by decide)
  have h13 : (2 : Nat) ^ 13000 < 2 ^ 13499 := pw_lt (by decide)
  refine bl_set 1 G ex_int (bl_for 2 G (ex_v 0) (fun i => [.val (tQs K y), .val (tI (((y.take i).foldl (fun n c => Nat.lcm n c.den) 1 : Nat) : Int)), .no]) (.same (.same (.no .nil))) (fun Hk i Pt hPt => ?_) ?_)
  · obtain ⟨c, hc, rfl⟩ := mget hPt
    refine bl_set 1 G (ex_lcm (exa_cons (ex_v 1) (exa_cons (ex_bot z rfl (ex_v 2)) exa_nil)) ?_ ?_ z.lcm) (bl_fin (.same (.val ?_ (.no .nil))) rfl)
    · have := hp.part i
      rw [Int.natAbs_natCast]; omega
    · have : c.den ≤ 2 ^ 13000 := hp.2.den (getL hc)
      rw [Int.natAbs_natCast]; omega
    · show tI _ = tI _
      rw [Int.natAbs_natCast, Int.natAbs_natCast, List.take_succ, hc]
      simp [List.foldl_append]
  · rw [List.length_map, List.take_length]
    have D := wfDeep z (N := ["ratios", "bottom", "ratio"]) (qual := "wholes") (scope := defScope sWholes) (f := plA K (.glo "wholes")) (cd := cdv) (A := B) (outer := outer) (s := s) (H := H) (E := E) rfl rfl
    refine bl_ret (ex_tup (exa_cons (ex_v 1) (exa_cons (ex_of (lcM (T' := tI) 2 (fun c : Rat => c.num * ((lcmD y / c.den : Nat) : Int)) (EX.s (ex_v 0)) hl (fun u hu s' H' C cl fp => ?_) G) G) exa_nil)) small2)
    have hL := hp.lcm
    have hq := hp.q hu
    refine ex_mul (ex_top z rfl (ex_v 2)) ((ex_fdiv (D.blk _ _ _ _ _) (G.blk _ _ _ _ _) (by decide) (ex_v 1) (ex_bot z rfl (ex_v 2)) (den_ne u)).eq (R := tI ((lcmD y / u.den : Nat) : Int)) ?_) hq.1 (Bg.le (a := 13000) ?_ (by decide))
    · show tI _ = tI _
      rw [Int.fdiv_eq_ediv_of_nonneg _ (by omega), Int.natCast_ediv]
      rfl
    · rw [Int.natAbs_natCast]
      exact Nat.le_trans (Nat.div_le_self _ _) hL
end
end Wk
set_option Elab.async false
set_option linter.all false
set_option maxRecDepth 100000
set_option maxHeartbeats 1000000
/-! R4: products, divisions. -/
namespace Wk
open PySem PySem.Spec PyProof.Rows L2 Ty Tx Mt
theorem ixN_nat {l n : Nat} (h : n < l) : ixN l (n : Int) = some n := by
  unfold ixN
  rw [if_pos (by omega), if_pos (by omega)]
  simp
theorem cf_mapI (f : Int → Int) {p : List Int} {i : Nat} (h : i < p.length) : cf (p.map f) i = f (cf p i) := cf_map f h
section
variable {P : Program} {w : World} {K : PySem.W.Frag} {mg : Str → Option Value} {base : Heap} {j : Nat} {X : Cx} {Γ : List Sl} {e a b c : Expr} {pos p : Pos}

theorem sc_c_intProduct : FnScope ["near", "far", "found", "at", "left", "to", "right"] ["near", "far"] (defScope sIntProduct) := ⟨rfl, rfl, rfl, by decide +kernel, rfl, by decide +kernel, by decide +kernel⟩
theorem c_intProduct (z : Wf P w K mg base) : Fn P w K mg base "int_product" 33 ["near", "far"] (spT (fun y : List Int × List Int => (∀ t ∈ y.1, Bg t) ∧ (∀ t ∈ y.2, Bg t) ∧ y.1.length ≤ 100 ∧ y.2.length ≤ 100) (fun y => [tIs y.1, tIs y.2]) fun y => tIs (conv y.1 y.2)) := by
  obtain ⟨fd, F⟩ := z.c.fIntProduct
  refine fnb z.g_int_product F.kp (FunD.bindsN F fun _ _ _ _ _ _ us hl => match us, hl with | [_, _], _ => rfl) ?_
  refine fn_ty F sc_c_intProduct (fun _ => rfl) fun cdv B outer s H E G y Hb hp => ?_
  obtain ⟨h1, h2, h3, h4⟩ := hp
  refine bl_setC 2 G (lcR (T' := tI) 3 (fun _ => (0 : Int)) (ex_sub (ex_add (ex_lenM z rfl (EX.s (ex_v 0))) (ex_lenM z rfl (EX.s (ex_v 1)))) ex_int) (by omega) (fun i hi _ _ _ _ _ => ex_int) G z.b_range) ?_
  refine bl_forE 3 4 G (ex_v 0) (fun i => [.val (tIs y.1), .val (tIs y.2), .own ((convS y.1 y.2 i).map tI), .no, .no, .no, .no]) (.same (.same (.own ?_ (.no (.no (.no (.no .nil))))))) (fun Hk i Pt hPt => ?_) ?_ z.b_enumerate
  · rw [show (((y.1.length : Nat) : Int) + ((y.2.length : Nat) : Int) - 1).toNat = y.1.length + y.2.length - 1 by omega]
    show (List.replicate _ (0 : Int)).map tI = _
    congr 1
    apply List.ext_getElem?
    intro i
    simp only [List.getElem?_replicate, List.getElem?_map]
    by_cases hi : i < y.1.length + y.2.length - 1
    · rw [if_pos hi, List.getElem?_range hi]; rfl
    · rw [if_neg hi, List.getElem?_eq_none (by simpa using hi)]; rfl
  · obtain ⟨a, ha, rfl⟩ := mget hPt
    have hi : i < y.1.length := (List.getElem?_eq_some_iff.mp ha).1
    refine bl_if (ext_nei (ex_v 4) ex_int) (fun hne => ?_) fun heq => ?_
    · refine bl_forE 5 6 G (ex_v 1) (fun j => [.val (tIs y.1), .val (tIs y.2), .own ((addAt i (convS y.1 y.2 i) ((y.2.map (a * ·)).take j)).map tI), .val (tI (i : Nat)), .val (tI a), .no, .no]) (.same (.same (.own ?_ (.same (.same (.no (.no .nil))))))) (fun Hk2 j Pt2 hPt2 => ?_) ?_ z.b_enumerate
      · rw [List.take_zero, addAt_nil]
      · obtain ⟨b, hb, rfl⟩ := mget hPt2
        have hj : j < y.2.length := (List.getElem?_eq_some_iff.mp hb).1
        have hlen : i + j < (addAt i (convS y.1 y.2 i) ((y.2.map (a * ·)).take j)).length := by rw [addAt_len, convS_len]; omega
        refine bl_setix 2 (n := i + j) (Ps := (addAt i (convS y.1 y.2 i) ((y.2.map (a * ·)).take j)).map tI) (ex_add (ex_ix (exs_v 2) ((ex_add (ex_v 3) (ex_v 5)).eq (show tI ((i : Int) + (j : Int)) = tI ((i + j : Nat) : Int) by congr 2)) (mat (T := tI) hlen)) (ex_mul (ex_v 4) (ex_v 6) (h1 _ (getL ha)) (h2 _ (getL hb)))) (ex_add (ex_v 3) (ex_v 5)) (by rw [List.length_map, show ((i : Int) + (j : Int)) = ((i + j : Nat) : Int) by omega]; exact ixN_nat hlen) (bl_fin (.same (.same (.own ?_ (.same (.same (.no (.no .nil))))))) rfl)
        rw [mset, ← addAt_step i j _ _ (by simpa using hj) (by rw [convS_len]; omega), cf_map (a * ·) hj, cf_of hb]
      · rw [List.length_map]
        refine bl_fin (.same (.same (.own ?_ (.no (.no (.no (.no .nil))))))) rfl
        rw [List.take_of_length_le (by simp)]
        show (addAt i (convS y.1 y.2 i) (y.2.map (cf y.1 i * ·))).map tI = _
        rw [cf_of ha]
    · have e : a = 0 := by
        have := heq
        simpa using this
      refine bl_fin (.same (.same (.own ?_ (.no (.no (.no (.no .nil))))))) rfl
      show (addAt i (convS y.1 y.2 i) (y.2.map (cf y.1 i * ·))).map tI = _
      rw [cf_of ha, e, addAt_zero]
  · rw [List.length_map]
    exact bl_rel 2 rfl (bl_ret (ex_v 2))
theorem sc_c_productOf : FnScope ["one", "other", "low", "near", "deep", "far", "top"] ["one", "other"] (defScope sProductOf) := ⟨rfl, rfl, rfl, by decide +kernel, rfl, by decide +kernel, by decide +kernel⟩
theorem c_productOf (z : Wf P w K mg base) : Fn P w K mg base "product_of" 37 ["one", "other"] (spT (fun y : List Rat × List Rat => PB y.1 ∧ PB y.2) (fun y => [tQs K y.1, tQs K y.2]) fun y => tQs K (productOf y.1 y.2)) := by
  obtain ⟨fd, F⟩ := z.c.fProductOf
  refine fnb z.g_product_of F.kp (FunD.bindsN F fun _ _ _ _ _ _ us hl => match us, hl with | [_, _], _ => rfl) ?_
  refine fn_ty F sc_c_productOf (fun _ => rfl) fun cdv B outer s H E G y Hb hp => ?_
  obtain ⟨h1, h2⟩ := hp
  have b1 : ∀ t ∈ intsOf y.1, Bg t := fun t ht => Bg.le (a := 1013000) (h1.int ht) (by decide)
  have b2 : ∀ t ∈ intsOf y.2, Bg t := fun t ht => Bg.le (a := 1013000) (h2.int ht) (by decide)
  refine bl_ifr (EXW.ext (exw_or (ext_eqi (ex_lenM z rfl (EX.s (ex_v 0))) ex_int) fun _ => exw_or1 (ext_eqi (ex_lenM z rfl (EX.s (ex_v 1))) ex_int))) (fun h => ?_) fun h => ?_
  · refine bl_ret (EXL.ex (exl_lst exa_nil (by decide))) ?_
    show tL [] = tQs K (productOf y.1 y.2)
    unfold productOf
    rw [if_pos]
    · rfl
    · rcases (Bool.or_eq_true _ _).mp h with q | q
      · exact .inl (List.length_eq_zero_iff.mp (by have := of_decide_eq_true q; omega))
      · exact .inr (List.length_eq_zero_iff.mp (by have := of_decide_eq_true q; omega))
  · refine bl_unp 2 3 G (ex_call (c_wholes z) G y.1 (by decide) (exa_cons (ex_v 0) exa_nil) h1) ?_
    refine bl_unp 4 5 G (ex_call (c_wholes z) G y.2 (by decide) (exa_cons (ex_v 1) exa_nil) h2) ?_
    have L1 := lcmD_pos y.1
    have L2 := lcmD_pos y.2
    refine bl_ret ((ex_of (lcM (T := tI) (T' := tQ K) 6 (fun t : Int => Rat.divInt t ((lcmD y.1 * lcmD y.2 : Nat) : Int)) (EX.s (ex_call (c_intProduct z) G (intsOf y.1, intsOf y.2) (by decide) (exa_cons (ex_v 3) (exa_cons (ex_v 5) exa_nil)) ⟨b1, b2, by rw [ints_len]; exact h1.1, by rw [ints_len]; exact h2.1⟩)) ?_ (fun u hu _ _ _ _ _ => ?_) G) G).eq ?_)
    · have := h1.1
      have := h2.1
      unfold conv
      rw [convS_len, ints_len, ints_len]
      omega
    · refine (ex_mkQ2 z (G.blk _ _ _ _ _) (by decide) (ex_v 6) (ex_mul (ex_v 2) (ex_v 4) (Bg.le (a := 13000) (by rw [Int.natAbs_natCast]; exact h1.lcm) (by decide)) (Bg.le (a := 13000) (by rw [Int.natAbs_natCast]; exact h2.lcm) (by decide))) ?_).eq ?_
      · exact Int.mul_ne_zero (by omega) (by omega)
      · rw [Int.natCast_mul]
    · show tQs K _ = tQs K (productOf y.1 y.2)
      rw [prod_ints]
      unfold productOf
      rw [if_neg]
      intro q
      rcases q with q | q
      · rw [q] at h; cases h
      · rw [q] at h; simp at h
end
end Wk
set_option Elab.async false
set_option linter.all false
set_option maxRecDepth 100000
set_option maxHeartbeats 1000000
/-! R5: divisions, common divisors. -/
namespace Wk
open PySem PySem.Spec PyProof.Rows L2 Ty Tx Mt
/-- what a division's rows must bear -/
def DivOk (one other : List Rat) : Prop := one.length ≤ 100 ∧ other.length ≤ 100 ∧ other ≠ [] ∧ hd other ≠ 0 ∧ BqL other ∧ ∃ I : List Rat → Prop, I one ∧ ∀ rest, I rest → BqL rest ∧ (other.length ≤ rest.length → I (pRest other rest) ∧ Bq (hd rest / hd other) ∧ ∀ o ∈ other, Bq (hd rest / hd other * o))
def IRestOk (one other : List Int) : Prop := other ≠ [] ∧ hd other ≠ 0 ∧ (∀ t ∈ other, Bg t) ∧ ∃ I : List Int → Prop, I one ∧ ∀ rest, I rest → (∀ t ∈ rest, Bg t) ∧ rest.length ≤ 100 ∧ (other.length ≤ rest.length → I (iStep other rest))
def IComOk (one other : List Int) : Prop := one.length ≤ 100 ∧ other.length ≤ 100 ∧ ∃ J : List Int → List Int → Prop, J (plainRow one) (plainRow other) ∧ ∀ a b, J a b → b ≠ [] → IRestOk a b ∧ J b (intRest a b)
theorem hd_map {α β : Type} [Zero α] [Zero β] (f : α → β) {p : List α} (h : p ≠ []) : hd (p.map f) = f (hd p) := by
  have := List.length_pos_iff.mpr h
  unfold hd
  rw [List.length_map, cf_map f (by omega)]
theorem max0 {a b : Nat} : (if (a : Int) - (b : Int) + 1 > 0 then (a : Int) - (b : Int) + 1 else 0) = ((a + 1 - b : Nat) : Int) := by
  split <;> omega
theorem range_const {β : Type} (x : β) (n : Nat) : (List.range n).map (fun _ => x) = List.replicate n x := by
  apply List.ext_getElem?
  intro i
  rw [List.getElem?_map, List.getElem?_replicate]
  by_cases h : i < n
  · rw [List.getElem?_range h, if_pos h]; rfl
  · rw [List.getElem?_eq_none (by simpa using h), if_neg h]; rfl
section
variable {P : Program} {w : World} {K : PySem.W.Frag} {mg : Str → Option Value} {base : Heap} {j : Nat} {X : Cx} {Γ : List Sl} {e a b c : Expr} {pos p : Pos}
/-- a state of a division's loop -/
abbrev DivSt (one other : List Rat) (I : List Rat → Prop) : Type := { x : List Rat × List Rat // partsG other (x.2.length + 1) x = partsOf one other ∧ I x.2 ∧ x.1.length = one.length + 1 - other.length ∧ x.2.length ≤ one.length }

theorem sc_c_partsOf : FnScope ["one", "other", "rest", "quotient", "at", "shift", "factor"] ["one", "other"] (defScope sPartsOf) := ⟨rfl, rfl, rfl, by decide +kernel, rfl, by decide +kernel, by decide +kernel⟩
theorem c_partsOf (z : Wf P w K mg base) : Fn P w K mg base "parts_of" 38 ["one", "other"] (spT (fun y : List Rat × List Rat => DivOk y.1 y.2) (fun y => [tQs K y.1, tQs K y.2]) fun y => tU [tQs K (partsOf y.1 y.2).1, tQs K (partsOf y.1 y.2).2]) := by
  obtain ⟨fd, F⟩ := z.c.fPartsOf
  refine fnb z.g_parts_of F.kp (FunD.bindsN F fun _ _ _ _ _ _ us hl => match us, hl with | [_, _], _ => rfl) ?_
  refine fn_ty F sc_c_partsOf (fun _ => rfl) fun cdv B outer s H E G y Hb hp => ?_
  obtain ⟨l1, l2, hne, h0, hb, I, hI, step⟩ := hp
  obtain ⟨one, other⟩ := y
  have l1 : one.length ≤ 100 := l1
  have l2 : other.length ≤ 100 := l2
  have hne : other ≠ [] := hne
  have hpos := List.length_pos_iff.mpr hne
  refine bl_setO 2 G (exl_list (EX.s (ex_v 0)) z.b_list) ?_
  refine bl_setC 3 G (lcR (T' := tQ K) 4 (fun _ => (0 : Rat)) (ex_max G (exa_cons ex_int (exa_cons (ex_add (ex_sub (ex_lenM z rfl (EX.s (ex_v 0))) (ex_lenM z rfl (EX.s (ex_v 1)))) ex_int) exa_nil)) z.b_max) (by rw [max0]; simp only at l1 l2 ⊢; omega) (fun i hi _ _ _ _ _ => ex_mkQ1 z (G.blk _ _ _ _ _) (by decide) ex_int) G z.b_range) ?_
  refine bl_while G (β := DivSt one other I) (fun x => [.val (tQs K one), .val (tQs K other), .own (x.1.2.map (tQ K)), .own (x.1.1.map (tQ K)), .no, .no, .no]) (fun x => x.1.2.length) (fun x => decide (((other.length : Nat) : Int) ≤ ((x.1.2.length : Nat) : Int))) ⟨(List.replicate (one.length + 1 - other.length) 0, one), rfl, hI, by simp, Nat.le_refl _⟩ (.same (.same (.same (.own ?_ (.no (.no (.no .nil))))))) (fun x => ext_ge (ex_lenM z rfl (exs_v 2)) (ex_lenM z rfl (EX.s (ex_v 1)))) (fun x hx => ?_) fun x hx => ?_
  · rw [max0, Int.toNat_natCast, range_const]
  · obtain ⟨⟨quo, rest⟩, e1, e2, e3, e4⟩ := x
    have hle : other.length ≤ rest.length := by have := of_decide_eq_true hx; simp only at this; omega
    have hr : rest ≠ [] := fun q => by rw [q] at hle; simp at hle; exact hne hle
    obtain ⟨bR, st⟩ := step rest e2
    obtain ⟨i1, i2, i3⟩ := st hle
    have hs : rest.length - other.length < quo.length := by simp only at e3 e4; omega
    refine bl_set 5 G ((ex_sub (ex_lenM z rfl (exs_v 2)) (ex_lenM z rfl (EX.s (ex_v 1)))).eq (R := tI ((rest.length - other.length : Nat) : Int)) (by show tI _ = tI _; congr 2; simp only; omega)) ?_
    refine bl_set 6 G (ex_over z G (by decide) (ex_ix (exs_v 2) ex_neg1 (mlast (T := tQ K) hr)) (ex_ix (EX.s (ex_v 1)) ex_neg1 (mlast hne)) h0 (bR _ (hd_mem hr)) (hb _ (hd_mem hne))) ?_
    refine bl_setix 3 (Ps := quo.map (tQ K)) (n := rest.length - other.length) (ex_v 6) (ex_v 5) (by rw [List.length_map]; exact ixN_nat hs) ?_
    refine bl_forR 4 G (n := ((other.length : Nat) : Int) - 1) (ex_sub (ex_lenM z rfl (EX.s (ex_v 1))) ex_int) (by omega) (fun i => [.val (tQs K one), .val (tQs K other), .own ((addAt (rest.length - other.length) rest ((other.dropLast.map fun o => -(hd rest / hd other * o)).take i)).map (tQ K)), .own ((pQuo other rest quo).map (tQ K)), .no, .val (tI ((rest.length - other.length : Nat) : Int)), .val (tQ K (hd rest / hd other))]) (.same (.same (.own (by rw [List.take_zero, addAt_nil]) (.own (by rw [mset]; rfl) (.no (.same (.same .nil))))))) (fun i hi => ?_) ?_ z.b_range
    · have hi' : i < other.length - 1 := by omega
      have h4 : i < other.length := by omega
      have hlen : rest.length - other.length + i < rest.length := by omega
      have hlen2 : rest.length - other.length + i < (addAt (rest.length - other.length) rest ((other.dropLast.map fun o => -(hd rest / hd other * o)).take i)).length := by rw [addAt_len]; exact hlen
      refine bl_setix 2 (n := rest.length - other.length + i) (Ps := (addAt (rest.length - other.length) rest ((other.dropLast.map fun o => -(hd rest / hd other * o)).take i)).map (tQ K)) (ex_qsub z G (by decide) (q := cf rest (rest.length - other.length + i)) (r := hd rest / hd other * cf other i) ((ex_ix (exs_v 2) ((ex_add (ex_v 5) (ex_v 4)).eq (show tI (((rest.length - other.length : Nat) : Int) + (i : Int)) = tI ((rest.length - other.length + i : Nat) : Int) by congr 2)) (mat (T := tQ K) hlen2)).eq (by rw [addAt_fresh _ _ _ _ hlen])) (ex_qmul z G (by decide) (ex_v 6) (ex_ix (EX.s (ex_v 1)) (ex_v 4) (mat h4)) i2 (hb _ (cf_mem h4))) (bR _ (cf_mem hlen)) (i3 _ (cf_mem h4))) (ex_add (ex_v 5) (ex_v 4)) (by rw [List.length_map, show (((rest.length - other.length : Nat) : Int) + (i : Int)) = ((rest.length - other.length + i : Nat) : Int) by omega]; exact ixN_nat hlen2) (bl_fin (.same (.same (.own ?_ (.same (.no (.same (.same .nil))))))) rfl)
      rw [mset, ← addAt_step _ i _ _ (by simp; omega) hlen, addAt_fresh _ _ _ _ hlen, cf_map _ (by simp; omega), cf_dropLast _ hi', Rat.sub_eq_add_neg]
    · have hlt := pRest_lt (other := other) (rest := rest) (by omega)
      refine bl_setO 2 G (exl_list (EX.s (ex_call (c_trimmed z) G (addAt (rest.length - other.length) rest (other.dropLast.map fun o => -(hd rest / hd other * o))).dropLast (by decide) (exa_cons ((EXL.ex (exl_sl (exs_v 2) exo_n (exo_s ex_neg1))).eq ?_) exa_nil) trivial)) z.b_list) (bl_again (W := fun x : DivSt one other I => [.val (tQs K one), .val (tQs K other), .own (x.1.2.map (tQ K)), .own (x.1.1.map (tQ K)), .no, .no, .no]) (m := fun x => x.1.2.length) (y := ⟨(quo, rest), e1, e2, e3, e4⟩) ⟨(pQuo other rest quo, pRest other rest), ?_, i1, ?_, ?_⟩ (.same (.same (.same (.same (.no (.no (.no .nil))))))) hlt rfl)
      · show tL _ = tL _
        rw [cut_init, ← List.map_dropLast]
        congr 3
        rw [List.take_of_length_le (by simp)]
      · rw [← e1]
        exact (partsG_step hne hle).symm
      · show (quo.set _ _).length = _
        rw [List.length_set]; exact e3
      · exact Nat.le_trans (Nat.le_of_lt hlt) e4
  · obtain ⟨⟨quo, rest⟩, e1, e2, e3, e4⟩ := x
    have hle : ¬ other.length ≤ rest.length := by have := of_decide_eq_false hx; simp only at this; omega
    have e5 := partsG_end (quo := quo) hle
    simp only at e1
    rw [e5] at e1
    refine bl_rel 2 rfl (bl_rel 3 rfl (bl_ret (ex_tup (exa_cons (ex_v 3) (exa_cons (ex_v 2) exa_nil)) small2) ?_))
    show tU [tQs K quo, tQs K rest] = tU _
    simp only
    rw [← e1]
theorem sc_c_plainRow : FnScope ["numbers", "many", "common", "number"] ["numbers"] (defScope sPlainRow) := ⟨rfl, rfl, rfl, by decide +kernel, rfl, by decide +kernel, by decide +kernel⟩
theorem c_plainRow (z : Wf P w K mg base) : Fn P w K mg base "plain_row" 34 ["numbers"] (spT (fun y : List Int => y.length ≤ 100) (fun y => [tIs y]) fun y => tIs (plainRow y)) := by
  obtain ⟨fd, F⟩ := z.c.fPlainRow
  refine fnb z.g_plain_row F.kp (FunD.bindsN F fun _ _ _ _ _ _ us hl => match us, hl with | [_], _ => rfl) ?_
  refine fn_ty F sc_c_plainRow (fun _ => rfl) fun cdv B outer s H E G y Hb hp => ?_
  refine bl_unp 1 2 G (ex_tup (exa_cons (ex_lenM z rfl (EX.s (ex_v 0))) (exa_cons ex_int exa_nil)) small2) ?_
  refine bl_while G (β := { m : Nat // m ≤ y.length ∧ trim (y.take m) = trim y }) (fun m => [.val (tIs y), .val (tI (m.1 : Nat)), .val (tI 0), .no]) (fun m => m.1) (fun m => decide ((0 : Int) < (m.1 : Nat)) && decide (cf y (m.1 - 1) = 0)) ⟨y.length, Nat.le_refl _, by rw [List.take_length]⟩ (.same (.same (.same (.no .nil)))) (fun m => ?_) (fun m hm => ?_) fun m hm => ?_
  · refine EXW.ext (exw_and (ext_gt (ex_v 1) ex_int) fun h => exw_and1 (ext_eqi (ex_ix (EX.s (ex_v 0)) ((ex_sub (ex_v 1) ex_int).eq (R := tI ((m.1 - 1 : Nat) : Int)) ?_) (mat (T := tI) ?_)) ex_int))
    · have := of_decide_eq_true h
      congr 2
      omega
    · have := of_decide_eq_true h
      have := m.2.1
      omega
  · obtain ⟨h1, h2⟩ := Bool.and_eq_true_iff.mp hm
    have h1 := of_decide_eq_true h1
    have h2 := of_decide_eq_true h2
    obtain ⟨m, m1, m2⟩ := m
    have h3 : (0 : Int) < (m : Nat) := h1
    refine bl_set 1 G (ex_sub (ex_v 1) ex_int) (bl_again (W := fun m : { m : Nat // m ≤ y.length ∧ trim (y.take m) = trim y } => [.val (tIs y), .val (tI (m.1 : Nat)), .val (tI 0), .no]) (m := fun m => m.1) (y := ⟨m, m1, m2⟩) ⟨m - 1, by omega, ?_⟩ (.same (.val ?_ (.same (.no .nil)))) ?_ rfl)
    · have e : m - 1 + 1 = m := by omega
      rw [← m2, ← trim_step (p := y) (m := m - 1) (by omega) h2, e]
    · show tI ((m - 1 : Nat) : Int) = tI ((m : Nat) - 1)
      rw [show ((m - 1 : Nat) : Int) = (m : Nat) - 1 by omega]
    · show m - 1 < m
      omega
  · obtain ⟨m, m1, m2⟩ := m
    have et : y.take m = trim y := by
      refine Eq.trans ?_ m2
      by_cases h0 : m = 0
      · subst h0; rfl
      · have e : m - 1 + 1 = m := by omega
        rw [← e]
        refine (trim_done (p := y) (m := m - 1) (by omega) fun z => ?_).symm
        simp only at hm
        rw [z, decide_eq_true (by omega : (0 : Int) < (m : Nat))] at hm
        cases hm
    refine bl_for 3 G ((EXL.ex (exl_sl (EX.s (ex_v 0)) exo_n (exo_s (ex_v 1)))).eq (R := tIs (trim y)) (by show tL _ = tL _; rw [cut_take, ← List.map_take, et])) (fun i => [.val (tIs y), .val (tI (m : Nat)), .val (tI (((((trim y).take i).foldl (fun g n => Nat.gcd g n.natAbs) 0) : Nat) : Int)), .no]) (.same (.same (.same (.no .nil)))) (fun Hk i Pt hPt => ?_) ?_
    · obtain ⟨c, hc, rfl⟩ := mget hPt
      refine bl_set 2 G (ex_call (c_divisorOf z) G (_, c) (by decide) (exa_cons (ex_v 2) (exa_cons (ex_v 3) exa_nil)) trivial) (bl_fin (.same (.same (.val ?_ (.no .nil)))) rfl)
      show tI _ = tI _
      rw [Int.natAbs_natCast, List.take_succ, hc]
      simp [List.foldl_append]
    · rw [List.length_map, List.take_length]
      have D := wfDeep z (N := ["numbers", "many", "common", "number"]) (qual := "plain_row") (scope := defScope sPlainRow) (f := plA K (.glo "plain_row")) (cd := cdv) (A := B) (outer := outer) (s := s) (H := H) (E := E) rfl rfl
      refine bl_ret (ex_of (lcM (T := tI) (T' := tI) (xs := trim y) 3 (fun n : Int => n.fdiv ((gcdL (trim y) : Nat) : Int)) (EXL.s ((exl_sl (EX.s (ex_v 0)) exo_n (exo_s (ex_v 1))).eq (by rw [cut_take, ← List.map_take, et]))) (Nat.le_trans (trim_le y) (Nat.le_trans hp (by decide))) (fun u hu s' H' C cl fp => ?_) G) G)
      have hne : trim y ≠ [] := List.ne_nil_of_mem hu
      have h0 : hd (trim y) ≠ 0 := (trim_tr y).resolve_left hne
      have := gcdL_pos hne h0
      exact ex_fdiv (D.blk _ _ _ _ _) (G.blk _ _ _ _ _) (by decide) (ex_v 3) (ex_v 2) (by show ((gcdL (trim y) : Nat) : Int) ≠ 0; omega)
end
end Wk
set_option Elab.async false
set_option linter.all false
set_option maxRecDepth 100000
set_option maxHeartbeats 1000000
/-! R6: common divisors, powers, what is put in. -/
namespace Wk
open PySem PySem.Spec PyProof.Rows L2 Ty Tx Mt
def ComOk (one other : List Rat) : Prop := PB one ∧ PB other ∧ IComOk (intsOf one) (intsOf other)
abbrev IRSt (one other : List Int) (I : List Int → Prop) : Type := { r : List Int // plainRow (iRestG other (r.length + 1) r) = intRest one other ∧ I r }
theorem sgn_zero {q : Rat} : ((if decide (0 < q.num) then 1 else 0) - (if decide (q.num < 0) then 1 else 0) : Int) = 0 ↔ q = 0 := by
  rw [← Rat.num_eq_zero]
  generalize q.num = n
  by_cases h1 : 0 < n <;> by_cases h2 : n < 0 <;> simp [h1, h2] <;> omega
section
variable {P : Program} {w : World} {K : PySem.W.Frag} {mg : Str → Option Value} {base : Heap} {j : Nat} {X : Cx} {Γ : List Sl} {e a b c : Expr} {pos p : Pos}

theorem sc_c_intRest : FnScope ["one", "other", "rest", "head", "shift", "last", "number", "at"] ["one", "other"] (defScope sIntRest) := ⟨rfl, rfl, rfl, by decide +kernel, rfl, by decide +kernel, by decide +kernel⟩
theorem c_intRest (z : Wf P w K mg base) : Fn P w K mg base "int_rest" 35 ["one", "other"] (spT (fun y : List Int × List Int => IRestOk y.1 y.2) (fun y => [tIs y.1, tIs y.2]) fun y => tIs (intRest y.1 y.2)) := by
  obtain ⟨fd, F⟩ := z.c.fIntRest
  refine fnb z.g_int_rest F.kp (FunD.bindsN F fun _ _ _ _ _ _ us hl => match us, hl with | [_, _], _ => rfl) ?_
  refine fn_ty F sc_c_intRest (fun _ => rfl) fun cdv B outer s H E G y Hb hp => ?_
  obtain ⟨hne, h0, hb, I, hI, step⟩ := hp
  obtain ⟨one, other⟩ := y
  have hne : other ≠ [] := hne
  have hpos := List.length_pos_iff.mpr hne
  refine bl_setO 2 G (exl_list (EX.s (ex_v 0)) z.b_list) ?_
  refine bl_set 3 G ((ex_abs (exa_cons (ex_ix (EX.s (ex_v 1)) ex_neg1 (mlast hne)) exa_nil) z.b_abs).eq (R := tI ((hd other).natAbs : Nat)) (by show tI _ = tI _; congr 2; split <;> omega)) ?_
  refine bl_while G (β := IRSt one other I) (fun x => [.val (tIs one), .val (tIs other), .own (x.1.map tI), .val (tI ((hd other).natAbs : Nat)), .no, .no, .no, .no]) (fun x => x.1.length) (fun x => decide (((other.length : Nat) : Int) ≤ ((x.1.length : Nat) : Int))) ⟨one, rfl, hI⟩ (.same (.same (.same (.same (.no (.no (.no (.no .nil)))))))) (fun x => ext_ge (ex_lenM z rfl (exs_v 2)) (ex_lenM z rfl (EX.s (ex_v 1)))) (fun x hx => ?_) fun x hx => ?_
  · obtain ⟨rest, e1, e2⟩ := x
    have hle : other.length ≤ rest.length := by have := of_decide_eq_true hx; simp only at this; omega
    have hr : rest ≠ [] := fun q => by rw [q] at hle; simp at hle; exact hne hle
    obtain ⟨bR, lR, st⟩ := step rest e2
    have bh := bR _ (hd_mem' hr)
    have bo := hb _ (hd_mem' hne)
    have bl : Bg (iLast other rest) := by
      unfold iLast
      obtain ⟨a, h1, h2⟩ := bh
      split
      · exact ⟨a, h1, h2⟩
      · exact ⟨a, h1, by rw [show (0 - hd rest).natAbs = (hd rest).natAbs by omega]; exact h2⟩
    refine bl_par 4 5 G ((ex_sub (ex_lenM z rfl (exs_v 2)) (ex_lenM z rfl (EX.s (ex_v 1)))).eq (R := tI ((rest.length - other.length : Nat) : Int)) (by show tI _ = tI _; congr 2; simp only; omega)) (ex_if (P := tI (iLast other rest)) (ext_gt (ex_ix (EX.s (ex_v 1)) ex_neg1 (mlast hne)) ex_int) (fun h => (ex_ix (exs_v 2) ex_neg1 (mlast (T := tI) hr)).eq ?_) fun h => (ex_sub ex_int (ex_ix (exs_v 2) ex_neg1 (mlast (T := tI) hr))).eq ?_) ?_
    · show tI _ = tI _
      unfold iLast
      rw [if_pos (of_decide_eq_true h)]
    · show tI _ = tI _
      unfold iLast
      rw [if_neg (of_decide_eq_false h)]
    refine bl_setC 2 G (lcM (T := tI) (T' := tI) 6 (· * ((hd other).natAbs : Int)) (exs_v 2) (Nat.le_trans lR (by decide)) (fun u hu _ _ _ _ _ => ex_mul (ex_v 6) (ex_v 3) (bR u hu) (by obtain ⟨a, h1, h2⟩ := bo; exact ⟨a, h1, by simpa using h2⟩)) G) ?_
    refine bl_forE 7 6 G (ex_v 1) (fun i => [.val (tIs one), .val (tIs other), .own ((addAt (rest.length - other.length) (rest.map (· * ((hd other).natAbs : Int))) ((other.map fun n => -(iLast other rest * n)).take i)).map tI), .val (tI ((hd other).natAbs : Nat)), .val (tI ((rest.length - other.length : Nat) : Int)), .val (tI (iLast other rest)), .no, .no]) (.same (.same (.own (by rw [List.take_zero, addAt_nil]) (.same (.same (.same (.no (.no .nil)))))))) (fun Hk i Pt hPt => ?_) ?_ z.b_enumerate
    · obtain ⟨n, hn, rfl⟩ := mget hPt
      have hi : i < other.length := (List.getElem?_eq_some_iff.mp hn).1
      have hlen : rest.length - other.length + i < (rest.map (· * ((hd other).natAbs : Int))).length := by rw [List.length_map]; omega
      have hlen2 : rest.length - other.length + i < (addAt (rest.length - other.length) (rest.map (· * ((hd other).natAbs : Int))) ((other.map fun n => -(iLast other rest * n)).take i)).length := by rw [addAt_len]; exact hlen
      refine bl_setix 2 (n := rest.length - other.length + i) (Ps := (addAt (rest.length - other.length) (rest.map (· * ((hd other).natAbs : Int))) ((other.map fun n => -(iLast other rest * n)).take i)).map tI) (ex_sub (ex_ix (exs_v 2) ((ex_add (ex_v 4) (ex_v 7)).eq (show tI (((rest.length - other.length : Nat) : Int) + (i : Int)) = tI ((rest.length - other.length + i : Nat) : Int) by congr 2)) (mat (T := tI) hlen2)) (ex_mul (ex_v 5) (ex_v 6) bl (hb _ (getL hn)))) (ex_add (ex_v 4) (ex_v 7)) (by rw [List.length_map, show (((rest.length - other.length : Nat) : Int) + (i : Int)) = ((rest.length - other.length + i : Nat) : Int) by omega]; exact ixN_nat hlen2) (bl_fin (.same (.same (.own ?_ (.same (.same (.same (.no (.no .nil)))))))) rfl)
      rw [mset, ← addAt_step _ i _ _ (by simpa using hi) hlen, cf_map _ hi, cf_of hn, Int.sub_eq_add_neg]
    · rw [List.length_map]
      have hlt := iStep_lt (rest := rest) hne hle
      refine bl_rel 2 rfl (bl_setO 2 G (Ps := (iStep other rest).map tI) (exl_list (EX.s (ex_call (c_plainRow z) G (iMid other rest) (by decide) (exa_cons ((ex_v 2).eq ?_) exa_nil) (by rw [iMid_len]; exact lR))) z.b_list) (bl_again (W := fun x : IRSt one other I => [.val (tIs one), .val (tIs other), .own (x.1.map tI), .val (tI ((hd other).natAbs : Nat)), .no, .no, .no, .no]) (m := fun x => x.1.length) (y := ⟨rest, e1, e2⟩) ⟨iStep other rest, ?_, st hle⟩ (.same (.same (.same (.same (.no (.no (.no (.no .nil)))))))) hlt rfl))
      · show tL _ = tL _
        rw [List.take_of_length_le (by simp)]
        rfl
      · rw [← e1, ← iRestG_step hne hle]
  · obtain ⟨rest, e1, e2⟩ := x
    have hle : ¬ other.length ≤ rest.length := by have := of_decide_eq_false hx; simp only at this; omega
    have e5 := iRestG_end hle
    rw [e5] at e1
    exact bl_rel 2 rfl (bl_ret (ex_call (c_plainRow z) G rest (by decide) (exa_cons (ex_v 2) exa_nil) (step rest e2).2.1) (congrArg tIs e1))
theorem sc_c_intCommon : FnScope ["one", "other", "near", "far"] ["one", "other"] (defScope sIntCommon) := ⟨rfl, rfl, rfl, by decide +kernel, rfl, by decide +kernel, by decide +kernel⟩
theorem c_intCommon (z : Wf P w K mg base) : Fn P w K mg base "int_common" 37 ["one", "other"] (spT (fun y : List Int × List Int => IComOk y.1 y.2) (fun y => [tIs y.1, tIs y.2]) fun y => tIs (intCommon y.1 y.2)) := by
  obtain ⟨fd, F⟩ := z.c.fIntCommon
  refine fnb z.g_int_common F.kp (FunD.bindsN F fun _ _ _ _ _ _ us hl => match us, hl with | [_, _], _ => rfl) ?_
  refine fn_ty F sc_c_intCommon (fun _ => rfl) fun cdv B outer s H E G y Hb hp => ?_
  obtain ⟨l1, l2, J, hJ, step⟩ := hp
  obtain ⟨one, other⟩ := y
  refine bl_par 2 3 G (ex_call (c_plainRow z) G one (by decide) (exa_cons (ex_v 0) exa_nil) l1) (ex_call (c_plainRow z) G other (by decide) (exa_cons (ex_v 1) exa_nil) l2) ?_
  refine bl_while G (β := { x : List Int × List Int // iComG (x.2.length + 1) x.1 x.2 = intCommon one other ∧ J x.1 x.2 }) (fun x => [.val (tIs one), .val (tIs other), .val (tIs x.1.1), .val (tIs x.1.2)]) (fun x => x.1.2.length) (fun x => decide ((0 : Int) < ((x.1.2.length : Nat) : Int))) ⟨(plainRow one, plainRow other), rfl, hJ⟩ (.same (.same (.same (.same .nil)))) (fun x => ext_gt (ex_lenM z rfl (EX.s (ex_v 3))) ex_int) (fun x hx => ?_) fun x hx => ?_
  · obtain ⟨⟨a, b⟩, e1, e2⟩ := x
    have hb : b ≠ [] := fun q => by subst q; cases hx
    obtain ⟨s1, s2⟩ := step a b e2 hb
    exact bl_par 2 3 G (ex_v 3) (ex_call (c_intRest z) G (a, b) (by decide) (exa_cons (ex_v 2) (exa_cons (ex_v 3) exa_nil)) s1) (bl_again (W := fun x : { x : List Int × List Int // iComG (x.2.length + 1) x.1 x.2 = intCommon one other ∧ J x.1 x.2 } => [.val (tIs one), .val (tIs other), .val (tIs x.1.1), .val (tIs x.1.2)]) (m := fun x => x.1.2.length) (y := ⟨(a, b), e1, e2⟩) ⟨(b, intRest a b), (iComG_step hb).symm.trans e1, s2⟩ (.same (.same (.same (.same .nil)))) (intRest_lt hb) rfl)
  · obtain ⟨⟨a, b⟩, e1, e2⟩ := x
    have hb : b = [] := List.length_eq_zero_iff.mp (by have := of_decide_eq_false hx; simp only at this; omega)
    subst hb
    have e5 := iComG_end (a := a)
    simp only at e1
    rw [e5] at e1
    exact bl_ret (ex_v 2) (congrArg tIs e1)
theorem sc_c_commonOf : FnScope ["one", "other", "near", "number"] ["one", "other"] (defScope sCommonOf) := ⟨rfl, rfl, rfl, by decide +kernel, rfl, by decide +kernel, by decide +kernel⟩
theorem c_commonOf (z : Wf P w K mg base) : Fn P w K mg base "common_of" 38 ["one", "other"] (spT (fun y : List Rat × List Rat => ComOk y.1 y.2 ∧ (commonOf y.1 y.2).length ≤ 100) (fun y => [tQs K y.1, tQs K y.2]) fun y => tQs K (commonOf y.1 y.2)) := by
  obtain ⟨fd, F⟩ := z.c.fCommonOf
  refine fnb z.g_common_of F.kp (FunD.bindsN F fun _ _ _ _ _ _ us hl => match us, hl with | [_, _], _ => rfl) ?_
  refine fn_ty F sc_c_commonOf (fun _ => rfl) fun cdv B outer s H E G y Hb hp => ?_
  obtain ⟨⟨h1, h2, h3⟩, h4⟩ := hp
  refine bl_set 2 G (ex_call (c_intCommon z) G (intsOf y.1, intsOf y.2) (by decide) (exa_cons (ex_ixT (ex_call (c_wholes z) G y.1 (by decide) (exa_cons (ex_v 0) exa_nil) h1) ex_int rfl) (exa_cons (ex_ixT (ex_call (c_wholes z) G y.2 (by decide) (exa_cons (ex_v 1) exa_nil) h2) ex_int rfl) exa_nil)) h3) ?_
  refine bl_ret (ex_of (lcM (T := tI) (T' := tQ K) 3 (fun n : Int => Rat.divInt n (hd (intCommon (intsOf y.1) (intsOf y.2)))) (EX.s (ex_v 2)) ?_ (fun u hu _ _ _ _ _ => ?_) G) G)
  · unfold commonOf at h4
    rw [List.length_map] at h4
    exact Nat.le_trans h4 (by decide)
  · have hne := List.ne_nil_of_mem hu
    exact ex_mkQ2 z (G.blk _ _ _ _ _) (by decide) (ex_v 3) (ex_ix (EX.s (ex_v 2)) ex_neg1 (mlast hne)) ((intCommon_tr _ _).resolve_left hne)
theorem sc_c_lowest : FnScope ["top", "bottom", "shared", "near", "far", "number"] ["top", "bottom"] (defScope sLowest) := ⟨rfl, rfl, rfl, by decide +kernel, rfl, by decide +kernel, by decide +kernel⟩
theorem c_lowest (z : Wf P w K mg base) : Fn P w K mg base "lowest" 40 ["top", "bottom"] (spT (fun y : List Rat × List Rat => y.1 ≠ [] ∧ y.2 ≠ [] ∧ hd y.2 ≠ 0 ∧ ComOk y.1 y.2 ∧ (commonOf y.1 y.2).length ≤ 1) (fun y => [tQs K y.1, tQs K y.2]) fun y => tU [tQs K (y.1.map (· / hd y.2)), tQs K (y.2.map (· / hd y.2))]) := by
  obtain ⟨fd, F⟩ := z.c.fLowest
  refine fnb z.g_lowest F.kp (FunD.bindsN F fun _ _ _ _ _ _ us hl => match us, hl with | [_, _], _ => rfl) ?_
  refine fn_ty F sc_c_lowest (fun _ => rfl) fun cdv B outer s H E G y Hb hp => ?_
  obtain ⟨n1, n2, h0, hc, h1⟩ := hp
  obtain ⟨one, other⟩ := y
  have n1 : one ≠ [] := n1
  have n2 : other ≠ [] := n2
  have p1 := List.length_pos_iff.mpr n1
  have hB : Bq (hd other) := hc.2.1.q (hd_mem n2)
  refine bl_ifr (ext_eqi (ex_lenM z rfl (EX.s (ex_v 0))) ex_int) (fun h => absurd (of_decide_eq_true h) (by simp only; omega)) fun _ => ?_
  refine bl_set 2 G (ex_call (c_commonOf z) G (one, other) (by decide) (exa_cons (ex_v 0) (exa_cons (ex_v 1) exa_nil)) ⟨hc, Nat.le_trans h1 (by decide)⟩) ?_
  refine bl_unp 3 4 G (ex_if (ext_gt (ex_lenM z rfl (EX.s (ex_v 2))) ex_int) (fun h => absurd (of_decide_eq_true h) (by simp only at h1 ⊢; omega)) fun _ => ex_tup (exa_cons (ex_v 0) (exa_cons (ex_v 1) exa_nil)) small2) ?_
  refine bl_ret (ex_tup (exa_cons (ex_of (lcM (T := tQ K) (T' := tQ K) 5 (· / hd other) (EX.s (ex_v 3)) (Nat.le_trans hc.1.1 (by decide)) (fun u hu _ _ _ _ _ => ?_) G) G) (exa_cons (ex_of (lcM (T := tQ K) (T' := tQ K) 5 (· / hd other) (EX.s (ex_v 4)) (Nat.le_trans hc.2.1.1 (by decide)) (fun u hu _ _ _ _ _ => ?_) G) G) exa_nil)) small2)
  · exact ex_over z (G.blk _ _ _ _ _) (by decide) (ex_v 5) (ex_ix (EX.s (ex_v 4)) ex_neg1 (mlast n2)) h0 (hc.1.q hu) hB
  · exact ex_over z (G.blk _ _ _ _ _) (by decide) (ex_v 5) (ex_ix (EX.s (ex_v 4)) ex_neg1 (mlast n2)) h0 (hc.2.1.q hu) hB
end
end Wk
set_option Elab.async false
set_option linter.all false
set_option maxRecDepth 100000
set_option maxHeartbeats 1000000
/-! R7: fractions. -/
namespace Wk
open PySem PySem.Spec PyProof.Rows L2 Ty Tx Mt
/-- a number as it is handed in: a Ratio, or an int -/
def tG (K : PySem.W.Frag) (q : Rat) : Pd := tEx (fun b : Unit ⊕ PLift (q.den = 1) => match b with
  | .inl _ => tQ K q
  | .inr _ => tI q.num)
/-- a list or a tuple -/
def tLU (Ps : List Pd) : Pd := tEx (fun b : Bool => match b with
  | true => tU Ps
  | false => tL Ps)
def tAny : Pd := ⟨fun _ _ => True, fun _ h => h⟩
abbrev tKn (K : PySem.W.Frag) (T B : List Rat) : Pd := tO (kA K) [("own_top", tQs K T), ("own_bottom", tQs K B)]
abbrev tF (K : PySem.W.Frag) (x : List Rat × List Rat) : Pd := tO (fA K) [("own_top", tQs K x.1), ("own_bottom", tQs K x.2)]
abbrev degF (x : List Rat × List Rat) : Nat := max x.1.length x.2.length - 1
theorem den1 {q : Rat} (h : q.den = 1) : ((q.num : Int) : Rat) = q := by
  rw [← int_eq]
  have := Rat.num_divInt_den q
  rw [h] at this
  exact this
def PutOk (top bottom near far : List Rat) : Prop := top.length ≤ 50 ∧ bottom.length ≤ 50 ∧ 0 < max top.length bottom.length ∧ (∀ i, i ≤ max top.length bottom.length - 1 → PB (pw near i) ∧ PB (pw far i)) ∧ PB near ∧ PB far ∧
  ∀ poly, poly = top ∨ poly = bottom → BqL poly ∧ ∀ i, i < poly.length → BqL (productOf (pw near i) (pw far (max top.length bottom.length - 1 - i))) ∧ (productOf (pw near i) (pw far (max top.length bottom.length - 1 - i))).length ≤ 1000 ∧
    BqL (byNumber (productOf (pw near i) (pw far (max top.length bottom.length - 1 - i))) (cf poly i)) ∧ BqL (putS (max top.length bottom.length - 1) near far poly i) ∧ (putS (max top.length bottom.length - 1) near far poly i).length ≤ 1000
def putPair (top bottom near far : List Rat) : List Rat × List Rat := (putS (max top.length bottom.length - 1) near far top top.length, putS (max top.length bottom.length - 1) near far bottom bottom.length)
section
variable {P : Program} {w : World} {K : PySem.W.Frag} {mg : Str → Option Value} {base : Heap} {j : Nat} {X : Cx} {Γ : List Sl} {e a b c : Expr} {pos p : Pos}

theorem sc_c_isNumber_g : FnScope ["value"] ["value"] (defScope sIsNumber) := ⟨rfl, rfl, rfl, by decide +kernel, rfl, by decide +kernel, by decide +kernel⟩
theorem c_isNumber_g (z : Wf P w K mg base) : Fn P w K mg base "is_number" 34 ["value"] (spT (fun y : Rat => True) (fun y => [tG K y]) fun y => tB true) := by
  obtain ⟨fd, F⟩ := z.c.fIsNumber
  refine fnb z.g_is_number F.kp (FunD.bindsN F fun _ _ _ _ _ _ us hl => match us, hl with | [_], _ => rfl) ?_
  refine fn_ty F sc_c_isNumber_g (fun _ => rfl) fun cdv B outer s H E G y Hb hp => ?_
  refine bl_case 0 fun v => ?_
  cases v with
  | inl _ => exact bl_ret (ex_or (l := true) (ex_call (c_isInteger_q z) G y (by decide) (exa_cons (ex_v 0) exa_nil) trivial) fun _ => ex_one (ex_isQ z G (ex_v 0)))
  | inr h => exact bl_ret (ex_or (l := true) (ex_call (c_isInteger_int z) G y.num (by decide) (exa_cons (ex_v 0) exa_nil) trivial) fun h => by cases h)
theorem sc_c_ratioOf_g : FnScope ["number"] ["number"] (defScope sRatioOf) := ⟨rfl, rfl, rfl, by decide +kernel, rfl, by decide +kernel, by decide +kernel⟩
theorem c_ratioOf_g (z : Wf P w K mg base) : Fn P w K mg base "ratio_of" 36 ["number"] (spT (fun y : Rat => True) (fun y => [tG K y]) fun y => tQ K y) := by
  obtain ⟨fd, F⟩ := z.c.fRatioOf
  refine fnb z.g_ratio_of F.kp (FunD.bindsN F fun _ _ _ _ _ _ us hl => match us, hl with | [_], _ => rfl) ?_
  refine fn_ty F sc_c_ratioOf_g (fun _ => rfl) fun cdv B outer s H E G y Hb hp => ?_
  refine bl_case 0 fun v => ?_
  cases v with
  | inl _ => exact bl_ret (ex_if (ext_val (ex_isQ z G (ex_v 0))) (fun _ => ex_v 0) (fun h => by cases h))
  | inr h => exact bl_ret (ex_if (ext_val (ex_isQi z G (ex_v 0))) (fun h => by cases h) (fun _ => (ex_mkQ1 z G (by decide) (ex_v 0)).eq (by rw [den1 h.down])))
theorem sc_c_isList : FnScope ["value"] ["value"] (defScope sIsList) := ⟨rfl, rfl, rfl, by decide +kernel, rfl, by decide +kernel, by decide +kernel⟩
theorem c_isList (z : Wf P w K mg base) : Fn P w K mg base "is_list" 33 ["value"] (spT (fun y : List Pd => True) (fun y => [tLU y]) fun y => tB true) := by
  obtain ⟨fd, F⟩ := z.c.fIsList
  refine fnb z.g_is_list F.kp (FunD.bindsN F fun _ _ _ _ _ _ us hl => match us, hl with | [_], _ => rfl) ?_
  refine fn_ty F sc_c_isList (fun _ => rfl) fun cdv B outer s H E G y Hb hp => ?_
  refine bl_case 0 fun v => ?_
  have kt : PySem.W.kitAny K (.type "tuple") [.type "list", .type "tuple"] = some true := kitAny_cons (b := false) (kit_ty (r := false) (by decide +kernel)) (fun _ => kitAny_cons (b := true) (kit_ty (r := true) (by decide +kernel)) (fun h => by cases h) fun _ => rfl) fun h => by cases h
  have kl : PySem.W.kitAny K (.type "list") [.type "list", .type "tuple"] = some true := kitAny_cons (b := true) (kit_ty (r := true) (by decide +kernel)) (fun h => by cases h) fun _ => rfl
  have tt : ∀ v H, (tU y).p v H → TyX K H v (.type "tuple") := fun v H ⟨a, vs, h1, h2, _⟩ => by subst h1; exact .base (.tup h2)
  have tl : ∀ v H, (tL y).p v H → TyX K H v (.type "list") := fun v H ⟨a, vs, h1, h2, _⟩ => by subst h1; exact .base (.lst h2)
  cases v with
  | true => exact bl_ret (ex_isiT (ex_v 0) (ex_tup (exa_cons (ex_ty "list" z.b_list) (exa_cons (ex_ty "tuple" z.b_tuple) exa_nil)) small2) (.ty "list") (.ty "tuple") tt kt z.b_isinstance)
  | false => exact bl_ret (ex_isiT (ex_v 0) (ex_tup (exa_cons (ex_ty "list" z.b_list) (exa_cons (ex_ty "tuple" z.b_tuple) exa_nil)) small2) (.ty "list") (.ty "tuple") tl kl z.b_isinstance)
theorem all_true (xs : List Rat) : ((xs.map fun _ => true).all id) = true := by simp

theorem sc_c_isPoly : FnScope ["value", "number"] ["value"] (defScope sIsPoly) := ⟨rfl, rfl, rfl, by decide +kernel, rfl, by decide +kernel, by decide +kernel⟩
theorem c_isPoly (z : Wf P w K mg base) : Fn P w K mg base "is_poly" 36 ["value"] (spT (fun y : List Rat => y.length ≤ 25) (fun y => [tLU (y.map (tG K))]) fun y => tB true) := by
  obtain ⟨fd, F⟩ := z.c.fIsPoly
  refine fnb z.g_is_poly F.kp (FunD.bindsN F fun _ _ _ _ _ _ us hl => match us, hl with | [_], _ => rfl) ?_
  refine fn_ty F sc_c_isPoly (fun _ => rfl) fun cdv B outer s H E G y Hb hp => ?_
  obtain ⟨t, hm⟩ := z.n_MOST_NUMBERS
  have hl : y.length ≤ 1000 := Nat.le_trans hp (by decide)
  refine bl_case 0 fun v => ?_
  cases v with
  | true => exact bl_ret (ex_and (l := true) (k := true) (ex_call (c_isList z) G (y.map (tG K)) (by decide) (exa_cons (EX.some (T := fun b : Bool => match b with | true => tU (y.map (tG K)) | false => tL (y.map (tG K))) (y := true) (ex_v 0)) exa_nil) trivial) fun _ => ex_and (l := true) (k := true) ((ex_ci2 op_le (ex_lenMT z rfl (ex_v 0)) (ex_glob hm ⟨t, rfl⟩)).eq (by rw [decide_eq_true (by omega)])) fun _ => ex_one ((ex_all G (ex_of (lcMT (T := tG K) (T' := tB) 1 (fun _ : Rat => true) (ex_v 0) hl (fun u hu _ _ _ _ _ => ex_call (c_isNumber_g z) (G.blk _ _ _ _ _) u (by decide) (exa_cons (ex_v 1) exa_nil) trivial) G) G) z.b_all).eq (by rw [all_true])))
  | false => exact bl_ret (ex_and (l := true) (k := true) (ex_call (c_isList z) G (y.map (tG K)) (by decide) (exa_cons (EX.some (T := fun b : Bool => match b with | true => tU (y.map (tG K)) | false => tL (y.map (tG K))) (y := false) (ex_v 0)) exa_nil) trivial) fun _ => ex_and (l := true) (k := true) ((ex_ci2 op_le (ex_lenM z rfl (EX.s (ex_v 0))) (ex_glob hm ⟨t, rfl⟩)).eq (by rw [decide_eq_true (by omega)])) fun _ => ex_one ((ex_all G (ex_of (lcM (T := tG K) (T' := tB) 1 (fun _ : Rat => true) (EX.s (ex_v 0)) hl (fun u hu _ _ _ _ _ => ex_call (c_isNumber_g z) (G.blk _ _ _ _ _) u (by decide) (exa_cons (ex_v 1) exa_nil) trivial) G) G) z.b_all).eq (by rw [all_true])))
theorem sc_c_wantPoly : FnScope ["value", "number"] ["value"] (defScope sWantPoly) := ⟨rfl, rfl, rfl, by decide +kernel, rfl, by decide +kernel, by decide +kernel⟩
theorem c_wantPoly (z : Wf P w K mg base) : Fn P w K mg base "want_poly" 38 ["value"] (spT (fun y : List Rat => y.length ≤ 25) (fun y => [tLU (y.map (tG K))]) fun y => tQs K (trim y)) := by
  obtain ⟨fd, F⟩ := z.c.fWantPoly
  refine fnb z.g_want_poly F.kp (FunD.bindsN F fun _ _ _ _ _ _ us hl => match us, hl with | [_], _ => rfl) ?_
  refine fn_ty F sc_c_wantPoly (fun _ => rfl) fun cdv B outer s H E G y Hb hp => ?_
  have hl : y.length ≤ 1000 := Nat.le_trans hp (by decide)
  refine bl_ifr (ext_not (ext_val (ex_call (c_isPoly z) G y (by decide) (exa_cons (ex_v 0) exa_nil) hp))) (fun h => by cases h) fun _ => ?_
  refine bl_case 0 fun v => ?_
  have fin : ∀ u : Rat, id u = u := fun _ => rfl
  cases v with
  | true => exact bl_ret (ex_call (c_trimmed z) G y (by decide) (exa_cons ((ex_of (lcMT (T := tG K) (T' := tQ K) 1 (id : Rat → Rat) (ex_v 0) hl (fun u hu _ _ _ _ _ => ex_call (c_ratioOf_g z) (G.blk _ _ _ _ _) u (by decide) (exa_cons (ex_v 1) exa_nil) trivial) G) G).eq (by rw [List.map_id])) exa_nil) trivial)
  | false => exact bl_ret (ex_call (c_trimmed z) G y (by decide) (exa_cons ((ex_of (lcM (T := tG K) (T' := tQ K) 1 (id : Rat → Rat) (EX.s (ex_v 0)) hl (fun u hu _ _ _ _ _ => ex_call (c_ratioOf_g z) (G.blk _ _ _ _ _) u (by decide) (exa_cons (ex_v 1) exa_nil) trivial) G) G).eq (by rw [List.map_id])) exa_nil) trivial)
theorem sc_c_rightPair : FnScope ["top", "bottom", "near", "far"] ["top", "bottom"] (defScope sRightPair) := ⟨rfl, rfl, rfl, by decide +kernel, rfl, by decide +kernel, by decide +kernel⟩
theorem c_rightPair (z : Wf P w K mg base) : Fn P w K mg base "right_pair" 42 ["top", "bottom"] (spT (fun y : List Rat × List Rat => y.1.length ≤ 25 ∧ y.2.length ≤ 25 ∧ trim y.1 ≠ [] ∧ trim y.2 ≠ [] ∧ ComOk (trim y.1) (trim y.2) ∧ (commonOf (trim y.1) (trim y.2)).length ≤ 1) (fun y => [tLU (y.1.map (tG K)), tLU (y.2.map (tG K))]) fun y => tU [tQs K ((trim y.1).map (· / hd (trim y.2))), tQs K ((trim y.2).map (· / hd (trim y.2)))]) := by
  obtain ⟨fd, F⟩ := z.c.fRightPair
  refine fnb z.g_right_pair F.kp (FunD.bindsN F fun _ _ _ _ _ _ us hl => match us, hl with | [_, _], _ => rfl) ?_
  refine fn_ty F sc_c_rightPair (fun _ => rfl) fun cdv B outer s H E G y Hb hp => ?_
  obtain ⟨l1, l2, n1, n2, hc, h1⟩ := hp
  refine bl_set 2 G (ex_call (c_wantPoly z) G y.1 (by decide) (exa_cons (ex_v 0) exa_nil) l1) ?_
  refine bl_set 3 G (ex_call (c_wantPoly z) G y.2 (by decide) (exa_cons (ex_v 1) exa_nil) l2) ?_
  refine bl_ifr (ext_eqi (ex_lenM z rfl (EX.s (ex_v 3))) ex_int) (fun h => absurd (List.length_eq_zero_iff.mp (by have := of_decide_eq_true h; omega)) n2) fun _ => ?_
  exact bl_ret (ex_call (c_lowest z) G (trim y.1, trim y.2) (by decide) (exa_cons (ex_v 2) (exa_cons (ex_v 3) exa_nil)) ⟨n1, n2, (trim_tr y.2).resolve_left n2, hc, h1⟩)
theorem sc_c_powersOf : FnScope ["poly", "many", "found", "turn"] ["poly", "many"] (defScope sPowersOf) := ⟨rfl, rfl, rfl, by decide +kernel, rfl, by decide +kernel, by decide +kernel⟩
theorem c_powersOf (z : Wf P w K mg base) : Fn P w K mg base "powers_of" 38 ["poly", "many"] (spT (fun y : List Rat × Nat => y.2 ≤ 100 ∧ PB y.1 ∧ ∀ k, k < y.2 → PB (pw y.1 k)) (fun y => [tQs K y.1, tI (y.2 : Nat)]) fun y => tL ((List.range (y.2 + 1)).map fun k => tQs K (pw y.1 k))) := by
  obtain ⟨fd, F⟩ := z.c.fPowersOf
  refine fnb z.g_powers_of F.kp (FunD.bindsN F fun _ _ _ _ _ _ us hl => match us, hl with | [_, _], _ => rfl) ?_
  refine fn_ty F sc_c_powersOf (fun _ => rfl) fun cdv B outer s H E G y Hb hp => ?_
  obtain ⟨hn, h1, h2⟩ := hp
  refine bl_setO 2 G (exl_lst (exa_cons (EXL.ex (exl_lst (exa_cons (ex_mkQ1 z G (by decide) ex_int) exa_nil) (Nat.le_of_ble_eq_true rfl))) exa_nil) (Nat.le_of_ble_eq_true rfl)) ?_
  refine bl_forR 3 G (n := ((y.2 : Nat) : Int)) (ex_v 1) (by omega) (fun i => [.val (tQs K y.1), .val (tI (y.2 : Nat)), .own ((List.range (i + 1)).map fun k => tQs K (pw y.1 k)), .no]) (.same (.same (.own rfl (.no .nil)))) (fun i hi => ?_) ?_ z.b_range
  · have e : (List.range (i + 1)).map (fun k => tQs K (pw y.1 k)) ++ [tQs K (productOf (pw y.1 i) y.1)] = (List.range (i + 1 + 1)).map fun k => tQs K (pw y.1 k) := by
      rw [List.range_succ (n := i + 1), List.map_append]
      rfl
    have el : ((List.range (i + 1)).map fun k => tQs K (pw y.1 k)).getLast? = some (tQs K (pw y.1 i)) := by
      rw [List.range_succ, List.map_append]
      simp
    refine bl_app 2 (Ps := (List.range (i + 1)).map fun k => tQs K (pw y.1 k)) (ex_call (c_productOf z) G (pw y.1 i, y.1) (by decide) (exa_cons (ex_ix (exs_v 2) ex_neg1 (at_last el)) (exa_cons (ex_v 0) exa_nil)) ⟨h2 i (by omega), h1⟩) (bl_fin (.same (.same (.own e.symm (.no .nil)))) rfl) (by simp; omega)
  · rw [Int.toNat_natCast]
    exact bl_rel 2 rfl (bl_ret (ex_v 2))
theorem sc_c_putPair : FnScope ["top", "bottom", "near", "far", "high", "above", "below", "found", "poly", "total", "at", "number"] ["top", "bottom", "near", "far"] (defScope sPutPair) := ⟨rfl, rfl, rfl, by decide +kernel, rfl, by decide +kernel, by decide +kernel⟩
theorem c_putPair (z : Wf P w K mg base) : Fn P w K mg base "put_pair" 40 ["top", "bottom", "near", "far"] (spT (fun y : (List Rat × List Rat) × (List Rat × List Rat) => PutOk y.1.1 y.1.2 y.2.1 y.2.2) (fun y => [tQs K y.1.1, tQs K y.1.2, tQs K y.2.1, tQs K y.2.2]) fun y => tU [tQs K (putPair y.1.1 y.1.2 y.2.1 y.2.2).1, tQs K (putPair y.1.1 y.1.2 y.2.1 y.2.2).2]) := by
  obtain ⟨fd, F⟩ := z.c.fPutPair
  refine fnb z.g_put_pair F.kp (FunD.bindsN F fun _ _ _ _ _ _ us hl => match us, hl with | [_, _, _, _], _ => rfl) ?_
  refine fn_ty F sc_c_putPair (fun _ => rfl) fun cdv B outer s H E G y Hb hp => ?_
  obtain ⟨⟨top, bottom⟩, near, far⟩ := y
  obtain ⟨l1, l2, hh, hpw, hn, hf, hs⟩ := hp
  simp only at l1 l2 hh hpw hn hf hs ⊢
  generalize hH : max top.length bottom.length - 1 = high at hpw hs
  have hhi : high ≤ 50 := by omega
  have hG : ∀ k : Nat, k ≤ high → (((List.range (high + 1)).map fun k => tQs K (pw near k)))[k]? = some (tQs K (pw near k)) ∧ (((List.range (high + 1)).map fun k => tQs K (pw far k)))[k]? = some (tQs K (pw far k)) := fun k hk => by
    rw [List.getElem?_map, List.getElem?_map, List.getElem?_range (by omega)]
    exact ⟨rfl, rfl⟩
  refine bl_set 4 G ((ex_sub (ex_max G (exa_cons (ex_lenM z rfl (EX.s (ex_v 0))) (exa_cons (ex_lenM z rfl (EX.s (ex_v 1))) exa_nil)) z.b_max) ex_int).eq (R := tI (high : Nat)) (by show tI _ = tI _; congr 2; split <;> omega)) ?_
  refine bl_par 5 6 G (ex_call (c_powersOf z) G (near, high) (by decide) (exa_cons (ex_v 2) (exa_cons (ex_v 4) exa_nil)) ⟨by omega, hn, fun k hk => (hpw k (by omega)).1⟩) (ex_call (c_powersOf z) G (far, high) (by decide) (exa_cons (ex_v 3) (exa_cons (ex_v 4) exa_nil)) ⟨by omega, hf, fun k hk => (hpw k (by omega)).2⟩) ?_
  refine bl_setO 7 G (exl_lst exa_nil (Nat.le_of_ble_eq_true rfl)) ?_
  refine bl_forT 8 G (Ps := [tQs K top, tQs K bottom]) (ex_tup (exa_cons (ex_v 0) (exa_cons (ex_v 1) exa_nil)) small2) (fun i => [.val (tQs K top), .val (tQs K bottom), .val (tQs K near), .val (tQs K far), .val (tI (high : Nat)), .val (tL ((List.range (high + 1)).map fun k => tQs K (pw near k))), .val (tL ((List.range (high + 1)).map fun k => tQs K (pw far k))), .own (([tQs K (putS high near far top top.length), tQs K (putS high near far bottom bottom.length)] : List Pd).take i), .no, .no, .no, .no]) (.same (.same (.same (.same (.same (.same (.same (.same (.no (.no (.no (.no .nil)))))))))))) (fun Hk i Pt hPt => ?_) ?_
  · have hcase : ∃ poly, Pt = tQs K poly ∧ (poly = top ∨ poly = bottom) ∧ ([tQs K (putS high near far top top.length), tQs K (putS high near far bottom bottom.length)] : List Pd).take i ++ [tQs K (putS high near far poly poly.length)] = ([tQs K (putS high near far top top.length), tQs K (putS high near far bottom bottom.length)] : List Pd).take (i + 1) ∧ i < 2 := by
      match i, hPt with
      | 0, hPt => cases hPt; exact ⟨top, rfl, .inl rfl, rfl, by decide⟩
      | 1, hPt => cases hPt; exact ⟨bottom, rfl, .inr rfl, rfl, by decide⟩
      | n + 2, hPt => simp at hPt
    obtain ⟨poly, rfl, hpo, etake, hi2⟩ := hcase
    obtain ⟨bp, hsz⟩ := hs poly hpo
    have lp : poly.length ≤ high + 1 := by rcases hpo with rfl | rfl <;> omega
    refine bl_set 9 G (EXL.ex (exl_lst exa_nil (Nat.le_of_ble_eq_true rfl))) ?_
    refine bl_forE 10 11 G (Ps := poly.map (tQ K)) (ex_v 8) (fun t => [.val (tQs K top), .val (tQs K bottom), .val (tQs K near), .val (tQs K far), .val (tI (high : Nat)), .val (tL ((List.range (high + 1)).map fun k => tQs K (pw near k))), .val (tL ((List.range (high + 1)).map fun k => tQs K (pw far k))), .own (([tQs K (putS high near far top top.length), tQs K (putS high near far bottom bottom.length)] : List Pd).take i), .val (tQs K poly), .val (tQs K (putS high near far poly t)), .no, .no]) (.same (.same (.same (.same (.same (.same (.same (.same (.same (.val rfl (.no (.no .nil)))))))))))) (fun Hk2 t Pt2 hPt2 => ?_) ?_ z.b_enumerate
    · obtain ⟨c, hc, rfl⟩ := mget hPt2
      have ht : t < poly.length := (List.getElem?_eq_some_iff.mp hc).1
      obtain ⟨s1, s2, s3, s4, s5⟩ := hsz t ht
      rw [cf_of hc] at s3
      refine bl_if (ext_nei (ex_psign z G (by decide) (ex_v 11)) ex_int) (fun hne => ?_) fun heq => ?_
      · have h0 : c ≠ 0 := fun q => by rw [decide_eq_true (sgn_zero.mpr q)] at hne; cases hne
        refine bl_set 9 G (ex_call (c_sumOf z) G (putS high near far poly t, byNumber (productOf (pw near t) (pw far (high - t))) c) (by decide) (exa_cons (ex_v 9) (exa_cons (ex_call (c_byNumber z) G (productOf (pw near t) (pw far (high - t)), c) (by decide) (exa_cons (ex_call (c_productOf z) G (pw near t, pw far (high - t)) (by decide) (exa_cons (ex_ix (EX.s (ex_v 5)) (ex_v 10) (at_nat (hG t (by omega)).1)) (exa_cons (ex_ix (EX.s (ex_v 6)) ((ex_sub (ex_v 4) (ex_v 10)).eq (R := tI ((high - t : Nat) : Int)) (by show tI _ = tI _; congr 2; omega)) (at_nat (hG (high - t) (by omega)).2)) exa_nil)) ⟨(hpw t (by omega)).1, (hpw (high - t) (by omega)).2⟩) (exa_cons (ex_v 11) exa_nil)) ⟨s1, bp _ (getL hc), s2⟩) exa_nil)) ⟨s4, s3, s5, Nat.le_trans (trim_le _) (by rw [List.length_map]; exact s2)⟩) (bl_fin (.same (.same (.same (.same (.same (.same (.same (.same (.same (.val ?_ (.no (.no .nil)))))))))))) rfl)
        rw [putS_pos (cf_of hc) h0]
      · have h0 : c = 0 := sgn_zero.mp (by simpa using heq)
        refine bl_fin (.same (.same (.same (.same (.same (.same (.same (.same (.same (.val ?_ (.no (.no .nil)))))))))))) rfl
        rw [putS_neg (by rw [cf_of hc, h0])]
    · rw [List.length_map]
      refine bl_app 7 (Ps := ([tQs K (putS high near far top top.length), tQs K (putS high near far bottom bottom.length)] : List Pd).take i) (ex_v 9) (bl_fin (.same (.same (.same (.same (.same (.same (.same (.own etake.symm (.no (.no (.no (.no .nil)))))))))))) rfl) (by simp; omega)
  · have e : putPair top bottom near far = (putS high near far top top.length, putS high near far bottom bottom.length) := by unfold putPair; rw [hH]
    rw [e]
    exact bl_rel 7 rfl (bl_ret (ex_tup (exa_cons (ex_ix (EX.s (ex_v 7)) ex_int rfl) (exa_cons (ex_ix (EX.s (ex_v 7)) ex_int rfl) exa_nil)) small2))
end
end Wk
set_option Elab.async false
set_option linter.all false
set_option maxRecDepth 100000
set_option maxHeartbeats 1000000
/-! R8: the class Fraction, put. -/
namespace Wk
open PySem PySem.Spec PyProof.Rows L2 Ty Tx Mt
/-- what is known of a fraction's rows before it is made -/
def MadeOk (x : List Rat × List Rat) : Prop := x.1.length ≤ 25 ∧ x.2.length ≤ 25 ∧ trim x.1 ≠ [] ∧ trim x.2 ≠ [] ∧ ComOk (trim x.1) (trim x.2) ∧ (commonOf (trim x.1) (trim x.2)).length ≤ 1
def madeF (x : List Rat × List Rat) : List Rat × List Rat := ((trim x.1).map (· / hd (trim x.2)), (trim x.2).map (· / hd (trim x.2)))
section
variable {P : Program} {w : World} {K : PySem.W.Frag} {mg : Str → Option Value} {base : Heap} {j : Nat} {X : Cx} {Γ : List Sl} {e a b c : Expr} {pos p : Pos}
theorem sc_Known : FnScope ["self", "top", "bottom"] ["self", "top", "bottom"] (defScope sKnown_Init) := ⟨rfl, rfl, rfl, by decide +kernel, rfl, by decide +kernel, by decide +kernel⟩
theorem c_knownInit (z : Wf P w K mg base) : ∃ fd, FnOk P w K mg base CX0 33 (He.ma K (He.ga K "Known") "__init__") fd ["self", "top", "bottom"] (spI (kA K) (fun _ : List Rat × List Rat => True) (fun y => [tQs K y.1, tQs K y.2]) fun y => [("own_top", tQs K y.1), ("own_bottom", tQs K y.2)]) ∧ Binds K fd ["self", "top", "bottom"] [] := by
  obtain ⟨fd, F⟩ := z.c.fKnown_Init
  refine ⟨fd, ?_, FunD.bindsN F fun _ _ _ _ _ _ us hl => match us, hl with | [_, _, _], _ => rfl⟩
  refine fn_init F sc_Known (fun _ => rfl) fun cdv B outer s H E G y Hb a dx hp ha hb => ?_
  exact init2 z.c_Known z.a_Known_own_top z.a_Known_own_bottom (by decide +kernel) ha hb rfl (ex_v 1) (ex_v 2)
theorem ex_mkK (z : Wf P w K mg base) (G : Good P w K mg base j X) (hk : 34 ≤ j) {t u : List Rat} (ha : EX X Γ a (tQs K t)) (hb : EX X Γ b (tQs K u)) (hg : Gl X "Known" := by rfl) (he : starEach [a, b] X.env = (false, eval a X.env) :: starEach [b] X.env := by rfl) (he2 : starEach [b] X.env = (false, eval b X.env) :: starEach [] X.env := by rfl) (hpl : (backTo pos (starEach [b] X.env)).any (·.1) = false := by rfl) :
    EX X Γ (.Call (.Name "Known" p) [a, b] [] pos) (tKn K t u) := by
  obtain ⟨fd, F, bd⟩ := c_knownInit z
  exact ex_make (Ds := []) (dvs := []) z.m_Known F G hk (G.hm ▸ z.g_Known) bd .nil (t, u) (exa_cons ha (exa_cons hb exa_nil he2) he) rfl (fun _ => .nil) trivial hg (by decide) he hpl
theorem ex_nmK (z : Wf P w K mg base) (hm : X.mg = mg) (hg : Gl X "Known" := by rfl) : EX X Γ (.Name "Known" pos) (tV (.ref (kA K))) := ex_glob (hm ▸ z.g_Known) rfl hg
theorem ex_nmF (z : Wf P w K mg base) (hm : X.mg = mg) (hg : Gl X "Fraction" := by rfl) : EX X Γ (.Name "Fraction" pos) (tV (.ref (fA K))) := ex_glob (hm ▸ z.g_Fraction) rfl hg
theorem sc_Fraction : FnScope ["self", "top", "bottom"] ["self", "top", "bottom"] (defScope sFraction_Init) := ⟨rfl, rfl, rfl, by decide +kernel, rfl, by decide +kernel, by decide +kernel⟩
abbrev spFr (K : PySem.W.Frag) : Sp := spI (fA K) MadeOk (fun y => [tLU (y.1.map (tG K)), tLU (y.2.map (tG K))]) fun y => [("own_top", tQs K (madeF y).1), ("own_bottom", tQs K (madeF y).2)]
abbrev spFk (K : PySem.W.Frag) : Sp := spI (fA K) (fun _ => True) (fun y : List Rat × List Rat => [tKn K y.1 y.2, tAny]) fun y => [("own_top", tQs K y.1), ("own_bottom", tQs K y.2)]
theorem c_fractionInit (z : Wf P w K mg base) : ∃ fd, FnOk P w K mg base CX0 44 (He.ma K (He.ga K "Fraction") "__init__") fd ["self", "top", "bottom"] (spFr K) ∧ FnOk P w K mg base CX0 44 (He.ma K (He.ga K "Fraction") "__init__") fd ["self", "top", "bottom"] (spFk K) ∧ Binds K fd ["self", "top", "bottom"] [] ∧ ∃ ds, Vals [.ref (He.dflAt ("Fraction", some "__init__") 0 K)] ds ∧ Binds K fd ["self", "top", "bottom"] ds := by
  obtain ⟨fd, F⟩ := z.c.fFraction_Init
  refine ⟨fd, ?_, ?_, ?_, ?_⟩
  · refine fn_init F sc_Fraction (fun _ => rfl) fun cdv B outer s H E G y Hb a dx hp ha hb => ?_
    obtain ⟨h1, h2, h3, h4, h5, h6⟩ := hp
    have tt : ∀ v H, (tU (y.1.map (tG K))).p v H → TyX K H v (.type "tuple") := fun v H ⟨a, vs, h1, h2, _⟩ => by subst h1; exact .base (.tup h2)
    have tl : ∀ v H, (tL (y.1.map (tG K))).p v H → TyX K H v (.type "list") := fun v H ⟨a, vs, h1, h2, _⟩ => by subst h1; exact .base (.lst h2)
    refine bl_case 1 fun v => ?_
    cases v with
    | true => exact bl_if (t := false) (ext_val (ex_isi (ex_v 1) (ex_nmK z rfl) (.own _) tt (bSub_ok (z.c.x 34 rfl)) z.b_isinstance)) (fun h => by cases h) fun _ => init2T z.c_Fraction z.a_Fraction_own_top z.a_Fraction_own_bottom (by decide +kernel) ha hb rfl (ex_call (c_rightPair z) G y (by decide) (exa_cons (EX.some (T := fun b : Bool => match b with | true => tU (y.1.map (tG K)) | false => tL (y.1.map (tG K))) (y := true) (ex_v 1)) (exa_cons (ex_v 2) exa_nil)) ⟨h1, h2, h3, h4, h5, h6⟩)
    | false => exact bl_if (t := false) (ext_val (ex_isi (ex_v 1) (ex_nmK z rfl) (.own _) tl (bSub_ok (z.c.x 33 rfl)) z.b_isinstance)) (fun h => by cases h) fun _ => init2T z.c_Fraction z.a_Fraction_own_top z.a_Fraction_own_bottom (by decide +kernel) ha hb rfl (ex_call (c_rightPair z) G y (by decide) (exa_cons (EX.some (T := fun b : Bool => match b with | true => tU (y.1.map (tG K)) | false => tL (y.1.map (tG K))) (y := false) (ex_v 1)) (exa_cons (ex_v 2) exa_nil)) ⟨h1, h2, h3, h4, h5, h6⟩)
  · refine fn_init F sc_Fraction (fun _ => rfl) fun cdv B outer s H E G y Hb a dx hp ha hb => ?_
    exact bl_if (t := true) (ext_val (ex_isi (ex_v 1) (ex_nmK z rfl) (.own _) (tyO z z.c_Known (z.c.x 8 rfl)) (bSub_ok (z.c.x 32 rfl)) z.b_isinstance)) (fun _ => init2T z.c_Fraction z.a_Fraction_own_top z.a_Fraction_own_bottom (by decide +kernel) ha hb rfl (ex_tup (exa_cons (ex_fld (ex_v 1) rfl z.c_Known z.a_Known_own_top) (exa_cons (ex_fld (ex_v 1) rfl z.c_Known z.a_Known_own_bottom) exa_nil)) small2)) fun h => by cases h
  · obtain ⟨ds, hd, hb⟩ := FunD.binds1 F (ps := ["self", "top", "bottom"]) 3 1 (List.cons_ne_nil _ _) rfl fun T kV doc pm an cdv ct us its h1 h2 => match us, h1, its, h2 with | [_, _, _], _, [_], _ => ⟨_, rfl, rfl⟩
    cases hd
    exact hb
  · exact FunD.binds1 F 2 0 (List.cons_ne_nil _ _) rfl fun T kV doc pm an cdv ct us its h1 h2 => match us, h1, its, h2 with | [_, _], _, [_], _ => ⟨_, rfl, rfl⟩
theorem ex_mkF2 (z : Wf P w K mg base) (G : Good P w K mg base j X) (hk : 45 ≤ j) {y : List Rat × List Rat} (ha : EX X Γ a (tLU (y.1.map (tG K)))) (hb : EX X Γ b (tLU (y.2.map (tG K)))) (h : MadeOk y) (hg : Gl X "Fraction" := by rfl) (he : starEach [a, b] X.env = (false, eval a X.env) :: starEach [b] X.env := by rfl) (he2 : starEach [b] X.env = (false, eval b X.env) :: starEach [] X.env := by rfl) (hpl : (backTo pos (starEach [b] X.env)).any (·.1) = false := by rfl) :
    EX X Γ (.Call (.Name "Fraction" p) [a, b] [] pos) (tF K (madeF y)) := by
  obtain ⟨fd, F, _, bd, _⟩ := c_fractionInit z
  exact ex_make (Ds := []) (dvs := []) z.m_Fraction F G hk (G.hm ▸ z.g_Fraction) bd .nil y (exa_cons ha (exa_cons hb exa_nil he2) he) rfl (fun _ => .nil) h hg (by decide) he hpl
theorem ex_mkF1 (z : Wf P w K mg base) (G : Good P w K mg base j X) (hk : 45 ≤ j) {y : List Rat × List Rat} (ha : EX X Γ a (tKn K y.1 y.2)) (hg : Gl X "Fraction" := by rfl) (he : starEach [a] X.env = (false, eval a X.env) :: starEach [] X.env := by rfl) (hpl : (backTo pos (starEach [] X.env)).any (·.1) = false := by rfl) :
    EX X Γ (.Call (.Name "Fraction" p) [a] [] pos) (tF K y) := by
  obtain ⟨fd, _, F, _, ds, hd, bd⟩ := c_fractionInit z
  exact ex_make (Ds := [tAny]) z.m_Fraction F G hk (G.hm ▸ z.g_Fraction) bd hd y (exa_cons ha exa_nil he) rfl (fun _ => .cons trivial .nil) trivial hg (by decide) he hpl
theorem ex_ftop (z : Wf P w K mg base) (hX : X.K = K) {y : List Rat × List Rat} (h : EX X Γ e (tF K y)) (hb : attributeBase e "own_top" X.env (eval e X.env) = eval e X.env := by rfl) : EX X Γ (.Attribute e "own_top" pos) (tQs K y.1) := ex_fld h rfl (hX ▸ z.c_Fraction) (hX ▸ z.a_Fraction_own_top) hb
theorem ex_fbot (z : Wf P w K mg base) (hX : X.K = K) {y : List Rat × List Rat} (h : EX X Γ e (tF K y)) (hb : attributeBase e "own_bottom" X.env (eval e X.env) = eval e X.env := by rfl) : EX X Γ (.Attribute e "own_bottom" pos) (tQs K y.2) := ex_fld h rfl (hX ▸ z.c_Fraction) (hX ▸ z.a_Fraction_own_bottom) hb
theorem ex_isF (z : Wf P w K mg base) (G : Good P w K mg base j X) {y : List Rat × List Rat} (h : EX X Γ e (tF K y)) (hg : Gl X "isinstance" := by rfl) (hg2 : Gl X "Fraction" := by rfl) {p2 : Pos}
    (he : starEach [e, .Name "Fraction" p2] X.env = (false, eval e X.env) :: starEach [.Name "Fraction" p2] X.env := by rfl) (he2 : starEach [.Name "Fraction" p2] X.env = (false, eval (.Name "Fraction" p2) X.env) :: starEach [] X.env := by rfl) (hpl : (backTo pos (starEach [.Name "Fraction" p2] X.env)).any (·.1) = false := by rfl) : EX X Γ (.Call (.Name "isinstance" p) [e, .Name "Fraction" p2] [] pos) (tB true) :=
  ex_isi h (ex_nmF z G.hm hg2) (.own _) (by rw [G.hK]; exact tyO z z.c_Fraction (z.c.x 9 rfl)) (by rw [G.hK]; exact bSub_ok (z.c.x 35 rfl)) (G.hm ▸ z.b_isinstance) hg he he2 hpl

theorem sc_c_knownFraction : FnScope ["top", "bottom"] ["top", "bottom"] (defScope sKnownFraction) := ⟨rfl, rfl, rfl, by decide +kernel, rfl, by decide +kernel, by decide +kernel⟩
theorem c_knownFraction (z : Wf P w K mg base) : Fn P w K mg base "known_fraction" 46 ["top", "bottom"] (spT (fun y : List Rat × List Rat => True) (fun y => [tQs K y.1, tQs K y.2]) fun y => tF K y) := by
  obtain ⟨fd, F⟩ := z.c.fKnownFraction
  refine fnb z.g_known_fraction F.kp (FunD.bindsN F fun _ _ _ _ _ _ us hl => match us, hl with | [_, _], _ => rfl) ?_
  refine fn_ty F sc_c_knownFraction (fun _ => rfl) fun cdv B outer s H E G y Hb hp => ?_
  exact bl_ret (ex_mkF1 z G (by decide) (ex_mkK z G (by decide) (ex_v 0) (ex_v 1)))
theorem sc_c_wantFraction : FnScope ["value"] ["value"] (defScope sWantFraction) := ⟨rfl, rfl, rfl, by decide +kernel, rfl, by decide +kernel, by decide +kernel⟩
theorem c_wantFraction (z : Wf P w K mg base) : Fn P w K mg base "want_fraction" 33 ["value"] (spT (fun y : List Rat × List Rat => True) (fun y => [tF K y]) fun y => tF K y) := by
  obtain ⟨fd, F⟩ := z.c.fWantFraction
  refine fnb z.g_want_fraction F.kp (FunD.bindsN F fun _ _ _ _ _ _ us hl => match us, hl with | [_], _ => rfl) ?_
  refine fn_ty F sc_c_wantFraction (fun _ => rfl) fun cdv B outer s H E G y Hb hp => ?_
  exact bl_ifr (ext_not (ext_val (ex_isF z G (ex_v 0)))) (fun h => by cases h) fun _ => bl_ret (ex_v 0)
theorem sc_c_wantAtMost : FnScope ["what", "limit", "number"] ["what", "limit", "number"] (defScope sWantAtMost) := ⟨rfl, rfl, rfl, by decide +kernel, rfl, by decide +kernel, by decide +kernel⟩
theorem c_wantAtMost (z : Wf P w K mg base) : Fn P w K mg base "want_at_most" 33 ["what", "limit", "number"] (spT (fun y : Str × Int × Int => y.2.2 ≤ y.2.1) (fun y => [tV (.str y.1), tI y.2.1, tI y.2.2]) fun y => tN) := by
  obtain ⟨fd, F⟩ := z.c.fWantAtMost
  refine fnb z.g_want_at_most F.kp (FunD.bindsN F fun _ _ _ _ _ _ us hl => match us, hl with | [_, _, _], _ => rfl) ?_
  refine fn_ty F sc_c_wantAtMost (fun _ => rfl) fun cdv B outer s H E G y Hb hp => ?_
  exact bl_ifr (ext_gt (ex_v 2) (ex_v 1)) (fun h => absurd (of_decide_eq_true h) (by omega)) fun _ => bl_none (fun _ => rfl) rfl
theorem sc_m_degree : FnScope ["self"] ["self"] (defScope sFraction_Degree) := ⟨rfl, rfl, rfl, by decide +kernel, rfl, by decide +kernel, by decide +kernel⟩
theorem m_degree (z : Wf P w K mg base) : ∃ fd, FnOk P w K mg base CX0 33 (plA K (.get "Fraction" "degree")) fd ["self"] (spT (fun y : List Rat × List Rat => 0 < max y.1.length y.2.length) (fun y => [tF K y]) fun y => tI (degF y : Nat)) ∧ Binds K fd ["self"] [] := by
  obtain ⟨fd, F⟩ := z.c.fFraction_Degree
  refine ⟨fd, ?_, (FunD.bindsN F fun _ _ _ _ _ _ us hl => match us, hl with | [_], _ => rfl)⟩
  refine fn_ty F sc_m_degree (fun _ => rfl) fun cdv B outer s H E G y Hb hp => ?_
  exact bl_ret ((ex_sub (ex_max G (exa_cons (ex_lenM z rfl (EX.s (ex_ftop z rfl (ex_v 0)))) (exa_cons (ex_lenM z rfl (EX.s (ex_fbot z rfl (ex_v 0)))) exa_nil)) z.b_max) ex_int).eq (R := tI (degF y : Nat)) (by show tI _ = tI _; congr 2; unfold degF; split <;> omega))
theorem sc_m_feq : FnScope ["self", "other"] ["self", "other"] (defScope sFraction_Eq) := ⟨rfl, rfl, rfl, by decide +kernel, rfl, by decide +kernel, by decide +kernel⟩
theorem m_feq (z : Wf P w K mg base) : ∃ fd, FnOk P w K mg base CX0 37 (plA K (.meth "Fraction" "__eq__")) fd ["self", "other"] (spT (fun y : List Rat × List Rat => True) (fun y => [tF K y, tF K y]) fun y => tB true) ∧ Binds K fd ["self", "other"] [] := by
  obtain ⟨fd, F⟩ := z.c.fFraction_Eq
  refine ⟨fd, ?_, (FunD.bindsN F fun _ _ _ _ _ _ us hl => match us, hl with | [_, _], _ => rfl)⟩
  refine fn_ty F sc_m_feq (fun _ => rfl) fun cdv B outer s H E G y Hb hp => ?_
  refine bl_ifr (ext_not (ext_val (ex_isF z G (ex_v 1)))) (fun h => by cases h) fun _ => ?_
  exact bl_ret (ex_and (l := true) (ex_eqQs z G (by decide) (ex_ftop z rfl (ex_v 0)) (ex_ftop z rfl (ex_v 1))) fun _ => ex_one (ex_eqQs z G (by decide) (ex_fbot z rfl (ex_v 0)) (ex_fbot z rfl (ex_v 1))))
theorem ex_deg (z : Wf P w K mg base) (G : Good P w K mg base j X) (hk : 34 ≤ j) {y : List Rat × List Rat} (h0 : 0 < max y.1.length y.2.length) (h : EX X Γ e (tF K y)) (hb : attributeBase e "degree" X.env (eval e X.env) = eval e X.env := by rfl) : EX X Γ (.Attribute e "degree" pos) (tI (degF y : Nat)) := by
  obtain ⟨fd, F, bd⟩ := m_degree z
  exact ex_prop h G z.c_Fraction (prop_of (z.c.x 15 rfl)) F bd y rfl h0 hk hb
theorem ofC_F : OfC (fA K) (tF K) := fun q v H ⟨a, dx, gs, h1, h2, _⟩ => ⟨a, dx, gs, h1, h2⟩
theorem ex_eqF (z : Wf P w K mg base) (G : Good P w K mg base j X) (hk : 37 ≤ j) {y : List Rat × List Rat} (ha : EX X Γ a (tF K y)) (hb : EX X Γ b (tF K y)) : EX X Γ (.Compare a [.Eq] [b] pos) (tB true) := by
  obtain ⟨fd, F, bd⟩ := m_feq z
  exact ex_eqC G F (opf z 22 rfl).1 (opf z 22 rfl).2 bd ofC_F hk ha hb

theorem sc_c_headedPair : FnScope ["top", "bottom", "number"] ["top", "bottom"] (defScope sHeadedPair) := ⟨rfl, rfl, rfl, by decide +kernel, rfl, by decide +kernel, by decide +kernel⟩
theorem c_headedPair (z : Wf P w K mg base) : Fn P w K mg base "headed_pair" 48 ["top", "bottom"] (spT (fun y : List Rat × List Rat => y.1 ≠ [] ∧ y.2 ≠ [] ∧ hd y.2 ≠ 0 ∧ BqL y.1 ∧ BqL y.2 ∧ y.1.length ≤ 1000 ∧ y.2.length ≤ 1000) (fun y => [tQs K y.1, tQs K y.2]) fun y => tF K (y.1.map (· / hd y.2), y.2.map (· / hd y.2))) := by
  obtain ⟨fd, F⟩ := z.c.fHeadedPair
  refine fnb z.g_headed_pair F.kp (FunD.bindsN F fun _ _ _ _ _ _ us hl => match us, hl with | [_, _], _ => rfl) ?_
  refine fn_ty F sc_c_headedPair (fun _ => rfl) fun cdv B outer s H E G y Hb hp => ?_
  obtain ⟨n1, n2, h0, b1, b2, l1, l2⟩ := hp
  obtain ⟨one, other⟩ := y
  have n1 : one ≠ [] := n1
  have n2 : other ≠ [] := n2
  have p1 := List.length_pos_iff.mpr n1
  refine bl_ifr (ext_eqi (ex_lenM z rfl (EX.s (ex_v 0))) ex_int) (fun h => absurd (of_decide_eq_true h) (by simp only; omega)) fun _ => ?_
  refine bl_ret (ex_call (c_knownFraction z) G (one.map (· / hd other), other.map (· / hd other)) (by decide) (exa_cons (ex_of (lcM (T := tQ K) (T' := tQ K) 2 (· / hd other) (EX.s (ex_v 0)) l1 (fun u hu _ _ _ _ _ => ?_) G) G) (exa_cons (ex_of (lcM (T := tQ K) (T' := tQ K) 2 (· / hd other) (EX.s (ex_v 1)) l2 (fun u hu _ _ _ _ _ => ?_) G) G) exa_nil)) trivial)
  · exact ex_over z (G.blk _ _ _ _ _) (by decide) (ex_v 2) (ex_ix (EX.s (ex_v 1)) ex_neg1 (mlast n2)) h0 (b1 u hu) (b2 _ (hd_mem n2))
  · exact ex_over z (G.blk _ _ _ _ _) (by decide) (ex_v 2) (ex_ix (EX.s (ex_v 1)) ex_neg1 (mlast n2)) h0 (b2 u hu) (b2 _ (hd_mem n2))
theorem sc_c_put : FnScope ["fraction", "other", "here", "inner", "near", "far"] ["fraction", "other"] (defScope sPut) := ⟨rfl, rfl, rfl, by decide +kernel, rfl, by decide +kernel, by decide +kernel⟩
theorem c_put (z : Wf P w K mg base) : Fn P w K mg base "put" 50 ["fraction", "other"] (spT (fun y : (List Rat × List Rat) × (List Rat × List Rat) => 0 < max y.1.1.length y.1.2.length ∧ 0 < max y.2.1.length y.2.2.length ∧ degF y.1 * degF y.2 ≤ 24 ∧ degF y.1 ≤ 100 ∧ degF y.2 ≤ 100 ∧ PutOk y.1.1 y.1.2 y.2.1 y.2.2 ∧ (putPair y.1.1 y.1.2 y.2.1 y.2.2).1 ≠ [] ∧ (putPair y.1.1 y.1.2 y.2.1 y.2.2).2 ≠ [] ∧ hd (putPair y.1.1 y.1.2 y.2.1 y.2.2).2 ≠ 0 ∧ BqL (putPair y.1.1 y.1.2 y.2.1 y.2.2).1 ∧ BqL (putPair y.1.1 y.1.2 y.2.1 y.2.2).2 ∧ (putPair y.1.1 y.1.2 y.2.1 y.2.2).1.length ≤ 1000 ∧ (putPair y.1.1 y.1.2 y.2.1 y.2.2).2.length ≤ 1000) (fun y => [tF K y.1, tF K y.2]) fun y => tF K ((putPair y.1.1 y.1.2 y.2.1 y.2.2).1.map (· / hd (putPair y.1.1 y.1.2 y.2.1 y.2.2).2), (putPair y.1.1 y.1.2 y.2.1 y.2.2).2.map (· / hd (putPair y.1.1 y.1.2 y.2.1 y.2.2).2))) := by
  obtain ⟨fd, F⟩ := z.c.fPut
  refine fnb z.g_put F.kp (FunD.bindsN F fun _ _ _ _ _ _ us hl => match us, hl with | [_, _], _ => rfl) ?_
  refine fn_ty F sc_c_put (fun _ => rfl) fun cdv B outer s H E G y Hb hp => ?_
  obtain ⟨d1, d2, d3, d4, d5, hP, n1, n2, h0, b1, b2, l1, l2⟩ := hp
  obtain ⟨t, hm⟩ := z.n_MOST_DEGREE_fractions
  refine bl_set 2 G (ex_call (c_wantFraction z) G y.1 (by decide) (exa_cons (ex_v 0) exa_nil) trivial) ?_
  refine bl_set 3 G (ex_call (c_wantFraction z) G y.2 (by decide) (exa_cons (ex_v 1) exa_nil) trivial) ?_
  refine bl_expr (ex_call (c_wantAtMost z) G ("degree", 24, (degF y.1 : Int) * (degF y.2 : Int)) (by decide) (exa_cons ex_str (exa_cons (ex_glob hm ⟨t, rfl⟩) (exa_cons (ex_mul (ex_deg z G (by decide) d1 (ex_v 2)) (ex_deg z G (by decide) d2 (ex_v 3)) (Bg.small (by omega)) (Bg.small (by omega))) exa_nil))) ?_) ?_
  · show (degF y.1 : Int) * (degF y.2 : Int) ≤ 24
    have := d3
    rw [← Int.natCast_mul]
    omega
  refine bl_unp 4 5 G (ex_call (c_putPair z) G ((y.1.1, y.1.2), (y.2.1, y.2.2)) (by decide) (exa_cons (ex_ftop z rfl (ex_v 2)) (exa_cons (ex_fbot z rfl (ex_v 2)) (exa_cons (ex_ftop z rfl (ex_v 3)) (exa_cons (ex_fbot z rfl (ex_v 3)) exa_nil)))) hP) ?_
  refine bl_ifr (ext_eqi (ex_lenM z rfl (EX.s (ex_v 5))) ex_int) (fun h => absurd (List.length_eq_zero_iff.mp (Int.ofNat.inj (of_decide_eq_true h))) n2) fun _ => ?_
  exact bl_ret (ex_call (c_headedPair z) G (putPair y.1.1 y.1.2 y.2.1 y.2.2) (by decide) (exa_cons (ex_v 4) (exa_cons (ex_v 5) exa_nil)) ⟨n1, n2, h0, b1, b2, l1, l2⟩)
end
end Wk
set_option Elab.async false
set_option linter.all false
set_option maxRecDepth 100000
set_option maxHeartbeats 1000000
/-! R9: places, forms. -/
namespace Wk
open PySem PySem.Spec PyProof.Rows L2 Ty Tx Mt
/-- a place: beyond, or a number -/
def tPl (K : PySem.W.Frag) : Option Rat → Pd
  | none => tV (.str "beyond")
  | some q => tQ K q
/-- a place as it is handed in -/
def tPg (K : PySem.W.Frag) : Option Rat → Pd
  | none => tV (.str "beyond")
  | some q => tG K q
theorem tyS {K : PySem.W.Frag} (x : Str) : ∀ v H, (tV (.str x)).p v H → TyX K H v (.type "str") := fun v H h => by cases h; exact .base (.str _)
/-- what the worth of a row asks -/
def WorthOk (poly : List Rat) (high : Nat) (a b : Rat) : Prop := high ≤ 100 ∧ BqL poly ∧ Bq a ∧ Bq b ∧ poly.length ≤ 1000 ∧ ∀ i, i ≤ high → Bq (wS poly high a b i).1 ∧ Bq (wS poly high a b i).2 ∧ Bq ((wS poly high a b i).1 * a) ∧ Bq (cf poly (high - i) * (wS poly high a b i).2)
def WorthOf (x : List Rat × List Rat) (o : Option Rat) : Prop := 0 < max x.1.length x.2.length ∧ WorthOk x.1 (degP x) (pair o).1 (pair o).2 ∧ WorthOk x.2 (degP x) (pair o).1 (pair o).2 ∧ Bq (worthBy x.1 (degP x) o) ∧ Bq (worthBy x.2 (degP x) o)
theorem Its.sub {α : Type} {T T' : α → Pd} (h : ∀ x v H, (T x).p v H → (T' x).p v H) : ∀ {xs : List α} {vs : List V} {H : Hp}, Its (xs.map T) vs H → Its (xs.map T') vs H
  | [], _, _, .nil => .nil
  | x :: xs, _, _, .cons a t => .cons (h x _ _ a) (Its.sub h t)
theorem tG_q {K : PySem.W.Frag} (q : Rat) : ∀ v H, (tQ K q).p v H → (tG K q).p v H := fun v H h => ⟨.inl (), h⟩
theorem tQsG {K : PySem.W.Frag} (ps : List Rat) : ∀ v H, (tQs K ps).p v H → (tL (ps.map (tG K))).p v H := fun v H ⟨a, vs, h1, h2, h3⟩ => ⟨a, vs, h1, h2, Its.sub tG_q h3⟩
theorem tI_eq {i j : Int} (h : i = j) : tI i = tI j := h ▸ rfl
theorem zero_q : Bq 0 := ⟨Bg.zero, Bg.one⟩
theorem bq_fill {p : List Rat} {n : Nat} (h : BqL p) : BqL (fillF p n) := fun c hc => by
  unfold fillF at hc
  rcases List.mem_append.mp hc with h1 | h1
  · exact h c h1
  · rw [(List.mem_replicate.mp h1).2]; exact zero_q
/-- a form that is asked for -/
def FormOk (f : List Rat) : Prop := 1 ≤ f.length ∧ f.length ≤ 25 ∧ trim f ≠ []
def ToldOk (f : List Rat) : Prop := f ≠ [] ∧ BqL f ∧ f.length ≤ 400
def ProdOk (f g : List Rat) : Prop := f ≠ [] ∧ g ≠ [] ∧ PB (trim f) ∧ PB (trim g) ∧ BqL (productOf (trim f) (trim g)) ∧ (productOf (trim f) (trim g)).length ≤ f.length + g.length - 1 ∧ f.length ≤ 100 ∧ g.length ≤ 100
def RestOk (f g : List Rat) : Prop := f.length ≤ g.length ∧ g.length ≤ 100 ∧ DivOk (trim g) (trim f) ∧ (partsOf (trim g) (trim f)).2 = [] ∧ f.length - (trim f).length ≤ g.length - (trim g).length ∧ BqL (partsOf (trim g) (trim f)).1 ∧ (partsOf (trim g) (trim f)).1.length ≤ g.length - f.length + 1
/-- the place q stands m times in the row: the quotients -/
def OftenOk (f : List Rat) (q : Rat) (m : Nat) : Prop := f.length ≤ 100 ∧ ∃ qs : Nat → List Rat, qs 0 = trim f ∧ (∀ i, i ≤ m → DivOk (qs i) [-q, 1]) ∧ (∀ i, i < m → partsOf (qs i) [-q, 1] = (qs (i + 1), [])) ∧ (partsOf (qs m) [-q, 1]).2 ≠ []
section
variable {P : Program} {w : World} {K : PySem.W.Frag} {mg : Str → Option Value} {base : Heap} {j : Nat} {X : Cx} {Γ : List Sl} {e a b c : Expr} {pos p : Pos}
theorem ex_isQs (z : Wf P w K mg base) (G : Good P w K mg base j X) {x : Str} (h : EX X Γ e (tV (.str x))) (hg : Gl X "isinstance" := by rfl) (hg2 : Gl X "Ratio" := by rfl) {p2 : Pos}
    (he : starEach [e, .Name "Ratio" p2] X.env = (false, eval e X.env) :: starEach [.Name "Ratio" p2] X.env := by rfl) (he2 : starEach [.Name "Ratio" p2] X.env = (false, eval (.Name "Ratio" p2) X.env) :: starEach [] X.env := by rfl) (hpl : (backTo pos (starEach [.Name "Ratio" p2] X.env)).any (·.1) = false := by rfl) : EX X Γ (.Call (.Name "isinstance" p) [e, .Name "Ratio" p2] [] pos) (tB false) :=
  ex_isi h (ex_nmR z G.hm hg2) (.own _) (tyS x) (by rw [G.hK]; exact bSub_ok (z.c.x 30 rfl)) (G.hm ▸ z.b_isinstance) hg he he2 hpl
/-- isinstance(place, str) -/
theorem ex_isStr (z : Wf P w K mg base) (G : Good P w K mg base j X) {o : Option Rat} (h : EX X Γ e (tPl K o)) (hg : Gl X "isinstance" := by rfl) (hg2 : Gl X "str" := by rfl) {p2 : Pos}
    (he : starEach [e, .Name "str" p2] X.env = (false, eval e X.env) :: starEach [.Name "str" p2] X.env := by rfl) (he2 : starEach [.Name "str" p2] X.env = (false, eval (.Name "str" p2) X.env) :: starEach [] X.env := by rfl) (hpl : (backTo pos (starEach [.Name "str" p2] X.env)).any (·.1) = false := by rfl) : EX X Γ (.Call (.Name "isinstance" p) [e, .Name "str" p2] [] pos) (tB o.isNone) := by
  have hc := ex_ty (X := X) (Γ := Γ) (pos := p2) "str" (G.hm ▸ z.b_str) (by decide +kernel) hg2
  cases o with
  | none => exact ex_isi (r := true) h hc (.ty "str") (tyS "beyond") (kit_ty (by decide +kernel)) (G.hm ▸ z.b_isinstance) hg he he2 hpl
  | some q => exact ex_isi (r := false) h hc (.ty "str") (by rw [G.hK]; exact tyQ z q) (by rw [G.hK]; exact bSub_ok (z.c.x 31 rfl)) (G.hm ▸ z.b_isinstance) hg he he2 hpl
/-- a op1 b op2 c, ints -/
theorem ext_chain {i j k : Int} (ha : EX X Γ a (tI i)) (hb : EX X Γ b (tI j)) (hc : EX X Γ c (tI k)) (hm : lastMarks [CmpOp.LtE, CmpOp.LtE] [b, c] = false := by with_unfolding_all rfl) : EXT X Γ (.Compare a [.LtE, .LtE] [b, c] pos) (decide (i ≤ j) && decide (j ≤ k)) := fun H0 σ Hb H x s =>
  wT.of (pt_chain op_le op_le pe_w pe_w pe_w hm) ((ha H0 σ Hb H x s).mono fun v H1 ⟨Hb1, st1, e1⟩ => (hb H0 σ Hb1 H1 st1.s (s.step st1)).mono fun u H2 ⟨Hb2, st2, e2⟩ => by
    subst e1 e2
    refine ⟨i, j, rfl, rfl, decide (i ≤ j), rfl, ?_⟩
    cases h : decide (i ≤ j) with
    | true =>
      rw [if_pos rfl]
      exact (hc H0 σ Hb2 H2 st2.s ((s.step st1).step st2)).mono fun u H3 ⟨Hb3, st3, e3⟩ => by
        subst e3
        exact ⟨j, k, rfl, rfl, _, rfl, Hb3, (st1.trans st2).trans st3, rfl⟩
    | false => exact ⟨false, rfl, Hb2, st1.trans st2, rfl⟩)

theorem sc_c_isInteger_s2 : FnScope ["value"] ["value"] (defScope sIsInteger) := ⟨rfl, rfl, rfl, by decide +kernel, rfl, by decide +kernel, by decide +kernel⟩
theorem c_isInteger_s2 (z : Wf P w K mg base) : Fn P w K mg base "is_integer" 33 ["value"] (spT (fun y : Str => True) (fun y => [tV (.str y)]) fun y => tB false) := by
  obtain ⟨fd, F⟩ := z.c.fIsInteger
  refine fnb z.g_is_integer F.kp (FunD.bindsN F fun _ _ _ _ _ _ us hl => match us, hl with | [_], _ => rfl) ?_
  refine fn_ty F sc_c_isInteger_s2 (fun _ => rfl) fun cdv B outer s H E G y Hb hp => ?_
  exact bl_ret (ex_and (l := false) (ex_isi (ex_v 0) (ex_ty "int" z.b_int) (.ty "int") (tyS y) (kit_ty (r := false) (by decide +kernel)) z.b_isinstance) fun h => by cases h)
theorem sc_c_isNumber_s : FnScope ["value"] ["value"] (defScope sIsNumber) := ⟨rfl, rfl, rfl, by decide +kernel, rfl, by decide +kernel, by decide +kernel⟩
theorem c_isNumber_s (z : Wf P w K mg base) : Fn P w K mg base "is_number" 34 ["value"] (spT (fun y : Str => True) (fun y => [tV (.str y)]) fun y => tB false) := by
  obtain ⟨fd, F⟩ := z.c.fIsNumber
  refine fnb z.g_is_number F.kp (FunD.bindsN F fun _ _ _ _ _ _ us hl => match us, hl with | [_], _ => rfl) ?_
  refine fn_ty F sc_c_isNumber_s (fun _ => rfl) fun cdv B outer s H E G y Hb hp => ?_
  exact bl_ret (ex_or (l := false) (ex_call (c_isInteger_s2 z) G y (by decide) (exa_cons (ex_v 0) exa_nil) trivial) fun _ => ex_one (ex_isQs z G (ex_v 0)))
theorem sc_c_isPlace : FnScope ["value"] ["value"] (defScope sIsPlace) := ⟨rfl, rfl, rfl, by decide +kernel, rfl, by decide +kernel, by decide +kernel⟩
theorem c_isPlace (z : Wf P w K mg base) : Fn P w K mg base "is_place" 36 ["value"] (spT (fun y : Option Rat => True) (fun y => [tPg K y]) fun y => tB true) := by
  obtain ⟨fd, F⟩ := z.c.fIsPlace
  refine fnb z.g_is_place F.kp (FunD.bindsN F fun _ _ _ _ _ _ us hl => match us, hl with | [_], _ => rfl) ?_
  refine fn_ty F sc_c_isPlace (fun _ => rfl) fun cdv B outer s H E G y Hb hp => ?_
  obtain ⟨t, hm⟩ := z.s_BEYOND
  cases y with
  | none => exact bl_ret (ex_or (l := true) (k := false) (ex_call (c_isNumber_s z) G "beyond" (by decide) (exa_cons (ex_v 0) exa_nil) trivial) fun _ => ex_one (ex_and (l := true) (k := true) (ex_isi (ex_v 0) (ex_ty "str" z.b_str) (.ty "str") (tyS "beyond") (kit_ty (r := true) (by decide +kernel)) z.b_isinstance) fun _ => ex_one ((ex_eqV (ex_v 0) (ex_glob (v := .str "beyond") hm ⟨t, rfl⟩) rfl).eq (by rw [decide_eq_true rfl]))))
  | some q => exact bl_ret (ex_or (l := true) (k := true) (ex_call (c_isNumber_g z) G q (by decide) (exa_cons (ex_v 0) exa_nil) trivial) fun h => by cases h)
theorem sc_c_wantPlace : FnScope ["value"] ["value"] (defScope sWantPlace) := ⟨rfl, rfl, rfl, by decide +kernel, rfl, by decide +kernel, by decide +kernel⟩
theorem c_wantPlace (z : Wf P w K mg base) : Fn P w K mg base "want_place" 38 ["value"] (spT (fun y : Option Rat => True) (fun y => [tPg K y]) fun y => tPl K y) := by
  obtain ⟨fd, F⟩ := z.c.fWantPlace
  refine fnb z.g_want_place F.kp (FunD.bindsN F fun _ _ _ _ _ _ us hl => match us, hl with | [_], _ => rfl) ?_
  refine fn_ty F sc_c_wantPlace (fun _ => rfl) fun cdv B outer s H E G y Hb hp => ?_
  obtain ⟨t, hm⟩ := z.s_BEYOND
  refine bl_ifr (ext_not (ext_val (ex_call (c_isPlace z) G y (by decide) (exa_cons (ex_v 0) exa_nil) trivial))) (fun h => by cases h) fun _ => ?_
  cases y with
  | none => exact bl_ret (ex_if (ext_val (ex_call (c_isNumber_s z) G "beyond" (by decide) (exa_cons (ex_v 0) exa_nil) trivial)) (fun h => by cases h) fun _ => ex_glob (v := .str "beyond") hm ⟨t, rfl⟩)
  | some q => exact bl_ret (ex_if (ext_val (ex_call (c_isNumber_g z) G q (by decide) (exa_cons (ex_v 0) exa_nil) trivial)) (fun _ => ex_call (c_ratioOf_g z) G q (by decide) (exa_cons (ex_v 0) exa_nil) trivial) (fun h => by cases h))
theorem sc_c_isBeyond : FnScope ["place"] ["place"] (defScope sIsBeyond) := ⟨rfl, rfl, rfl, by decide +kernel, rfl, by decide +kernel, by decide +kernel⟩
theorem c_isBeyond (z : Wf P w K mg base) : Fn P w K mg base "is_beyond" 33 ["place"] (spT (fun y : Option Rat => True) (fun y => [tPl K y]) fun y => tB y.isNone) := by
  obtain ⟨fd, F⟩ := z.c.fIsBeyond
  refine fnb z.g_is_beyond F.kp (FunD.bindsN F fun _ _ _ _ _ _ us hl => match us, hl with | [_], _ => rfl) ?_
  refine fn_ty F sc_c_isBeyond (fun _ => rfl) fun cdv B outer s H E G y Hb hp => ?_
  exact bl_ret (ex_isStr z G (ex_v 0))
theorem sc_c_pairOf : FnScope ["place"] ["place"] (defScope sPairOf) := ⟨rfl, rfl, rfl, by decide +kernel, rfl, by decide +kernel, by decide +kernel⟩
theorem c_pairOf (z : Wf P w K mg base) : Fn P w K mg base "pair_of" 36 ["place"] (spT (fun y : Option Rat => True) (fun y => [tPl K y]) fun y => tU [tQ K (pair y).1, tQ K (pair y).2]) := by
  obtain ⟨fd, F⟩ := z.c.fPairOf
  refine fnb z.g_pair_of F.kp (FunD.bindsN F fun _ _ _ _ _ _ us hl => match us, hl with | [_], _ => rfl) ?_
  refine fn_ty F sc_c_pairOf (fun _ => rfl) fun cdv B outer s H E G y Hb hp => ?_
  cases y with
  | none => exact bl_ret (ex_if (ext_val (ex_call (c_isBeyond z) G none (by decide) (exa_cons (ex_v 0) exa_nil) trivial)) (fun _ => ex_tup (exa_cons (ex_mkQ1 z G (by decide) ex_int) (exa_cons (ex_mkQ1 z G (by decide) ex_int) exa_nil)) small2) (fun h => by cases h))
  | some q => exact bl_ret (ex_if (ext_val (ex_call (c_isBeyond z) G (some q) (by decide) (exa_cons (ex_v 0) exa_nil) trivial)) (fun h => by cases h) (fun _ => ex_tup (exa_cons (ex_v 0) (exa_cons (ex_mkQ1 z G (by decide) ex_int) exa_nil)) small2))
theorem sc_c_placeBy : FnScope ["above", "below"] ["above", "below"] (defScope sPlaceBy) := ⟨rfl, rfl, rfl, by decide +kernel, rfl, by decide +kernel, by decide +kernel⟩
theorem c_placeBy (z : Wf P w K mg base) : Fn P w K mg base "place_by" 38 ["above", "below"] (spT (fun y : Rat × Rat => Bq y.1 ∧ Bq y.2) (fun y => [tQ K y.1, tQ K y.2]) fun y => tPl K (placeBy y.1 y.2)) := by
  obtain ⟨fd, F⟩ := z.c.fPlaceBy
  refine fnb z.g_place_by F.kp (FunD.bindsN F fun _ _ _ _ _ _ us hl => match us, hl with | [_, _], _ => rfl) ?_
  refine fn_ty F sc_c_placeBy (fun _ => rfl) fun cdv B outer s H E G y Hb hp => ?_
  obtain ⟨h1, h2⟩ := hp
  obtain ⟨t, hm⟩ := z.s_BEYOND
  refine bl_ret (ex_if (ext_eqi (ex_psign z G (by decide) (ex_v 1)) ex_int) (fun h => ?_) fun h => ?_)
  · have h0 := sgn_zero.mp (of_decide_eq_true h)
    have : placeBy y.1 y.2 = none := by unfold placeBy; rw [if_pos h0]
    rw [this]
    exact ex_glob (v := .str "beyond") hm ⟨t, rfl⟩
  · have h0 : y.2 ≠ 0 := fun q => absurd (sgn_zero.mpr q) (of_decide_eq_false h)
    have : placeBy y.1 y.2 = some (y.1 / y.2) := by unfold placeBy; rw [if_neg h0]
    rw [this]
    exact ex_over z G (by decide) (ex_v 0) (ex_v 1) h0 h1 h2
theorem sc_c_worthBy : FnScope ["poly", "high", "above", "below", "found", "scale", "at"] ["poly", "high", "above", "below"] (defScope sWorthBy) := ⟨rfl, rfl, rfl, by decide +kernel, rfl, by decide +kernel, by decide +kernel⟩
theorem c_worthBy (z : Wf P w K mg base) : Fn P w K mg base "worth_by" 38 ["poly", "high", "above", "below"] (spT (fun y : (List Rat × Nat) × (Rat × Rat) => WorthOk y.1.1 y.1.2 y.2.1 y.2.2) (fun y => [tQs K y.1.1, tI (y.1.2 : Nat), tQ K y.2.1, tQ K y.2.2]) fun y => tQ K (wS y.1.1 y.1.2 y.2.1 y.2.2 (y.1.2 + 1)).1) := by
  obtain ⟨fd, F⟩ := z.c.fWorthBy
  refine fnb z.g_worth_by F.kp (FunD.bindsN F fun _ _ _ _ _ _ us hl => match us, hl with | [_, _, _, _], _ => rfl) ?_
  refine fn_ty F sc_c_worthBy (fun _ => rfl) fun cdv B outer s H E G y Hb hp => ?_
  obtain ⟨⟨poly, high⟩, a, b⟩ := y
  obtain ⟨l1, bp, ba, bb, l2, st⟩ := hp
  simp only at l1 bp ba bb l2 st ⊢
  refine bl_par 4 5 G (ex_mkQ1 z G (by decide) ex_int) (ex_mkQ1 z G (by decide) ex_int) ?_
  refine bl_forD 6 G (n := high) (exa_cons (ex_v 1) (exa_cons ex_neg1 (exa_cons ex_neg1 exa_nil))) (by omega) (fun i => [.val (tQs K poly), .val (tI (high : Nat)), .val (tQ K a), .val (tQ K b), .val (tQ K (wS poly high a b i).1), .val (tQ K (wS poly high a b i).2), .no]) (.same (.same (.same (.same (.same (.same (.no .nil))))))) (fun i hi => ?_) (bl_ret (ex_v 4)) z.b_range (fun h => pi_range3 rfl z.b_range h)
  obtain ⟨s1, s2, s3, s4⟩ := st i (by omega)
  refine bl_set 4 G (ex_qmul z G (by decide) (ex_v 4) (ex_v 2) s1 ba) ?_
  refine bl_ifj [.val (tQs K poly), .val (tI (high : Nat)), .val (tQ K a), .val (tQ K b), .val (tQ K (wS poly high a b (i + 1)).1), .val (tQ K (wS poly high a b i).2), .no] (ext_lt (ex_v 6) (ex_lenM z rfl (EX.s (ex_v 0)))) (fun h => ?_) (fun h => ?_) ?_
  · have h := of_decide_eq_true h
    have hlt : high - i < poly.length := by omega
    exact bl_set 4 G (ex_qadd z G (by decide) (ex_v 4) (ex_qmul z G (by decide) (ex_ix (EX.s (ex_v 0)) ((ex_v 6).eq (show tI ((high : Int) - (i : Nat)) = tI ((high - i : Nat) : Int) by congr 2; omega)) (mat hlt)) (ex_v 5) (bp _ (cf_mem hlt)) s2) s3 s4) (bl_fin (.same (.same (.same (.same (.same (.same (.no .nil))))))) rfl)
  · have h := of_decide_eq_false h
    refine bl_fin (.same (.same (.same (.same (.val ?_ (.same (.no .nil))))))) rfl
    show tQ K ((wS poly high a b i).1 * a + cf poly (high - i) * (wS poly high a b i).2) = tQ K ((wS poly high a b i).1 * a)
    rw [cf_big (p := poly) (by omega)]
    congr 1
    grind
  · exact bl_set 5 G (ex_qmul z G (by decide) (ex_v 5) (ex_v 3) s2 bb) (bl_fin (.same (.same (.same (.same (.same (.same (.no .nil))))))) rfl)
theorem sc_c_worthOf : FnScope ["fraction", "place", "above", "below", "high"] ["fraction", "place"] (defScope sWorthOf) := ⟨rfl, rfl, rfl, by decide +kernel, rfl, by decide +kernel, by decide +kernel⟩
theorem c_worthOf (z : Wf P w K mg base) : Fn P w K mg base "worth_of" 40 ["fraction", "place"] (spT (fun y : (List Rat × List Rat) × Option Rat => WorthOf y.1 y.2) (fun y => [tF K y.1, tPl K y.2]) fun y => tPl K (worthOf y.1 y.2)) := by
  obtain ⟨fd, F⟩ := z.c.fWorthOf
  refine fnb z.g_worth_of F.kp (FunD.bindsN F fun _ _ _ _ _ _ us hl => match us, hl with | [_, _], _ => rfl) ?_
  refine fn_ty F sc_c_worthOf (fun _ => rfl) fun cdv B outer s H E G y Hb hp => ?_
  obtain ⟨h0, h1, h2, h3, h4⟩ := hp
  refine bl_unp 2 3 G (ex_call (c_pairOf z) G y.2 (by decide) (exa_cons (ex_v 1) exa_nil) trivial) ?_
  refine bl_set 4 G (ex_deg z G (by decide) h0 (ex_v 0)) ?_
  exact bl_ret (ex_call (c_placeBy z) G (worthBy y.1.1 (degP y.1) y.2, worthBy y.1.2 (degP y.1) y.2) (by decide) (exa_cons (ex_call (c_worthBy z) G ((y.1.1, degP y.1), ((pair y.2).1, (pair y.2).2)) (by decide) (exa_cons (ex_ftop z rfl (ex_v 0)) (exa_cons (ex_v 4) (exa_cons (ex_v 2) (exa_cons (ex_v 3) exa_nil)))) h1) (exa_cons (ex_call (c_worthBy z) G ((y.1.2, degP y.1), ((pair y.2).1, (pair y.2).2)) (by decide) (exa_cons (ex_fbot z rfl (ex_v 0)) (exa_cons (ex_v 4) (exa_cons (ex_v 2) (exa_cons (ex_v 3) exa_nil)))) h2) exa_nil)) ⟨h3, h4⟩)
theorem sc_c_plainOf : FnScope ["form", "poly"] ["form"] (defScope sPlainOf) := ⟨rfl, rfl, rfl, by decide +kernel, rfl, by decide +kernel, by decide +kernel⟩
theorem c_plainOf (z : Wf P w K mg base) : Fn P w K mg base "plain_of" 34 ["form"] (spT (fun y : List Rat => True) (fun y => [tQs K y]) fun y => tU [tQs K (trim y), tI ((y.length - (trim y).length : Nat) : Int)]) := by
  obtain ⟨fd, F⟩ := z.c.fPlainOf
  refine fnb z.g_plain_of F.kp (FunD.bindsN F fun _ _ _ _ _ _ us hl => match us, hl with | [_], _ => rfl) ?_
  refine fn_ty F sc_c_plainOf (fun _ => rfl) fun cdv B outer s H E G y Hb hp => ?_
  refine bl_set 1 G (ex_call (c_trimmed z) G y (by decide) (exa_cons (ex_v 0) exa_nil) trivial) ?_
  have := trim_le y
  exact bl_ret (ex_tup (exa_cons (ex_v 1) (exa_cons ((ex_sub (ex_lenM z rfl (EX.s (ex_v 0))) (ex_lenM z rfl (EX.s (ex_v 1)))).eq (R := tI ((y.length - (trim y).length : Nat) : Int)) (tI_eq (by omega))) exa_nil)) small2)
theorem sc_c_filled : FnScope ["poly", "degree"] ["poly", "degree"] (defScope sFilled) := ⟨rfl, rfl, rfl, by decide +kernel, rfl, by decide +kernel, by decide +kernel⟩
theorem c_filled (z : Wf P w K mg base) : Fn P w K mg base "filled" 36 ["poly", "degree"] (spT (fun y : List Rat × Nat => y.1.length ≤ 400 ∧ y.2 ≤ 500) (fun y => [tQs K y.1, tI ((y.2 : Nat) - 1)]) fun y => tQs K (fillF y.1 y.2)) := by
  obtain ⟨fd, F⟩ := z.c.fFilled
  refine fnb z.g_filled F.kp (FunD.bindsN F fun _ _ _ _ _ _ us hl => match us, hl with | [_, _], _ => rfl) ?_
  refine fn_ty F sc_c_filled (fun _ => rfl) fun cdv B outer s H E G y Hb hp => ?_
  obtain ⟨h1, h2⟩ := hp
  have en : (((y.2 : Nat) : Int) - 1 + 1 - ((y.1.length : Nat) : Int)).toNat = y.2 - y.1.length := by omega
  refine bl_ret ((EXL.ex (exl_cat (EX.s (ex_v 0)) (EXL.s (exl_rep (EXL.s (exl_lst (exa_cons (ex_mkQ1 z G (by decide) ex_int) exa_nil) (Nat.le_of_ble_eq_true rfl))) (ex_sub (ex_add (ex_v 1) ex_int) (ex_lenM z rfl (EX.s (ex_v 0)))) (by omega) (by omega))) ?_)).eq ?_)
  · rw [en, List.length_map, List.length_replicate]; omega
  · show tL _ = tL _
    rw [en]
    unfold fillF
    rw [List.map_append, List.map_replicate]
    rfl
theorem sc_c_toldOf : FnScope ["form"] ["form"] (defScope sToldOf) := ⟨rfl, rfl, rfl, by decide +kernel, rfl, by decide +kernel, by decide +kernel⟩
theorem c_toldOf (z : Wf P w K mg base) : Fn P w K mg base "told_of" 40 ["form"] (spT (fun y : List Rat => ToldOk y) (fun y => [tQs K y]) fun y => tQs K (toldOf y)) := by
  obtain ⟨fd, F⟩ := z.c.fToldOf
  refine fnb z.g_told_of F.kp (FunD.bindsN F fun _ _ _ _ _ _ us hl => match us, hl with | [_], _ => rfl) ?_
  refine fn_ty F sc_c_toldOf (fun _ => rfl) fun cdv B outer s H E G y Hb hp => ?_
  obtain ⟨h1, h2, h3⟩ := hp
  have ht : BqL (trim y) := fun c hc => by
    obtain ⟨n, e⟩ := trim_pad y
    exact h2 c (by rw [e]; exact List.mem_append_left _ hc)
  have hl := trim_le y
  exact bl_ret (ex_call (c_filled z) G (headed (trim y), y.length) (by decide) (exa_cons (ex_call (c_headed z) G (trim y) (by decide) (exa_cons (ex_call (c_trimmed z) G y (by decide) (exa_cons (ex_v 0) exa_nil) trivial) exa_nil) ⟨ht, by omega, fun hne => (trim_tr y).resolve_left hne⟩) (exa_cons (ex_sub (ex_lenM z rfl (EX.s (ex_v 0))) ex_int) exa_nil)) ⟨by unfold headed; rw [List.length_map]; omega, by omega⟩)
theorem sc_c_productIn : FnScope ["form", "other"] ["form", "other"] (defScope sProductIn) := ⟨rfl, rfl, rfl, by decide +kernel, rfl, by decide +kernel, by decide +kernel⟩
theorem c_productIn (z : Wf P w K mg base) : Fn P w K mg base "product_in" 42 ["form", "other"] (spT (fun y : List Rat × List Rat => ProdOk y.1 y.2) (fun y => [tQs K y.1, tQs K y.2]) fun y => tQs K (productIn y.1 y.2)) := by
  obtain ⟨fd, F⟩ := z.c.fProductIn
  refine fnb z.g_product_in F.kp (FunD.bindsN F fun _ _ _ _ _ _ us hl => match us, hl with | [_, _], _ => rfl) ?_
  refine fn_ty F sc_c_productIn (fun _ => rfl) fun cdv B outer s H E G y Hb hp => ?_
  obtain ⟨n1, n2, p1, p2, bq, hl, l1, l2⟩ := hp
  have e1 := List.length_pos_iff.mpr n1
  have e2 := List.length_pos_iff.mpr n2
  have hf : (fillF (productOf (trim y.1) (trim y.2)) (y.1.length + y.2.length - 1)).length = y.1.length + y.2.length - 1 := fillF_len _ _ hl
  exact bl_ret (ex_call (c_toldOf z) G (fillF (productOf (trim y.1) (trim y.2)) (y.1.length + y.2.length - 1)) (by decide) (exa_cons (ex_call (c_filled z) G (productOf (trim y.1) (trim y.2), y.1.length + y.2.length - 1) (by decide) (exa_cons (ex_call (c_productOf z) G (trim y.1, trim y.2) (by decide) (exa_cons (ex_call (c_trimmed z) G y.1 (by decide) (exa_cons (ex_v 0) exa_nil) trivial) (exa_cons (ex_call (c_trimmed z) G y.2 (by decide) (exa_cons (ex_v 1) exa_nil) trivial) exa_nil)) ⟨p1, p2⟩) (exa_cons ((ex_sub (ex_add (ex_lenM z rfl (EX.s (ex_v 0))) (ex_lenM z rfl (EX.s (ex_v 1)))) ex_int).eq (R := tI (((y.1.length + y.2.length - 1 : Nat) : Int) - 1)) (tI_eq (by omega))) exa_nil)) ⟨by simp only; omega, by simp only; omega⟩) exa_nil) ⟨List.ne_nil_of_length_pos (by rw [hf]; omega), bq_fill bq, by rw [hf]; omega⟩)
theorem sc_c_restIn : FnScope ["form", "other", "poly", "often", "goal", "more", "quotient", "rest"] ["form", "other"] (defScope sRestIn) := ⟨rfl, rfl, rfl, by decide +kernel, rfl, by decide +kernel, by decide +kernel⟩
theorem c_restIn (z : Wf P w K mg base) : Fn P w K mg base "rest_in" 42 ["form", "other"] (spT (fun y : List Rat × List Rat => RestOk y.1 y.2) (fun y => [tQs K y.1, tQs K y.2]) fun y => tQs K (restIn y.1 y.2)) := by
  obtain ⟨fd, F⟩ := z.c.fRestIn
  refine fnb z.g_rest_in F.kp (FunD.bindsN F fun _ _ _ _ _ _ us hl => match us, hl with | [_, _], _ => rfl) ?_
  refine fn_ty F sc_c_restIn (fun _ => rfl) fun cdv B outer s H E G y Hb hp => ?_
  obtain ⟨h1, h2, h3, h4, h5, h6, h7⟩ := hp
  have hf : (fillF (partsOf (trim y.2) (trim y.1)).1 (y.2.length - y.1.length + 1)).length = y.2.length - y.1.length + 1 := fillF_len _ _ h7
  refine bl_unp 2 3 G (ex_call (c_plainOf z) G y.1 (by decide) (exa_cons (ex_v 0) exa_nil) trivial) ?_
  refine bl_unp 4 5 G (ex_call (c_plainOf z) G y.2 (by decide) (exa_cons (ex_v 1) exa_nil) trivial) ?_
  refine bl_unp 6 7 G (ex_call (c_partsOf z) G (trim y.2, trim y.1) (by decide) (exa_cons (ex_v 4) (exa_cons (ex_v 2) exa_nil)) h3) ?_
  refine bl_ifr (t := false) (EXW.ext ((exw_or (k := false) (l := false) ((ext_neNil G (EX.s (ex_v 7))).eq ?_) fun _ => exw_or1 ((ext_gt (ex_v 3) (ex_v 5)).eq ?_)))) (fun h => by cases h) fun _ => ?_
  · rw [h4]; rfl
  · exact decide_eq_false (by omega)
  · exact bl_ret (ex_call (c_toldOf z) G (fillF (partsOf (trim y.2) (trim y.1)).1 (y.2.length - y.1.length + 1)) (by decide) (exa_cons (ex_call (c_filled z) G ((partsOf (trim y.2) (trim y.1)).1, y.2.length - y.1.length + 1) (by decide) (exa_cons (ex_v 6) (exa_cons ((ex_sub (ex_lenM z rfl (EX.s (ex_v 1))) (ex_lenM z rfl (EX.s (ex_v 0)))).eq (R := tI (((y.2.length - y.1.length + 1 : Nat) : Int) - 1)) (tI_eq (by omega))) exa_nil)) ⟨by simp only; omega, by simp only; omega⟩) exa_nil) ⟨List.ne_nil_of_length_pos (by rw [hf]; omega), bq_fill h6, by rw [hf]; omega⟩)
theorem sc_c_dividesIn : FnScope ["form", "other"] ["form", "other"] (defScope sDividesIn) := ⟨rfl, rfl, rfl, by decide +kernel, rfl, by decide +kernel, by decide +kernel⟩
theorem c_dividesIn (z : Wf P w K mg base) : Fn P w K mg base "divides_in" 44 ["form", "other"] (spT (fun y : List Rat × List Rat => RestOk y.1 y.2) (fun y => [tQs K y.1, tQs K y.2]) fun y => tB true) := by
  obtain ⟨fd, F⟩ := z.c.fDividesIn
  refine fnb z.g_divides_in F.kp (FunD.bindsN F fun _ _ _ _ _ _ us hl => match us, hl with | [_, _], _ => rfl) ?_
  refine fn_ty F sc_c_dividesIn (fun _ => rfl) fun cdv B outer s H E G y Hb hp => ?_
  exact bl_ret (ex_notN (ex_call (c_restIn z) G y (by decide) (exa_cons (ex_v 0) (exa_cons (ex_v 1) exa_nil)) hp) (fun v H ⟨a, vs, h1, _⟩ => by subst h1; rfl))
theorem sc_c_howOften_b : FnScope ["form", "place", "poly", "found", "quotient", "rest", "many"] ["form", "place"] (defScope sHowOften) := ⟨rfl, rfl, rfl, by decide +kernel, rfl, by decide +kernel, by decide +kernel⟩
theorem c_howOften_b (z : Wf P w K mg base) : Fn P w K mg base "how_often" 40 ["form", "place"] (spT (fun y : List Rat => True) (fun y => [tQs K y, tV (.str "beyond")]) fun y => tI ((y.length - (trim y).length : Nat) : Int)) := by
  obtain ⟨fd, F⟩ := z.c.fHowOften
  refine fnb z.g_how_often F.kp (FunD.bindsN F fun _ _ _ _ _ _ us hl => match us, hl with | [_, _], _ => rfl) ?_
  refine fn_ty F sc_c_howOften_b (fun _ => rfl) fun cdv B outer s H E G y Hb hp => ?_
  refine bl_unp 2 3 G (ex_call (c_plainOf z) G y (by decide) (exa_cons (ex_v 0) exa_nil) trivial) ?_
  exact bl_ifr (t := true) (ext_val (ex_isStr (o := none) z G (ex_v 1))) (fun _ => bl_ret (ex_v 3)) fun h => by cases h
theorem sc_c_howOften_q : FnScope ["form", "place", "poly", "found", "quotient", "rest", "many"] ["form", "place"] (defScope sHowOften) := ⟨rfl, rfl, rfl, by decide +kernel, rfl, by decide +kernel, by decide +kernel⟩
theorem c_howOften_q (z : Wf P w K mg base) : Fn P w K mg base "how_often" 40 ["form", "place"] (spT (fun y : (List Rat × Rat) × Nat => OftenOk y.1.1 y.1.2 y.2) (fun y => [tQs K y.1.1, tQ K y.1.2]) fun y => tI (y.2 : Nat)) := by
  obtain ⟨fd, F⟩ := z.c.fHowOften
  refine fnb z.g_how_often F.kp (FunD.bindsN F fun _ _ _ _ _ _ us hl => match us, hl with | [_, _], _ => rfl) ?_
  refine fn_ty F sc_c_howOften_q (fun _ => rfl) fun cdv B outer s H E G y Hb hp => ?_
  obtain ⟨⟨f, q⟩, m⟩ := y
  obtain ⟨l1, qs, e0, hdv, hst, hend⟩ := hp
  simp only at l1 e0 hdv hst hend ⊢
  refine bl_unp 2 3 G (ex_call (c_plainOf z) G f (by decide) (exa_cons (ex_v 0) exa_nil) trivial) ?_
  refine bl_ifr (t := false) (ext_val (ex_isStr (o := some q) z G (ex_v 1))) (fun h => by cases h) fun _ => ?_
  refine bl_unp 4 5 G (ex_call (c_partsOf z) G (qs 0, [-q, 1]) (by decide) (exa_cons ((ex_v 2).eq (by rw [e0])) (exa_cons (EXL.ex (exl_lst (exa_cons (ex_qneg z G (by decide) (ex_v 1)) (exa_cons (ex_mkQ1 z G (by decide) ex_int) exa_nil)) small2)) exa_nil)) (hdv 0 (Nat.zero_le _))) ?_
  refine bl_set 6 G ex_int ?_
  refine bl_while G (β := { i : Nat // i ≤ m }) (fun i => [.val (tQs K f), .val (tQ K q), .no, .no, .val (tQs K (partsOf (qs i.1) [-q, 1]).1), .val (tQs K (partsOf (qs i.1) [-q, 1]).2), .val (tI (i.1 : Nat))]) (fun i => m - i.1) (fun i => (partsOf (qs i.1) [-q, 1]).2.isEmpty) ⟨0, Nat.zero_le _⟩ (.same (.same (.no (.no (.same (.same (.same .nil))))))) (fun i => (ext_eqNil G (EX.s (ex_v 5))).eq (by cases (partsOf (qs i.1) [-q, 1]).2 <;> rfl)) (fun i hi => ?_) fun i hi => ?_
  · obtain ⟨i, him⟩ := i
    have hlt : i < m := by
      rcases Nat.lt_or_ge i m with h | h
      · exact h
      · have e : i = m := Nat.le_antisymm him h
        subst e
        exact absurd (List.isEmpty_iff.mp hi) hend
    have est := hst i hlt
    refine bl_set 6 G (ex_add (ex_v 6) ex_int) ?_
    refine bl_unp 4 5 G (ex_call (c_partsOf z) G (qs (i + 1), [-q, 1]) (by decide) (exa_cons ((ex_v 4).eq (by show tQs K (partsOf (qs i) [-q, 1]).1 = _; rw [est])) (exa_cons (EXL.ex (exl_lst (exa_cons (ex_qneg z G (by decide) (ex_v 1)) (exa_cons (ex_mkQ1 z G (by decide) ex_int) exa_nil)) small2)) exa_nil)) (hdv (i + 1) hlt)) ?_
    exact bl_again (W := fun i : { i : Nat // i ≤ m } => [.val (tQs K f), .val (tQ K q), .no, .no, .val (tQs K (partsOf (qs i.1) [-q, 1]).1), .val (tQs K (partsOf (qs i.1) [-q, 1]).2), .val (tI (i.1 : Nat))]) (m := fun i => m - i.1) (y := ⟨i, him⟩) ⟨i + 1, hlt⟩ (.same (.same (.no (.no (.same (.same (.val rfl .nil))))))) (by show m - (i + 1) < m - i; omega) rfl
  · obtain ⟨i, him⟩ := i
    have e : i = m := by
      rcases Nat.lt_or_ge i m with h | h
      · have := hst i h
        simp only at hi
        rw [this] at hi
        cases hi
      · exact Nat.le_antisymm him h
    subst e
    exact bl_ret (ex_v 6)
end
end Wk
set_option Elab.async false
set_option linter.all false
set_option maxRecDepth 100000
set_option maxHeartbeats 1000000
/-! R10: forms as they are asked for, fibres, turning, parts. -/
namespace Wk
open PySem PySem.Spec PyProof.Rows L2 Ty Tx Mt
theorem qs_ne {K : PySem.W.Frag} {p : List Rat} : ∀ v H, (tQs K p).p v H → decide (v = .non) = false := fun v H ⟨a, vs, h1, _⟩ => by subst h1; rfl
def FibOk (x : List Rat × List Rat) : Option Rat → Prop
  | none => ToldOk (fillF x.2 (degP x + 1)) ∧ degP x ≤ 100 ∧ x.2.length ≤ 400
  | some q => Bq q ∧ BqL x.1 ∧ BqL x.2 ∧ BqL (byNumber x.2 q) ∧ BqL (byNumber (byNumber x.2 q) (-1)) ∧ x.1.length ≤ 400 ∧ x.2.length ≤ 400 ∧ degP x ≤ 100 ∧ (lessOf x.1 (byNumber x.2 q)).length ≤ 400 ∧ ToldOk (fillF (lessOf x.1 (byNumber x.2 q)) (degP x + 1))
def TurnOk (x : List Rat × List Rat) : Prop := 0 < degP x ∧ degP x ≤ 12 ∧ BqL x.1 ∧ BqL x.2 ∧ x.1.length ≤ 100 ∧ x.2.length ≤ 100 ∧ PB (slopeOf x.1) ∧ PB x.2 ∧ PB x.1 ∧ PB (slopeOf x.2) ∧ BqL (productOf (slopeOf x.1) x.2) ∧ BqL (productOf x.1 (slopeOf x.2)) ∧ BqL (byNumber (productOf x.1 (slopeOf x.2)) (-1)) ∧
  (productOf (slopeOf x.1) x.2).length ≤ 400 ∧ (productOf x.1 (slopeOf x.2)).length ≤ 400 ∧ (turnPoly x).length ≤ 400 ∧ ToldOk (fillF (turnPoly x) (2 * degP x - 1))
def PartOk (x : List Rat × List Rat) (o : Option Rat) : Prop := WorthOf x o ∧ FibOk x (worthOf x o) ∧ 0 < degP x
/-- how often the part at o is there -/
def TakenOk (x : List Rat × List Rat) (o : Option Rat) (m : Nat) : Prop := PartOk x o ∧ match o with
  | none => m = (partAt x none).length - (trim (partAt x none)).length
  | some q => OftenOk (partAt x (some q)) q m
section
variable {P : Program} {w : World} {K : PySem.W.Frag} {mg : Str → Option Value} {base : Heap} {j : Nat} {X : Cx} {Γ : List Sl} {e a b c : Expr} {pos p : Pos}

theorem sc_c_formIn : FnScope ["value", "number", "found"] ["value"] (defScope sFormIn) := ⟨rfl, rfl, rfl, by decide +kernel, rfl, by decide +kernel, by decide +kernel⟩
theorem c_formIn (z : Wf P w K mg base) : Fn P w K mg base "form_in" 38 ["value"] (spT (fun y : List Rat => FormOk y) (fun y => [tL (y.map (tG K))]) fun y => tQs K y) := by
  obtain ⟨fd, F⟩ := z.c.fFormIn
  refine fnb z.g_form_in F.kp (FunD.bindsN F fun _ _ _ _ _ _ us hl => match us, hl with | [_], _ => rfl) ?_
  refine fn_ty F sc_c_formIn (fun _ => rfl) fun cdv B outer s H E G y Hb hp => ?_
  obtain ⟨h1, h2, h3⟩ := hp
  obtain ⟨t, hm⟩ := z.n_MOST_DEGREE_forms
  have hl : y.length ≤ 1000 := Nat.le_trans h2 (by decide)
  refine bl_ifr (t := false) (EXW.ext (exw_or (k := false) (l := false) (ext_not (ext_val (ex_call (c_isList z) G (y.map (tG K)) (by decide) (exa_cons (EX.some (T := fun b : Bool => match b with | true => tU (y.map (tG K)) | false => tL (y.map (tG K))) (y := false) (ex_v 0)) exa_nil) trivial))) fun _ => exw_or (k := false) (l := false) ((ext_not (ext_chain ex_int (ex_lenM z rfl (EX.s (ex_v 0))) (ex_add (ex_glob hm ⟨t, rfl⟩) ex_int))).eq ?_) fun _ => exw_or1 ((ext_not (ext_val (ex_all G (ex_of (lcM (T := tG K) (T' := tB) 1 (fun _ : Rat => true) (EX.s (ex_v 0)) hl (fun u hu _ _ _ _ _ => ex_call (c_isNumber_g z) (G.blk _ _ _ _ _) u (by decide) (exa_cons (ex_v 1) exa_nil) trivial) G) G) z.b_all))).eq (by rw [all_true]; rfl)))) (fun h => by cases h) fun _ => ?_
  · rw [decide_eq_true (by omega), decide_eq_true (by omega)]; rfl
  refine bl_setC 2 G (lcM (T := tG K) (T' := tQ K) 1 (id : Rat → Rat) (EX.s (ex_v 0)) hl (fun u hu _ _ _ _ _ => ex_call (c_ratioOf_g z) (G.blk _ _ _ _ _) u (by decide) (exa_cons (ex_v 1) exa_nil) trivial) G) ?_
  rw [List.map_id]
  refine bl_rel 2 rfl (bl_ret (ex_if ((ext_neNil G (EX.s (ex_call (c_trimmed z) G y (by decide) (exa_cons (ex_v 2) exa_nil) trivial))).eq (y := true) ?_) (fun _ => ex_v 2) fun h => by cases h))
  cases ht : trim y with
  | nil => exact absurd ht h3
  | cons a r => rfl
theorem sc_c_wantForm : FnScope ["value", "found"] ["value"] (defScope sWantForm) := ⟨rfl, rfl, rfl, by decide +kernel, rfl, by decide +kernel, by decide +kernel⟩
theorem c_wantForm (z : Wf P w K mg base) : Fn P w K mg base "want_form" 40 ["value"] (spT (fun y : List Rat => FormOk y) (fun y => [tL (y.map (tG K))]) fun y => tQs K y) := by
  obtain ⟨fd, F⟩ := z.c.fWantForm
  refine fnb z.g_want_form F.kp (FunD.bindsN F fun _ _ _ _ _ _ us hl => match us, hl with | [_], _ => rfl) ?_
  refine fn_ty F sc_c_wantForm (fun _ => rfl) fun cdv B outer s H E G y Hb hp => ?_
  refine bl_set 1 G (ex_call (c_formIn z) G y (by decide) (exa_cons (ex_v 0) exa_nil) hp) ?_
  exact bl_ifr (t := false) (ext_isN (ex_v 1) qs_ne) (fun h => by cases h) fun _ => bl_ret (ex_v 1)
theorem sc_c_areLike : FnScope ["form", "other"] ["form", "other"] (defScope sAreLike) := ⟨rfl, rfl, rfl, by decide +kernel, rfl, by decide +kernel, by decide +kernel⟩
theorem c_areLike (z : Wf P w K mg base) : Fn P w K mg base "are_like" 42 ["form", "other"] (spT (fun y : List Rat × List Rat => FormOk y.1 ∧ FormOk y.2 ∧ ToldOk y.1 ∧ ToldOk y.2 ∧ toldOf y.1 = toldOf y.2) (fun y => [tL (y.1.map (tG K)), tL (y.2.map (tG K))]) fun y => tB true) := by
  obtain ⟨fd, F⟩ := z.c.fAreLike
  refine fnb z.g_are_like F.kp (FunD.bindsN F fun _ _ _ _ _ _ us hl => match us, hl with | [_, _], _ => rfl) ?_
  refine fn_ty F sc_c_areLike (fun _ => rfl) fun cdv B outer s H E G y Hb hp => ?_
  obtain ⟨h1, h2, h3, h4, h5⟩ := hp
  exact bl_ret (ex_eqQs z G (by decide) (qs := toldOf y.1) (ex_call (c_toldOf z) G y.1 (by decide) (exa_cons (ex_call (c_wantForm z) G y.1 (by decide) (exa_cons (ex_v 0) exa_nil) h1) exa_nil) h3) ((ex_call (c_toldOf z) G y.2 (by decide) (exa_cons (ex_call (c_wantForm z) G y.2 (by decide) (exa_cons (ex_v 1) exa_nil) h2) exa_nil) h4).eq (by rw [h5])))
theorem sc_c_product : FnScope ["form", "other", "near", "far"] ["form", "other"] (defScope sProduct) := ⟨rfl, rfl, rfl, by decide +kernel, rfl, by decide +kernel, by decide +kernel⟩
theorem c_product (z : Wf P w K mg base) : Fn P w K mg base "product" 44 ["form", "other"] (spT (fun y : List Rat × List Rat => FormOk y.1 ∧ FormOk y.2 ∧ y.1.length + y.2.length ≤ 26 ∧ ProdOk y.1 y.2) (fun y => [tL (y.1.map (tG K)), tL (y.2.map (tG K))]) fun y => tQs K (productIn y.1 y.2)) := by
  obtain ⟨fd, F⟩ := z.c.fProduct
  refine fnb z.g_product F.kp (FunD.bindsN F fun _ _ _ _ _ _ us hl => match us, hl with | [_, _], _ => rfl) ?_
  refine fn_ty F sc_c_product (fun _ => rfl) fun cdv B outer s H E G y Hb hp => ?_
  obtain ⟨h1, h2, h3, h4⟩ := hp
  obtain ⟨t, hm⟩ := z.n_MOST_DEGREE_forms
  refine bl_par 2 3 G (ex_call (c_wantForm z) G y.1 (by decide) (exa_cons (ex_v 0) exa_nil) h1) (ex_call (c_wantForm z) G y.2 (by decide) (exa_cons (ex_v 1) exa_nil) h2) ?_
  refine bl_expr (ex_call (c_wantAtMost z) G ("degree", 24, ((y.1.length : Nat) : Int) + ((y.2.length : Nat) : Int) - 2) (by decide) (exa_cons ex_str (exa_cons (ex_glob hm ⟨t, rfl⟩) (exa_cons (ex_sub (ex_add (ex_lenM z rfl (EX.s (ex_v 2))) (ex_lenM z rfl (EX.s (ex_v 3)))) ex_int) exa_nil))) ?_) ?_
  · show ((y.1.length : Nat) : Int) + ((y.2.length : Nat) : Int) - 2 ≤ 24
    omega
  exact bl_ret (ex_call (c_productIn z) G y (by decide) (exa_cons (ex_v 2) (exa_cons (ex_v 3) exa_nil)) h4)
theorem sc_c_divides : FnScope ["form", "other", "near", "far"] ["form", "other"] (defScope sDivides) := ⟨rfl, rfl, rfl, by decide +kernel, rfl, by decide +kernel, by decide +kernel⟩
theorem c_divides (z : Wf P w K mg base) : Fn P w K mg base "divides" 46 ["form", "other"] (spT (fun y : List Rat × List Rat => FormOk y.1 ∧ FormOk y.2 ∧ RestOk y.1 y.2) (fun y => [tL (y.1.map (tG K)), tL (y.2.map (tG K))]) fun y => tB true) := by
  obtain ⟨fd, F⟩ := z.c.fDivides
  refine fnb z.g_divides F.kp (FunD.bindsN F fun _ _ _ _ _ _ us hl => match us, hl with | [_, _], _ => rfl) ?_
  refine fn_ty F sc_c_divides (fun _ => rfl) fun cdv B outer s H E G y Hb hp => ?_
  obtain ⟨h1, h2, h3⟩ := hp
  refine bl_par 2 3 G (ex_call (c_wantForm z) G y.1 (by decide) (exa_cons (ex_v 0) exa_nil) h1) (ex_call (c_wantForm z) G y.2 (by decide) (exa_cons (ex_v 1) exa_nil) h2) ?_
  exact bl_ret (ex_call (c_dividesIn z) G y (by decide) (exa_cons (ex_v 2) (exa_cons (ex_v 3) exa_nil)) h3)
theorem sc_c_restForm : FnScope ["form", "other", "near", "far", "found"] ["form", "other"] (defScope sRestForm) := ⟨rfl, rfl, rfl, by decide +kernel, rfl, by decide +kernel, by decide +kernel⟩
theorem c_restForm (z : Wf P w K mg base) : Fn P w K mg base "rest_form" 46 ["form", "other"] (spT (fun y : List Rat × List Rat => FormOk y.1 ∧ FormOk y.2 ∧ RestOk y.1 y.2) (fun y => [tL (y.1.map (tG K)), tL (y.2.map (tG K))]) fun y => tQs K (restIn y.1 y.2)) := by
  obtain ⟨fd, F⟩ := z.c.fRestForm
  refine fnb z.g_rest_form F.kp (FunD.bindsN F fun _ _ _ _ _ _ us hl => match us, hl with | [_, _], _ => rfl) ?_
  refine fn_ty F sc_c_restForm (fun _ => rfl) fun cdv B outer s H E G y Hb hp => ?_
  obtain ⟨h1, h2, h3⟩ := hp
  refine bl_par 2 3 G (ex_call (c_wantForm z) G y.1 (by decide) (exa_cons (ex_v 0) exa_nil) h1) (ex_call (c_wantForm z) G y.2 (by decide) (exa_cons (ex_v 1) exa_nil) h2) ?_
  refine bl_set 4 G (ex_call (c_restIn z) G y (by decide) (exa_cons (ex_v 2) (exa_cons (ex_v 3) exa_nil)) h3) ?_
  exact bl_ifr (t := false) (ext_isN (ex_v 4) qs_ne) (fun h => by cases h) fun _ => bl_ret (ex_v 4)
theorem sc_c_wantFull : FnScope ["fraction"] ["fraction"] (defScope sWantFull) := ⟨rfl, rfl, rfl, by decide +kernel, rfl, by decide +kernel, by decide +kernel⟩
theorem c_wantFull (z : Wf P w K mg base) : Fn P w K mg base "want_full" 36 ["fraction"] (spT (fun y : List Rat × List Rat => 0 < max y.1.length y.2.length ∧ 0 < degP y) (fun y => [tF K y]) fun y => tN) := by
  obtain ⟨fd, F⟩ := z.c.fWantFull
  refine fnb z.g_want_full F.kp (FunD.bindsN F fun _ _ _ _ _ _ us hl => match us, hl with | [_], _ => rfl) ?_
  refine fn_ty F sc_c_wantFull (fun _ => rfl) fun cdv B outer s H E G y Hb hp => ?_
  exact bl_ifr (ext_eqi (ex_deg z G (by decide) hp.1 (ex_v 0)) ex_int) (fun h => absurd (of_decide_eq_true h) (by have := hp.2; unfold degP at this; unfold degF; omega)) fun _ => bl_none (fun _ => rfl) rfl
theorem sc_c_fibreOf : FnScope ["fraction", "place", "top", "bottom", "poly"] ["fraction", "place"] (defScope sFibreOf) := ⟨rfl, rfl, rfl, by decide +kernel, rfl, by decide +kernel, by decide +kernel⟩
theorem c_fibreOf (z : Wf P w K mg base) : Fn P w K mg base "fibre_of" 42 ["fraction", "place"] (spT (fun y : (List Rat × List Rat) × Option Rat => 0 < max y.1.1.length y.1.2.length ∧ FibOk y.1 y.2) (fun y => [tF K y.1, tPl K y.2]) fun y => tQs K (fibreOf y.1 y.2)) := by
  obtain ⟨fd, F⟩ := z.c.fFibreOf
  refine fnb z.g_fibre_of F.kp (FunD.bindsN F fun _ _ _ _ _ _ us hl => match us, hl with | [_, _], _ => rfl) ?_
  refine fn_ty F sc_c_fibreOf (fun _ => rfl) fun cdv B outer s H E G y Hb hp => ?_
  obtain ⟨x, o⟩ := y
  obtain ⟨h0, hf⟩ := hp
  have ed : tI ((degF x : Nat) : Int) = tI (((degP x + 1 : Nat) : Int) - 1) := tI_eq (by unfold degF degP; omega)
  refine bl_par 2 3 G (ex_ftop z rfl (ex_v 0)) (ex_fbot z rfl (ex_v 0)) ?_
  cases o with
  | none =>
    obtain ⟨h1, h2, h3⟩ := hf
    have h3 : x.2.length ≤ 400 := h3
    have h2 : degP x ≤ 100 := h2
    refine bl_set 4 G (ex_if (ext_val (ex_isStr (o := none) z G (ex_v 1))) (fun _ => ex_v 3) fun h => by cases h) ?_
    exact bl_ret (ex_call (c_toldOf z) G (fillF x.2 (degP x + 1)) (by decide) (exa_cons (ex_call (c_filled z) G (x.2, degP x + 1) (by decide) (exa_cons (ex_v 4) (exa_cons ((ex_deg z G (by decide) h0 (ex_v 0)).eq ed) exa_nil)) ⟨h3, by show degP x + 1 ≤ 500; omega⟩) exa_nil) h1)
  | some q =>
    obtain ⟨h1, b1, b2, b3, b4, l1, l2, l3, l4, h2⟩ := hf
    have l1 : x.1.length ≤ 400 := l1
    have l2 : x.2.length ≤ 400 := l2
    have l3 : degP x ≤ 100 := l3
    have l4 : (lessOf x.1 (byNumber x.2 q)).length ≤ 400 := l4
    have l5 : (byNumber x.2 q).length ≤ 400 := Nat.le_trans (trim_le _) (by rw [List.length_map]; exact l2)
    refine bl_set 4 G (ex_if (ext_val (ex_isStr (o := some q) z G (ex_v 1))) (fun h => by cases h) fun _ => ex_call (c_lessOf z) G (x.1, byNumber x.2 q) (by decide) (exa_cons (ex_v 2) (exa_cons (ex_call (c_byNumber z) G (x.2, q) (by decide) (exa_cons (ex_v 3) (exa_cons (ex_v 1) exa_nil)) ⟨b2, h1, by show x.2.length ≤ 1000; omega⟩) exa_nil)) ⟨b1, b3, b4, by show x.1.length ≤ 1000; omega, by show (byNumber x.2 q).length ≤ 1000; omega⟩) ?_
    exact bl_ret (ex_call (c_toldOf z) G (fillF (lessOf x.1 (byNumber x.2 q)) (degP x + 1)) (by decide) (exa_cons (ex_call (c_filled z) G (lessOf x.1 (byNumber x.2 q), degP x + 1) (by decide) (exa_cons (ex_v 4) (exa_cons ((ex_deg z G (by decide) h0 (ex_v 0)).eq ed) exa_nil)) ⟨l4, by show degP x + 1 ≤ 500; omega⟩) exa_nil) h2)
theorem sc_c_turningOf : FnScope ["fraction", "top", "bottom", "poly"] ["fraction"] (defScope sTurningOf) := ⟨rfl, rfl, rfl, by decide +kernel, rfl, by decide +kernel, by decide +kernel⟩
theorem c_turningOf (z : Wf P w K mg base) : Fn P w K mg base "turning_of" 42 ["fraction"] (spT (fun y : List Rat × List Rat => 0 < max y.1.length y.2.length ∧ TurnOk y) (fun y => [tF K y]) fun y => tQs K (turningOf y)) := by
  obtain ⟨fd, F⟩ := z.c.fTurningOf
  refine fnb z.g_turning_of F.kp (FunD.bindsN F fun _ _ _ _ _ _ us hl => match us, hl with | [_], _ => rfl) ?_
  refine fn_ty F sc_c_turningOf (fun _ => rfl) fun cdv B outer s H E G y Hb hp => ?_
  obtain ⟨h0, d0, d1, b1, b2, l1, l2, p1, p2, p3, p4, b3, b4, b5, l3, l4, l5, h1⟩ := hp
  refine bl_par 1 2 G (ex_ftop z rfl (ex_v 0)) (ex_fbot z rfl (ex_v 0)) ?_
  refine bl_set 3 G (ex_call (c_lessOf z) G (productOf (slopeOf y.1) y.2, productOf y.1 (slopeOf y.2)) (by decide) (exa_cons (ex_call (c_productOf z) G (slopeOf y.1, y.2) (by decide) (exa_cons (ex_call (c_slopeOf z) G y.1 (by decide) (exa_cons (ex_v 1) exa_nil) ⟨b1, by omega⟩) (exa_cons (ex_v 2) exa_nil)) ⟨p1, p2⟩) (exa_cons (ex_call (c_productOf z) G (y.1, slopeOf y.2) (by decide) (exa_cons (ex_v 1) (exa_cons (ex_call (c_slopeOf z) G y.2 (by decide) (exa_cons (ex_v 2) exa_nil) ⟨b2, by omega⟩) exa_nil)) ⟨p3, p4⟩) exa_nil)) ⟨b3, b4, b5, Nat.le_trans l3 (by decide), Nat.le_trans l4 (by decide)⟩) ?_
  have ed : tI (2 * ((degF y : Nat) : Int) - 2) = tI (((2 * degP y - 1 : Nat) : Int) - 1) := tI_eq (by unfold degP at d0; unfold degF degP; omega)
  exact bl_ret (ex_call (c_toldOf z) G (fillF (turnPoly y) (2 * degP y - 1)) (by decide) (exa_cons (ex_call (c_filled z) G (turnPoly y, 2 * degP y - 1) (by decide) (exa_cons (ex_v 3) (exa_cons ((ex_sub (ex_mul ex_int (ex_deg z G (by decide) h0 (ex_v 0)) (Bg.small (by decide)) (Bg.small (by have := d1; unfold degP at this; unfold degF; omega))) ex_int).eq ed) exa_nil)) ⟨l5, by show 2 * degP y - 1 ≤ 500; omega⟩) exa_nil) h1)
theorem sc_c_fibre : FnScope ["fraction", "worth", "place"] ["fraction", "worth"] (defScope sFibre) := ⟨rfl, rfl, rfl, by decide +kernel, rfl, by decide +kernel, by decide +kernel⟩
theorem c_fibre (z : Wf P w K mg base) : Fn P w K mg base "fibre" 44 ["fraction", "worth"] (spT (fun y : (List Rat × List Rat) × Option Rat => 0 < degP y.1 ∧ FibOk y.1 y.2) (fun y => [tF K y.1, tPg K y.2]) fun y => tQs K (fibreOf y.1 y.2)) := by
  obtain ⟨fd, F⟩ := z.c.fFibre
  refine fnb z.g_fibre F.kp (FunD.bindsN F fun _ _ _ _ _ _ us hl => match us, hl with | [_, _], _ => rfl) ?_
  refine fn_ty F sc_c_fibre (fun _ => rfl) fun cdv B outer s H E G y Hb hp => ?_
  obtain ⟨d0, hf⟩ := hp
  have h0 : 0 < max y.1.1.length y.1.2.length := by unfold degP at d0; omega
  refine bl_expr (ex_call (c_wantFraction z) G y.1 (by decide) (exa_cons (ex_v 0) exa_nil) trivial) ?_
  refine bl_set 2 G (ex_call (c_wantPlace z) G y.2 (by decide) (exa_cons (ex_v 1) exa_nil) trivial) ?_
  refine bl_expr (ex_call (c_wantFull z) G y.1 (by decide) (exa_cons (ex_v 0) exa_nil) ⟨h0, d0⟩) ?_
  exact bl_ret (ex_call (c_fibreOf z) G y (by decide) (exa_cons (ex_v 0) (exa_cons (ex_v 2) exa_nil)) ⟨h0, hf⟩)
theorem sc_c_turning : FnScope ["fraction"] ["fraction"] (defScope sTurning) := ⟨rfl, rfl, rfl, by decide +kernel, rfl, by decide +kernel, by decide +kernel⟩
theorem c_turning (z : Wf P w K mg base) : Fn P w K mg base "turning" 44 ["fraction"] (spT (fun y : List Rat × List Rat => TurnOk y) (fun y => [tF K y]) fun y => tQs K (turningOf y)) := by
  obtain ⟨fd, F⟩ := z.c.fTurning
  refine fnb z.g_turning F.kp (FunD.bindsN F fun _ _ _ _ _ _ us hl => match us, hl with | [_], _ => rfl) ?_
  refine fn_ty F sc_c_turning (fun _ => rfl) fun cdv B outer s H E G y Hb hp => ?_
  have d0 : 0 < degP y := hp.1
  have d1 : degP y ≤ 12 := hp.2.1
  have h0 : 0 < max y.1.length y.2.length := by unfold degP at d0; omega
  obtain ⟨t, hm⟩ := z.n_MOST_TURNING
  refine bl_expr (ex_call (c_wantFraction z) G y (by decide) (exa_cons (ex_v 0) exa_nil) trivial) ?_
  refine bl_expr (ex_call (c_wantFull z) G y (by decide) (exa_cons (ex_v 0) exa_nil) ⟨h0, d0⟩) ?_
  refine bl_expr (ex_call (c_wantAtMost z) G ("degree", 12, ((degF y : Nat) : Int)) (by decide) (exa_cons ex_str (exa_cons (ex_glob hm ⟨t, rfl⟩) (exa_cons (ex_deg z G (by decide) h0 (ex_v 0)) exa_nil))) (by show ((degF y : Nat) : Int) ≤ 12; unfold degP at d1; unfold degF; omega)) ?_
  exact bl_ret (ex_call (c_turningOf z) G y (by decide) (exa_cons (ex_v 0) exa_nil) ⟨h0, hp⟩)
theorem sc_c_partOf : FnScope ["fraction", "place"] ["fraction", "place"] (defScope sPartOf) := ⟨rfl, rfl, rfl, by decide +kernel, rfl, by decide +kernel, by decide +kernel⟩
theorem c_partOf (z : Wf P w K mg base) : Fn P w K mg base "part_of" 44 ["fraction", "place"] (spT (fun y : (List Rat × List Rat) × Option Rat => PartOk y.1 y.2) (fun y => [tF K y.1, tPl K y.2]) fun y => tQs K (partAt y.1 y.2)) := by
  obtain ⟨fd, F⟩ := z.c.fPartOf
  refine fnb z.g_part_of F.kp (FunD.bindsN F fun _ _ _ _ _ _ us hl => match us, hl with | [_, _], _ => rfl) ?_
  refine fn_ty F sc_c_partOf (fun _ => rfl) fun cdv B outer s H E G y Hb hp => ?_
  obtain ⟨h1, h2, h3⟩ := hp
  exact bl_ret (ex_call (c_fibreOf z) G (y.1, worthOf y.1 y.2) (by decide) (exa_cons (ex_v 0) (exa_cons (ex_call (c_worthOf z) G y (by decide) (exa_cons (ex_v 0) (exa_cons (ex_v 1) exa_nil)) h1) exa_nil)) ⟨h1.1, h2⟩)
theorem sc_c_part : FnScope ["fraction", "place", "here"] ["fraction", "place"] (defScope sPart) := ⟨rfl, rfl, rfl, by decide +kernel, rfl, by decide +kernel, by decide +kernel⟩
theorem c_part (z : Wf P w K mg base) : Fn P w K mg base "part" 46 ["fraction", "place"] (spT (fun y : (List Rat × List Rat) × Option Rat => PartOk y.1 y.2) (fun y => [tF K y.1, tPg K y.2]) fun y => tQs K (partAt y.1 y.2)) := by
  obtain ⟨fd, F⟩ := z.c.fPart
  refine fnb z.g_part F.kp (FunD.bindsN F fun _ _ _ _ _ _ us hl => match us, hl with | [_, _], _ => rfl) ?_
  refine fn_ty F sc_c_part (fun _ => rfl) fun cdv B outer s H E G y Hb hp => ?_
  have h0 := hp.1.1
  have d0 := hp.2.2
  refine bl_expr (ex_call (c_wantFraction z) G y.1 (by decide) (exa_cons (ex_v 0) exa_nil) trivial) ?_
  refine bl_set 2 G (ex_call (c_wantPlace z) G y.2 (by decide) (exa_cons (ex_v 1) exa_nil) trivial) ?_
  refine bl_expr (ex_call (c_wantFull z) G y.1 (by decide) (exa_cons (ex_v 0) exa_nil) ⟨h0, d0⟩) ?_
  exact bl_ret (ex_call (c_partOf z) G y (by decide) (exa_cons (ex_v 0) (exa_cons (ex_v 2) exa_nil)) hp)
theorem sc_c_taken : FnScope ["fraction", "place", "here"] ["fraction", "place"] (defScope sTaken) := ⟨rfl, rfl, rfl, by decide +kernel, rfl, by decide +kernel, by decide +kernel⟩
theorem c_taken (z : Wf P w K mg base) : Fn P w K mg base "taken" 46 ["fraction", "place"] (spT (fun y : ((List Rat × List Rat) × Option Rat) × Nat => TakenOk y.1.1 y.1.2 y.2) (fun y => [tF K y.1.1, tPg K y.1.2]) fun y => tI (y.2 : Nat)) := by
  obtain ⟨fd, F⟩ := z.c.fTaken
  refine fnb z.g_taken F.kp (FunD.bindsN F fun _ _ _ _ _ _ us hl => match us, hl with | [_, _], _ => rfl) ?_
  refine fn_ty F sc_c_taken (fun _ => rfl) fun cdv B outer s H E G y Hb hp => ?_
  obtain ⟨⟨x, o⟩, m⟩ := y
  obtain ⟨hp, hm⟩ := hp
  have h0 := hp.1.1
  have d0 := hp.2.2
  refine bl_expr (ex_call (c_wantFraction z) G x (by decide) (exa_cons (ex_v 0) exa_nil) trivial) ?_
  refine bl_set 2 G (ex_call (c_wantPlace z) G o (by decide) (exa_cons (ex_v 1) exa_nil) trivial) ?_
  refine bl_expr (ex_call (c_wantFull z) G x (by decide) (exa_cons (ex_v 0) exa_nil) ⟨h0, d0⟩) ?_
  cases o with
  | none => exact bl_ret ((ex_call (c_howOften_b z) G (partAt x none) (by decide) (exa_cons (ex_call (c_partOf z) G (x, none) (by decide) (exa_cons (ex_v 0) (exa_cons (ex_v 2) exa_nil)) hp) (exa_cons (ex_v 2) exa_nil)) trivial).eq (by rw [← show m = _ from hm]))
  | some q => exact bl_ret (ex_call (c_howOften_q z) G ((partAt x (some q), q), m) (by decide) (exa_cons (ex_call (c_partOf z) G (x, some q) (by decide) (exa_cons (ex_v 0) (exa_cons (ex_v 2) exa_nil)) hp) (exa_cons (ex_v 2) exa_nil)) hm)
end
end Wk
set_option Elab.async false
set_option linter.all false
set_option maxRecDepth 100000
set_option maxHeartbeats 1000000
/-! R11: the law's own numbers and rows. -/
namespace Wk
open PySem PySem.Spec PyProof.Rows L2 Ty Tx Mt
/-- a number as a pair -/
abbrev tP (q : Rat) : Pd := tP2 (q.num, (q.den : Int))
abbrev tPs (p : List Rat) : Pd := tL (p.map tP)
def rq (n : Int) (d : Nat) (h : d ≠ 0 := by decide) (h2 : n.natAbs.Coprime d := by decide) : Rat := ⟨n, d, h, h2⟩
def E9 : List Rat := [rq 0 1, rq 0 1, rq 1 1, rq (-1) 1, rq 2 1, rq 3 1, rq (-4) 1, rq 1 2, rq (-5) 3]
def E3 : List Rat := [rq 1 1, rq (-2) 1, rq 1 3]
def E7 : List (Option Rat) := [some (rq 0 1), some (rq 1 1), some (rq (-1) 1), some (rq 2 1), some (rq (-3) 1), some (rq 1 2), some (rq (-3) 2), none]
def tPo : Option Rat → Pd
  | none => tN
  | some q => tP q
abbrev tFr (x : List Rat × List Rat) : Pd := tU [tPs x.1, tPs x.2]
def Bq2 (y : Rat × Rat) : Prop := Bq y.1 ∧ Bq y.2
def TimesOk (p q : List Rat) : Prop := p.length ≤ 100 ∧ q.length ≤ 100 ∧ BqL p ∧ BqL q ∧ ∀ i j, i < p.length → j < q.length → Bq (cf (convS p q i) (i + j)) ∧ Bq (cf p i * cf q j)
def HornOk (p : List Rat) (x : Rat) : Prop := Bq x ∧ BqL p ∧ p.length ≤ 1000 ∧ ∀ i, i < p.length → Bq (hS p x i) ∧ Bq (hS p x i * x)
def LDivOk (one other : List Rat) : Prop := one.length ≤ 100 ∧ other.length ≤ 100 ∧ other ≠ [] ∧ hd other ≠ 0 ∧ BqL other ∧ ∃ I : List Rat → Prop, I one ∧ ∀ rest, I rest → BqL rest ∧ rest.length ≤ 100 ∧ (other.length ≤ rest.length → I (lStep other rest) ∧ Bq (lFac other rest) ∧ BqL (byNumber other (-(lFac other rest))))
def LComOk (one other : List Rat) : Prop := Tr one ∧ Tr other ∧ BqL (lNear one other) ∧ (lNear one other).length ≤ 1000 ∧ (lNear one other ≠ [] → Bq (1 / hd (lNear one other))) ∧ ∃ J : List Rat → List Rat → Prop, J one other ∧ ∀ a b, J a b → b ≠ [] → LDivOk a b ∧ J b (lDivided a b).2
theorem bq_neg {q : Rat} (h : Bq q) : Bq (-q) := by
  obtain ⟨⟨a, h1, h2⟩, h3⟩ := h
  refine ⟨⟨a, h1, ?_⟩, h3⟩
  rw [Rat.neg_num]
  omega
section
variable {P : Program} {w : World} {K : PySem.W.Frag} {mg : Str → Option Value} {base : Heap} {j : Nat} {X : Cx} {Γ : List Sl} {e a b c : Expr} {pos p : Pos}
theorem ex_num {q : Rat} (h : EX X Γ e (tP q)) {kk : Nat} {p2 : Pos} : EX X Γ (.Subscript e (.Constant (.int 0) kk p2) pos) (tI q.num) := ex_ixT h ex_int rfl
theorem ex_den {q : Rat} (h : EX X Γ e (tP q)) {kk : Nat} {p2 : Pos} : EX X Γ (.Subscript e (.Constant (.int 1) kk p2) pos) (tI q.den) := ex_ixT h ex_int rfl
theorem ex_zero1 {k1 k2 : Nat} {p1 p2 : Pos} {k3 : Nat} (he : starEach [.Constant (.int 0) k1 p1, .Constant (.int 1) k2 p2] X.env = (false, eval (.Constant (.int 0) k1 p1) X.env) :: starEach [.Constant (.int 1) k2 p2] X.env := by rfl) (he2 : starEach [.Constant (.int 1) k2 p2] X.env = (false, eval (.Constant (.int 1) k2 p2) X.env) :: starEach [] X.env := by rfl) : EX X Γ (.Tuple [.Constant (.int 0) k1 p1, .Constant (.int 1) k2 p2] k3 pos) (tP 0) :=
  (ex_tup (exa_cons ex_int (exa_cons ex_int exa_nil he2) he) small2).eq rfl
theorem ex_one1 {k1 k2 : Nat} {p1 p2 : Pos} {k3 : Nat} (he : starEach [.Constant (.int 1) k1 p1, .Constant (.int 1) k2 p2] X.env = (false, eval (.Constant (.int 1) k1 p1) X.env) :: starEach [.Constant (.int 1) k2 p2] X.env := by rfl) (he2 : starEach [.Constant (.int 1) k2 p2] X.env = (false, eval (.Constant (.int 1) k2 p2) X.env) :: starEach [] X.env := by rfl) : EX X Γ (.Tuple [.Constant (.int 1) k1 p1, .Constant (.int 1) k2 p2] k3 pos) (tP 1) :=
  (ex_tup (exa_cons ex_int (exa_cons ex_int exa_nil he2) he) small2).eq rfl

theorem sc_c_draw : FnScope ["_law_pot_here", "_law_size", "_law_digit"] ["_law_pot_here", "_law_size"] (defScope sLDraw) := ⟨rfl, rfl, rfl, by decide +kernel, rfl, by decide +kernel, by decide +kernel⟩
theorem c_draw (z : Wf P w K mg base) : Fn P w K mg base "_law_draw" 33 ["_law_pot_here", "_law_size"] (spT (fun y : Int => 0 < y ∧ y < 1000000) (fun y => [tPot, tI y]) fun y => tIn (fun i => 0 ≤ i ∧ i < y)) := by
  obtain ⟨fd, F⟩ := z.c.fLDraw
  refine fnb z.g_law_draw F.kp (FunD.bindsN F fun _ _ _ _ _ _ us hl => match us, hl with | [_, _], _ => rfl) ?_
  refine fn_ty F sc_c_draw (fun _ => rfl) fun cdv B outer s H E G y Hb hp => ?_
  obtain ⟨h1, h2⟩ := hp
  refine bl_ifU (exu_cmp op_gt (ex_pot (.inl rfl) (ex_v 0) ex_int) (EX.tin (q := fun _ => True) ex_int trivial)) ?_ ?_
  · refine bl_potdiv 2 G (ex_v 0) ex_int (exn_divmod (i := potOk 0) (j := fun i => 0 ≤ i ∧ i < y) (ex_pot (.inl rfl) (ex_v 0) ex_int) (EX.tin (q := fun i => i = y) (ex_v 1) rfl) (fun x u hx hu => ⟨by omega, by omega, ⟨Int.ediv_nonneg hx.1 (by omega), fun h => by cases h⟩, ⟨Int.emod_nonneg _ (by omega), by rw [hu]; exact Int.emod_lt_of_pos _ h1⟩⟩) z.b_divmod) (bl_ret (ex_v 2))
  · refine bl_potset (k' := 1) (.inr rfl) (ex_v 0) (exn_op (t := potOk 1) op_mod (exn_int (q := fun i => 0 ≤ i) (exn_op0 op_add (q := fun i => 0 ≤ i) (r := fun i => 0 ≤ i) (exn_op op_mul (ex_pot (.inr rfl) (ex_v 0) ex_int) (EX.tin (q := fun i => i = 48271) ex_int rfl) (fun x u hx hu => ⟨.inl ⟨by have := hx.1; omega, by have := hx.2 rfl; omega⟩, by have := hx.1; rw [hu]; omega⟩)) (EX.tin ex_int (by decide)) (fun x u hx hu => by omega)) z.b_int) (EX.tin (q := fun i => i = 2147483587) ex_int rfl) (fun x u hx hu => ⟨by rw [hu]; decide, Int.emod_nonneg _ (by omega), fun _ => by have := Int.emod_lt_of_pos x (show 0 < u by omega); omega⟩)) ex_int ?_
    refine bl_ret (exn_op (t := fun i => 0 ≤ i ∧ i < y) op_mod (exn_int (q := fun i => 0 ≤ i) (exn_op op_fdivW (q := fun i => 0 ≤ i) (exn_op op_mod (q := fun i => 0 ≤ i) (exn_int (q := fun i => 0 ≤ i) (exn_op op_mul (ex_pot (.inr rfl) (ex_v 0) ex_int) (ex_pot (.inr rfl) (ex_v 0) ex_int) (fun x u hx hu => ⟨.inl ⟨by have := hx.1; omega, by have := hx.2 rfl; omega⟩, Int.mul_nonneg hx.1 hu.1⟩)) z.b_int) (EX.tin (q := fun i => i = 2147483549) ex_int rfl) (fun x u hx hu => ⟨by rw [hu]; decide, Int.emod_nonneg _ (by omega)⟩)) (EX.tin (q := fun i => i = 31) ex_int rfl) (fun x u hx hu => ⟨by rw [hu]; exact ⟨by decide, by decide⟩, Int.ediv_nonneg hx (by omega)⟩)) z.b_int) (EX.tin (q := fun i => i = y) (ex_v 1) rfl) (fun x u hx hu => ⟨by omega, Int.emod_nonneg _ (by omega), by rw [hu]; exact Int.emod_lt_of_pos _ h1⟩))
theorem sc_c_pick : FnScope ["_law_pot_here", "_law_some"] ["_law_pot_here", "_law_some"] (defScope sLPick) := ⟨rfl, rfl, rfl, by decide +kernel, rfl, by decide +kernel, by decide +kernel⟩
theorem c_pick (z : Wf P w K mg base) : Fn P w K mg base "_law_pick" 35 ["_law_pot_here", "_law_some"] (spT (fun y : List Pd => 0 < y.length ∧ y.length ≤ 1000) (fun y => [tPot, tL y]) fun y => tOne y) := by
  obtain ⟨fd, F⟩ := z.c.fLPick
  refine fnb z.g_law_pick F.kp (FunD.bindsN F fun _ _ _ _ _ _ us hl => match us, hl with | [_, _], _ => rfl) ?_
  refine fn_ty F sc_c_pick (fun _ => rfl) fun cdv B outer s H E G y Hb hp => ?_
  obtain ⟨h1, h2⟩ := hp
  refine bl_ret (exn_ix (ex_v 1) (ex_call (c_draw z) G ((y.length : Nat) : Int) (by decide) (exa_cons (ex_v 0) (exa_cons (ex_len (EX.s (ex_v 1)) z.b_len) exa_nil)) ⟨by omega, by omega⟩) (fun i hi => ?_))
  obtain ⟨n, rfl⟩ := Int.eq_ofNat_of_zero_le hi.1
  have hn : n < y.length := by have := hi.2; omega
  exact ⟨y[n], at_nat (List.getElem?_eq_getElem hn), fun v H h => ⟨_, List.getElem_mem hn, h⟩⟩
theorem sc_c_low : FnScope ["_law_top", "_law_bottom", "_law_one", "_law_other"] ["_law_top", "_law_bottom"] (defScope sLLow) := ⟨rfl, rfl, rfl, by decide +kernel, rfl, by decide +kernel, by decide +kernel⟩
theorem c_low (z : Wf P w K mg base) : Fn P w K mg base "_law_low" 33 ["_law_top", "_law_bottom"] (spT (fun y : Int × Int => y.2 ≠ 0) (fun y => [tI y.1, tI y.2]) fun y => tP (Rat.divInt y.1 y.2)) := by
  obtain ⟨fd, F⟩ := z.c.fLLow
  refine fnb z.g_law_low F.kp (FunD.bindsN F fun _ _ _ _ _ _ us hl => match us, hl with | [_, _], _ => rfl) ?_
  refine fn_ty F sc_c_low (fun _ => rfl) fun cdv B outer s H E G y Hb hp => ?_
  obtain ⟨t, b⟩ := y
  have hb : b ≠ 0 := hp
  have ab : ∀ i : Int, (if i < 0 then -i else i) = ((i.natAbs : Nat) : Int) := fun i => by split <;> omega
  refine bl_par 2 3 G (ex_abs (exa_cons (ex_v 0) exa_nil) z.b_abs) (ex_abs (exa_cons (ex_v 1) exa_nil) z.b_abs) ?_
  refine bl_while G (β := { x : Nat × Nat // Nat.gcd x.1 x.2 = Nat.gcd t.natAbs b.natAbs }) (fun x => [.val (tI t), .val (tI b), .val (tI (x.1.1 : Nat)), .val (tI (x.1.2 : Nat))]) (fun x => x.1.2) (fun x => decide ((0 : Int) < (x.1.2 : Nat))) ⟨(t.natAbs, b.natAbs), rfl⟩ (.same (.same (.val (tI_eq (ab t).symm) (.val (tI_eq (ab b).symm) .nil)))) (fun x => ext_gt (ex_v 3) ex_int) (fun x hx => ?_) fun x hx => ?_
  · obtain ⟨⟨m, n⟩, hg⟩ := x
    have hn : (0 : Int) < (n : Nat) := of_decide_eq_true hx
    have hn' : 0 < n := by omega
    exact bl_par 2 3 G (ex_v 3) (ex_mod (ex_toint (exa_cons (ex_v 2) exa_nil) z.b_int) (ex_v 3) hn) (bl_again (W := fun x : { x : Nat × Nat // Nat.gcd x.1 x.2 = Nat.gcd t.natAbs b.natAbs } => [.val (tI t), .val (tI b), .val (tI (x.1.1 : Nat)), .val (tI (x.1.2 : Nat))]) (m := fun x => x.1.2) (y := ⟨(m, n), hg⟩) ⟨(n, m % n), by rw [← hg]; show Nat.gcd n (m % n) = Nat.gcd m n; rw [Nat.gcd_comm, ← Nat.gcd_rec, Nat.gcd_comm]⟩ (.same (.same (.same (.val (tI_eq (Int.natCast_emod m n)) .nil)))) (Nat.mod_lt _ hn') rfl)
  · obtain ⟨⟨m, n⟩, hg⟩ := x
    have hn : n = 0 := by have := of_decide_eq_false hx; simp only at this; omega
    subst hn
    have hm : m = Nat.gcd t.natAbs b.natAbs := by rw [← hg]; exact (Nat.gcd_zero_right m).symm
    refine bl_set 2 G (ex_if (P := tI (comm t b)) (ext_gt (ex_v 1) ex_int) (fun h => (ex_v 2).eq (tI_eq ?_)) fun h => (ex_sub ex_int (ex_v 2)).eq (tI_eq ?_)) ?_
    · have h := of_decide_eq_true h
      unfold comm
      rw [if_neg (by omega)]
      exact congrArg (fun n : Nat => (n : Int)) hm
    · have h := of_decide_eq_false h
      unfold comm
      rw [if_pos (by omega)]
      exact congrArg (fun n : Nat => 0 - (n : Int)) hm
    · have D := wfDeep z (N := ["_law_top", "_law_bottom", "_law_one", "_law_other"]) (qual := "_law_low") (scope := defScope sLLow) (f := plA K (.glo "_law_low")) (cd := cdv) (A := B) (outer := outer) (s := s) (H := H) (E := E) rfl rfl
      refine bl_ret ((ex_tup (exa_cons (ex_fdiv D G (by decide) (ex_v 0) (ex_v 2) (comm_ne hb)) (exa_cons (ex_fdiv D G (by decide) (ex_v 1) (ex_v 2) (comm_ne hb)) exa_nil)) small2).eq ?_)
      rw [top_eq hb, bot_eq hb]
      rfl
theorem sc_c_lsum : FnScope ["_law_one", "_law_other"] ["_law_one", "_law_other"] (defScope sLSum) := ⟨rfl, rfl, rfl, by decide +kernel, rfl, by decide +kernel, by decide +kernel⟩
theorem c_lsum (z : Wf P w K mg base) : Fn P w K mg base "_law_sum" 34 ["_law_one", "_law_other"] (spT (fun y : Rat × Rat => Bq2 y) (fun y => [tP y.1, tP y.2]) fun y => tP (y.1 + y.2)) := by
  obtain ⟨fd, F⟩ := z.c.fLSum
  refine fnb z.g_law_sum F.kp (FunD.bindsN F fun _ _ _ _ _ _ us hl => match us, hl with | [_, _], _ => rfl) ?_
  refine fn_ty F sc_c_lsum (fun _ => rfl) fun cdv B outer s H E G y Hb hp => ?_
  obtain ⟨⟨h1, h2⟩, h3, h4⟩ := hp
  exact bl_ret ((ex_call (c_low z) G (y.1.num * y.2.den + y.2.num * y.1.den, (y.1.den : Int) * y.2.den) (by decide) (exa_cons (ex_add (ex_mul (ex_num (ex_v 0)) (ex_den (ex_v 1)) h1 h4) (ex_mul (ex_num (ex_v 1)) (ex_den (ex_v 0)) h3 h2)) (exa_cons (ex_mul (ex_den (ex_v 0)) (ex_den (ex_v 1)) h2 h4) exa_nil)) (Int.mul_ne_zero (den_ne _) (den_ne _))).eq (by rw [add_eq]))
theorem sc_c_lby : FnScope ["_law_one", "_law_other"] ["_law_one", "_law_other"] (defScope sLBy) := ⟨rfl, rfl, rfl, by decide +kernel, rfl, by decide +kernel, by decide +kernel⟩
theorem c_lby (z : Wf P w K mg base) : Fn P w K mg base "_law_by" 34 ["_law_one", "_law_other"] (spT (fun y : Rat × Rat => Bq2 y) (fun y => [tP y.1, tP y.2]) fun y => tP (y.1 * y.2)) := by
  obtain ⟨fd, F⟩ := z.c.fLBy
  refine fnb z.g_law_by F.kp (FunD.bindsN F fun _ _ _ _ _ _ us hl => match us, hl with | [_, _], _ => rfl) ?_
  refine fn_ty F sc_c_lby (fun _ => rfl) fun cdv B outer s H E G y Hb hp => ?_
  obtain ⟨⟨h1, h2⟩, h3, h4⟩ := hp
  exact bl_ret ((ex_call (c_low z) G (y.1.num * y.2.num, (y.1.den : Int) * y.2.den) (by decide) (exa_cons (ex_mul (ex_num (ex_v 0)) (ex_num (ex_v 1)) h1 h3) (exa_cons (ex_mul (ex_den (ex_v 0)) (ex_den (ex_v 1)) h2 h4) exa_nil)) (Int.mul_ne_zero (den_ne _) (den_ne _))).eq (by rw [mul_eq]))
theorem sc_c_lover : FnScope ["_law_one", "_law_other"] ["_law_one", "_law_other"] (defScope sLOver) := ⟨rfl, rfl, rfl, by decide +kernel, rfl, by decide +kernel, by decide +kernel⟩
theorem c_lover (z : Wf P w K mg base) : Fn P w K mg base "_law_over" 34 ["_law_one", "_law_other"] (spT (fun y : Rat × Rat => y.2 ≠ 0 ∧ Bq2 y) (fun y => [tP y.1, tP y.2]) fun y => tP (y.1 / y.2)) := by
  obtain ⟨fd, F⟩ := z.c.fLOver
  refine fnb z.g_law_over F.kp (FunD.bindsN F fun _ _ _ _ _ _ us hl => match us, hl with | [_, _], _ => rfl) ?_
  refine fn_ty F sc_c_lover (fun _ => rfl) fun cdv B outer s H E G y Hb hp => ?_
  obtain ⟨h0, ⟨h1, h2⟩, h3, h4⟩ := hp
  exact bl_ret ((ex_call (c_low z) G (y.1.num * y.2.den, (y.1.den : Int) * y.2.num) (by decide) (exa_cons (ex_mul (ex_num (ex_v 0)) (ex_den (ex_v 1)) h1 h4) (exa_cons (ex_mul (ex_den (ex_v 0)) (ex_num (ex_v 1)) h2 h3) exa_nil)) (Int.mul_ne_zero (den_ne _) (num_ne h0))).eq (by rw [div_eq _ h0]))
theorem sc_c_ltrim : FnScope ["_law_poly_here", "_law_found"] ["_law_poly_here"] (defScope sLTrim) := ⟨rfl, rfl, rfl, by decide +kernel, rfl, by decide +kernel, by decide +kernel⟩
theorem c_ltrim (z : Wf P w K mg base) : Fn P w K mg base "_law_trim" 33 ["_law_poly_here"] (spT (fun y : List Rat => True) (fun y => [tPs y]) fun y => tPs (trim y)) := by
  obtain ⟨fd, F⟩ := z.c.fLTrim
  refine fnb z.g_law_trim F.kp (FunD.bindsN F fun _ _ _ _ _ _ us hl => match us, hl with | [_], _ => rfl) ?_
  refine fn_ty F sc_c_ltrim (fun _ => rfl) fun cdv B outer s H E G y Hb hp => ?_
  refine bl_setO 1 G (exl_list (EX.s (ex_v 0)) z.b_list) ?_
  refine bl_while G (β := { m : Nat // m ≤ y.length ∧ trim (y.take m) = trim y }) (fun m => [.val (tPs y), .own ((y.take m.1).map tP)]) (fun m => m.1) (fun m => decide (0 < m.1) && decide ((cf y (m.1 - 1)).num = 0)) ⟨y.length, Nat.le_refl _, by rw [List.take_length]⟩ (.same (.own (by rw [List.take_length]) .nil)) (fun m => ?_) (fun m hm => ?_) fun m hm => ?_
  · have hl : (y.take m.1).length = m.1 := by rw [List.length_take]; have := m.2.1; omega
    refine EXW.ext (exw_and ((ext_neNil G (exs_v 1)).eq ?_) fun h => exw_and1 (ext_eqi (ex_num (q := cf y (m.1 - 1)) (ex_ix (Ps := (y.take m.1).map tP) (exs_v 1) ex_neg1 ?_)) ex_int))
    · cases h : y.take m.1 with
      | nil => rw [h] at hl; rw [← hl]; rfl
      | cons a r => rw [h] at hl; rw [← hl]; simp
    · have h := of_decide_eq_true h
      have e := mlast (T := tP) (p := y.take m.1) (List.ne_nil_of_length_pos (by rw [hl]; exact h))
      have e2 : hd (y.take m.1) = cf y (m.1 - 1) := by unfold hd; rw [hl, cf_take _ (by omega)]
      rw [e2] at e
      exact e
  · obtain ⟨h1, h2⟩ := Bool.and_eq_true_iff.mp hm
    have h1 := of_decide_eq_true h1
    have h2 := of_decide_eq_true h2
    obtain ⟨m, m1, m2⟩ := m
    have h3 : 0 < m := h1
    have e : m - 1 + 1 = m := by omega
    refine bl_pop 1 (Ps := (y.take m).map tP) (bl_again (W := fun m : { m : Nat // m ≤ y.length ∧ trim (y.take m) = trim y } => [.val (tPs y), .own ((y.take m.1).map tP)]) (m := fun m => m.1) (y := ⟨m, m1, m2⟩) ⟨m - 1, by omega, ?_⟩ (.same (.own ?_ .nil)) (show m - 1 < m by omega) rfl) ?_
    · rw [← m2, ← trim_step (p := y) (m := m - 1) (by omega) (Rat.num_eq_zero.mp h2), e]
    · show (y.take (m - 1)).map tP = ((y.take m).map tP).dropLast
      rw [← List.map_dropLast, List.dropLast_eq_take, List.take_take, List.length_take]
      congr 2
      omega
    · exact List.ne_nil_of_length_pos (by rw [List.length_map, List.length_take]; omega)
  · obtain ⟨m, m1, m2⟩ := m
    have et : y.take m = trim y := by
      refine Eq.trans ?_ m2
      by_cases h0 : m = 0
      · subst h0; rfl
      · have e : m - 1 + 1 = m := by omega
        rw [← e]
        refine (trim_done (p := y) (m := m - 1) (by omega) fun z => ?_).symm
        have z2 : (cf y (m - 1)).num = 0 := by rw [z]; rfl
        simp only at hm
        rw [z2, decide_eq_true (by omega : 0 < m)] at hm
        cases hm
    exact bl_rel 1 rfl (bl_ret (ex_v 1) (by show tL _ = tL _; rw [et]))
theorem sc_c_lplus : FnScope ["_law_one", "_law_other", "_law_many", "_law_near", "_law_far", "_law_left", "_law_right_here"] ["_law_one", "_law_other"] (defScope sLPlus) := ⟨rfl, rfl, rfl, by decide +kernel, rfl, by decide +kernel, by decide +kernel⟩
theorem c_lplus (z : Wf P w K mg base) : Fn P w K mg base "_law_plus" 36 ["_law_one", "_law_other"] (spT (fun y : List Rat × List Rat => BqL y.1 ∧ BqL y.2 ∧ y.1.length ≤ 400 ∧ y.2.length ≤ 400) (fun y => [tPs y.1, tPs y.2]) fun y => tPs (sumOf y.1 y.2)) := by
  obtain ⟨fd, F⟩ := z.c.fLPlus
  refine fnb z.g_law_plus F.kp (FunD.bindsN F fun _ _ _ _ _ _ us hl => match us, hl with | [_, _], _ => rfl) ?_
  refine fn_ty F sc_c_lplus (fun _ => rfl) fun cdv B outer s H E G y Hb hp => ?_
  obtain ⟨h1, h2, l1, l2⟩ := hp
  obtain ⟨one, other⟩ := y
  have l1 : one.length ≤ 400 := l1
  have l2 : other.length ≤ 400 := l2
  have pad : ∀ (p : List Rat) (n : Nat), p.length ≤ n → EX (cxB P w K mg base ["_law_one", "_law_other"] "" (defScope sLPlus) 0 .none B outer s H E) [] (.Constant .none 0 ⟨0, 0, 0, 0⟩) tN := fun _ _ _ => ex_non
  refine bl_set 2 G ((ex_max G (exa_cons (ex_lenM z rfl (EX.s (ex_v 0))) (exa_cons (ex_lenM z rfl (EX.s (ex_v 1))) exa_nil)) z.b_max).eq (R := tI ((max one.length other.length : Nat) : Int)) (tI_eq (by simp only; split <;> omega))) ?_
  refine bl_par 3 4 G (P1 := tPs (fillF one (max one.length other.length))) (P2 := tPs (fillF other (max one.length other.length))) ((EXL.ex (exl_cat (EX.s (ex_v 0)) (EXL.s (exl_rep (EXL.s (exl_lst (exa_cons ex_zero1 exa_nil) (Nat.le_of_ble_eq_true rfl))) (ex_sub (ex_v 2) (ex_lenM z rfl (EX.s (ex_v 0)))) (by simp only; omega) (by simp only; omega))) ?_)).eq ?_) ((EXL.ex (exl_cat (EX.s (ex_v 1)) (EXL.s (exl_rep (EXL.s (exl_lst (exa_cons ex_zero1 exa_nil) (Nat.le_of_ble_eq_true rfl))) (ex_sub (ex_v 2) (ex_lenM z rfl (EX.s (ex_v 1)))) (by simp only; omega) (by simp only; omega))) ?_)).eq ?_) ?_
  · rw [List.length_map, List.length_replicate]; simp only; omega
  · show tL _ = tL _
    unfold fillF
    rw [List.map_append, List.map_replicate]
    congr 3
    simp only
    omega
  · rw [List.length_map, List.length_replicate]; simp only; omega
  · show tL _ = tL _
    unfold fillF
    rw [List.map_append, List.map_replicate]
    congr 3
    simp only
    omega
  · have f1 : (fillF one (max one.length other.length)).length = max one.length other.length := fillF_len _ _ (by omega)
    have f2 : (fillF other (max one.length other.length)).length = max one.length other.length := fillF_len _ _ (by omega)
    refine bl_ret (ex_call (c_ltrim z) G (addL one other) (by decide) (exa_cons ((ex_of (lcZ (T := tP) (T' := tP) 5 6 (fun u v : Rat => u + v) (ex_v 3) (ex_v 4) (by rw [f1, f2]) (by rw [f1]; omega) (fun i u v hu hv _ _ _ _ _ => ex_call (c_lsum z) (G.blk _ _ _ _ _) (u, v) (by decide) (exa_cons (ex_v 5) (exa_cons (ex_v 6) exa_nil)) ⟨bq_fill h1 _ (getL hu), bq_fill h2 _ (getL hv)⟩) G z.b_zip) G).eq ?_) exa_nil) trivial)
    show tPs _ = tPs _
    congr 2
    apply ext_cf
    · rw [List.length_zipWith, f1, f2, addL_len]; omega
    · intro i hi
      rw [List.length_zipWith, f1, f2] at hi
      rw [cf_addL, cf_of (show (List.zipWith (fun u v : Rat => u + v) (fillF one (max one.length other.length)) (fillF other (max one.length other.length)))[i]? = some (cf one i + cf other i) by
        rw [List.getElem?_zipWith, get_cf (by rw [f1]; omega), get_cf (by rw [f2]; omega)]
        unfold fillF
        rw [cf_append_zero, cf_append_zero])]
theorem sc_c_lscaled : FnScope ["_law_poly_here", "_law_number", "_law_entry_here"] ["_law_poly_here", "_law_number"] (defScope sLScaled) := ⟨rfl, rfl, rfl, by decide +kernel, rfl, by decide +kernel, by decide +kernel⟩
theorem c_lscaled (z : Wf P w K mg base) : Fn P w K mg base "_law_scaled" 36 ["_law_poly_here", "_law_number"] (spT (fun y : List Rat × Rat => BqL y.1 ∧ Bq y.2 ∧ y.1.length ≤ 1000) (fun y => [tPs y.1, tP y.2]) fun y => tPs (byNumber y.1 y.2)) := by
  obtain ⟨fd, F⟩ := z.c.fLScaled
  refine fnb z.g_law_scaled F.kp (FunD.bindsN F fun _ _ _ _ _ _ us hl => match us, hl with | [_, _], _ => rfl) ?_
  refine fn_ty F sc_c_lscaled (fun _ => rfl) fun cdv B outer s H E G y Hb hp => ?_
  obtain ⟨h1, h2, h3⟩ := hp
  exact bl_ret (ex_call (c_ltrim z) G (y.1.map (· * y.2)) (by decide) (exa_cons (ex_of (lcM (T := tP) (T' := tP) 2 (· * y.2) (EX.s (ex_v 0)) h3 (fun u hu _ _ _ _ _ => ex_call (c_lby z) (G.blk _ _ _ _ _) (u, y.2) (by decide) (exa_cons (ex_v 2) (exa_cons (ex_v 1) exa_nil)) ⟨h1 u hu, h2⟩) G) G) exa_nil) trivial)
theorem sc_c_ltimes : FnScope ["_law_one", "_law_other", "_law_found", "_law_at", "_law_left", "_law_to", "_law_right_here"] ["_law_one", "_law_other"] (defScope sLTimes) := ⟨rfl, rfl, rfl, by decide +kernel, rfl, by decide +kernel, by decide +kernel⟩
theorem c_ltimes (z : Wf P w K mg base) : Fn P w K mg base "_law_times" 36 ["_law_one", "_law_other"] (spT (fun y : List Rat × List Rat => TimesOk y.1 y.2) (fun y => [tPs y.1, tPs y.2]) fun y => tPs (lTimes y.1 y.2)) := by
  obtain ⟨fd, F⟩ := z.c.fLTimes
  refine fnb z.g_law_times F.kp (FunD.bindsN F fun _ _ _ _ _ _ us hl => match us, hl with | [_, _], _ => rfl) ?_
  refine fn_ty F sc_c_ltimes (fun _ => rfl) fun cdv B outer s H E G y Hb hp => ?_
  obtain ⟨one, other⟩ := y
  obtain ⟨l1, l2, b1, b2, st⟩ := hp
  have l1 : one.length ≤ 100 := l1
  have l2 : other.length ≤ 100 := l2
  refine bl_setO 2 G (exl_rep (Pt := tP 0) (EXL.s (exl_lst (exa_cons ex_zero1 exa_nil) (Nat.le_of_ble_eq_true rfl))) (ex_max G (exa_cons ex_int (exa_cons (ex_sub (ex_add (ex_lenM z rfl (EX.s (ex_v 0))) (ex_lenM z rfl (EX.s (ex_v 1)))) ex_int) exa_nil)) z.b_max) (by simp only; split <;> omega) (by simp only; split <;> omega)) ?_
  refine bl_forE 3 4 G (ex_v 0) (fun i => [.val (tPs one), .val (tPs other), .own ((convS one other i).map tP), .no, .no, .no, .no]) (.same (.same (.own ?_ (.no (.no (.no (.no .nil))))))) (fun Hk i Pt hPt => ?_) ?_ z.b_enumerate
  · show (List.replicate _ (0 : Rat)).map tP = _
    rw [List.map_replicate]
    congr 1
    simp only
    split <;> omega
  · obtain ⟨a, ha, rfl⟩ := mget hPt
    have hi : i < one.length := (List.getElem?_eq_some_iff.mp ha).1
    refine bl_forE 5 6 G (ex_v 1) (fun j => [.val (tPs one), .val (tPs other), .own ((addAt i (convS one other i) ((other.map (a * ·)).take j)).map tP), .val (tI (i : Nat)), .val (tP a), .no, .no]) (.same (.same (.own ?_ (.same (.same (.no (.no .nil))))))) (fun Hk2 j Pt2 hPt2 => ?_) ?_ z.b_enumerate
    · rw [List.take_zero, addAt_nil]
    · obtain ⟨b, hb, rfl⟩ := mget hPt2
      have hj : j < other.length := (List.getElem?_eq_some_iff.mp hb).1
      have hlen0 : i + j < (convS one other i).length := by rw [convS_len]; omega
      have hlen : i + j < (addAt i (convS one other i) ((other.map (a * ·)).take j)).length := by rw [addAt_len]; exact hlen0
      obtain ⟨s1, s2⟩ := st i j hi hj
      rw [cf_of ha, cf_of hb] at s2
      refine bl_setix 2 (n := i + j) (Ps := (addAt i (convS one other i) ((other.map (a * ·)).take j)).map tP) (ex_call (c_lsum z) G (cf (convS one other i) (i + j), a * b) (by decide) (exa_cons ((ex_ix (exs_v 2) ((ex_add (ex_v 3) (ex_v 5)).eq (show tI ((i : Int) + (j : Int)) = tI ((i + j : Nat) : Int) from tI_eq (by omega))) (mat (T := tP) hlen)).eq (by rw [addAt_fresh _ _ _ _ hlen0])) (exa_cons (ex_call (c_lby z) G (a, b) (by decide) (exa_cons (ex_v 4) (exa_cons (ex_v 6) exa_nil)) ⟨b1 _ (getL ha), b2 _ (getL hb)⟩) exa_nil)) ⟨s1, s2⟩) (ex_add (ex_v 3) (ex_v 5)) (by rw [List.length_map, show ((i : Int) + (j : Int)) = ((i + j : Nat) : Int) by omega]; exact ixN_nat hlen) (bl_fin (.same (.same (.own ?_ (.same (.same (.no (.no .nil))))))) rfl)
      rw [mset, ← addAt_step i j _ _ (by simpa using hj) hlen0, addAt_fresh _ _ _ _ hlen0, cf_map (a * ·) hj, cf_of hb]
    · rw [List.length_map]
      refine bl_fin (.same (.same (.own ?_ (.no (.no (.no (.no .nil))))))) rfl
      rw [List.take_of_length_le (by simp)]
      show (addAt i (convS one other i) (other.map (cf one i * ·))).map tP = _
      rw [cf_of ha]
  · rw [List.length_map]
    exact bl_rel 2 rfl (bl_ret (ex_call (c_ltrim z) G (conv one other) (by decide) (exa_cons (ex_v 2) exa_nil) trivial))
theorem sc_c_lworth : FnScope ["_law_poly_here", "_law_number", "_law_found", "_law_entry_here"] ["_law_poly_here", "_law_number"] (defScope sLWorth) := ⟨rfl, rfl, rfl, by decide +kernel, rfl, by decide +kernel, by decide +kernel⟩
theorem c_lworth (z : Wf P w K mg base) : Fn P w K mg base "_law_worth" 36 ["_law_poly_here", "_law_number"] (spT (fun y : List Rat × Rat => HornOk y.1 y.2) (fun y => [tPs y.1, tP y.2]) fun y => tP (lWorth y.1 y.2)) := by
  obtain ⟨fd, F⟩ := z.c.fLWorth
  refine fnb z.g_law_worth F.kp (FunD.bindsN F fun _ _ _ _ _ _ us hl => match us, hl with | [_, _], _ => rfl) ?_
  refine fn_ty F sc_c_lworth (fun _ => rfl) fun cdv B outer s H E G y Hb hp => ?_
  obtain ⟨p, x⟩ := y
  obtain ⟨h1, h2, h3, h4⟩ := hp
  refine bl_set 2 G ex_zero1 ?_
  refine bl_for 3 G (Ps := p.reverse.map tP) ((EXL.ex (exl_rev (EX.s (ex_v 0)))).eq (by rw [← List.map_reverse])) (fun i => [.val (tPs p), .val (tP x), .val (tP (hS p x i)), .no]) (.same (.same (.same (.no .nil)))) (fun Hk i Pt hPt => ?_) ?_
  · obtain ⟨c, hc, rfl⟩ := mget hPt
    have hi : i < p.length := by have := (List.getElem?_eq_some_iff.mp hc).1; simpa using this
    obtain ⟨s1, s2⟩ := h4 i hi
    refine bl_set 2 G (ex_call (c_lsum z) G (hS p x i * x, c) (by decide) (exa_cons (ex_call (c_lby z) G (hS p x i, x) (by decide) (exa_cons (ex_v 2) (exa_cons (ex_v 1) exa_nil)) ⟨s1, h1⟩) (exa_cons (ex_v 3) exa_nil)) ⟨s2, h2 c (by have := getL hc; simpa using this)⟩) (bl_fin (.same (.same (.val ?_ (.no .nil)))) rfl)
    show tP (hS p x i * x + cf p.reverse i) = _
    rw [cf_of hc]
  · rw [List.length_map, List.length_reverse]
    exact bl_ret (ex_v 2)
end
end Wk
set_option Elab.async false
set_option linter.all false
set_option maxRecDepth 100000
set_option maxHeartbeats 1000000
/-! R12: the law's divisions, what it hands over, its draws. -/
namespace Wk
open PySem PySem.Spec PyProof.Rows L2 Ty Tx Mt
abbrev LDivSt (one other : List Rat) (I : List Rat → Prop) : Type := { x : List Rat × List Rat // lG other (x.2.length + 1) x = lG other (one.length + 1) (List.replicate (one.length + 1 - other.length) 0, one) ∧ I x.2 ∧ x.1.length = one.length + 1 - other.length ∧ x.2.length ≤ one.length }
theorem tP_neg (q : Rat) : (tP2 (0 - q.num, (q.den : Int))) = tP (-q) := by
  show tU [tI (0 - q.num), tI (q.den : Int)] = tU [tI (-q).num, tI ((-q).den : Int)]
  rw [Rat.neg_num, Rat.neg_den, Int.zero_sub]
theorem tP_ne {q : Rat} : ∀ v H, (tP q).p v H → decide (v = .non) = false := fun v H ⟨a, vs, h1, _⟩ => by subst h1; rfl
section
variable {P : Program} {w : World} {K : PySem.W.Frag} {mg : Str → Option Value} {base : Heap} {j : Nat} {X : Cx} {Γ : List Sl} {e a b c : Expr} {pos p : Pos}
theorem ex_zeros {n : Nat} {k1 k2 k3 : Nat} {p1 p2 p3 p4 : Pos} (hn : n ≤ 1000) (hb : EX X Γ b (tI (n : Nat))) (hs : starEach [.Tuple [.Constant (.int 0) k1 p1, .Constant (.int 1) k2 p2] k3 p3] X.env = (false, eval (.Tuple [.Constant (.int 0) k1 p1, .Constant (.int 1) k2 p2] k3 p3) X.env) :: starEach [] X.env := by rfl) (he : starEach [.Constant (.int 0) k1 p1, .Constant (.int 1) k2 p2] X.env = (false, eval (.Constant (.int 0) k1 p1) X.env) :: starEach [.Constant (.int 1) k2 p2] X.env := by rfl) (he2 : starEach [.Constant (.int 1) k2 p2] X.env = (false, eval (.Constant (.int 1) k2 p2) X.env) :: starEach [] X.env := by rfl) :
    EXL X Γ (.BinOp (.List [.Tuple [.Constant (.int 0) k1 p1, .Constant (.int 1) k2 p2] k3 p3] p4) .Mult b pos) ((List.replicate n (0 : Rat)).map tP) := by
  have h := exl_rep (pos := pos) (Pt := tP 0) (EXL.s (exl_lst (pos := p4) (exa_cons (ex_zero1 (k3 := k3) (pos := p3) he he2) exa_nil hs) (Nat.le_of_ble_eq_true rfl))) hb (by omega) (by omega)
  rwa [Int.toNat_natCast, ← List.map_replicate] at h

theorem ex_zeroG {kk : Nat} : EX X Γ (.Constant (.int 0) kk pos) (tG K 0) := (ex_int (i := 0)).imp fun v H h => ⟨.inr ⟨rfl⟩, h⟩

theorem sc_c_ldivided : FnScope ["_law_one", "_law_other", "_law_rest", "_law_quotient", "_law_place_here", "_law_factor"] ["_law_one", "_law_other"] (defScope sLDivided) := ⟨rfl, rfl, rfl, by decide +kernel, rfl, by decide +kernel, by decide +kernel⟩
theorem c_ldivided (z : Wf P w K mg base) : Fn P w K mg base "_law_divided" 38 ["_law_one", "_law_other"] (spT (fun y : List Rat × List Rat => LDivOk y.1 y.2) (fun y => [tPs y.1, tPs y.2]) fun y => tU [tPs (lDivided y.1 y.2).1, tPs (lDivided y.1 y.2).2]) := by
  obtain ⟨fd, F⟩ := z.c.fLDivided
  refine fnb z.g_law_divided F.kp (FunD.bindsN F fun _ _ _ _ _ _ us hl => match us, hl with | [_, _], _ => rfl) ?_
  refine fn_ty F sc_c_ldivided (fun _ => rfl) fun cdv B outer s H E G y Hb hp => ?_
  obtain ⟨one, other⟩ := y
  obtain ⟨l1, l2, hne, h0, hb, I, hI, step⟩ := hp
  have l1 : one.length ≤ 100 := l1
  have l2 : other.length ≤ 100 := l2
  have hne : other ≠ [] := hne
  have hpos := List.length_pos_iff.mpr hne
  refine bl_parO 2 3 G (Ps := (List.replicate (one.length + 1 - other.length) (0 : Rat)).map tP) (EXL.ex (exl_list (EX.s (ex_v 0)) z.b_list)) (ex_zeros (n := one.length + 1 - other.length) (by omega) ((ex_max G (exa_cons ex_int (exa_cons (ex_add (ex_sub (ex_lenM z rfl (EX.s (ex_v 0))) (ex_lenM z rfl (EX.s (ex_v 1)))) ex_int) exa_nil)) z.b_max).eq (tI_eq max0))) ?_
  refine bl_while G (β := LDivSt one other I) (fun x => [.val (tPs one), .val (tPs other), .val (tPs x.1.2), .own (x.1.1.map tP), .no, .no]) (fun x => x.1.2.length) (fun x => decide (((other.length : Nat) : Int) ≤ ((x.1.2.length : Nat) : Int))) ⟨(List.replicate (one.length + 1 - other.length) 0, one), rfl, hI, by simp, Nat.le_refl _⟩ (.same (.same (.same (.same (.no (.no .nil)))))) (fun x => ext_ge (ex_lenM z rfl (EX.s (ex_v 2))) (ex_lenM z rfl (EX.s (ex_v 1)))) (fun x hx => ?_) fun x hx => ?_
  · obtain ⟨⟨quo, rest⟩, e1, e2, e3, e4⟩ := x
    have hle : other.length ≤ rest.length := by have := of_decide_eq_true hx; simp only at this; omega
    have hr : rest ≠ [] := fun q => by rw [q] at hle; simp at hle; exact hne hle
    obtain ⟨bR, lR, st⟩ := step rest e2
    obtain ⟨i1, i2, i3⟩ := st hle
    have e3 : quo.length = one.length + 1 - other.length := e3
    have e4 : rest.length ≤ one.length := e4
    have hs : rest.length - other.length < quo.length := by omega
    have hbn : (byNumber other (-(lFac other rest))).length ≤ other.length := Nat.le_trans (trim_le _) (by simp)
    have hsl : (lSub other rest).length ≤ 200 := by unfold lSub; simp; omega
    refine bl_par 4 5 G (P2 := tP (lFac other rest)) ((ex_sub (ex_lenM z rfl (EX.s (ex_v 2))) (ex_lenM z rfl (EX.s (ex_v 1)))).eq (R := tI ((rest.length - other.length : Nat) : Int)) (tI_eq (by simp only; omega))) (ex_call (c_lover z) G (hd rest, hd other) (by decide) (exa_cons (ex_ix (EX.s (ex_v 2)) ex_neg1 (mlast (T := tP) hr)) (exa_cons (ex_ix (EX.s (ex_v 1)) ex_neg1 (mlast (T := tP) hne)) exa_nil)) ⟨h0, bR _ (hd_mem hr), hb _ (hd_mem hne)⟩) ?_
    refine bl_setix 3 (Ps := quo.map tP) (n := rest.length - other.length) (ex_v 5) (ex_v 4) (by rw [List.length_map]; exact ixN_nat hs) ?_
    refine bl_set 2 G (ex_call (c_lplus z) G (rest, lSub other rest) (by decide) (exa_cons (ex_v 2) (exa_cons ((EXL.ex (exl_cat (EXL.s (ex_zeros (n := rest.length - other.length) (by omega) (ex_v 4))) (EX.s (ex_call (c_lscaled z) G (other, -(lFac other rest)) (by decide) (exa_cons (ex_v 1) (exa_cons ((ex_tup (exa_cons (ex_sub ex_int (ex_num (ex_v 5))) (exa_cons (ex_den (ex_v 5)) exa_nil)) small2).eq (tP_neg _)) exa_nil)) ⟨hb, bq_neg i2, by show other.length ≤ 1000; omega⟩)) (by rw [List.length_map, List.length_map, List.length_replicate]; simp only; omega))).eq (R := tPs (lSub other rest)) (by show tL _ = tL _; unfold lSub; rw [List.map_append])) exa_nil)) ⟨bR, fun c hc => ?_, by show rest.length ≤ 400; omega, by show (lSub other rest).length ≤ 400; omega⟩) ?_
    · unfold lSub at hc
      rcases List.mem_append.mp hc with q | q
      · rw [(List.mem_replicate.mp q).2]; exact zero_q
      · exact i3 c q
    · have hlt := lStep_lt (rest := rest) hne h0 hle
      refine bl_again (W := fun x : LDivSt one other I => [.val (tPs one), .val (tPs other), .val (tPs x.1.2), .own (x.1.1.map tP), .no, .no]) (m := fun x => x.1.2.length) (y := ⟨(quo, rest), e1, e2, e3, e4⟩) ⟨(pQuo other rest quo, lStep other rest), ?_, i1, ?_, ?_⟩ (.same (.same (.same (.own (by rw [mset]; rfl) (.no (.no .nil)))))) hlt rfl
      · rw [← e1]
        exact (lG_step hne h0 hle).symm
      · show (quo.set _ _).length = _
        rw [List.length_set]; exact e3
      · exact Nat.le_trans (Nat.le_of_lt hlt) e4
  · obtain ⟨⟨quo, rest⟩, e1, e2, e3, e4⟩ := x
    have hle : ¬ other.length ≤ rest.length := by have := of_decide_eq_false hx; simp only at this; omega
    have e5 := lG_end (quo := quo) hle
    have e6 : lG other (one.length + 1) (List.replicate (one.length + 1 - other.length) 0, one) = (quo, rest) := by rw [← e1]; exact e5
    have e7 : lDivided one other = (trim quo, rest) := by unfold lDivided; rw [e6]
    refine bl_rel 3 rfl (bl_ret (ex_tup (exa_cons (ex_call (c_ltrim z) G quo (by decide) (exa_cons (ex_v 3) exa_nil) trivial) (exa_cons (ex_v 2) exa_nil)) small2) ?_)
    show tU [tPs (trim quo), tPs rest] = tU [tPs (lDivided one other).1, tPs (lDivided one other).2]
    rw [e7]
theorem sc_c_lcommon : FnScope ["_law_one", "_law_other", "_law_near", "_law_far"] ["_law_one", "_law_other"] (defScope sLCommon) := ⟨rfl, rfl, rfl, by decide +kernel, rfl, by decide +kernel, by decide +kernel⟩
theorem c_lcommon (z : Wf P w K mg base) : Fn P w K mg base "_law_common" 40 ["_law_one", "_law_other"] (spT (fun y : List Rat × List Rat => LComOk y.1 y.2) (fun y => [tPs y.1, tPs y.2]) fun y => tPs (lCommon y.1 y.2)) := by
  obtain ⟨fd, F⟩ := z.c.fLCommon
  refine fnb z.g_law_common F.kp (FunD.bindsN F fun _ _ _ _ _ _ us hl => match us, hl with | [_, _], _ => rfl) ?_
  refine fn_ty F sc_c_lcommon (fun _ => rfl) fun cdv B outer s H E G y Hb hp => ?_
  obtain ⟨one, other⟩ := y
  obtain ⟨t1, t2, bN, lN, bH, J, hJ, step⟩ := hp
  have t1 : Tr one := t1
  have t2 : Tr other := t2
  refine bl_par 2 3 G (ex_v 0) (ex_v 1) ?_
  refine bl_while G (β := { x : List Rat × List Rat // lComG (x.2.length + 1) x.1 x.2 = lNear one other ∧ J x.1 x.2 ∧ Tr x.1 ∧ Tr x.2 }) (fun x => [.val (tPs one), .val (tPs other), .val (tPs x.1.1), .val (tPs x.1.2)]) (fun x => x.1.2.length) (fun x => !x.1.2.isEmpty) ⟨(one, other), rfl, hJ, t1, t2⟩ (.same (.same (.same (.same .nil)))) (fun x => (ext_neNil G (EX.s (ex_v 3))).eq (by cases x.1.2 <;> rfl)) (fun x hx => ?_) fun x hx => ?_
  · obtain ⟨⟨a, b⟩, e1, e2, e3, e4⟩ := x
    have hb : b ≠ [] := fun q => by subst q; cases hx
    have e3 : Tr a := e3
    have e4 : Tr b := e4
    obtain ⟨s1, s2⟩ := step a b e2 hb
    exact bl_par 2 3 G (ex_v 3) (ex_ixT (ex_call (c_ldivided z) G (a, b) (by decide) (exa_cons (ex_v 2) (exa_cons (ex_v 3) exa_nil)) s1) ex_int rfl) (bl_again (W := fun x : { x : List Rat × List Rat // lComG (x.2.length + 1) x.1 x.2 = lNear one other ∧ J x.1 x.2 ∧ Tr x.1 ∧ Tr x.2 } => [.val (tPs one), .val (tPs other), .val (tPs x.1.1), .val (tPs x.1.2)]) (m := fun x => x.1.2.length) (y := ⟨(a, b), e1, e2, e3, e4⟩) ⟨(b, (lDivided a b).2), (lComG_step hb e4 e3).symm.trans e1, s2, e4, lDivided_tr e3⟩ (.same (.same (.same (.same .nil)))) (lDivided_lt hb (e4.resolve_left hb)) rfl)
  · obtain ⟨⟨a, b⟩, e1, e2, e3, e4⟩ := x
    have hb : b = [] := by cases b with | nil => rfl | cons c r => cases hx
    subst hb
    have e5 : a = lNear one other := by rw [← show lComG (([] : List Rat).length + 1) a [] = lNear one other from e1]; exact lComG_end.symm
    have e3 : Tr a := e3
    refine bl_le (Γ' := [.val (tPs one), .val (tPs other), .val (tPs (lNear one other)), .no]) (.same (.same (.val (congrArg tPs e5.symm) (.no .nil)))) ?_
    by_cases hn : lNear one other = []
    · refine bl_ret (ex_if (k := false) ((ext_neNil G (EX.s (ex_v 2))).eq (by rw [hn]; rfl)) (fun h => by cases h) fun _ => EXL.ex (exl_lst exa_nil (Nat.le_of_ble_eq_true rfl))) ?_
      show tL [] = tPs (lCommon one other)
      unfold lCommon
      rw [if_pos hn]
      rfl
    · have hd0 : hd (lNear one other) ≠ 0 := by rw [← e5]; exact e3.resolve_left (by rw [e5]; exact hn)
      refine bl_ret (ex_if (k := true) ((ext_neNil G (EX.s (ex_v 2))).eq ?_) (fun _ => ex_call (c_lscaled z) G (lNear one other, 1 / hd (lNear one other)) (by decide) (exa_cons (ex_v 2) (exa_cons (ex_call (c_lover z) G (1, hd (lNear one other)) (by decide) (exa_cons ex_one1 (exa_cons (ex_ix (EX.s (ex_v 2)) ex_neg1 (mlast (T := tP) hn)) exa_nil)) ⟨hd0, ⟨Bg.one, Bg.one⟩, bN _ (hd_mem hn)⟩) exa_nil)) ⟨bN, bH hn, lN⟩) (fun h => by cases h)) ?_
      · cases q : lNear one other with
        | nil => exact absurd q hn
        | cons c r => rfl
      · show tPs _ = tPs (lCommon one other)
        unfold lCommon
        rw [if_neg hn]
theorem sc_c_lpassed : FnScope ["_law_pot_here", "_law_pair", "_law_is_small"] ["_law_pot_here", "_law_pair"] (defScope sLPassed) := ⟨rfl, rfl, rfl, by decide +kernel, rfl, by decide +kernel, by decide +kernel⟩
theorem c_lpassed (z : Wf P w K mg base) : Fn P w K mg base "_law_passed" 36 ["_law_pot_here", "_law_pair"] (spT (fun y : Rat => True) (fun y => [tPot, tP y]) fun y => tG K y) := by
  obtain ⟨fd, F⟩ := z.c.fLPassed
  refine fnb z.g_law_passed F.kp (FunD.bindsN F fun _ _ _ _ _ _ us hl => match us, hl with | [_, _], _ => rfl) ?_
  refine fn_ty F sc_c_lpassed (fun _ => rfl) fun cdv B outer s H E G y Hb hp => ?_
  have hsm : EX (cxB P w K mg base ["_law_pot_here", "_law_pair", "_law_is_small"] "_law_passed" (defScope sLPassed) (He.ga K "_law_passed") cdv B outer s H E) [] (.Constant .none 0 ⟨0, 0, 0, 0⟩) tN := ex_non
  refine bl_set 2 G (ex_and (ex_eqV (ex_den (ex_v 1)) ex_int rfl) fun _ => ex_one (ex_ci2 op_lt (ex_abs (exa_cons (ex_num (ex_v 1)) exa_nil) z.b_abs) (ex_pow ex_int ex_int ⟨by decide, by decide⟩))) ?_
  generalize hk : (decide (V.int (y.den : Int) = V.int 1) && _) = k
  cases k with
  | true =>
    have hd : y.den = 1 := by
      have h := (Bool.and_eq_true_iff.mp hk).1
      have h := of_decide_eq_true h
      injection h with h
      omega
    exact bl_ret (ex_ifU (exu_and (EXT.u (ext_val (ex_v 2))) (exu_eq (ex_call (c_draw z) G 2 (by decide) (exa_cons (ex_v 0) (exa_cons ex_int exa_nil)) ⟨by decide, by decide⟩) (EX.tin (q := fun _ => True) ex_int trivial))) (EX.some (T := fun b : Unit ⊕ PLift (y.den = 1) => match b with | .inl _ => tQ K y | .inr _ => tI y.num) (y := .inr ⟨hd⟩) (ex_num (ex_v 1))) (EX.some (T := fun b : Unit ⊕ PLift (y.den = 1) => match b with | .inl _ => tQ K y | .inr _ => tI y.num) (y := .inl ()) ((ex_mkQ2 z G (by decide) (ex_num (ex_v 1)) (ex_den (ex_v 1)) (den_ne _)).eq (by rw [Rat.num_divInt_den]))))
  | false =>
    exact bl_ret (ex_if (k := false) (EXW.ext (exw_and (k := false) (l := false) (ext_val (ex_v 2)) fun h => by cases h)) (fun h => by cases h) fun _ => EX.some (T := fun b : Unit ⊕ PLift (y.den = 1) => match b with | .inl _ => tQ K y | .inr _ => tI y.num) (y := .inl ()) ((ex_mkQ2 z G (by decide) (ex_num (ex_v 1)) (ex_den (ex_v 1)) (den_ne _)).eq (by rw [Rat.num_divInt_den])))
theorem sc_c_lgiven : FnScope ["_law_pot_here", "_law_poly_here", "_law_found", "_law_entry_here"] ["_law_pot_here", "_law_poly_here"] (defScope sLGiven) := ⟨rfl, rfl, rfl, by decide +kernel, rfl, by decide +kernel, by decide +kernel⟩
theorem c_lgiven (z : Wf P w K mg base) : Fn P w K mg base "_law_given" 38 ["_law_pot_here", "_law_poly_here"] (spT (fun y : List Rat => y.length ≤ 40) (fun y => [tPot, tPs y]) fun y => tEx (fun k : { k : Nat // (0 : Int) ≤ k ∧ (k : Int) < 3 } => tLU ((y ++ List.replicate k.1 0).map (tG K)))) := by
  obtain ⟨fd, F⟩ := z.c.fLGiven
  refine fnb z.g_law_given F.kp (FunD.bindsN F fun _ _ _ _ _ _ us hl => match us, hl with | [_, _], _ => rfl) ?_
  refine fn_ty F sc_c_lgiven (fun _ => rfl) fun cdv B outer s H E G y Hb hp => ?_
  refine bl_setC 2 G (lcM (T := tP) (T' := tG K) 3 (id : Rat → Rat) (EX.s (ex_v 1)) (Nat.le_trans hp (by decide)) (fun u hu _ _ _ _ _ => ex_call (c_lpassed z) (G.blk _ _ _ _ _) u (by decide) (exa_cons (ex_v 0) (exa_cons (ex_v 3) exa_nil)) trivial) G) ?_
  rw [List.map_id]
  refine bl_rel 2 rfl ?_
  refine bl_set 2 G (ex_if (k := true) ((ext_lt (ex_lenM z rfl (EX.s (ex_v 2))) ex_int).eq (decide_eq_true (by omega))) (fun _ => ex_catU (T := fun k : { k : Nat // (0 : Int) ≤ k ∧ (k : Int) < 3 } => List.replicate k.1 (tG K 0)) (ex_v 2) (exl_repU (q := fun i => 0 ≤ i ∧ i < 3) (EXL.ex (exl_lst (exa_cons ex_zeroG exa_nil) (Nat.le_of_ble_eq_true rfl))) (ex_call (c_draw z) G 3 (by decide) (exa_cons (ex_v 0) (exa_cons ex_int exa_nil)) ⟨by decide, by decide⟩) (fun i hi => ⟨hi.1, by omega⟩)) (fun k => by have := k.2.2; rw [List.length_map, List.length_replicate]; omega)) fun h => by cases h) ?_
  refine bl_case 2 fun k => ?_
  have ek : ∀ Ps : List Pd, Ps = (y.map (tG K)) ++ List.replicate k.1 (tG K 0) → Ps = (y ++ List.replicate k.1 0).map (tG K) := fun Ps h => by rw [h, List.map_append, List.map_replicate]
  refine bl_ret (EX.some (T := fun k : { k : Nat // (0 : Int) ≤ k ∧ (k : Int) < 3 } => tLU ((y ++ List.replicate k.1 0).map (tG K))) (y := k) (ex_ifU (exu_eq (ex_call (c_draw z) G 3 (by decide) (exa_cons (ex_v 0) (exa_cons ex_int exa_nil)) ⟨by decide, by decide⟩) (EX.tin (q := fun _ => True) ex_int trivial)) (EX.some (T := fun b : Bool => match b with | true => tU ((y ++ List.replicate k.1 0).map (tG K)) | false => tL ((y ++ List.replicate k.1 0).map (tG K))) (y := true) (ex_tuple ((ex_v 2).eq (by rw [List.map_append, List.map_replicate])) z.b_tuple)) (EX.some (T := fun b : Bool => match b with | true => tU ((y ++ List.replicate k.1 0).map (tG K)) | false => tL ((y ++ List.replicate k.1 0).map (tG K))) (y := false) ((ex_v 2).eq (by rw [List.map_append, List.map_replicate])))))
theorem sc_c_ltold : FnScope ["_law_value", "_law_entry_here"] ["_law_value"] (defScope sLTold) := ⟨rfl, rfl, rfl, by decide +kernel, rfl, by decide +kernel, by decide +kernel⟩
theorem c_ltold (z : Wf P w K mg base) : Fn P w K mg base "_law_told" 36 ["_law_value"] (spT (fun y : List Rat => y.length ≤ 1000) (fun y => [tQs K y]) fun y => tPs y) := by
  obtain ⟨fd, F⟩ := z.c.fLTold
  refine fnb z.g_law_told F.kp (FunD.bindsN F fun _ _ _ _ _ _ us hl => match us, hl with | [_], _ => rfl) ?_
  refine fn_ty F sc_c_ltold (fun _ => rfl) fun cdv B outer s H E G y Hb hp => ?_
  have tl : ∀ v H, (tQs K y).p v H → TyX K H v (.type "list") := fun v H ⟨a, vs, h1, h2, _⟩ => by subst h1; exact .base (.lst h2)
  refine bl_ifr (t := false) (EXW.ext (exw_or (k := false) (l := false) (ext_not (ext_val (ex_isi (ex_v 0) (ex_ty "list" z.b_list) (.ty "list") tl (kit_ty (r := true) (by decide +kernel)) z.b_isinstance))) fun _ => exw_or1 ((ext_not (ext_val (ex_all G (ex_of (lcM (T := tQ K) (T' := tB) 1 (fun _ : Rat => true) (EX.s (ex_v 0)) hp (fun u hu _ _ _ _ _ => ex_isQ z (G.blk _ _ _ _ _) (ex_v 1)) G) G) z.b_all))).eq (by rw [all_true]; rfl)))) (fun h => by cases h) fun _ => ?_
  exact bl_ret ((ex_of (lcM (T := tQ K) (T' := tP) 1 (id : Rat → Rat) (EX.s (ex_v 0)) hp (fun u hu _ _ _ _ _ => (ex_tup (exa_cons (ex_ptop z (G.blk _ _ _ _ _) (by decide) (ex_v 1)) (exa_cons (ex_pbottom z (G.blk _ _ _ _ _) (by decide) (ex_v 1)) exa_nil)) small2).eq rfl) G) G).eq (by rw [List.map_id]))
end
end Wk
set_option Elab.async false
set_option linter.all false
set_option maxRecDepth 100000
set_option maxHeartbeats 1000000
/-! R13: the law's draws, fractions, fibres, what is put in. -/
namespace Wk
open PySem PySem.Spec PyProof.Rows L2 Ty Tx Mt
def tEnt : Pd := tEx fun q : { q : Rat // q ∈ E9 } => tP q.1
def DrawP (n : Nat) (p : List Rat) : Prop := p.length ≤ n ∧ Tr p ∧ ∀ c ∈ p, c ∈ E9
def DrawS (n : Nat) (p : List Rat) : Prop := p.length ≤ n ∧ p ≠ [] ∧ hd p ≠ 0 ∧ ∀ c ∈ p, c ∈ E9 ∨ c ∈ E3
def LLowOk (top bottom : List Rat) : Prop := LComOk top bottom ∧ LDivOk top (lCommon top bottom) ∧ LDivOk bottom (lCommon top bottom) ∧ (lDivided bottom (lCommon top bottom)).1 ≠ [] ∧ hd (lDivided bottom (lCommon top bottom)).1 ≠ 0 ∧ BqL (lDivided top (lCommon top bottom)).1 ∧ BqL (lDivided bottom (lCommon top bottom)).1 ∧
  Bq (1 / hd (lDivided bottom (lCommon top bottom)).1) ∧ (lDivided top (lCommon top bottom)).1.length ≤ 1000 ∧ (lDivided bottom (lCommon top bottom)).1.length ≤ 1000 ∧ 0 < max (lLowest top bottom).1.length (lLowest top bottom).2.length
def dflt : List Rat × List Rat := ([0, 1], [1])
def FullIs (n : Nat) (x : List Rat × List Rat) : Prop := (∃ p q, DrawP n p ∧ DrawS n q ∧ x = lLowest p q ∧ 0 < degP x) ∨ x = dflt
def WAtOk (x : List Rat × List Rat) (o : Option Rat) : Prop := x.2 ≠ [] ∧ hd x.2 ≠ 0 ∧ BqL x.1 ∧ BqL x.2 ∧ match o with
  | none => True
  | some q => HornOk x.1 q ∧ HornOk x.2 q ∧ Bq (lWorth x.1 q) ∧ Bq (lWorth x.2 q)
def LFibOk (x : List Rat × List Rat) : Option Rat → Prop
  | none => x.1.length ≤ 100 ∧ x.2.length ≤ 100 ∧ 0 < max x.1.length x.2.length ∧ BqL x.2 ∧ trim (fillF x.2 (degP x + 1)) ≠ []
  | some q => x.1.length ≤ 100 ∧ x.2.length ≤ 100 ∧ 0 < max x.1.length x.2.length ∧ Bq q ∧ BqL x.1 ∧ BqL x.2 ∧ BqL (byNumber x.2 (-q)) ∧ BqL (sumOf x.1 (byNumber x.2 (-q))) ∧ (sumOf x.1 (byNumber x.2 (-q))).length ≤ 200 ∧ trim (fillF (sumOf x.1 (byNumber x.2 (-q))) (degP x + 1)) ≠ []
def TotOk (poly : List Rat) (inner : List Rat × List Rat) (high : Nat) : Prop := ∀ i, i < poly.length → (∀ t, t < high → TimesOk (tS inner (cf poly i) i t) (if t < i then inner.1 else inner.2)) ∧ BqL (tS inner (cf poly i) i high) ∧ (tS inner (cf poly i) i high).length ≤ 400 ∧ BqL (totS poly inner high i) ∧ (totS poly inner high i).length ≤ 400
def LOfOk (x inner : List Rat × List Rat) : Prop := 0 < max x.1.length x.2.length ∧ x.1.length ≤ 100 ∧ x.2.length ≤ 100 ∧ TotOk x.1 inner (degP x) ∧ TotOk x.2 inner (degP x) ∧ ofB x inner ≠ [] ∧ hd (ofB x inner) ≠ 0 ∧ BqL (ofT x inner) ∧ BqL (ofB x inner) ∧ Bq (1 / hd (ofB x inner)) ∧ (ofT x inner).length ≤ 400 ∧ (ofB x inner).length ≤ 400
def LLedOk (form : List Rat) (inner : List Rat × List Rat) : Prop := form ≠ [] ∧ form.length ≤ 50 ∧ 0 < max inner.1.length inner.2.length ∧ degP inner ≤ 50 ∧ TotOk form inner (form.length - 1) ∧ (ledT form inner).length ≤ 400 ∧ (form.length - 1) * degP inner ≤ 400 ∧ BqL (ledT form inner) ∧ trim (fillF (ledT form inner) ((form.length - 1) * degP inner + 1)) ≠ []
def LMadeOk (x : List Rat × List Rat) : Prop := x.1.length ≤ 20 ∧ x.2.length ≤ 20 ∧ Tr x.1 ∧ Tr x.2 ∧ x.1 ≠ [] ∧ x.2 ≠ [] ∧ hd x.2 = 1 ∧ ComOk x.1 x.2 ∧ (commonOf x.1 x.2).length ≤ 1
theorem trim_zeros {p : List Rat} (h : Tr p) : ∀ n, trim (p ++ List.replicate n 0) = p
  | 0 => by rw [List.replicate_zero, List.append_nil]; exact trim_of_tr h
  | n + 1 => by rw [List.replicate_succ', ← List.append_assoc, trim_zero _ rfl]; exact trim_zeros h n
theorem map_div1 (p : List Rat) : p.map (· / 1) = p := by
  refine Eq.trans ?_ (List.map_id p)
  apply List.map_congr_left
  intro c _
  show c / 1 = c
  grind
theorem trim_mem {p : List Rat} {c : Rat} (h : c ∈ trim p) : c ∈ p := by
  obtain ⟨n, e⟩ := trim_pad p
  rw [e]; exact List.mem_append_left _ h
section
variable {P : Program} {w : World} {K : PySem.W.Frag} {mg : Str → Option Value} {base : Heap} {j : Nat} {X : Cx} {Γ : List Sl} {e a b c : Expr} {pos p : Pos}

theorem ex_lit (n : Int) (d : Nat) {k3 : Nat} (ha : EX X Γ a (tI n)) (hb : EX X Γ b (tI (d : Int))) (h : d ≠ 0 := by decide) (h2 : n.natAbs.Coprime d := by decide) (he : starEach [a, b] X.env = (false, eval a X.env) :: starEach [b] X.env := by rfl) (he2 : starEach [b] X.env = (false, eval b X.env) :: starEach [] X.env := by rfl) : EX X Γ (.Tuple [a, b] k3 pos) (tP (rq n d h h2)) :=
  ex_tup (exa_cons ha (exa_cons hb exa_nil he2) he) small2

theorem sc_c_lentry : FnScope ["_law_pot_here"] ["_law_pot_here"] (defScope sLEntry) := ⟨rfl, rfl, rfl, by decide +kernel, rfl, by decide +kernel, by decide +kernel⟩
theorem c_lentry (z : Wf P w K mg base) : Fn P w K mg base "_law_entry" 37 ["_law_pot_here"] (spT (fun y : Unit => True) (fun y => [tPot]) fun y => tEnt) := by
  obtain ⟨fd, F⟩ := z.c.fLEntry
  refine fnb z.g_law_entry F.kp (FunD.bindsN F fun _ _ _ _ _ _ us hl => match us, hl with | [_], _ => rfl) ?_
  refine fn_ty F sc_c_lentry (fun _ => rfl) fun cdv B outer s H E G y Hb hp => ?_
  refine bl_ret ((ex_call (c_pick z) G (E9.map tP) (by decide) (exa_cons (ex_v 0) (exa_cons (EXL.ex (exl_lst ?_ (Nat.le_of_ble_eq_true rfl))) exa_nil)) ⟨Nat.le_of_ble_eq_true rfl, Nat.le_of_ble_eq_true rfl⟩).imp (R := tEnt) fun v H ⟨Q, hQ, h⟩ => by obtain ⟨q, hq, rfl⟩ := List.mem_map.mp hQ; exact ⟨⟨q, hq⟩, h⟩)
  show EXA _ _ _ [tP (rq (0) 1), tP (rq (0) 1), tP (rq (1) 1), tP (rq (-1) 1), tP (rq (2) 1), tP (rq (3) 1), tP (rq (-4) 1), tP (rq (1) 2), tP (rq (-5) 3)]
  refine exa_cons (ex_lit (0) 1 ex_int ex_int) ?_
  refine exa_cons (ex_lit (0) 1 ex_int ex_int) ?_
  refine exa_cons (ex_lit (1) 1 ex_int ex_int) ?_
  refine exa_cons (ex_lit (-1) 1 ex_neg1 ex_int) ?_
  refine exa_cons (ex_lit (2) 1 ex_int ex_int) ?_
  refine exa_cons (ex_lit (3) 1 ex_int ex_int) ?_
  refine exa_cons (ex_lit (-4) 1 ex_neg1 ex_int) ?_
  refine exa_cons (ex_lit (1) 2 ex_int ex_int) ?_
  refine exa_cons (ex_lit (-5) 3 ex_neg1 ex_int) ?_
  exact exa_nil
theorem sc_c_lpoly : FnScope ["_law_pot_here", "_law_many", "_law_place_here"] ["_law_pot_here", "_law_many"] (defScope sLPoly) := ⟨rfl, rfl, rfl, by decide +kernel, rfl, by decide +kernel, by decide +kernel⟩
theorem c_lpoly (z : Wf P w K mg base) : Fn P w K mg base "_law_poly" 39 ["_law_pot_here", "_law_many"] (spT (fun y : Nat => y < 900) (fun y => [tPot, tI (y : Nat)]) fun y => tEx (fun p : { p : List Rat // DrawP y p } => tPs p.1)) := by
  obtain ⟨fd, F⟩ := z.c.fLPoly
  refine fnb z.g_law_poly F.kp (FunD.bindsN F fun _ _ _ _ _ _ us hl => match us, hl with | [_, _], _ => rfl) ?_
  refine fn_ty F sc_c_lpoly (fun _ => rfl) fun cdv B outer s H E G y Hb hp => ?_
  refine bl_ret (ex_callX (c_ltrim z) G (by decide) (exa_cons (exu_of (lcRU (Pt := tEnt) 2 (q := fun i => 0 ≤ i ∧ i < (y : Nat) + 1) (ex_call (c_draw z) G ((y : Nat) + 1) (by decide) (exa_cons (ex_v 0) (exa_cons (ex_add (ex_v 1) ex_int) exa_nil)) ⟨by omega, by omega⟩) (fun n hn => ⟨hn.1, by have := hn.2; omega⟩) (fun n hn i hi _ _ _ _ _ => ex_call (c_lentry z) (G.blk _ _ _ _ _) () (by decide) (exa_cons (ex_v 0) exa_nil) trivial) G z.b_range) G) exa_nil) fun vs H its => ?_)
  cases its with
  | cons h t =>
    cases t
    obtain ⟨n, l, us, rfl, e1, e2⟩ := h
    obtain ⟨ys, hl, i2⟩ := its_choice e2
    refine ⟨ys.map (·.1), trivial, .cons ⟨l, us, rfl, e1, by rw [List.map_map]; exact i2⟩ .nil, fun v H' hv => ⟨⟨trim (ys.map (·.1)), ?_, trim_tr _, fun c hc => ?_⟩, hv⟩⟩
    · have h1 := trim_le (ys.map (·.1))
      rw [List.length_map, hl] at h1
      have := n.2.2
      omega
    · obtain ⟨q, _, rfl⟩ := List.mem_map.mp (trim_mem hc)
      exact q.2
theorem sc_c_lstanding : FnScope ["_law_pot_here", "_law_many", "_law_found", "_law_place_here"] ["_law_pot_here", "_law_many"] (defScope sLStanding) := ⟨rfl, rfl, rfl, by decide +kernel, rfl, by decide +kernel, by decide +kernel⟩
theorem c_lstanding (z : Wf P w K mg base) : Fn P w K mg base "_law_standing" 39 ["_law_pot_here", "_law_many"] (spT (fun y : Nat => 0 < y ∧ y < 900) (fun y => [tPot, tI (y : Nat)]) fun y => tEx (fun p : { p : List Rat // DrawS y p } => tPs p.1)) := by
  obtain ⟨fd, F⟩ := z.c.fLStanding
  refine fnb z.g_law_standing F.kp (FunD.bindsN F fun _ _ _ _ _ _ us hl => match us, hl with | [_, _], _ => rfl) ?_
  refine fn_ty F sc_c_lstanding (fun _ => rfl) fun cdv B outer s H E G y Hb hp => ?_
  obtain ⟨h1, h2⟩ := hp
  refine bl_setCU 2 G (lcRU (Pt := tEnt) 3 (q := fun i => 0 ≤ i ∧ i < (y : Nat)) (ex_call (c_draw z) G (y : Nat) (by decide) (exa_cons (ex_v 0) (exa_cons (ex_v 1) exa_nil)) ⟨by omega, by omega⟩) (fun n hn => ⟨hn.1, by have := hn.2; omega⟩) (fun n hn i hi _ _ _ _ _ => ex_call (c_lentry z) (G.blk _ _ _ _ _) () (by decide) (exa_cons (ex_v 0) exa_nil) trivial) G z.b_range) ?_
  refine bl_case 2 fun n => ?_
  have hn := n.2.2
  refine bl_ret ((EXL.ex (exl_cat (EX.s (ex_v 2)) (EXL.s (exl_lst (exa_cons (ex_call (c_pick z) G (E3.map tP) (by decide) (exa_cons (ex_v 0) (exa_cons ((EXL.ex (exl_lst (exa_cons (ex_lit (1) 1 ex_int ex_int) (exa_cons (ex_lit (-2) 1 ex_neg1 ex_int) (exa_cons (ex_lit (1) 3 ex_int ex_int) exa_nil))) (Nat.le_of_ble_eq_true rfl))).eq (R := tL (E3.map tP)) rfl) exa_nil)) ⟨Nat.le_of_ble_eq_true rfl, Nat.le_of_ble_eq_true rfl⟩) exa_nil) (Nat.le_of_ble_eq_true rfl))) (by rw [List.length_replicate]; show n.1 + 1 ≤ 1000; omega))).imp (R := tEx (fun p : { p : List Rat // DrawS y p } => tPs p.1)) fun v H hv => ?_)
  obtain ⟨l, vs, rfl, e1, e2⟩ := hv
  obtain ⟨us, u, rfl, i1, Q, hQ, hu⟩ := its_snoc e2
  obtain ⟨q, hq, rfl⟩ := List.mem_map.mp hQ
  obtain ⟨ys, hl, i2⟩ := its_choice i1
  refine ⟨⟨ys.map (·.1) ++ [q], ?_, by simp, ?_, fun c hc => ?_⟩, l, us ++ [u], rfl, e1, ?_⟩
  · simp [hl]; omega
  · rw [cf_append_last]
    have : ∀ q ∈ E3, q ≠ 0 := by decide
    exact this q hq
  · rcases List.mem_append.mp hc with h | h
    · obtain ⟨q', _, rfl⟩ := List.mem_map.mp h
      exact .inl q'.2
    · rw [List.mem_singleton.mp h]; exact .inr hq
  · rw [List.map_append, List.map_map]
    exact Its.app i2 (.cons hu .nil)
theorem sc_c_lfilled : FnScope ["_law_poly_here", "_law_degree_here"] ["_law_poly_here", "_law_degree_here"] (defScope sLFilled) := ⟨rfl, rfl, rfl, by decide +kernel, rfl, by decide +kernel, by decide +kernel⟩
theorem c_lfilled (z : Wf P w K mg base) : Fn P w K mg base "_law_filled" 36 ["_law_poly_here", "_law_degree_here"] (spT (fun y : List Rat × Nat => y.1.length ≤ 400 ∧ y.2 ≤ 500) (fun y => [tPs y.1, tI ((y.2 : Nat) - 1)]) fun y => tPs (fillF y.1 y.2)) := by
  obtain ⟨fd, F⟩ := z.c.fLFilled
  refine fnb z.g_law_filled F.kp (FunD.bindsN F fun _ _ _ _ _ _ us hl => match us, hl with | [_, _], _ => rfl) ?_
  refine fn_ty F sc_c_lfilled (fun _ => rfl) fun cdv B outer s H E G y Hb hp => ?_
  obtain ⟨h1, h2⟩ := hp
  have en : (((y.2 : Nat) : Int) - 1 + 1 - ((y.1.length : Nat) : Int)).toNat = y.2 - y.1.length := by omega
  refine bl_ret ((EXL.ex (exl_cat (EX.s (ex_v 0)) (EXL.s (exl_rep (EXL.s (exl_lst (exa_cons ex_zero1 exa_nil) (Nat.le_of_ble_eq_true rfl))) (ex_sub (ex_add (ex_v 1) ex_int) (ex_lenM z rfl (EX.s (ex_v 0)))) (by omega) (by omega))) ?_)).eq ?_)
  · rw [en, List.length_map, List.length_replicate]; omega
  · show tL _ = tL _
    rw [en]
    unfold fillF
    rw [List.map_append, List.map_replicate]
theorem sc_c_lheaded : FnScope ["_law_form", "_law_last", "_law_entry_here"] ["_law_form"] (defScope sLHeaded) := ⟨rfl, rfl, rfl, by decide +kernel, rfl, by decide +kernel, by decide +kernel⟩
theorem c_lheaded (z : Wf P w K mg base) : Fn P w K mg base "_law_headed" 36 ["_law_form"] (spT (fun y : List Rat => trim y ≠ [] ∧ BqL y ∧ y.length ≤ 1000) (fun y => [tPs y]) fun y => tPs (lHeaded y)) := by
  obtain ⟨fd, F⟩ := z.c.fLHeaded
  refine fnb z.g_law_headed F.kp (FunD.bindsN F fun _ _ _ _ _ _ us hl => match us, hl with | [_], _ => rfl) ?_
  refine fn_ty F sc_c_lheaded (fun _ => rfl) fun cdv B outer s H E G y Hb hp => ?_
  obtain ⟨h1, h2, h3⟩ := hp
  refine bl_set 1 G (ex_ix (EX.s (ex_call (c_ltrim z) G y (by decide) (exa_cons (ex_v 0) exa_nil) trivial)) ex_neg1 (mlast (T := tP) h1)) ?_
  exact bl_ret (ex_of (lcM (T := tP) (T' := tP) 2 (· / hd (trim y)) (EX.s (ex_v 0)) h3 (fun u hu _ _ _ _ _ => ex_call (c_lover z) (G.blk _ _ _ _ _) (u, hd (trim y)) (by decide) (exa_cons (ex_v 2) (exa_cons (ex_v 1) exa_nil)) ⟨(trim_tr y).resolve_left h1, h2 u hu, h2 _ (trim_mem (hd_mem h1))⟩) G) G)
theorem sc_c_llowest : FnScope ["_law_top", "_law_bottom", "_law_both", "_law_near", "_law_far"] ["_law_top", "_law_bottom"] (defScope sLLowest) := ⟨rfl, rfl, rfl, by decide +kernel, rfl, by decide +kernel, by decide +kernel⟩
theorem c_llowest (z : Wf P w K mg base) : Fn P w K mg base "_law_lowest" 42 ["_law_top", "_law_bottom"] (spT (fun y : List Rat × List Rat => LLowOk y.1 y.2) (fun y => [tPs y.1, tPs y.2]) fun y => tFr (lLowest y.1 y.2)) := by
  obtain ⟨fd, F⟩ := z.c.fLLowest
  refine fnb z.g_law_lowest F.kp (FunD.bindsN F fun _ _ _ _ _ _ us hl => match us, hl with | [_, _], _ => rfl) ?_
  refine fn_ty F sc_c_llowest (fun _ => rfl) fun cdv B outer s H E G y Hb hp => ?_
  obtain ⟨hc, d1, d2, n2, h0, b1, b2, bh, l1, l2, _⟩ := hp
  refine bl_set 2 G (ex_call (c_lcommon z) G y (by decide) (exa_cons (ex_v 0) (exa_cons (ex_v 1) exa_nil)) hc) ?_
  refine bl_par 3 4 G (ex_ixT (ex_call (c_ldivided z) G (y.1, lCommon y.1 y.2) (by decide) (exa_cons (ex_v 0) (exa_cons (ex_v 2) exa_nil)) d1) ex_int rfl) (ex_ixT (ex_call (c_ldivided z) G (y.2, lCommon y.1 y.2) (by decide) (exa_cons (ex_v 1) (exa_cons (ex_v 2) exa_nil)) d2) ex_int rfl) ?_
  have hB := b2 _ (hd_mem n2)
  exact bl_ret (ex_tup (exa_cons (ex_call (c_lscaled z) G ((lDivided y.1 (lCommon y.1 y.2)).1, 1 / hd (lDivided y.2 (lCommon y.1 y.2)).1) (by decide) (exa_cons (ex_v 3) (exa_cons (ex_call (c_lover z) G (1, hd (lDivided y.2 (lCommon y.1 y.2)).1) (by decide) (exa_cons ex_one1 (exa_cons (ex_ix (EX.s (ex_v 4)) ex_neg1 (mlast (T := tP) n2)) exa_nil)) ⟨h0, ⟨Bg.one, Bg.one⟩, hB⟩) exa_nil)) ⟨b1, bh, l1⟩) (exa_cons (ex_call (c_lscaled z) G ((lDivided y.2 (lCommon y.1 y.2)).1, 1 / hd (lDivided y.2 (lCommon y.1 y.2)).1) (by decide) (exa_cons (ex_v 4) (exa_cons (ex_call (c_lover z) G (1, hd (lDivided y.2 (lCommon y.1 y.2)).1) (by decide) (exa_cons ex_one1 (exa_cons (ex_ix (EX.s (ex_v 4)) ex_neg1 (mlast (T := tP) n2)) exa_nil)) ⟨h0, ⟨Bg.one, Bg.one⟩, hB⟩) exa_nil)) ⟨b2, bh, l2⟩) exa_nil)) small2)
theorem sc_c_ldegree : FnScope ["_law_fraction"] ["_law_fraction"] (defScope sLDegree) := ⟨rfl, rfl, rfl, by decide +kernel, rfl, by decide +kernel, by decide +kernel⟩
theorem c_ldegree (z : Wf P w K mg base) : Fn P w K mg base "_law_degree" 33 ["_law_fraction"] (spT (fun y : List Rat × List Rat => 0 < max y.1.length y.2.length) (fun y => [tFr y]) fun y => tI (degP y : Nat)) := by
  obtain ⟨fd, F⟩ := z.c.fLDegree
  refine fnb z.g_law_degree F.kp (FunD.bindsN F fun _ _ _ _ _ _ us hl => match us, hl with | [_], _ => rfl) ?_
  refine fn_ty F sc_c_ldegree (fun _ => rfl) fun cdv B outer s H E G y Hb hp => ?_
  exact bl_ret ((ex_sub (ex_max G (exa_cons (ex_lenM z rfl (EX.s (ex_ixT (ex_v 0) ex_int rfl))) (exa_cons (ex_lenM z rfl (EX.s (ex_ixT (ex_v 0) ex_int rfl))) exa_nil)) z.b_max) ex_int).eq (R := tI (degP y : Nat)) (tI_eq (by unfold degP; split <;> omega)))
theorem sc_c_lfull : FnScope ["_law_pot_here", "_law_most", "_law_found"] ["_law_pot_here", "_law_most"] (defScope sLFull) := ⟨rfl, rfl, rfl, by decide +kernel, rfl, by decide +kernel, by decide +kernel⟩
theorem c_lfull (z : Wf P w K mg base) : Fn P w K mg base "_law_full" 44 ["_law_pot_here", "_law_most"] (spT (fun y : Nat => y < 800 ∧ ∀ p q, DrawP (y + 1) p → DrawS (y + 1) q → LLowOk p q) (fun y => [tPot, tI (y : Nat)]) fun y => tEx (fun x : { x : List Rat × List Rat // FullIs (y + 1) x } => tFr x.1)) := by
  obtain ⟨fd, F⟩ := z.c.fLFull
  refine fnb z.g_law_full F.kp (FunD.bindsN F fun _ _ _ _ _ _ us hl => match us, hl with | [_, _], _ => rfl) ?_
  refine fn_ty F sc_c_lfull (fun _ => rfl) fun cdv B outer s H E G y Hb hp => ?_
  obtain ⟨hy, hall⟩ := hp
  refine bl_set 2 G (ex_callX (R := tEx (fun x : { x : List Rat × List Rat // ∃ p q, DrawP (y + 1) p ∧ DrawS (y + 1) q ∧ x = lLowest p q } => tFr x.1)) (c_llowest z) G (by decide) (exa_cons (ex_call (c_lpoly z) G (y + 1) (by decide) (exa_cons (ex_v 0) (exa_cons ((ex_add (ex_v 1) ex_int).eq (show tI (((y : Nat) : Int) + 1) = tI ((y + 1 : Nat) : Int) from tI_eq (by omega))) exa_nil)) (show y + 1 < 900 by omega)) (exa_cons (ex_call (c_lstanding z) G (y + 1) (by decide) (exa_cons (ex_v 0) (exa_cons ((ex_add (ex_v 1) ex_int).eq (show tI (((y : Nat) : Int) + 1) = tI ((y + 1 : Nat) : Int) from tI_eq (by omega))) exa_nil)) ⟨by omega, by omega⟩) exa_nil)) fun vs H its => ?_) ?_
  · obtain ⟨u, v, rfl, ⟨p, hp⟩, q, hq⟩ := its2 its
    exact ⟨(p.1, q.1), hall _ _ p.2 q.2, .cons hp (.cons hq .nil), fun v H' hv => ⟨⟨_, p.1, q.1, p.2, q.2, rfl⟩, hv⟩⟩
  refine bl_case 2 fun x => ?_
  obtain ⟨x, p, q, hp, hq, rfl⟩ := x
  have h0 := (hall p q hp hq).2.2.2.2.2.2.2.2.2.2
  refine bl_ret (ex_if (ext_gt (ex_call (c_ldegree z) G (lLowest p q) (by decide) (exa_cons (ex_v 2) exa_nil) h0) ex_int) (fun h => EX.some (T := fun x : { x : List Rat × List Rat // FullIs (y + 1) x } => tFr x.1) (y := ⟨lLowest p q, .inl ⟨p, q, hp, hq, rfl, by have := of_decide_eq_true h; omega⟩⟩) (ex_v 2)) fun h => EX.some (T := fun x : { x : List Rat × List Rat // FullIs (y + 1) x } => tFr x.1) (y := ⟨dflt, .inr rfl⟩) ((ex_tup (exa_cons (EXL.ex (exl_lst (exa_cons ex_zero1 (exa_cons ex_one1 exa_nil)) small2)) (exa_cons (EXL.ex (exl_lst (exa_cons ex_one1 exa_nil) (Nat.le_of_ble_eq_true rfl))) exa_nil)) small2).eq rfl))
theorem sc_c_lworthAt : FnScope ["_law_fraction", "_law_place_here", "_law_top", "_law_bottom", "_law_below"] ["_law_fraction", "_law_place_here"] (defScope sLWorthAt) := ⟨rfl, rfl, rfl, by decide +kernel, rfl, by decide +kernel, by decide +kernel⟩
theorem c_lworthAt (z : Wf P w K mg base) : Fn P w K mg base "_law_worth_at" 38 ["_law_fraction", "_law_place_here"] (spT (fun y : (List Rat × List Rat) × Option Rat => WAtOk y.1 y.2) (fun y => [tFr y.1, tPo y.2]) fun y => tPo (lWorthAt y.1 y.2)) := by
  obtain ⟨fd, F⟩ := z.c.fLWorthAt
  refine fnb z.g_law_worth_at F.kp (FunD.bindsN F fun _ _ _ _ _ _ us hl => match us, hl with | [_, _], _ => rfl) ?_
  refine fn_ty F sc_c_lworthAt (fun _ => rfl) fun cdv B outer s H E G y Hb hp => ?_
  obtain ⟨x, o⟩ := y
  obtain ⟨n2, h0, b1, b2, ho⟩ := hp
  have n2 : x.2 ≠ [] := n2
  have p2 := List.length_pos_iff.mpr n2
  refine bl_unp 2 3 G (ex_v 0) ?_
  cases o with
  | none =>
    refine bl_ifr (t := true) (ext_isN (ex_v 1) (fun v H h => by cases h; rfl)) (fun _ => ?_) fun h => by cases h
    refine bl_ifr (ext_gt (ex_lenM z rfl (EX.s (ex_v 2))) (ex_lenM z rfl (EX.s (ex_v 3)))) (fun h => ?_) fun h => ?_
    · have h := of_decide_eq_true h
      refine bl_ret ex_non ?_
      show tPo none = tPo (lWorthAt x none)
      unfold lWorthAt
      rw [if_pos (by simp only at h; omega)]
    · have h := of_decide_eq_false h
      refine bl_ret (Pt := tPo (lWorthAt x none)) (ex_if (ext_eqi (ex_lenM z rfl (EX.s (ex_v 2))) (ex_lenM z rfl (EX.s (ex_v 3)))) (fun h2 => ?_) fun h2 => ?_)
      · have h2 := of_decide_eq_true h2
        have n1 : x.1 ≠ [] := List.ne_nil_of_length_pos (by simp only at h2; omega)
        have e : lWorthAt x none = some (hd x.1 / hd x.2) := by unfold lWorthAt; rw [if_neg (by simp only at h; omega), if_pos (by simp only at h2; omega)]
        rw [e]
        exact ex_call (c_lover z) G (hd x.1, hd x.2) (by decide) (exa_cons (ex_ix (EX.s (ex_v 2)) ex_neg1 (mlast (T := tP) n1)) (exa_cons (ex_ix (EX.s (ex_v 3)) ex_neg1 (mlast (T := tP) n2)) exa_nil)) ⟨h0, b1 _ (hd_mem n1), b2 _ (hd_mem n2)⟩
      · have h2 := of_decide_eq_false h2
        have e : lWorthAt x none = some 0 := by unfold lWorthAt; rw [if_neg (by simp only at h; omega), if_neg (by simp only at h2; omega)]
        rw [e]
        exact ex_zero1
  | some q =>
    obtain ⟨o1, o2, bo1, bo2⟩ := ho
    refine bl_ifr (t := false) (ext_isN (ex_v 1) tP_ne) (fun h => by cases h) fun _ => ?_
    refine bl_set 4 G (ex_call (c_lworth z) G (x.2, q) (by decide) (exa_cons (ex_v 3) (exa_cons (ex_v 1) exa_nil)) o2) ?_
    refine bl_ret (Pt := tPo (lWorthAt x (some q))) (ex_if (ext_eqi (ex_num (ex_v 4)) ex_int) (fun h => ?_) fun h => ?_)
    · have hz := Rat.num_eq_zero.mp (of_decide_eq_true h)
      have e : lWorthAt x (some q) = none := if_pos hz
      rw [e]
      exact ex_non
    · have hz : lWorth x.2 q ≠ 0 := fun k => (of_decide_eq_false h) (by rw [k]; rfl)
      have e : lWorthAt x (some q) = some (lWorth x.1 q / lWorth x.2 q) := if_neg hz
      rw [e]
      exact ex_call (c_lover z) G (lWorth x.1 q, lWorth x.2 q) (by decide) (exa_cons (ex_call (c_lworth z) G (x.1, q) (by decide) (exa_cons (ex_v 2) (exa_cons (ex_v 1) exa_nil)) o1) (exa_cons (ex_v 4) exa_nil)) ⟨hz, bo1, bo2⟩
theorem sc_c_lfibre : FnScope ["_law_fraction", "_law_goal", "_law_top", "_law_bottom", "_law_poly_here"] ["_law_fraction", "_law_goal"] (defScope sLFibre) := ⟨rfl, rfl, rfl, by decide +kernel, rfl, by decide +kernel, by decide +kernel⟩
theorem c_lfibre (z : Wf P w K mg base) : Fn P w K mg base "_law_fibre" 38 ["_law_fraction", "_law_goal"] (spT (fun y : (List Rat × List Rat) × Option Rat => LFibOk y.1 y.2) (fun y => [tFr y.1, tPo y.2]) fun y => tPs (lFibre y.1 y.2)) := by
  obtain ⟨fd, F⟩ := z.c.fLFibre
  refine fnb z.g_law_fibre F.kp (FunD.bindsN F fun _ _ _ _ _ _ us hl => match us, hl with | [_, _], _ => rfl) ?_
  refine fn_ty F sc_c_lfibre (fun _ => rfl) fun cdv B outer s H E G y Hb hp => ?_
  obtain ⟨x, o⟩ := y
  refine bl_unp 2 3 G (ex_v 0) ?_
  cases o with
  | none =>
    obtain ⟨l1, l2, h0, b2, ht⟩ := hp
    have l1 : x.1.length ≤ 100 := l1
    have l2 : x.2.length ≤ 100 := l2
    have hd' : degP x + 1 ≤ 100 := by have h0' : 0 < max x.1.length x.2.length := h0; unfold degP; omega
    have hl : (fillF x.2 (degP x + 1)).length = degP x + 1 := fillF_len _ _ (by have h0' : 0 < max x.1.length x.2.length := h0; unfold degP; omega)
    refine bl_set 4 G (ex_if (k := true) (ext_isN (ex_v 1) (fun v H h => by cases h; rfl)) (fun _ => ex_v 3) fun h => by cases h) ?_
    exact bl_ret (ex_call (c_lheaded z) G (fillF x.2 (degP x + 1)) (by decide) (exa_cons (ex_call (c_lfilled z) G (x.2, degP x + 1) (by decide) (exa_cons (ex_v 4) (exa_cons ((ex_call (c_ldegree z) G x (by decide) (exa_cons (ex_v 0) exa_nil) h0).eq (tI_eq (by simp only; omega))) exa_nil)) ⟨by simp only; omega, by simp only; omega⟩) exa_nil) ⟨ht, bq_fill b2, by rw [hl]; omega⟩)
  | some q =>
    obtain ⟨l1, l2, h0, bq, b1, b2, b3, b4, l4, ht⟩ := hp
    have l1 : x.1.length ≤ 100 := l1
    have l2 : x.2.length ≤ 100 := l2
    have l4 : (sumOf x.1 (byNumber x.2 (-q))).length ≤ 200 := l4
    have hd' : degP x + 1 ≤ 100 := by have h0' : 0 < max x.1.length x.2.length := h0; unfold degP; omega
    have l3 : (byNumber x.2 (-q)).length ≤ x.2.length := Nat.le_trans (trim_le _) (by simp)
    have hl : (fillF (sumOf x.1 (byNumber x.2 (-q))) (degP x + 1)).length ≤ 400 := by unfold fillF; simp; omega
    refine bl_set 4 G (ex_if (k := false) (ext_isN (ex_v 1) tP_ne) (fun h => by cases h) fun _ => ex_call (c_lplus z) G (x.1, byNumber x.2 (-q)) (by decide) (exa_cons (ex_v 2) (exa_cons (ex_call (c_lscaled z) G (x.2, -q) (by decide) (exa_cons (ex_v 3) (exa_cons ((ex_tup (exa_cons (ex_sub ex_int (ex_num (ex_v 1))) (exa_cons (ex_den (ex_v 1)) exa_nil)) small2).eq (tP_neg _)) exa_nil)) ⟨b2, bq_neg bq, by simp only; omega⟩) exa_nil)) ⟨b1, b3, by simp only; omega, by simp only; omega⟩) ?_
    exact bl_ret (ex_call (c_lheaded z) G (fillF (sumOf x.1 (byNumber x.2 (-q))) (degP x + 1)) (by decide) (exa_cons (ex_call (c_lfilled z) G (sumOf x.1 (byNumber x.2 (-q)), degP x + 1) (by decide) (exa_cons (ex_v 4) (exa_cons ((ex_call (c_ldegree z) G x (by decide) (exa_cons (ex_v 0) exa_nil) h0).eq (tI_eq (by simp only; omega))) exa_nil)) ⟨by simp only; omega, by simp only; omega⟩) exa_nil) ⟨ht, bq_fill b4, by omega⟩)
theorem sc_c_lpart : FnScope ["_law_fraction", "_law_place_here"] ["_law_fraction", "_law_place_here"] (defScope sLPart) := ⟨rfl, rfl, rfl, by decide +kernel, rfl, by decide +kernel, by decide +kernel⟩
theorem c_lpart (z : Wf P w K mg base) : Fn P w K mg base "_law_part" 40 ["_law_fraction", "_law_place_here"] (spT (fun y : (List Rat × List Rat) × Option Rat => WAtOk y.1 y.2 ∧ LFibOk y.1 (lWorthAt y.1 y.2)) (fun y => [tFr y.1, tPo y.2]) fun y => tPs (lPart y.1 y.2)) := by
  obtain ⟨fd, F⟩ := z.c.fLPart
  refine fnb z.g_law_part F.kp (FunD.bindsN F fun _ _ _ _ _ _ us hl => match us, hl with | [_, _], _ => rfl) ?_
  refine fn_ty F sc_c_lpart (fun _ => rfl) fun cdv B outer s H E G y Hb hp => ?_
  obtain ⟨h1, h2⟩ := hp
  exact bl_ret (ex_call (c_lfibre z) G (y.1, lWorthAt y.1 y.2) (by decide) (exa_cons (ex_v 0) (exa_cons (ex_call (c_lworthAt z) G y (by decide) (exa_cons (ex_v 0) (exa_cons (ex_v 1) exa_nil)) h1) exa_nil)) h2)
end
end Wk
set_option Elab.async false
set_option linter.all false
set_option maxRecDepth 100000
set_option maxHeartbeats 1000000
/-! R14: what is put in; what the law asks. -/
namespace Wk
open PySem PySem.Spec PyProof.Rows L2 Ty Tx Mt
section
variable {P : Program} {w : World} {K : PySem.W.Frag} {mg : Str → Option Value} {base : Heap} {j : Nat} {X : Cx} {Γ : List Sl} {e a b c : Expr} {pos p : Pos}

theorem sc_c_lmade : FnScope ["_law_pot_here", "_law_fraction"] ["_law_pot_here", "_law_fraction"] (defScope sLMade) := ⟨rfl, rfl, rfl, by decide +kernel, rfl, by decide +kernel, by decide +kernel⟩
theorem c_lmade (z : Wf P w K mg base) : Fn P w K mg base "_law_made" 46 ["_law_pot_here", "_law_fraction"] (spT (fun y : List Rat × List Rat => LMadeOk y) (fun y => [tPot, tFr y]) fun y => tF K y) := by
  obtain ⟨fd, F⟩ := z.c.fLMade
  refine fnb z.g_law_made F.kp (FunD.bindsN F fun _ _ _ _ _ _ us hl => match us, hl with | [_, _], _ => rfl) ?_
  refine fn_ty F sc_c_lmade (fun _ => rfl) fun cdv B outer s H E G y Hb hp => ?_
  obtain ⟨l1, l2, t1, t2, n1, n2, h1, hc, hl⟩ := hp
  have fin : ∀ k1 k2 : Nat, k1 < 3 → k2 < 3 → MadeOk (y.1 ++ List.replicate k1 0, y.2 ++ List.replicate k2 0) ∧ madeF (y.1 ++ List.replicate k1 0, y.2 ++ List.replicate k2 0) = y := fun k1 k2 q1 q2 => by
    unfold MadeOk madeF
    simp only
    rw [trim_zeros t1, trim_zeros t2, h1, map_div1, map_div1]
    refine ⟨⟨?_, ?_, n1, n2, hc, hl⟩, rfl⟩
    · simp; omega
    · simp; omega
  obtain ⟨fd, F, _, bd, _⟩ := c_fractionInit z
  refine bl_ret (ex_makeX (R := tF K y) z.m_Fraction F G (by decide) z.g_Fraction bd (exa_cons (ex_call (c_lgiven z) G y.1 (by decide) (exa_cons (ex_v 0) (exa_cons (ex_ixT (ex_v 1) ex_int rfl) exa_nil)) (by show y.1.length ≤ 40; omega)) (exa_cons (ex_call (c_lgiven z) G y.2 (by decide) (exa_cons (ex_v 0) (exa_cons (ex_ixT (ex_v 1) ex_int rfl) exa_nil)) (by show y.2.length ≤ 40; omega)) exa_nil)) fun vs H its => ?_)
  obtain ⟨u, v, rfl, ⟨k1, hu⟩, k2, hv⟩ := its2 its
  obtain ⟨f1, f2⟩ := fin k1.1 k2.1 (by have := k1.2.2; omega) (by have := k2.2.2; omega)
  refine ⟨_, f1, .cons hu (.cons hv .nil), fun v H' h => ?_⟩
  rw [f2] at h
  exact h
theorem sc_c_lplace : FnScope ["_law_pot_here"] ["_law_pot_here"] (defScope sLPlace) := ⟨rfl, rfl, rfl, by decide +kernel, rfl, by decide +kernel, by decide +kernel⟩
theorem c_lplace (z : Wf P w K mg base) : Fn P w K mg base "_law_place" 37 ["_law_pot_here"] (spT (fun y : Unit => True) (fun y => [tPot]) fun y => tEx (fun o : { o : Option Rat // o ∈ E7 } => tPo o.1)) := by
  obtain ⟨fd, F⟩ := z.c.fLPlace
  refine fnb z.g_law_place F.kp (FunD.bindsN F fun _ _ _ _ _ _ us hl => match us, hl with | [_], _ => rfl) ?_
  refine fn_ty F sc_c_lplace (fun _ => rfl) fun cdv B outer s H E G y Hb hp => ?_
  refine bl_ret ((ex_call (c_pick z) G (E7.map tPo) (by decide) (exa_cons (ex_v 0) (exa_cons (EXL.ex (exl_lst ?_ (Nat.le_of_ble_eq_true rfl))) exa_nil)) ⟨Nat.le_of_ble_eq_true rfl, Nat.le_of_ble_eq_true rfl⟩).imp (R := tEx (fun o : { o : Option Rat // o ∈ E7 } => tPo o.1)) fun v H ⟨Q, hQ, h⟩ => by obtain ⟨q, hq, rfl⟩ := List.mem_map.mp hQ; exact ⟨⟨q, hq⟩, h⟩)
  show EXA _ _ _ [tP (rq 0 1), tP (rq 1 1), tP (rq (-1) 1), tP (rq 2 1), tP (rq (-3) 1), tP (rq 1 2), tP (rq (-3) 2), tN]
  refine exa_cons (ex_lit 0 1 ex_int ex_int) ?_
  refine exa_cons (ex_lit 1 1 ex_int ex_int) ?_
  refine exa_cons (ex_lit (-1) 1 ex_neg1 ex_int) ?_
  refine exa_cons (ex_lit 2 1 ex_int ex_int) ?_
  refine exa_cons (ex_lit (-3) 1 ex_neg1 ex_int) ?_
  refine exa_cons (ex_lit 1 2 ex_int ex_int) ?_
  refine exa_cons (ex_lit (-3) 2 ex_neg1 ex_int) ?_
  refine exa_cons ex_non ?_
  exact exa_nil
theorem sc_c_lgivenPlace : FnScope ["_law_pot_here", "_law_place_here"] ["_law_pot_here", "_law_place_here"] (defScope sLGivenPlace) := ⟨rfl, rfl, rfl, by decide +kernel, rfl, by decide +kernel, by decide +kernel⟩
theorem c_lgivenPlace (z : Wf P w K mg base) : Fn P w K mg base "_law_given_place" 38 ["_law_pot_here", "_law_place_here"] (spT (fun y : Option Rat => True) (fun y => [tPot, tPo y]) fun y => tPg K y) := by
  obtain ⟨fd, F⟩ := z.c.fLGivenPlace
  refine fnb z.g_law_given_place F.kp (FunD.bindsN F fun _ _ _ _ _ _ us hl => match us, hl with | [_, _], _ => rfl) ?_
  refine fn_ty F sc_c_lgivenPlace (fun _ => rfl) fun cdv B outer s H E G y Hb hp => ?_
  cases y with
  | none => exact bl_ret (ex_if (k := true) (ext_isN (ex_v 1) (fun v H h => by cases h; rfl)) (fun _ => ex_str) fun h => by cases h)
  | some q => exact bl_ret (ex_if (k := false) (ext_isN (ex_v 1) tP_ne) (fun h => by cases h) fun _ => ex_call (c_lpassed z) G q (by decide) (exa_cons (ex_v 0) (exa_cons (ex_v 1) exa_nil)) trivial)
theorem sc_c_lgivenForm : FnScope ["_law_pot_here", "_law_form", "_law_entry_here"] ["_law_pot_here", "_law_form"] (defScope sLGivenForm) := ⟨rfl, rfl, rfl, by decide +kernel, rfl, by decide +kernel, by decide +kernel⟩
theorem c_lgivenForm (z : Wf P w K mg base) : Fn P w K mg base "_law_given_form" 38 ["_law_pot_here", "_law_form"] (spT (fun y : List Rat => y.length ≤ 1000) (fun y => [tPot, tPs y]) fun y => tL (y.map (tG K))) := by
  obtain ⟨fd, F⟩ := z.c.fLGivenForm
  refine fnb z.g_law_given_form F.kp (FunD.bindsN F fun _ _ _ _ _ _ us hl => match us, hl with | [_, _], _ => rfl) ?_
  refine fn_ty F sc_c_lgivenForm (fun _ => rfl) fun cdv B outer s H E G y Hb hp => ?_
  exact bl_ret ((ex_of (lcM (T := tP) (T' := tG K) 2 (id : Rat → Rat) (EX.s (ex_v 1)) hp (fun u hu _ _ _ _ _ => ex_call (c_lpassed z) (G.blk _ _ _ _ _) u (by decide) (exa_cons (ex_v 0) (exa_cons (ex_v 2) exa_nil)) trivial) G) G).eq (by rw [List.map_id]))
theorem sc_c_led : FnScope ["_law_form", "_law_inner", "_law_high", "_law_total", "_law_at", "_law_entry_here", "_law_term", "_law_turn"] ["_law_form", "_law_inner"] (defScope sLLed) := ⟨rfl, rfl, rfl, by decide +kernel, rfl, by decide +kernel, by decide +kernel⟩
theorem c_led (z : Wf P w K mg base) : Fn P w K mg base "_law_led" 38 ["_law_form", "_law_inner"] (spT (fun y : List Rat × (List Rat × List Rat) => LLedOk y.1 y.2) (fun y => [tPs y.1, tFr y.2]) fun y => tPs (lLed y.1 y.2)) := by
  obtain ⟨fd, F⟩ := z.c.fLLed
  refine fnb z.g_law_led F.kp (FunD.bindsN F fun _ _ _ _ _ _ us hl => match us, hl with | [_, _], _ => rfl) ?_
  refine fn_ty F sc_c_led (fun _ => rfl) fun cdv B outer s H E G y Hb hp => ?_
  obtain ⟨form, x⟩ := y
  obtain ⟨hne, l1, h0, d1, tot, lT, hN, bT, ht⟩ := hp
  have hne : form ≠ [] := hne
  have l1 : form.length ≤ 50 := l1
  have tot : TotOk form x (form.length - 1) := tot
  have d1 : degP x ≤ 50 := d1
  have lT : (ledT form x).length ≤ 400 := lT
  have hN : (form.length - 1) * degP x ≤ 400 := hN
  have hpos := List.length_pos_iff.mpr hne
  refine bl_par 2 3 G (P1 := tI ((form.length - 1 : Nat) : Int)) (P2 := tPs []) ((ex_sub (ex_lenM z rfl (EX.s (ex_v 0))) ex_int).eq (tI_eq (by simp only; omega))) ((EXL.ex (exl_lst exa_nil (Nat.le_of_ble_eq_true rfl)))) ?_
  refine bl_forE 4 5 G (Ps := form.map tP) (ex_v 0) (fun i => [.val (tPs form), .val (tFr x), .val (tI ((form.length - 1 : Nat) : Int)), .val (tPs (totS form x (form.length - 1) i)), .no, .no, .no, .no]) (.same (.same (.same (.val rfl (.no (.no (.no (.no .nil)))))))) (fun Hk i Pt hPt => ?_) ?_ z.b_enumerate
  · obtain ⟨c, hc, rfl⟩ := mget hPt
    have hi : i < form.length := (List.getElem?_eq_some_iff.mp hc).1
    obtain ⟨s1, s2, s3, s4, s5⟩ := tot i hi
    rw [cf_of hc] at s1 s2 s3
    refine bl_set 6 G (Pt := tPs (tS x c i 0)) (ex_if (ext_nei (ex_num (ex_v 5)) ex_int) (fun h => (EXL.ex (exl_lst (exa_cons (ex_v 5) exa_nil) (Nat.le_of_ble_eq_true rfl))).eq ?_) fun h => (EXL.ex (exl_lst exa_nil (Nat.le_of_ble_eq_true rfl))).eq ?_) ?_
    · have h0 : c ≠ 0 := fun q => by rw [q] at h; simp at h
      show tL _ = tPs (tS x c i 0)
      unfold tS
      rw [if_pos h0]
      rfl
    · have h0 : c = 0 := Rat.num_eq_zero.mp (by simpa using h)
      show tL [] = tPs (tS x c i 0)
      unfold tS
      rw [if_neg (fun q => q h0)]
      rfl
    · refine bl_forR 7 G (n := ((form.length - 1 : Nat) : Int)) (ex_v 2) (by omega) (fun t => [.val (tPs form), .val (tFr x), .val (tI ((form.length - 1 : Nat) : Int)), .val (tPs (totS form x (form.length - 1) i)), .val (tI (i : Nat)), .val (tP c), .val (tPs (tS x c i t)), .no]) (.same (.same (.same (.same (.same (.same (.same (.no .nil)))))))) (fun t ht => ?_) ?_ z.b_range
      · refine bl_set 6 G (ex_call (c_ltimes z) G (tS x c i t, if t < i then x.1 else x.2) (by decide) (exa_cons (ex_v 6) (exa_cons (ex_if (ext_lt (ex_v 7) (ex_v 4)) (fun h => (ex_ixT (ex_v 1) ex_int rfl).eq (by rw [if_pos (by have := of_decide_eq_true h; omega)])) fun h => (ex_ixT (ex_v 1) ex_int rfl).eq (by rw [if_neg (by have := of_decide_eq_false h; omega)])) exa_nil)) (s1 t (by omega))) (bl_fin (.same (.same (.same (.same (.same (.same (.same (.no .nil)))))))) rfl)
      · rw [Int.toNat_natCast]
        refine bl_set 3 G (ex_call (c_lplus z) G (totS form x (form.length - 1) i, tS x c i (form.length - 1)) (by decide) (exa_cons (ex_v 3) (exa_cons (ex_v 6) exa_nil)) ⟨s4, s2, s5, s3⟩) (bl_fin (.same (.same (.same (.val ?_ (.no (.no (.no (.no .nil)))))))) rfl)
        show tPs (sumOf (totS form x (form.length - 1) i) (tS x (cf form i) i (form.length - 1))) = _
        rw [cf_of hc]
  · rw [List.length_map]
    have hl : (fillF (ledT form x) ((form.length - 1) * degP x + 1)).length ≤ 1000 := by unfold fillF; simp; omega
    exact bl_ret (ex_call (c_lheaded z) G (fillF (ledT form x) ((form.length - 1) * degP x + 1)) (by decide) (exa_cons (ex_call (c_lfilled z) G (ledT form x, (form.length - 1) * degP x + 1) (by decide) (exa_cons (ex_v 3) (exa_cons ((ex_mul (ex_v 2) (ex_call (c_ldegree z) G x (by decide) (exa_cons (ex_v 1) exa_nil) h0) (Bg.small (by omega)) (Bg.small (by omega))).eq (tI_eq (by rw [← Int.natCast_mul]; simp only; omega))) exa_nil)) ⟨lT, by simp only; omega⟩) exa_nil) ⟨ht, bq_fill bT, hl⟩)
theorem sc_c_lof : FnScope ["_law_fraction", "_law_inner", "_law_high", "_law_found", "_law_poly_here", "_law_total", "_law_at", "_law_entry_here", "_law_term", "_law_turn", "_law_head"] ["_law_fraction", "_law_inner"] (defScope sLOf) := ⟨rfl, rfl, rfl, by decide +kernel, rfl, by decide +kernel, by decide +kernel⟩
theorem c_lof (z : Wf P w K mg base) : Fn P w K mg base "_law_of" 38 ["_law_fraction", "_law_inner"] (spT (fun y : (List Rat × List Rat) × (List Rat × List Rat) => LOfOk y.1 y.2) (fun y => [tFr y.1, tFr y.2]) fun y => tFr (lOf y.1 y.2)) := by
  obtain ⟨fd, F⟩ := z.c.fLOf
  refine fnb z.g_law_of F.kp (FunD.bindsN F fun _ _ _ _ _ _ us hl => match us, hl with | [_, _], _ => rfl) ?_
  refine fn_ty F sc_c_lof (fun _ => rfl) fun cdv B outer s H E G y Hb hp => ?_
  obtain ⟨x, inner⟩ := y
  obtain ⟨h0, l1, l2, tot1, tot2, nB, hB, bT, bB, b1, lT, lB⟩ := hp
  have l1 : x.1.length ≤ 100 := l1
  have tot1 : TotOk x.1 inner (degP x) := tot1
  have tot2 : TotOk x.2 inner (degP x) := tot2
  have l2 : x.2.length ≤ 100 := l2
  have nB : ofB x inner ≠ [] := nB
  have lT : (ofT x inner).length ≤ 400 := lT
  have lB : (ofB x inner).length ≤ 400 := lB
  refine bl_parO 2 3 G (Ps := []) (P1 := tI (degP x : Nat)) (ex_call (c_ldegree z) G x (by decide) (exa_cons (ex_v 0) exa_nil) h0) (exl_lst exa_nil (Nat.le_of_ble_eq_true rfl)) ?_
  refine bl_forT 4 G (Ps := [tPs x.1, tPs x.2]) (ex_v 0) (fun i => [.val (tFr x), .val (tFr inner), .val (tI (degP x : Nat)), .own (([tPs (ofT x inner), tPs (ofB x inner)] : List Pd).take i), .no, .no, .no, .no, .no, .no, .no]) (.same (.same (.same (.same (.no (.no (.no (.no (.no (.no (.no .nil))))))))))) (fun Hk i Pt hPt => ?_) ?_
  · have hcase : ∃ poly, Pt = tPs poly ∧ TotOk poly inner (degP x) ∧ ([tPs (ofT x inner), tPs (ofB x inner)] : List Pd).take i ++ [tPs (totS poly inner (degP x) poly.length)] = ([tPs (ofT x inner), tPs (ofB x inner)] : List Pd).take (i + 1) ∧ i < 2 := by
      match i, hPt with
      | 0, hPt => cases hPt; exact ⟨x.1, rfl, tot1, rfl, by decide⟩
      | 1, hPt => cases hPt; exact ⟨x.2, rfl, tot2, rfl, by decide⟩
      | n + 2, hPt => simp at hPt
    obtain ⟨poly, rfl, tot, etake, hi2⟩ := hcase
    refine bl_set 5 G (Pt := tPs []) (EXL.ex (exl_lst exa_nil (Nat.le_of_ble_eq_true rfl))) ?_
    refine bl_forE 6 7 G (Ps := poly.map tP) (ex_v 4) (fun i' => [.val (tFr x), .val (tFr inner), .val (tI (degP x : Nat)), .own (([tPs (ofT x inner), tPs (ofB x inner)] : List Pd).take i), .val (tPs poly), .val (tPs (totS poly inner (degP x) i')), .no, .no, .no, .no, .no]) (.same (.same (.same (.same (.same (.val rfl (.no (.no (.no (.no (.no .nil))))))))))) (fun Hk2 i' Pt2 hPt2 => ?_) ?_ z.b_enumerate
    · obtain ⟨c, hc, rfl⟩ := mget hPt2
      have hi : i' < poly.length := (List.getElem?_eq_some_iff.mp hc).1
      obtain ⟨s1, s2, s3, s4, s5⟩ := tot i' hi
      rw [cf_of hc] at s1 s2 s3
      refine bl_set 8 G (Pt := tPs (tS inner c i' 0)) (ex_if (ext_nei (ex_num (ex_v 7)) ex_int) (fun h => (EXL.ex (exl_lst (exa_cons (ex_v 7) exa_nil) (Nat.le_of_ble_eq_true rfl))).eq ?_) fun h => (EXL.ex (exl_lst exa_nil (Nat.le_of_ble_eq_true rfl))).eq ?_) ?_
      · have h0 : c ≠ 0 := fun q => by rw [q] at h; simp at h
        show tL _ = tPs (tS inner c i' 0)
        unfold tS
        rw [if_pos h0]
        rfl
      · have h0 : c = 0 := Rat.num_eq_zero.mp (by simpa using h)
        show tL [] = tPs (tS inner c i' 0)
        unfold tS
        rw [if_neg (fun q => q h0)]
        rfl
      · refine bl_forR 9 G (n := ((degP x : Nat) : Int)) (ex_v 2) (by unfold degP; omega) (fun t => [.val (tFr x), .val (tFr inner), .val (tI (degP x : Nat)), .own (([tPs (ofT x inner), tPs (ofB x inner)] : List Pd).take i), .val (tPs poly), .val (tPs (totS poly inner (degP x) i')), .val (tI (i' : Nat)), .val (tP c), .val (tPs (tS inner c i' t)), .no, .no]) (.same (.same (.same (.same (.same (.same (.same (.same (.same (.no (.no .nil))))))))))) (fun t ht => ?_) ?_ z.b_range
        · refine bl_set 8 G (ex_call (c_ltimes z) G (tS inner c i' t, if t < i' then inner.1 else inner.2) (by decide) (exa_cons (ex_v 8) (exa_cons (ex_if (ext_lt (ex_v 9) (ex_v 6)) (fun h => (ex_ixT (ex_v 1) ex_int rfl).eq (by rw [if_pos (by have := of_decide_eq_true h; omega)])) fun h => (ex_ixT (ex_v 1) ex_int rfl).eq (by rw [if_neg (by have := of_decide_eq_false h; omega)])) exa_nil)) (s1 t (by omega))) (bl_fin (.same (.same (.same (.same (.same (.same (.same (.same (.same (.no (.no .nil))))))))))) rfl)
        · rw [Int.toNat_natCast]
          refine bl_set 5 G (ex_call (c_lplus z) G (totS poly inner (degP x) i', tS inner c i' (degP x)) (by decide) (exa_cons (ex_v 5) (exa_cons (ex_v 8) exa_nil)) ⟨s4, s2, s5, s3⟩) (bl_fin (.same (.same (.same (.same (.same (.val ?_ (.no (.no (.no (.no (.no .nil))))))))))) rfl)
          show tPs (sumOf (totS poly inner (degP x) i') (tS inner (cf poly i') i' (degP x))) = _
          rw [cf_of hc]
    · rw [List.length_map]
      exact bl_app 3 (Ps := ([tPs (ofT x inner), tPs (ofB x inner)] : List Pd).take i) (ex_v 5) (bl_fin (.same (.same (.same (.own etake.symm (.no (.no (.no (.no (.no (.no (.no .nil))))))))))) rfl) (by simp; omega)
  · refine bl_set 10 G (Pt := tP (1 / hd (ofB x inner))) (ex_call (c_lover z) G (1, hd (ofB x inner)) (by decide) (exa_cons ex_one1 (exa_cons (ex_ix (EX.s (Ps := (ofB x inner).map tP) (ex_ix (Ps := [tPs (ofT x inner), tPs (ofB x inner)]) (exs_v 3) ex_int rfl)) ex_neg1 (mlast (T := tP) nB)) exa_nil)) ⟨hB, ⟨Bg.one, Bg.one⟩, bB _ (hd_mem nB)⟩) ?_
    exact bl_ret (ex_tup (exa_cons (ex_call (c_lscaled z) G (ofT x inner, 1 / hd (ofB x inner)) (by decide) (exa_cons (ex_ix (Ps := [tPs (ofT x inner), tPs (ofB x inner)]) (exs_v 3) ex_int rfl) (exa_cons (ex_v 10) exa_nil)) ⟨bT, b1, by simp only; omega⟩) (exa_cons (ex_call (c_lscaled z) G (ofB x inner, 1 / hd (ofB x inner)) (by decide) (exa_cons (ex_ix (Ps := [tPs (ofT x inner), tPs (ofB x inner)]) (exs_v 3) ex_int rfl) (exa_cons (ex_v 10) exa_nil)) ⟨bB, b1, by simp only; omega⟩) exa_nil)) small2)
end
end Wk
set_option Elab.async false
set_option linter.all false
set_option maxRecDepth 100000
set_option maxHeartbeats 1000000
/-! R15: what the law asks; the law. -/
namespace Ty
open PySem PySem.Spec PyProof.Rows L2
section
variable {P : Program} {w : World} {K : PySem.W.Frag} {mg : Str → Option Value} {base : Heap} {k : Nat} {X : Cx} {E : Ec} {Γ : List Sl} {e a b c : Expr} {P1 P2 P3 : Pd} {pos p : Pos} {rest : List Stmt}
theorem bl_par3 (i j l : Nat) {x y z : Str} {px py pz pt : Pos} {kt k2 pt2} (G : Good P w K mg base k X) (ha : EX X Γ a P1) (hb : EX X Γ b P2) (hc : EX X Γ c P3) (kk : BL X E (((Γ.set i (.val P1)).set j (.val P2)).set l (.val P3)) rest) (hi : X.N[i]? = some x := by rfl) (hj : X.N[j]? = some y := by rfl) (hl : X.N[l]? = some z := by rfl) (hij : i ≠ j := by decide) (hil : i ≠ l := by decide) (hjl : j ≠ l := by decide)
    (hx : X.env.scope.names.lookup x = some .local := by rfl) (hy : X.env.scope.names.lookup y = some .local := by rfl) (hz : X.env.scope.names.lookup z = some .local := by rfl) (hw : swappedStores [.Tuple [.Name x px, .Name y py, .Name z pz] kt pt] (.Tuple [a, b, c] k2 pt2) X.env = pure (some [x, y, z]) := by rfl)
    (hs : swapsWithSole [.Tuple [.Name x px, .Name y py, .Name z pz] kt pt] (.Tuple [a, b, c] k2 pt2) pos.line X.env = pure false := by rfl)
    (he : starEach [a, b, c] X.env = (false, eval a X.env) :: starEach [b, c] X.env := by rfl) (he2 : starEach [b, c] X.env = (false, eval b X.env) :: starEach [c] X.env := by rfl) (he3 : starEach [c] X.env = (false, eval c X.env) :: starEach [] X.env := by rfl) : BL X E Γ (.Assign [.Tuple [.Name x px, .Name y py, .Name z pz] kt pt] (.Tuple [a, b, c] k2 pt2) pos :: rest) := fun σ H ⟨h1, Hb, h2, hk, h3⟩ =>
  wS.of (pss_cons (ps_par3 G.calm G.nd hi hj hl hij hil hjl hx hy hz pa_w hw hs) pss_w) (((exa_cons ha (exa_cons hb (exa_cons hc exa_nil he3) he2) he) E.H0 σ Hb H h2.s h3).mono fun vs H1 ⟨Hb1, st, q⟩ => by
    cases q with
    | cons q1 r1 =>
      cases r1 with
      | cons q2 r2 =>
        cases r2 with
        | cons q3 r3 =>
          cases r3
          exact ⟨_, _, _, rfl, kk _ _ ⟨by rw [List.length_set, List.length_set, List.length_set]; exact h1, Hb1, h2.trans st, hk.trans st.b, (((h3.step st).set (nlt hi h1) q1).set (nlt hj (by rw [List.length_set]; exact h1)) q2).set (nlt hl (by rw [List.length_set, List.length_set]; exact h1)) q3⟩⟩)
/-- a is not True, a is True -/
theorem ext_notT (ha : EX X Γ a (tB true)) {j p2} (hm : behindInMarks .IsNot (.Constant (.bool true) j p2) = false := by first | exact nomark _ | rfl) : EXT X Γ (.Compare a [.IsNot] [.Constant (.bool true) j p2] pos) false :=
  ext_cmp op_notBl ha ex_bl (fun x y Hb H Q e p q kk => by cases p; cases q; exact ⟨true, true, rfl, rfl, kk Hb H (Step.refl e)⟩) hm
/-- the script -/
def tSq (K : PySem.W.Frag) (ns : List Int) : Pd := ⟨fun v H => ∃ a, v = .ref a ∧ SqL K H a (ns.map V.int), fun e ⟨a, h1, h2⟩ => ⟨a, h1, by
  rcases h2 with (h | ⟨o, h⟩) | h
  · exact .inl (.inl (e _ _ h))
  · exact .inl (.inr ⟨o, e _ _ h⟩)
  · exact .inr h⟩⟩
theorem SqL.ext {K : PySem.W.Frag} {H H' : Hp} {a : Addr} {xs : List V} (e : Ext H H') (h : SqL K H a xs) : SqL K H' a xs := by
  rcases h with (h | ⟨o, h⟩) | h
  · exact .inl (.inl (e _ _ h))
  · exact .inl (.inr ⟨o, e _ _ h⟩)
  · exact .inr h
theorem ex_lenS {ns : List Int} (hX : X.K = K) (h : EX X Γ e (tSq K ns)) (hm : X.mg "len" = none) (hg : Gl X "len" := by rfl) (he : starEach [e] X.env = (false, eval e X.env) :: starEach [] X.env := by rfl) (hpl : (backTo pos (starEach [] X.env)).any (·.1) = false := by rfl) : EX X Γ (.Call (.Name "len" p) [e] [] pos) (tI (ns.length : Nat)) := fun H0 σ Hb H x s =>
  wE.of (pe_callB call_len_seq hg hm PySem.boot_len (pa_cons pe_w pa_nil he) (by decide) (by decide) he hpl) ((h H0 σ Hb H x s).mono fun v H1 ⟨Hb1, st1, a, e1, e2⟩ => by
    subst e1
    subst hX
    exact ⟨a, ns.map V.int, rfl, .inl (e2.ext st1.s), Hb1, st1, by show V.int _ = V.int _; rw [List.length_map]⟩)
theorem ex_ixS {ns : List Int} {i n : Int} (hX : X.K = K) (h : EX X Γ a (tSq K ns)) (hb : EX X Γ b (tI i)) (e : atI (ns.map V.int) i = some (.int n)) (hs : PlainIx b := by exact fun _ _ => rfl) : EX X Γ (.Subscript a b pos) (tI n) := fun H0 σ Hb H x s =>
  wE.of (pe_ix ix_list pe_w pe_w hs) ((h H0 σ Hb H x s).mono fun v H1 ⟨Hb1, st1, l, e1, e2⟩ => (hb H0 σ Hb1 H1 st1.s (s.step st1)).mono fun u H2 ⟨Hb2, st2, q2⟩ => by
    subst hX
    exact ⟨l, ns.map V.int, i, .int n, e1, q2, (e2.ext st1.s).ext st2.h, e, Hb2, st1.trans st2, rfl⟩)
end
end Ty
namespace Wk
open PySem PySem.Spec PyProof.Rows L2 Ty Tx Mt
/-- what the law asks at one place -/
def PlaceOk (f h F : List Rat × List Rat) (o : Option Rat) : Prop :=
  LMadeOk F ∧ LMadeOk h ∧ LMadeOk f ∧ WAtOk h o ∧ WAtOk f (lWorthAt h o) ∧ LFibOk f (lWorthAt f (lWorthAt h o)) ∧ LLedOk (lPart f (lWorthAt h o)) h ∧ (lLed (lPart f (lWorthAt h o)) h).length ≤ 1000 ∧
  PartOk F o ∧ PartOk h o ∧ FormOk (partAt F o) ∧ FormOk (lLed (lPart f (lWorthAt h o)) h) ∧ ToldOk (partAt F o) ∧ ToldOk (lLed (lPart f (lWorthAt h o)) h) ∧ toldOf (partAt F o) = toldOf (lLed (lPart f (lWorthAt h o)) h) ∧
  FormOk (partAt h o) ∧ RestOk (partAt h o) (partAt F o) ∧ FormOk (restIn (partAt h o) (partAt F o)) ∧ (partAt h o).length + (restIn (partAt h o) (partAt F o)).length ≤ 26 ∧ ProdOk (partAt h o) (restIn (partAt h o) (partAt F o)) ∧
  productIn (partAt h o) (restIn (partAt h o) (partAt F o)) = partAt F o ∧
  ∃ m1 m2 m3 : Nat, TakenOk F o m1 ∧ TakenOk h o m2 ∧ TakenOk f (lWorthAt h o) m3 ∧ m1 = m2 * m3 ∧ m2 ≤ 1000 ∧ m3 ≤ 1000
def TurnAll (f h F : List Rat × List Rat) : Prop :=
  LMadeOk F ∧ LMadeOk h ∧ LMadeOk f ∧ TurnOk f ∧ TurnOk h ∧ TurnOk F ∧ (turningOf f).length ≤ 1000 ∧ LLedOk (turningOf f) h ∧ (lLed (turningOf f) h).length ≤ 1000 ∧ FormOk (turningOf h) ∧ FormOk (lLed (turningOf f) h) ∧ (turningOf h).length + (lLed (turningOf f) h).length ≤ 26 ∧ ProdOk (turningOf h) (lLed (turningOf f) h) ∧
  productIn (turningOf h) (lLed (turningOf f) h) = turningOf F
def FibAll (f h F : List Rat × List Rat) (o : Option Rat) : Prop :=
  LMadeOk F ∧ LFibOk f o ∧ LLedOk (lFibre f o) h ∧ 0 < degP F ∧ FibOk F o ∧ (fibreOf F o).length ≤ 1000 ∧ fibreOf F o = lLed (lFibre f o) h
def PutAll (f h F : List Rat × List Rat) : Prop :=
  LMadeOk f ∧ LMadeOk h ∧ 0 < max f.1.length f.2.length ∧ 0 < max h.1.length h.2.length ∧ degF f * degF h ≤ 24 ∧ degF f ≤ 100 ∧ degF h ≤ 100 ∧ PutOk f.1 f.2 h.1 h.2 ∧ (putPair f.1 f.2 h.1 h.2).1 ≠ [] ∧ (putPair f.1 f.2 h.1 h.2).2 ≠ [] ∧ hd (putPair f.1 f.2 h.1 h.2).2 ≠ 0 ∧ BqL (putPair f.1 f.2 h.1 h.2).1 ∧ BqL (putPair f.1 f.2 h.1 h.2).2 ∧ (putPair f.1 f.2 h.1 h.2).1.length ≤ 1000 ∧ (putPair f.1 f.2 h.1 h.2).2.length ≤ 1000 ∧
  ((putPair f.1 f.2 h.1 h.2).1.map (· / hd (putPair f.1 f.2 h.1 h.2).2), (putPair f.1 f.2 h.1 h.2).2.map (· / hd (putPair f.1 f.2 h.1 h.2).2)) = F
/-- all that is asked of two full fractions -/
def AllOk (f h : List Rat × List Rat) : Prop := LOfOk f h ∧ (∀ o, o ∈ E7 → PlaceOk f h (lOf f h) o) ∧ TurnAll f h (lOf f h) ∧ (∀ o, o ∈ E7 → FibAll f h (lOf f h) o) ∧ PutAll f h (lOf f h)
def DrawAll : Prop := (∀ p q, DrawP 4 p → DrawS 4 q → LLowOk p q) ∧ ∀ f h, FullIs 4 f → FullIs 4 h → AllOk f h
section
variable {P : Program} {w : World} {K : PySem.W.Frag} {mg : Str → Option Value} {base : Heap} {j : Nat} {X : Cx} {Γ : List Sl} {e a b c : Expr} {pos p : Pos}

theorem sc_c_placeRight : FnScope ["_law_pot_here", "_law_outer", "_law_inner", "_law_whole", "_law_place_here", "_law_given_here", "_law_near", "_law_far", "_law_passed_here", "_law_worth_here", "_law_goal", "_law_told_here", "_law_rest"] ["_law_pot_here", "_law_outer", "_law_inner", "_law_whole", "_law_place_here"] (defScope sLPlaceRight) := ⟨rfl, rfl, rfl, by decide +kernel, rfl, by decide +kernel, by decide +kernel⟩
theorem c_placeRight (z : Wf P w K mg base) : Fn P w K mg base "_law_place_right" 50 ["_law_pot_here", "_law_outer", "_law_inner", "_law_whole", "_law_place_here"] (spT (fun y : ((List Rat × List Rat) × (List Rat × List Rat) × (List Rat × List Rat)) × Option Rat => PlaceOk y.1.1 y.1.2.1 y.1.2.2 y.2) (fun y => [tPot, tFr y.1.1, tFr y.1.2.1, tFr y.1.2.2, tPo y.2]) fun y => tB true) := by
  obtain ⟨fd, F⟩ := z.c.fLPlaceRight
  refine fnb z.g_law_place_right F.kp (FunD.bindsN F fun _ _ _ _ _ _ us hl => match us, hl with | [_, _, _, _, _], _ => rfl) ?_
  refine fn_ty F sc_c_placeRight (fun _ => rfl) fun cdv B outer s H E G y Hb hp => ?_
  obtain ⟨⟨f, h, F⟩, o⟩ := y
  obtain ⟨mF, mh, mf, wh, wf, lf, ll, le, pF, ph, fT, fL, tT, tL', el, fD, rD, fR, sR, pR, eP, m1, m2, m3, k1, k2, k3, em, s2, s3⟩ := hp
  simp only at mF mh mf wh wf lf ll le pF ph fT fL tT tL' el fD rD fR sR pR eP k1 k2 k3
  refine bl_par3 5 6 7 G (ex_call (c_lmade z) G F (by decide) (exa_cons (ex_v 0) (exa_cons (ex_v 3) exa_nil)) mF) (ex_call (c_lmade z) G h (by decide) (exa_cons (ex_v 0) (exa_cons (ex_v 2) exa_nil)) mh) (ex_call (c_lmade z) G f (by decide) (exa_cons (ex_v 0) (exa_cons (ex_v 1) exa_nil)) mf) ?_
  refine bl_par 8 9 G (ex_call (c_lgivenPlace z) G o (by decide) (exa_cons (ex_v 0) (exa_cons (ex_v 4) exa_nil)) trivial) (ex_call (c_lworthAt z) G (h, o) (by decide) (exa_cons (ex_v 2) (exa_cons (ex_v 4) exa_nil)) wh) ?_
  refine bl_set 10 G (ex_call (c_lgivenPlace z) G (lWorthAt h o) (by decide) (exa_cons (ex_v 0) (exa_cons (ex_v 9) exa_nil)) trivial) ?_
  refine bl_set 11 G (ex_call (c_part z) G (F, o) (by decide) (exa_cons (ex_v 5) (exa_cons (ex_v 8) exa_nil)) pF) ?_
  refine bl_ifr (t := false) (ext_notT (ex_call (c_areLike z) G (partAt F o, lLed (lPart f (lWorthAt h o)) h) (by decide) (exa_cons ((ex_v 11).imp (tQsG _)) (exa_cons (ex_call (c_lgivenForm z) G (lLed (lPart f (lWorthAt h o)) h) (by decide) (exa_cons (ex_v 0) (exa_cons (ex_call (c_led z) G (lPart f (lWorthAt h o), h) (by decide) (exa_cons (ex_call (c_lpart z) G (f, lWorthAt h o) (by decide) (exa_cons (ex_v 1) (exa_cons (ex_v 9) exa_nil)) ⟨wf, lf⟩) (exa_cons (ex_v 2) exa_nil)) ll) exa_nil)) le) exa_nil)) ⟨fT, fL, tT, tL', el⟩)) (fun h => by cases h) fun _ => ?_
  refine bl_ifr (t := false) (ext_notT (ex_call (c_divides z) G (partAt h o, partAt F o) (by decide) (exa_cons ((ex_call (c_part z) G (h, o) (by decide) (exa_cons (ex_v 6) (exa_cons (ex_v 8) exa_nil)) ph).imp (tQsG _)) (exa_cons ((ex_v 11).imp (tQsG _)) exa_nil)) ⟨fD, fT, rD⟩)) (fun h => by cases h) fun _ => ?_
  refine bl_set 12 G (ex_call (c_restForm z) G (partAt h o, partAt F o) (by decide) (exa_cons ((ex_call (c_part z) G (h, o) (by decide) (exa_cons (ex_v 6) (exa_cons (ex_v 8) exa_nil)) ph).imp (tQsG _)) (exa_cons ((ex_v 11).imp (tQsG _)) exa_nil)) ⟨fD, fT, rD⟩) ?_
  refine bl_ifr (t := false) (ext_neQs z G (by decide) (qs := partAt F o) ((ex_call (c_product z) G (partAt h o, restIn (partAt h o) (partAt F o)) (by decide) (exa_cons ((ex_call (c_part z) G (h, o) (by decide) (exa_cons (ex_v 6) (exa_cons (ex_v 8) exa_nil)) ph).imp (tQsG _)) (exa_cons ((ex_v 12).imp (tQsG _)) exa_nil)) ⟨fD, fR, sR, pR⟩).eq (by simp only; rw [eP])) (ex_v 11)) (fun h => by cases h) fun _ => ?_
  exact bl_ret ((ex_eqV (ex_call (c_taken z) G ((F, o), m1) (by decide) (exa_cons (ex_v 5) (exa_cons (ex_v 8) exa_nil)) k1) (ex_mul (ex_call (c_taken z) G ((h, o), m2) (by decide) (exa_cons (ex_v 6) (exa_cons (ex_v 8) exa_nil)) k2) (ex_call (c_taken z) G ((f, lWorthAt h o), m3) (by decide) (exa_cons (ex_v 7) (exa_cons (ex_v 10) exa_nil)) k3) (Bg.small (by simp only; omega)) (Bg.small (by simp only; omega))) rfl).eq (by rw [decide_eq_true]; simp only; rw [em, Int.natCast_mul]))
theorem sc_c_turningRight : FnScope ["_law_pot_here", "_law_outer", "_law_inner", "_law_whole", "_law_given_here", "_law_near", "_law_far", "_law_led_here"] ["_law_pot_here", "_law_outer", "_law_inner", "_law_whole"] (defScope sLTurningRight) := ⟨rfl, rfl, rfl, by decide +kernel, rfl, by decide +kernel, by decide +kernel⟩
theorem c_turningRight (z : Wf P w K mg base) : Fn P w K mg base "_law_turning_right" 50 ["_law_pot_here", "_law_outer", "_law_inner", "_law_whole"] (spT (fun y : (List Rat × List Rat) × (List Rat × List Rat) × (List Rat × List Rat) => TurnAll y.1 y.2.1 y.2.2) (fun y => [tPot, tFr y.1, tFr y.2.1, tFr y.2.2]) fun y => tB true) := by
  obtain ⟨fd, F⟩ := z.c.fLTurningRight
  refine fnb z.g_law_turning_right F.kp (FunD.bindsN F fun _ _ _ _ _ _ us hl => match us, hl with | [_, _, _, _], _ => rfl) ?_
  refine fn_ty F sc_c_turningRight (fun _ => rfl) fun cdv B outer s H E G y Hb hp => ?_
  obtain ⟨f, h, F⟩ := y
  obtain ⟨mF, mh, mf, kf, kh, kF, lt, ll, le, f1, f2, s2, pr, eT⟩ := hp
  simp only at mF mh mf kf kh kF lt ll le f1 f2 s2 pr eT
  refine bl_par3 4 5 6 G (ex_call (c_lmade z) G F (by decide) (exa_cons (ex_v 0) (exa_cons (ex_v 3) exa_nil)) mF) (ex_call (c_lmade z) G h (by decide) (exa_cons (ex_v 0) (exa_cons (ex_v 2) exa_nil)) mh) (ex_call (c_lmade z) G f (by decide) (exa_cons (ex_v 0) (exa_cons (ex_v 1) exa_nil)) mf) ?_
  refine bl_set 7 G (ex_call (c_lgivenForm z) G (lLed (turningOf f) h) (by decide) (exa_cons (ex_v 0) (exa_cons (ex_call (c_led z) G (turningOf f, h) (by decide) (exa_cons (ex_call (c_ltold z) G (turningOf f) (by decide) (exa_cons (ex_call (c_turning z) G f (by decide) (exa_cons (ex_v 6) exa_nil) kf) exa_nil) lt) (exa_cons (ex_v 2) exa_nil)) ll) exa_nil)) le) ?_
  exact bl_ret (ex_eqQs z G (by decide) (qs := turningOf F) (ex_call (c_turning z) G F (by decide) (exa_cons (ex_v 4) exa_nil) kF) ((ex_call (c_product z) G (turningOf h, lLed (turningOf f) h) (by decide) (exa_cons ((ex_call (c_turning z) G h (by decide) (exa_cons (ex_v 5) exa_nil) kh).imp (tQsG _)) (exa_cons (ex_v 7) exa_nil)) ⟨f1, f2, s2, pr⟩).eq (by simp only; rw [eT])))
theorem sc_c_right : FnScope ["_law_pot_here", "_law_outer", "_law_inner", "_law_own", "_law_place_here", "_law_goal", "_law_whole"] ["_law_pot_here"] (defScope sLRight) := ⟨rfl, rfl, rfl, by decide +kernel, rfl, by decide +kernel, by decide +kernel⟩
theorem c_right (z : Wf P w K mg base) : Fn P w K mg base "_law_right" 52 ["_law_pot_here"] (spT (fun y : Unit => DrawAll) (fun y => [tPot]) fun y => tB true) := by
  obtain ⟨fd, F⟩ := z.c.fLRight
  refine fnb z.g_law_right F.kp (FunD.bindsN F fun _ _ _ _ _ _ us hl => match us, hl with | [_], _ => rfl) ?_
  refine fn_ty F sc_c_right (fun _ => rfl) fun cdv B outer s H E G y Hb hp => ?_
  obtain ⟨hlow, hall⟩ := hp
  refine bl_par 1 2 G (ex_call (c_lfull z) G 3 (by decide) (exa_cons (ex_v 0) (exa_cons ex_int exa_nil)) ⟨by decide, hlow⟩) (ex_call (c_lfull z) G 3 (by decide) (exa_cons (ex_v 0) (exa_cons ex_int exa_nil)) ⟨by decide, hlow⟩) ?_
  refine bl_case 1 fun f => bl_case 2 fun h => ?_
  obtain ⟨f, hf⟩ := f
  obtain ⟨h, hh⟩ := h
  obtain ⟨hof, hpl, htu, hfi, hpu⟩ := hall f h hf hh
  refine bl_set 3 G (ex_call (c_lof z) G (f, h) (by decide) (exa_cons (ex_v 1) (exa_cons (ex_v 2) exa_nil)) hof) ?_
  refine bl_for 4 G (Ps := [tEx (fun o : { o : Option Rat // o ∈ E7 } => tPo o.1), tEx (fun o : { o : Option Rat // o ∈ E7 } => tPo o.1), tEx (fun o : { o : Option Rat // o ∈ E7 } => tPo o.1)]) (EXL.ex (exl_lst (exa_cons (ex_call (c_lplace z) G () (by decide) (exa_cons (ex_v 0) exa_nil) trivial) (exa_cons (ex_call (c_lplace z) G () (by decide) (exa_cons (ex_v 0) exa_nil) trivial) (exa_cons (EX.some (T := fun o : { o : Option Rat // o ∈ E7 } => tPo o.1) (y := ⟨none, by decide⟩) ex_non) exa_nil))) (Nat.le_of_ble_eq_true rfl))) (fun _ => [.val tPot, .val (tFr f), .val (tFr h), .val (tFr (lOf f h)), .no, .no, .no]) (.same (.same (.same (.same (.no (.no (.no .nil))))))) (fun Hk i Pt hPt => ?_) ?_
  · have e : Pt = tEx (fun o : { o : Option Rat // o ∈ E7 } => tPo o.1) := by
      match i, hPt with
      | 0, hPt => cases hPt; rfl
      | 1, hPt => cases hPt; rfl
      | 2, hPt => cases hPt; rfl
      | n + 3, hPt => simp at hPt
    subst e
    refine bl_case 4 fun o => ?_
    exact bl_ifr (t := false) (ext_not (ext_val (ex_call (c_placeRight z) G ((f, h, lOf f h), o.1) (by decide) (exa_cons (ex_v 0) (exa_cons (ex_v 1) (exa_cons (ex_v 2) (exa_cons (ex_v 3) (exa_cons (ex_v 4) exa_nil))))) (hpl o.1 o.2)))) (fun h => by cases h) fun _ => bl_fin (.same (.same (.same (.same (.no (.no (.no .nil))))))) rfl
  refine bl_ifr (t := false) (ext_not (ext_val (ex_call (c_turningRight z) G (f, h, lOf f h) (by decide) (exa_cons (ex_v 0) (exa_cons (ex_v 1) (exa_cons (ex_v 2) (exa_cons (ex_v 3) exa_nil)))) htu))) (fun h => by cases h) fun _ => ?_
  refine bl_par 5 6 G (ex_call (c_lplace z) G () (by decide) (exa_cons (ex_v 0) exa_nil) trivial) (ex_call (c_lmade z) G (lOf f h) (by decide) (exa_cons (ex_v 0) (exa_cons (ex_v 3) exa_nil)) htu.1) ?_
  refine bl_case 5 fun o => ?_
  obtain ⟨o, ho⟩ := o
  obtain ⟨_, g1, g2, g3, g4, g5, g6⟩ := hfi o ho
  refine bl_ifr (t := false) (ext_neP (xs := (fibreOf (lOf f h) o).map fun q => (q.num, (q.den : Int))) G (by decide) ((ex_call (c_ltold z) G (fibreOf (lOf f h) o) (by decide) (exa_cons (ex_call (c_fibre z) G (lOf f h, o) (by decide) (exa_cons (ex_v 6) (exa_cons (ex_call (c_lgivenPlace z) G o (by decide) (exa_cons (ex_v 0) (exa_cons (ex_v 5) exa_nil)) trivial) exa_nil)) ⟨g3, g4⟩) exa_nil) g5).eq (by rw [List.map_map]; rfl)) ((ex_call (c_led z) G (lFibre f o, h) (by decide) (exa_cons (ex_call (c_lfibre z) G (f, o) (by decide) (exa_cons (ex_v 1) (exa_cons (ex_v 5) exa_nil)) g1) (exa_cons (ex_v 2) exa_nil)) g2).eq (by rw [g6, List.map_map]; rfl))) (fun h => by cases h) fun _ => ?_
  obtain ⟨q1, q2, q3, q4, q5, q6, q7, q8, q9, q10, q11, q12, q13, q14, q15, q16⟩ := hpu
  exact bl_ret (ex_eqF z G (by decide) ((ex_call (c_put z) G (f, h) (by decide) (exa_cons (ex_call (c_lmade z) G f (by decide) (exa_cons (ex_v 0) (exa_cons (ex_v 1) exa_nil)) q1) (exa_cons (ex_call (c_lmade z) G h (by decide) (exa_cons (ex_v 0) (exa_cons (ex_v 2) exa_nil)) q2) exa_nil)) ⟨q3, q4, q5, q6, q7, q8, q9, q10, q11, q12, q13, q14, q15⟩).eq (by simp only; rw [q16])) (ex_v 6))
theorem sc_c_pot : FnScope ["_law_script", "_law_k", "_law_cell"] ["_law_script", "_law_k"] (defScope sLPot) := ⟨rfl, rfl, rfl, by decide +kernel, rfl, by decide +kernel, by decide +kernel⟩
theorem c_pot (z : Wf P w K mg base) : Fn P w K mg base "_law_pot" 33 ["_law_script", "_law_k"] (spT (fun y : List Int => True) (fun y => [tSq K y, tI 0]) fun y => tPot) := by
  obtain ⟨fd, F⟩ := z.c.fLPot
  refine fnb z.g_law_pot F.kp (FunD.bindsN F fun _ _ _ _ _ _ us hl => match us, hl with | [_, _], _ => rfl) ?_
  refine fn_ty F sc_c_pot (fun _ => rfl) fun cdv B outer s H E G y Hb hp => ?_
  have key : ∀ (c : Int), 0 ≤ c → BL (cxB P w K mg base ["_law_script", "_law_k", "_law_cell"] "_law_pot" (defScope sLPot) (plA K (.glo "_law_pot")) cdv B outer s H E) (Ec.fn Hb H tPot) [.val (tSq K y), .val (tI 0), .val (tI c)] ((defBody sLPot).drop 2) := fun c hc => by
    refine bl_ret (ex_mkPot (exl_lst (exa_cons (EX.tin (q := potOk 0) (ex_max G (exa_cons ex_int (exa_cons (ex_sub (ex_v 2) (ex_pow ex_int ex_int ⟨by decide, by decide⟩)) exa_nil)) z.b_max) ?_) (exa_cons (EX.tin (q := potOk 1) (ex_add (ex_mod (ex_mul (ex_toint (exa_cons (ex_add (ex_mod (ex_toint (exa_cons (ex_v 2) exa_nil) z.b_int) ex_int (by decide)) ex_int) exa_nil) z.b_int) (ex_pow (ex_add (ex_mul ex_int (ex_v 1) (Bg.small (by decide)) (Bg.small (by decide))) ex_int) ex_int ⟨by decide, by decide⟩) ?_ ?_) ex_int (by decide)) ex_int) ?_) exa_nil)) small2))
    · exact ⟨by split <;> omega, fun h => by cases h⟩
    · have h1 := Int.emod_nonneg c (show (2147483549 : Int) ≠ 0 by decide)
      have h2 := Int.emod_lt_of_pos c (show (0 : Int) < 2147483549 by decide)
      exact Bg.of (a := 40) (by omega) (by decide)
    · exact Bg.small (by decide)
    · exact ⟨by have := Int.emod_nonneg ((c % 2147483549 + 83) * (2 * 0 + 3) ^ (3 : Int).toNat) (show (2147483477 : Int) ≠ 0 by decide); omega, fun _ => by have := Int.emod_lt_of_pos ((c % 2147483549 + 83) * (2 * 0 + 3) ^ (3 : Int).toNat) (show (0 : Int) < 2147483477 by decide); omega⟩
  refine bl_set 2 G (ex_add (ex_mul ex_int (ex_v 1) (Bg.small (by decide)) (Bg.small (by decide))) ex_int) ?_
  cases y with
  | nil => exact bl_ifj [.val (tSq K []), .val (tI 0), .val (tI 83)] (ext_lt (ex_v 1) (ex_lenS rfl (ex_v 0) z.b_len)) (fun h => absurd (of_decide_eq_true h) (by decide)) (fun _ => bl_fin (.same (.same (.same .nil))) rfl) (key 83 (by decide))
  | cons n ns =>
    refine bl_ifj [.val (tSq K (n :: ns)), .val (tI 0), .val (tI (if n < 0 then -n else n))] (ext_lt (ex_v 1) (ex_lenS rfl (ex_v 0) z.b_len)) (fun h => ?_) (fun h => absurd (of_decide_eq_false h) (by simp)) (key _ (by split <;> omega))
    exact bl_set 2 G (ex_abs (exa_cons (ex_ixS rfl (ex_v 0) (ex_v 1) (at_nat (n := 0) rfl)) exa_nil) z.b_abs) (bl_fin (.same (.same (.same .nil))) rfl)
theorem sc_c_law : FnScope ["_law_script"] ["_law_script"] (defScope sLLaw) := ⟨rfl, rfl, rfl, by decide +kernel, rfl, by decide +kernel, by decide +kernel⟩
theorem c_law (z : Wf P w K mg base) : Fn P w K mg base "law" 54 ["_law_script"] (spT (fun y : List Int => DrawAll) (fun y => [tSq K y]) fun y => tB true) := by
  obtain ⟨fd, F⟩ := z.c.fLLaw
  refine fnb z.g_law F.kp (FunD.bindsN F fun _ _ _ _ _ _ us hl => match us, hl with | [_], _ => rfl) ?_
  refine fn_ty F sc_c_law (fun _ => rfl) fun cdv B outer s H E G y Hb hp => ?_
  exact bl_ret (ex_call (c_right z) G () (by decide) (exa_cons (ex_call (c_pot z) G y (by decide) (exa_cons (ex_v 0) (exa_cons ex_int exa_nil)) trivial) exa_nil) hp)
end
end Wk
set_option Elab.async false
set_option linter.all false
set_option maxHeartbeats 1000000
/-! M3: rows as functions; rows that agree far out agree. -/
namespace Mt
def ev : List Rat → Rat → Rat
  | [], _ => 0
  | a :: t, x => a + x * ev t x
theorem ev_addL (p q : List Rat) (x : Rat) : ev (addL p q) x = ev p x + ev q x := by
  induction p generalizing q with
  | nil => show ev q x = 0 + ev q x; grind
  | cons a p ih =>
    cases q with
    | nil => rw [addL_nil]; show _ = _ + (0 : Rat); grind
    | cons b q =>
      show (a + b) + x * ev (addL p q) x = (a + x * ev p x) + (b + x * ev q x)
      rw [ih]; grind
theorem ev_map (p : List Rat) (f : Rat → Rat) (r : Rat) (hf : ∀ c, f c = c * r) (x : Rat) : ev (p.map f) x = ev p x * r := by
  induction p with
  | nil => show (0 : Rat) = 0 * r; grind
  | cons a p ih => show f a + x * ev (p.map f) x = (a + x * ev p x) * r; rw [ih, hf]; grind
theorem ev_app (p q : List Rat) (x : Rat) : ev (p ++ q) x = ev p x + x ^ p.length * ev q x := by
  induction p with
  | nil => show ev q x = 0 + x ^ 0 * ev q x; grind
  | cons a p ih => show a + x * ev (p ++ q) x = (a + x * ev p x) + x ^ (p.length + 1) * ev q x; rw [ih]; grind
theorem ev_zeros (n : Nat) (x : Rat) : ev (List.replicate n 0) x = 0 := by
  induction n with
  | zero => rfl
  | succ n ih => show 0 + x * ev (List.replicate n 0) x = 0; rw [ih]; grind
theorem ev_trim (p : List Rat) (x : Rat) : ev (trim p) x = ev p x := by
  obtain ⟨n, e⟩ := trim_pad p
  have := ev_app (trim p) (List.replicate n 0) x
  rw [← e, ev_zeros] at this
  grind
theorem ev_addAt (k : Nat) (xs ys : List Rat) (x : Rat) (h : k + ys.length ≤ xs.length) : ev (addAt k xs ys) x = ev xs x + x ^ k * ev ys x := by
  induction xs generalizing k ys with
  | nil =>
    have : ys = [] := List.length_eq_zero_iff.mp (by have h0 : ([] : List Rat).length = 0 := rfl; omega)
    subst this
    rw [addAt_nil]; show (0 : Rat) = 0 + x ^ k * 0; grind
  | cons a xs ih =>
    cases ys with
    | nil => rw [addAt_nil]; show _ = _ + x ^ k * 0; grind
    | cons b ys =>
      cases k with
      | zero =>
        show (a + b) + x * ev (addAt 0 xs ys) x = (a + x * ev xs x) + x ^ 0 * (b + x * ev ys x)
        rw [ih 0 ys (by simp at h ⊢; omega)]; grind
      | succ k =>
        show a + x * ev (addAt k xs (b :: ys)) x = (a + x * ev xs x) + x ^ (k + 1) * (b + x * ev ys x)
        rw [ih k (b :: ys) (by simp at h ⊢; omega)]
        show a + x * (ev xs x + x ^ k * (b + x * ev ys x)) = _
        grind
theorem take_snoc (p : List Rat) {i : Nat} (h : i < p.length) (x : Rat) : ev (p.take (i + 1)) x = ev (p.take i) x + x ^ i * cf p i := by
  rw [take_cf h, ev_app, List.length_take, Nat.min_eq_left (by omega)]
  show _ + x ^ i * (cf p i + x * 0) = _
  grind
theorem ev_convS (p q : List Rat) (i : Nat) (h : i ≤ p.length) (hq : q ≠ []) (x : Rat) : ev (convS p q i) x = ev (p.take i) x * ev q x := by
  induction i with
  | zero => show ev (List.replicate _ 0) x = ev [] x * _; rw [ev_zeros]; show (0 : Rat) = 0 * _; grind
  | succ i ih =>
    have hl := List.length_pos_iff.mpr hq
    show ev (addAt i (convS p q i) (q.map (cf p i * ·))) x = _
    rw [ev_addAt _ _ _ _ (by rw [convS_len, List.length_map]; omega), ih (by omega), take_snoc p h, ev_map q _ (cf p i) (by intro c; grind)]
    grind
theorem convS_nil (p : List Rat) (i : Nat) : convS p [] i = List.replicate (p.length - 1) 0 := by
  induction i with
  | zero => rfl
  | succ i ih => show addAt i (convS p [] i) [] = _; rw [addAt_nil]; exact ih
theorem ev_conv (p q : List Rat) (x : Rat) : ev (conv p q) x = ev p x * ev q x := by
  unfold conv
  by_cases hq : q = []
  · subst hq
    rw [convS_nil, ev_zeros]; show (0 : Rat) = _ * 0; grind
  · rw [ev_convS _ _ _ (Nat.le_refl _) hq, List.take_length]
theorem ev_sumOf (p q : List Rat) (x : Rat) : ev (sumOf p q) x = ev p x + ev q x := by unfold sumOf; rw [ev_trim, ev_addL]
theorem ev_byNumber (p : List Rat) (r x : Rat) : ev (byNumber p r) x = ev p x * r := by unfold byNumber; rw [ev_trim, ev_map p _ r (fun _ => rfl)]
theorem ev_lessOf (p q : List Rat) (x : Rat) : ev (lessOf p q) x = ev p x - ev q x := by unfold lessOf; rw [ev_sumOf, ev_byNumber]; grind
theorem ev_productOf (p q : List Rat) (x : Rat) : ev (productOf p q) x = ev p x * ev q x := by
  unfold productOf
  split
  · rename_i h
    rcases h with h | h <;> subst h <;> show (0 : Rat) = _
    · show (0 : Rat) = 0 * _; grind
    · show (0 : Rat) = _ * 0; grind
  · exact ev_conv p q x
theorem ev_lTimes (p q : List Rat) (x : Rat) : ev (lTimes p q) x = ev p x * ev q x := by unfold lTimes; rw [ev_trim, ev_conv]
theorem ev_div (p : List Rat) (r x : Rat) : ev (p.map (· / r)) x = ev p x / r := by
  rw [ev_map p _ (1 / r) (by intro c; grind)]; grind
/-! ## far out -/
theorem arch (a : Rat) : ∃ N : Nat, a ≤ (N : Rat) := by
  refine ⟨a.ceil.toNat, ?_⟩
  have h : a ≤ (a.ceil : Rat) := Rat.le_ceil
  have h2 : (a.ceil : Rat) ≤ ((a.ceil.toNat : Nat) : Rat) := by
    have : a.ceil ≤ ((a.ceil.toNat : Nat) : Int) := Int.self_le_toNat _
    have h3 := Rat.intCast_le_intCast.mpr this
    rw [Rat.intCast_natCast] at h3
    exact h3
  exact Rat.le_trans h h2
def Far (p : List Rat) : Prop := ∃ (B : Nat) (δ : Rat), 0 < δ ∧ ((∀ n : Nat, B ≤ n → δ ≤ ev p n) ∨ ∀ n : Nat, B ≤ n → ev p n ≤ -δ)
theorem ev_zero_of {p : List Rat} (h : ∀ i, cf p i = 0) (x : Rat) : ev p x = 0 := by
  induction p with
  | nil => rfl
  | cons a t ih =>
    have h0 : a = 0 := h 0
    show a + x * ev t x = 0
    rw [ih (fun i => h (i + 1)), h0]; grind
theorem far_of {p : List Rat} (h : ¬ ∀ i, cf p i = 0) : Far p := by
  induction p with
  | nil => exact absurd (fun i => cf_nil i) h
  | cons a t ih =>
    by_cases ht : ∀ i, cf t i = 0
    · have ha : a ≠ 0 := fun z => h fun i => by cases i with
        | zero => exact z
        | succ i => exact ht i
      have e : ∀ n : Nat, ev (a :: t) n = a := fun n => by
        show a + (n : Rat) * ev t n = a
        rw [ev_zero_of ht]; grind
      by_cases hp : 0 < a
      · exact ⟨0, a, hp, .inl fun n _ => by rw [e]; exact Rat.le_refl⟩
      · refine ⟨0, -a, by grind, .inr fun n _ => by rw [e]; grind⟩
    · obtain ⟨B, δ, hδ, hs⟩ := ih ht
      rcases hs with hs | hs
      · obtain ⟨N, hN⟩ := arch ((δ - a) / δ)
        refine ⟨max B N, δ, hδ, .inl fun n hn => ?_⟩
        have h1 := hs n (by omega)
        have h2 : (N : Rat) ≤ (n : Rat) := by exact_mod_cast (show N ≤ n by omega)
        show δ ≤ a + (n : Rat) * ev t n
        have h3 : (δ - a) / δ ≤ (n : Rat) := Rat.le_trans hN h2
        have h4 : δ - a ≤ (n : Rat) * δ := by
          have := Rat.mul_le_mul_of_nonneg_right h3 (Rat.le_of_lt hδ)
          rwa [Rat.div_mul_cancel (by grind)] at this
        have h5 : (n : Rat) * δ ≤ (n : Rat) * ev t n := Rat.mul_le_mul_of_nonneg_left h1 (by exact_mod_cast Nat.zero_le n)
        grind
      · obtain ⟨N, hN⟩ := arch ((δ + a) / δ)
        refine ⟨max B N, δ, hδ, .inr fun n hn => ?_⟩
        have h1 := hs n (by omega)
        have h2 : (N : Rat) ≤ (n : Rat) := by exact_mod_cast (show N ≤ n by omega)
        show a + (n : Rat) * ev t n ≤ -δ
        have h3 : (δ + a) / δ ≤ (n : Rat) := Rat.le_trans hN h2
        have h4 : δ + a ≤ (n : Rat) * δ := by
          have := Rat.mul_le_mul_of_nonneg_right h3 (Rat.le_of_lt hδ)
          rwa [Rat.div_mul_cancel (by grind)] at this
        have h5 : (n : Rat) * ev t n ≤ (n : Rat) * -δ := Rat.mul_le_mul_of_nonneg_left h1 (by exact_mod_cast Nat.zero_le n)
        grind
theorem far_ne {p : List Rat} (h : Far p) : ∃ B : Nat, ∀ n : Nat, B ≤ n → ev p n ≠ 0 := by
  obtain ⟨B, δ, hδ, hs⟩ := h
  rcases hs with hs | hs
  · exact ⟨B, fun n hn => by have := hs n hn; grind⟩
  · exact ⟨B, fun n hn => by have := hs n hn; grind⟩
/-- zero far out: zero -/
theorem zero_far {p : List Rat} {B : Nat} (h : ∀ n : Nat, B ≤ n → ev p n = 0) : ∀ i, cf p i = 0 := by
  by_cases hz : ∀ i, cf p i = 0
  · exact hz
  · obtain ⟨C, hC⟩ := far_ne (far_of hz)
    exact absurd (h (max B C) (by omega)) (hC _ (by omega))
theorem cf_neg (p : List Rat) (i : Nat) : cf (p.map (· * (-1))) i = -(cf p i) := by
  by_cases h : i < p.length
  · rw [cf_map _ h]; grind
  · rw [cf_big (by simp; omega), cf_big (by omega)]; grind
theorem cf_far {p q : List Rat} {B : Nat} (h : ∀ n : Nat, B ≤ n → ev p n = ev q n) (i : Nat) : cf p i = cf q i := by
  have := zero_far (p := addL p (q.map (· * (-1)))) (B := B) (fun n hn => by
    rw [ev_addL, ev_map q _ (-1) (fun _ => rfl), h n hn]; grind) i
  rw [cf_addL, cf_neg] at this
  grind
theorem ev_cf {p q : List Rat} (h : ∀ i, cf p i = cf q i) (x : Rat) : ev p x = ev q x := by
  have := ev_zero_of (p := addL p (q.map (· * (-1)))) (fun i => by rw [cf_addL, cf_neg, h]; grind) x
  rw [ev_addL, ev_map q _ (-1) (fun _ => rfl)] at this
  grind
theorem ev_far {p q : List Rat} {B : Nat} (h : ∀ n : Nat, B ≤ n → ev p n = ev q n) (x : Rat) : ev p x = ev q x := ev_cf (cf_far h) x
/-- trimmed rows that agree are one -/
theorem tr_len {p q : List Rat} (tp : Tr p) (h : ∀ i, cf p i = cf q i) : p.length ≤ q.length := by
  rcases tp with rfl | tp
  · exact Nat.zero_le _
  · refine Nat.le_of_not_lt fun hl => tp ?_
    unfold hd
    rw [h, cf_big (by omega)]
theorem tr_ext {p q : List Rat} (tp : Tr p) (tq : Tr q) (h : ∀ i, cf p i = cf q i) : p = q :=
  ext_cf (Nat.le_antisymm (tr_len tp h) (tr_len tq fun i => (h i).symm)) fun i _ => h i
theorem tr_far {p q : List Rat} (tp : Tr p) (tq : Tr q) {B : Nat} (h : ∀ n : Nat, B ≤ n → ev p n = ev q n) : p = q := tr_ext tp tq (cf_far h)
theorem tr_ev {p q : List Rat} (tp : Tr p) (tq : Tr q) (h : ∀ x, ev p x = ev q x) : p = q := tr_far (B := 0) tp tq fun n _ => h n
theorem trim_ev {p q : List Rat} (h : ∀ x, ev p x = ev q x) : trim p = trim q := tr_ev (trim_tr p) (trim_tr q) fun x => by rw [ev_trim, ev_trim, h]
/-- not the zero row: not zero far out -/
theorem nz_far {p : List Rat} (tp : Tr p) (h : p ≠ []) : ∃ B : Nat, ∀ n : Nat, B ≤ n → ev p n ≠ 0 := far_ne (far_of fun z => (tp.resolve_left h) (z _))
/-- a product that is zero -/
theorem mul_zero_far {p q : List Rat} (tp : Tr p) (h : p ≠ []) (hz : ∀ x, ev p x * ev q x = 0) : ∀ x, ev q x = 0 := by
  obtain ⟨B, hB⟩ := nz_far tp h
  intro x
  have := ev_far (p := q) (q := []) (B := B) (fun n hn => by
    have h1 := hz n
    have h2 := hB n hn
    show ev q n = 0
    rcases Rat.mul_eq_zero.mp h1 with h | h
    · exact absurd h h2
    · exact h) x
  exact this
/-! ## lengths of products -/
theorem cf_conv_last {p q : List Rat} (hp : p ≠ []) (hq : q ≠ []) : cf (conv p q) (p.length + q.length - 2) = hd p * hd q := by
  have l1 := List.length_pos_iff.mpr hp
  have l2 := List.length_pos_iff.mpr hq
  unfold conv
  have e : p.length = (p.length - 1) + 1 := by omega
  rw [e]
  show cf (addAt (p.length - 1) (convS p q (p.length - 1)) (q.map (cf p (p.length - 1) * ·))) _ = _
  have key : ∀ i, i < p.length → cf (convS p q i) (p.length - 1 + 1 + q.length - 2) = 0 := by
    intro i
    induction i with
    | zero => intro _; show cf (List.replicate _ 0) _ = 0; unfold cf; rw [List.getD_eq_getElem?_getD, List.getElem?_replicate]; split <;> rfl
    | succ i ih =>
      intro hi
      show cf (addAt i (convS p q i) (q.map (cf p i * ·))) _ = 0
      rw [cf_addAt _ _ _ _ (by rw [convS_len]; omega), ih (by omega), if_pos (by omega), cf_big (by rw [List.length_map]; omega)]
      grind
  rw [cf_addAt _ _ _ _ (by rw [convS_len]; omega), key _ (by omega), if_pos (by omega), cf_map _ (by omega)]
  have e2 : p.length - 1 + 1 + q.length - 2 - (p.length - 1) = q.length - 1 := by omega
  rw [e2]
  unfold hd
  grind
theorem conv_len {p q : List Rat} : (conv p q).length = p.length + q.length - 1 := convS_len _ _ _
theorem conv_tr {p q : List Rat} (hp : p ≠ []) (hq : q ≠ []) (h1 : hd p ≠ 0) (h2 : hd q ≠ 0) : hd (conv p q) ≠ 0 := by
  unfold hd
  have l1 := List.length_pos_iff.mpr hp
  have l2 := List.length_pos_iff.mpr hq
  rw [conv_len, show p.length + q.length - 1 - 1 = p.length + q.length - 2 by omega, cf_conv_last hp hq]
  intro z
  rcases Rat.mul_eq_zero.mp z with z | z
  · exact h1 z
  · exact h2 z
/-- a trimmed row that is a product has its length -/
theorem mul_len {p q r : List Rat} (tp : Tr p) (tq : Tr q) (tr : Tr r) (hp : p ≠ []) (hq : q ≠ []) (h : ∀ x, ev r x = ev p x * ev q x) : r = conv p q := by
  refine tr_ev tr (.inr (conv_tr hp hq (tp.resolve_left hp) (tq.resolve_left hq))) fun x => ?_
  rw [h, ev_conv]
end Mt
set_option Elab.async false
set_option linter.all false
set_option maxHeartbeats 1000000
/-! M4: forms in two letters. -/
namespace Mt
theorem one_pw (n : Nat) : (1 : Rat) ^ n = 1 := by
  induction n with
  | zero => rfl
  | succ n ih => rw [Rat.pow_succ, ih]; grind
theorem mul_pw (a b : Rat) (n : Nat) : (a * b) ^ n = a ^ n * b ^ n := by
  induction n with
  | zero => grind
  | succ n ih => rw [Rat.pow_succ, ih, Rat.pow_succ, Rat.pow_succ]; grind
theorem pw_add (a : Rat) (m n : Nat) : a ^ (m + n) = a ^ m * a ^ n := by
  induction n with
  | zero => grind
  | succ n ih => rw [← Nat.add_assoc, Rat.pow_succ, ih, Rat.pow_succ]; grind
theorem pw_ne {a : Rat} (h : a ≠ 0) (n : Nat) : a ^ n ≠ 0 := by
  induction n with
  | zero => grind
  | succ n ih =>
    rw [Rat.pow_succ]
    intro z
    rcases Rat.mul_eq_zero.mp z with z | z
    · exact ih z
    · exact h z
def hv : List Rat → Rat → Rat → Rat
  | [], _, _ => 0
  | c :: t, x, y => c * y ^ t.length + x * hv t x y
theorem hv_one (p : List Rat) (x : Rat) : hv p x 1 = ev p x := by
  induction p with
  | nil => rfl
  | cons c t ih =>
    show c * 1 ^ t.length + x * hv t x 1 = c + x * ev t x
    rw [ih, one_pw]; grind
theorem hv_hom (p : List Rat) (k x y : Rat) : k * hv p (k * x) (k * y) = k ^ p.length * hv p x y := by
  induction p with
  | nil => show k * 0 = k ^ 0 * 0; grind
  | cons c t ih =>
    show k * (c * (k * y) ^ t.length + k * x * hv t (k * x) (k * y)) = k ^ (t.length + 1) * (c * y ^ t.length + x * hv t x y)
    rw [mul_pw]
    have : k * (k * x * hv t (k * x) (k * y)) = k * x * (k * hv t (k * x) (k * y)) := by grind
    have e : k * (c * (k ^ t.length * y ^ t.length) + k * x * hv t (k * x) (k * y)) = k * c * (k ^ t.length * y ^ t.length) + k * x * (k * hv t (k * x) (k * y)) := by grind
    rw [e, ih]; grind
theorem hv_last {p : List Rat} (h : p ≠ []) : hv p 1 0 = hd p := by
  induction p with
  | nil => exact absurd rfl h
  | cons c t ih =>
    cases t with
    | nil => show c * 0 ^ 0 + 1 * 0 = hd [c]; show _ = c; grind
    | cons d u =>
      have := ih (by simp)
      show c * 0 ^ (u.length + 1) + 1 * hv (d :: u) 1 0 = hd (c :: d :: u)
      rw [this]
      show _ = hd (d :: u)
      grind
theorem hv_map (p : List Rat) (f : Rat → Rat) (r : Rat) (hf : ∀ c, f c = c * r) (x y : Rat) : hv (p.map f) x y = hv p x y * r := by
  induction p with
  | nil => show (0 : Rat) = 0 * r; grind
  | cons a p ih => show f a * y ^ (p.map f).length + x * hv (p.map f) x y = (a * y ^ p.length + x * hv p x y) * r; rw [ih, hf, List.length_map]; grind
theorem hv_addL {p q : List Rat} (h : p.length = q.length) (x y : Rat) : hv (addL p q) x y = hv p x y + hv q x y := by
  induction p generalizing q with
  | nil =>
    have : q = [] := List.length_eq_zero_iff.mp h.symm
    subst this; show (0 : Rat) = 0 + 0; grind
  | cons a p ih =>
    cases q with
    | nil => cases h
    | cons b q =>
      have h' : p.length = q.length := by simpa using h
      show (a + b) * y ^ (addL p q).length + x * hv (addL p q) x y = (a * y ^ p.length + x * hv p x y) + (b * y ^ q.length + x * hv q x y)
      rw [ih h', addL_len, h', Nat.max_self]; grind
theorem hv_zeros (n : Nat) (x y : Rat) : hv (List.replicate n 0) x y = 0 := by
  induction n with
  | zero => rfl
  | succ n ih => show 0 * y ^ (List.replicate n (0 : Rat)).length + x * hv (List.replicate n 0) x y = 0; rw [ih]; grind
theorem hv_pad (p : List Rat) (n : Nat) (x y : Rat) : hv (p ++ List.replicate n 0) x y = y ^ n * hv p x y := by
  induction p with
  | nil => rw [List.nil_append, hv_zeros]; show (0 : Rat) = y ^ n * 0; grind
  | cons a p ih =>
    show a * y ^ (p ++ List.replicate n (0 : Rat)).length + x * hv (p ++ List.replicate n 0) x y = y ^ n * (a * y ^ p.length + x * hv p x y)
    rw [ih, List.length_append, List.length_replicate, pw_add]; grind
theorem hv_shift (p : List Rat) (k : Nat) (x y : Rat) : hv (List.replicate k 0 ++ p) x y = x ^ k * hv p x y := by
  induction k with
  | zero => show hv p x y = x ^ 0 * hv p x y; grind
  | succ k ih => show 0 * y ^ (List.replicate k (0 : Rat) ++ p).length + x * hv (List.replicate k 0 ++ p) x y = _; rw [ih]; grind
/-- forms of one length that agree on the line y = 1 are one -/
theorem form_eq {p q : List Rat} (h : p.length = q.length) (e : ∀ x, ev p x = ev q x) : p = q := ext_cf h fun i _ => cf_far (B := 0) (fun n _ => e n) i
/-- the product of forms -/
theorem hv_cons (c : Rat) (t : List Rat) (x y : Rat) : hv (c :: t) x y = c * y ^ t.length + x * hv t x y := rfl
theorem conv_cons (c : Rat) (t q : List Rat) (hq : q ≠ []) (ht : t ≠ []) : conv (c :: t) q = addL (q.map (c * ·) ++ List.replicate t.length 0) (0 :: conv t q) := by
  have l1 := List.length_pos_iff.mpr hq
  have l2 := List.length_pos_iff.mpr ht
  refine form_eq ?_ fun x => ?_
  · rw [conv_len, addL_len]; simp [conv_len]; omega
  · rw [ev_conv, ev_addL, ev_app, ev_zeros, ev_map q _ c (by intro d; grind)]
    show (c + x * ev t x) * ev q x = _ + (0 + x * ev (conv t q) x)
    rw [ev_conv]; grind
theorem hv_conv (p q : List Rat) (hp : p ≠ []) (hq : q ≠ []) (x y : Rat) : hv (conv p q) x y = hv p x y * hv q x y := by
  induction p with
  | nil => exact absurd rfl hp
  | cons c t ih =>
    have l1 := List.length_pos_iff.mpr hq
    by_cases ht : t = []
    · subst ht
      have e : conv [c] q = q.map (c * ·) := form_eq (by rw [conv_len]; simp) fun x => by
        rw [ev_conv, ev_map q _ c (by intro d; grind)]; show (c + x * 0) * _ = _; grind
      rw [e, hv_map q _ c (by intro d; grind)]
      show _ = (c * y ^ 0 + x * 0) * _
      grind
    · have l2 := List.length_pos_iff.mpr ht
      rw [conv_cons c t q hq ht, hv_addL (by simp [conv_len]; omega), hv_pad, hv_map q _ c (by intro d; grind), hv_cons 0, ih ht, hv_cons]
      grind
/-- powers of a form -/
def powL (p : List Rat) : Nat → List Rat
  | 0 => [1]
  | n + 1 => conv (powL p n) p
theorem powL_len {p : List Rat} {m : Nat} (h : p.length = m + 1) : ∀ n, (powL p n).length = n * m + 1
  | 0 => by show 1 = _; omega
  | n + 1 => by show (conv (powL p n) p).length = _; rw [conv_len, powL_len h n, h, Nat.succ_mul]; omega
theorem ne_of_len {p : List Rat} {m : Nat} (h : p.length = m + 1) : p ≠ [] := fun z => by rw [z] at h; cases h
theorem hv_powL {p : List Rat} {m : Nat} (h : p.length = m + 1) (x y : Rat) : ∀ n, hv (powL p n) x y = hv p x y ^ n
  | 0 => by show 1 * y ^ 0 + x * 0 = hv p x y ^ 0; grind
  | n + 1 => by
    show hv (conv (powL p n) p) x y = _
    rw [hv_conv _ _ (ne_of_len (powL_len h n)) (ne_of_len h), hv_powL h x y n]; grind
/-- forms put into a form -/
def compL (P Q : List Rat) : List Rat → List Rat
  | [] => []
  | [c] => [c]
  | c :: d :: t => addL ((powL Q (t.length + 1)).map (c * ·)) (conv P (compL P Q (d :: t)))
theorem compL_len {P Q : List Rat} {m : Nat} (hP : P.length = m + 1) (hQ : Q.length = m + 1) : ∀ (c : List Rat) (n : Nat), c.length = n + 1 → (compL P Q c).length = n * m + 1
  | [], n, h => by cases h
  | [c], n, h => by
    have : n = 0 := by simpa using h.symm
    subst this; show 1 = _; omega
  | c :: d :: t, n, h => by
    have hn : n = t.length + 1 := by simp at h; omega
    subst hn
    show (addL ((powL Q (t.length + 1)).map (c * ·)) (conv P (compL P Q (d :: t)))).length = _
    rw [addL_len, List.length_map, powL_len hQ, conv_len, compL_len hP hQ (d :: t) t.length (by simp), hP, Nat.succ_mul]
    omega
theorem hv_compL {P Q : List Rat} {m : Nat} (hP : P.length = m + 1) (hQ : Q.length = m + 1) (x y : Rat) : ∀ c : List Rat, hv (compL P Q c) x y = hv c (hv P x y) (hv Q x y)
  | [] => rfl
  | [c] => by show c * y ^ 0 + x * 0 = c * hv Q x y ^ 0 + hv P x y * 0; grind
  | c :: d :: t => by
    have l := compL_len hP hQ (d :: t) t.length (by simp)
    show hv (addL ((powL Q (t.length + 1)).map (c * ·)) (conv P (compL P Q (d :: t)))) x y = _
    rw [hv_addL (by rw [List.length_map, powL_len hQ, conv_len, l, hP, Nat.succ_mul]; omega), hv_map _ _ c (by intro d; grind), hv_powL hQ, hv_conv _ _ (ne_of_len hP) (ne_of_len l), hv_compL hP hQ x y (d :: t), hv_cons c]
    show _ = c * hv Q x y ^ (t.length + 1) + _
    grind
end Mt
set_option Elab.async false
set_option linter.all false
set_option maxHeartbeats 1000000
/-! M5: told forms, worths, what the law's own rows are as functions. -/
namespace Mt
theorem ev_fill (p : List Rat) (n : Nat) (x : Rat) : ev (fillF p n) x = ev p x := by unfold fillF; rw [ev_app, ev_zeros]; grind
theorem ev_headed (p : List Rat) (x : Rat) : ev (headed p) x = ev p x / hd p := ev_div _ _ _
theorem ev_told (f : List Rat) (x : Rat) : ev (toldOf f) x = ev f x / hd (trim f) := by unfold toldOf; rw [ev_fill, ev_headed, ev_trim]
theorem ev_lHeaded (f : List Rat) (x : Rat) : ev (lHeaded f) x = ev f x / hd (trim f) := ev_div _ _ _
theorem lHeaded_len (f : List Rat) : (lHeaded f).length = f.length := by unfold lHeaded; simp
theorem told_headed (f : List Rat) : toldOf f = lHeaded f := form_eq (by rw [toldOf_len, lHeaded_len]) fun x => by rw [ev_told, ev_lHeaded]
theorem hd_nil : hd ([] : List Rat) = 0 := cf_nil _
theorem hd_smul (p : List Rat) (k : Rat) : hd (p.map (k * ·)) = k * hd p := by
  by_cases h : p = []
  · subst h; rw [List.map_nil, hd_nil]; grind
  · exact hd_map' _ h
theorem tr_smul {p : List Rat} {k : Rat} (hk : k ≠ 0) (t : Tr p) : Tr (p.map (k * ·)) := by
  rcases t with rfl | t
  · exact .inl rfl
  · right; rw [hd_smul]; intro z
    rcases Rat.mul_eq_zero.mp z with z | z
    · exact hk z
    · exact t z
theorem trim_smul {f g : List Rat} {k : Rat} (hk : k ≠ 0) (h : ∀ x, ev f x = k * ev g x) : trim f = (trim g).map (k * ·) :=
  tr_ev (trim_tr f) (tr_smul hk (trim_tr g)) fun x => by rw [ev_trim, ev_map _ _ k (by intro c; grind), ev_trim, h]; grind
/-- proportional forms are told alike -/
theorem told_prop {f g : List Rat} {k : Rat} (hl : f.length = g.length) (hk : k ≠ 0) (h : ∀ x, ev f x = k * ev g x) : toldOf f = toldOf g := by
  refine form_eq (by rw [toldOf_len, toldOf_len, hl]) fun x => ?_
  rw [ev_told, ev_told, trim_smul hk h, hd_smul, h]
  by_cases hz : hd (trim g) = 0
  · rw [hz]; grind
  · grind
theorem told_self {f : List Rat} (h : trim f ≠ []) : ∃ k : Rat, k ≠ 0 ∧ ∀ x, ev (toldOf f) x = k * ev f x := by
  have h0 := (trim_tr f).resolve_left h
  exact ⟨1 / hd (trim f), by grind, fun x => by rw [ev_told]; grind⟩
theorem told_told (f : List Rat) (h : trim f ≠ []) : toldOf (toldOf f) = toldOf f := by
  obtain ⟨k, hk, e⟩ := told_self h
  exact told_prop (toldOf_len f) hk e
theorem trim_ne {f : List Rat} {x : Rat} (h : ev f x ≠ 0) : trim f ≠ [] := fun z => h (by rw [← ev_trim, z]; rfl)
theorem told_trim_ne {f : List Rat} (h : trim f ≠ []) : trim (toldOf f) ≠ [] := by
  obtain ⟨k, hk, e⟩ := told_self h
  rw [trim_smul hk e]
  intro z
  exact h (List.map_eq_nil_iff.mp z)
/-! worths -/
theorem hS_ev (p : List Rat) (x : Rat) (i : Nat) (h : i ≤ p.length) : hS p x i = ev (p.drop (p.length - i)) x := by
  induction i with
  | zero => rw [Nat.sub_zero, List.drop_length]; rfl
  | succ i ih =>
    have hi : p.length - (i + 1) < p.length := by omega
    have e : p.drop (p.length - (i + 1)) = cf p (p.length - (i + 1)) :: p.drop (p.length - i) := by
      rw [List.drop_eq_getElem_cons hi]
      have e2 : p.length - (i + 1) + 1 = p.length - i := by omega
      rw [e2, ← show cf p (p.length - (i + 1)) = p[p.length - (i + 1)] from cf_of (List.getElem?_eq_getElem hi)]
    rw [e]
    show hS p x i * x + cf p.reverse i = cf p (p.length - (i + 1)) + x * ev (p.drop (p.length - i)) x
    rw [ih (by omega)]
    have er : cf p.reverse i = cf p (p.length - (i + 1)) := by
      apply cf_of
      rw [List.getElem?_reverse (by omega), ← get_cf hi]
      congr 1
      omega
    rw [er]; grind
theorem lWorth_ev (p : List Rat) (x : Rat) : lWorth p x = ev p x := by
  unfold lWorth
  rw [hS_ev _ _ _ (Nat.le_refl _), Nat.sub_self, List.drop_zero]
theorem cf_fill (p : List Rat) (n i : Nat) : cf (fillF p n) i = cf p i := cf_append_zero _ _ _
theorem wS_hv (poly : List Rat) (high : Nat) (a b : Rat) (hl : poly.length ≤ high + 1) (i : Nat) (h : i ≤ high + 1) : (wS poly high a b i).1 = hv ((fillF poly (high + 1)).drop (high + 1 - i)) a b ∧ (wS poly high a b i).2 = b ^ i := by
  have hf := fillF_len poly (high + 1) hl
  induction i with
  | zero => rw [Nat.sub_zero, List.drop_of_length_le (by omega)]; exact ⟨rfl, by show (1 : Rat) = b ^ 0; grind⟩
  | succ i ih =>
    obtain ⟨h1, h2⟩ := ih (by omega)
    have hi : high + 1 - (i + 1) < (fillF poly (high + 1)).length := by omega
    have e : (fillF poly (high + 1)).drop (high + 1 - (i + 1)) = cf poly (high - i) :: (fillF poly (high + 1)).drop (high + 1 - i) := by
      rw [List.drop_eq_getElem_cons hi]
      have e2 : high + 1 - (i + 1) + 1 = high + 1 - i := by omega
      rw [e2, ← show cf (fillF poly (high + 1)) (high + 1 - (i + 1)) = (fillF poly (high + 1))[high + 1 - (i + 1)] from cf_of (List.getElem?_eq_getElem hi), cf_fill, show high + 1 - (i + 1) = high - i by omega]
    rw [e]
    refine ⟨?_, ?_⟩
    · show (wS poly high a b i).1 * a + cf poly (high - i) * (wS poly high a b i).2 = cf poly (high - i) * b ^ ((fillF poly (high + 1)).drop (high + 1 - i)).length + a * hv ((fillF poly (high + 1)).drop (high + 1 - i)) a b
      rw [h1, h2, List.length_drop, hf, show high + 1 - (high + 1 - i) = i by omega]
      grind
    · show (wS poly high a b i).2 * b = _
      rw [h2]; grind
theorem worthBy_hv (poly : List Rat) (high : Nat) (o : Option Rat) (hl : poly.length ≤ high + 1) : worthBy poly high o = hv (fillF poly (high + 1)) (pair o).1 (pair o).2 := by
  unfold worthBy
  rw [(wS_hv poly high _ _ hl (high + 1) (Nat.le_refl _)).1, Nat.sub_self, List.drop_zero]
theorem hv_fill_one (p : List Rat) (n : Nat) (x : Rat) : hv (fillF p n) x 1 = ev p x := by rw [hv_one, ev_fill]
theorem hv_fill_top (p : List Rat) (n : Nat) (h : p.length ≤ n + 1) : hv (fillF p (n + 1)) 1 0 = cf p n := by
  rw [hv_last (List.ne_nil_of_length_pos (by rw [fillF_len _ _ h]; omega))]
  unfold hd
  rw [fillF_len _ _ h, cf_fill]
  rfl
/-! what is put in -/
theorem ev_tS (inner : List Rat × List Rat) (c : Rat) (at_ t : Nat) (x : Rat) : ev (tS inner c at_ t) x = c * (ev inner.1 x ^ (min t at_) * ev inner.2 x ^ (t - at_)) := by
  induction t with
  | zero =>
    show ev (if c ≠ 0 then [c] else []) x = _
    rw [Nat.zero_min, Nat.zero_sub]
    split
    · show c + x * 0 = _; grind
    · rename_i h
      have h : c = 0 := Classical.not_not.mp h
      rw [h]; show (0 : Rat) = _; grind
  | succ t ih =>
    show ev (lTimes (tS inner c at_ t) (if t < at_ then inner.1 else inner.2)) x = _
    rw [ev_lTimes, ih]
    split
    · rename_i h
      rw [Nat.min_eq_left (by omega), Nat.min_eq_left (by omega), show t - at_ = 0 by omega, show t + 1 - at_ = 0 by omega, Rat.pow_succ]; grind
    · rename_i h
      rw [Nat.min_eq_right (by omega), Nat.min_eq_right (by omega), show t + 1 - at_ = (t - at_) + 1 by omega, Rat.pow_succ]; grind
end Mt
set_option Elab.async false
set_option linter.all false
set_option maxHeartbeats 1000000
/-! M6: what is put in, as a form; full fractions. -/
namespace Mt
def sumS (L : List Rat) (n : Nat) (a b : Rat) : Nat → Rat
  | 0 => 0
  | i + 1 => sumS L n a b i + cf L i * (a ^ i * b ^ (n - i))
theorem hv_sumS (L : List Rat) (n : Nat) (h : L.length = n + 1) (a b : Rat) (i : Nat) (hi : i ≤ n + 1) : hv L a b = sumS L n a b i + a ^ i * hv (L.drop i) a b := by
  induction i with
  | zero => rw [List.drop_zero]; show _ = 0 + a ^ 0 * _; grind
  | succ i ih =>
    rw [ih (by omega)]
    have hi' : i < L.length := by omega
    rw [List.drop_eq_getElem_cons hi', ← show cf L i = L[i] from cf_of (List.getElem?_eq_getElem hi'), hv_cons, List.length_drop, h, show n + 1 - (i + 1) = n - i by omega]
    show _ = (sumS L n a b i + cf L i * (a ^ i * b ^ (n - i))) + a ^ (i + 1) * _
    rw [Rat.pow_succ]; grind
theorem sumS_all (L : List Rat) (n : Nat) (h : L.length = n + 1) (a b : Rat) : sumS L n a b (n + 1) = hv L a b := by
  rw [hv_sumS L n h a b (n + 1) (Nat.le_refl _), List.drop_of_length_le (by omega)]
  show _ = _ + a ^ (n + 1) * 0
  grind
theorem sumS_fill (p : List Rat) (m n : Nat) (a b : Rat) (i : Nat) : sumS (fillF p m) n a b i = sumS p n a b i := by
  induction i with
  | zero => rfl
  | succ i ih => show _ + _ = _ + _; rw [ih, cf_fill]
theorem sumS_more (p : List Rat) (n : Nat) (a b : Rat) (i : Nat) (h : p.length ≤ i) (k : Nat) : sumS p n a b (i + k) = sumS p n a b i := by
  induction k with
  | zero => rfl
  | succ k ih =>
    show sumS p n a b (i + k) + cf p (i + k) * _ = _
    rw [ih, cf_big (by omega)]; grind
theorem sumS_hv (p : List Rat) (n : Nat) (a b : Rat) (h : p.length ≤ n + 1) : sumS p n a b p.length = hv (fillF p (n + 1)) a b := by
  rw [← sumS_all _ n (fillF_len _ _ h), sumS_fill]
  have := sumS_more p n a b p.length (Nat.le_refl _) (n + 1 - p.length)
  rw [show p.length + (n + 1 - p.length) = n + 1 by omega] at this
  exact this.symm
theorem ev_totS (poly : List Rat) (inner : List Rat × List Rat) (high : Nat) (x : Rat) (i : Nat) (hi : i ≤ high + 1) : ev (totS poly inner high i) x = sumS poly high (ev inner.1 x) (ev inner.2 x) i := by
  induction i with
  | zero => rfl
  | succ i ih =>
    show ev (sumOf (totS poly inner high i) (tS inner (cf poly i) i high)) x = _
    rw [ev_sumOf, ih (by omega), ev_tS, Nat.min_eq_right (by omega)]
    rfl
theorem ev_tot (poly : List Rat) (inner : List Rat × List Rat) (high : Nat) (x : Rat) (h : poly.length ≤ high + 1) : ev (totS poly inner high poly.length) x = hv (fillF poly (high + 1)) (ev inner.1 x) (ev inner.2 x) := by
  rw [ev_totS _ _ _ _ _ h, sumS_hv _ _ _ _ h]
theorem ev_pw (p : List Rat) (x : Rat) (k : Nat) : ev (pw p k) x = ev p x ^ k := by
  induction k with
  | zero => show 1 + x * 0 = ev p x ^ 0; grind
  | succ k ih => show ev (productOf (pw p k) p) x = _; rw [ev_productOf, ih, Rat.pow_succ]
theorem ev_putS (high : Nat) (near far poly : List Rat) (x : Rat) (i : Nat) : ev (putS high near far poly i) x = sumS poly high (ev near x) (ev far x) i := by
  induction i with
  | zero => rfl
  | succ i ih =>
    show _ = _ + cf poly i * _
    by_cases h : cf poly i = 0
    · rw [putS_neg h, ih, h]; grind
    · rw [putS_pos rfl h, ev_sumOf, ev_byNumber, ev_productOf, ev_pw, ev_pw, ih]; grind
theorem ev_put (high : Nat) (near far poly : List Rat) (x : Rat) (h : poly.length ≤ high + 1) : ev (putS high near far poly poly.length) x = hv (fillF poly (high + 1)) (ev near x) (ev far x) := by
  rw [ev_putS, sumS_hv _ _ _ _ h]
theorem tot_tr (poly : List Rat) (inner : List Rat × List Rat) (high : Nat) : ∀ i, Tr (totS poly inner high i)
  | 0 => .inl rfl
  | i + 1 => trim_tr _
theorem put_tr (high : Nat) (near far poly : List Rat) : ∀ i, Tr (putS high near far poly i)
  | 0 => .inl rfl
  | i + 1 => by
    by_cases h : cf poly i = 0
    · rw [putS_neg h]; exact put_tr high near far poly i
    · rw [putS_pos rfl h]; exact trim_tr _
/-! ## full fractions -/
/-- no common part: a combination is 1 -/
def Bez (p q : List Rat) : Prop := ∃ u v : List Rat, ∀ z, ev u z * ev p z + ev v z * ev q z = 1
structure Fr (x : List Rat × List Rat) (n : Nat) : Prop where
  t1 : Tr x.1
  t2 : Tr x.2
  ne : x.2 ≠ []
  h1 : hd x.2 = 1
  deg : degP x = n
  pos : 0 < n
  bez : Bez x.1 x.2
/-- top and bottom as forms of the degree -/
def tf (x : List Rat × List Rat) : List Rat := fillF x.1 (degP x + 1)
def bf (x : List Rat × List Rat) : List Rat := fillF x.2 (degP x + 1)
theorem Fr.l1 {x : List Rat × List Rat} {n : Nat} (h : Fr x n) : x.1.length ≤ degP x + 1 := by unfold degP; omega
theorem Fr.l2 {x : List Rat × List Rat} {n : Nat} (h : Fr x n) : x.2.length ≤ degP x + 1 := by unfold degP; omega
theorem Fr.lt {x : List Rat × List Rat} {n : Nat} (h : Fr x n) : (tf x).length = n + 1 := by unfold tf; rw [fillF_len _ _ h.l1, h.deg]
theorem Fr.lb {x : List Rat × List Rat} {n : Nat} (h : Fr x n) : (bf x).length = n + 1 := by unfold bf; rw [fillF_len _ _ h.l2, h.deg]
theorem Fr.et {x : List Rat × List Rat} {n : Nat} (h : Fr x n) (z : Rat) : hv (tf x) z 1 = ev x.1 z := hv_fill_one _ _ _
theorem Fr.eb {x : List Rat × List Rat} {n : Nat} (h : Fr x n) (z : Rat) : hv (bf x) z 1 = ev x.2 z := hv_fill_one _ _ _
theorem Fr.tt {x : List Rat × List Rat} {n : Nat} (h : Fr x n) : hv (tf x) 1 0 = cf x.1 n := by unfold tf; rw [h.deg]; exact hv_fill_top _ _ (by have := h.l1; rw [h.deg] at this; exact this)
theorem Fr.bt {x : List Rat × List Rat} {n : Nat} (h : Fr x n) : hv (bf x) 1 0 = cf x.2 n := by unfold bf; rw [h.deg]; exact hv_fill_top _ _ (by have := h.l2; rw [h.deg] at this; exact this)
theorem Fr.top {x : List Rat × List Rat} {n : Nat} (h : Fr x n) : hv (tf x) 1 0 ≠ 0 ∨ hv (bf x) 1 0 ≠ 0 := by
  rw [h.tt, h.bt]
  have hd' := h.deg
  have hp := h.pos
  unfold degP at hd'
  by_cases hc : x.1.length = n + 1
  · left
    have h1 := h.t1.resolve_left (fun z => by rw [z] at hc; cases hc)
    unfold hd at h1
    rwa [hc] at h1
  · right
    have hc2 : x.2.length = n + 1 := by omega
    have h1 := h.h1
    unfold hd at h1
    rw [hc2] at h1
    rw [show n + 1 - 1 = n from rfl] at h1
    rw [h1]; decide
/-- no common nought -/
theorem Fr.none {x : List Rat × List Rat} {n : Nat} (h : Fr x n) {a b : Rat} (hab : a ≠ 0 ∨ b ≠ 0) : hv (tf x) a b ≠ 0 ∨ hv (bf x) a b ≠ 0 := by
  have go : ∀ (k c d : Rat), k ≠ 0 → (hv (tf x) c d ≠ 0 ∨ hv (bf x) c d ≠ 0) → hv (tf x) (k * c) (k * d) ≠ 0 ∨ hv (bf x) (k * c) (k * d) ≠ 0 := fun k c d hk hcd => by
    have e1 := hv_hom (tf x) k c d
    have e2 := hv_hom (bf x) k c d
    have p1 := pw_ne hk (tf x).length
    have p2 := pw_ne hk (bf x).length
    rcases hcd with q | q
    · left; intro z; rw [z] at e1
      have : k ^ (tf x).length * hv (tf x) c d = 0 := by rw [← e1]; grind
      rcases Rat.mul_eq_zero.mp this with z | z
      · exact p1 z
      · exact q z
    · right; intro z; rw [z] at e2
      have : k ^ (bf x).length * hv (bf x) c d = 0 := by rw [← e2]; grind
      rcases Rat.mul_eq_zero.mp this with z | z
      · exact p2 z
      · exact q z
  by_cases hb : b = 0
  · subst hb
    have ha : a ≠ 0 := hab.resolve_right (fun z => z rfl)
    have := go a 1 0 ha h.top
    rwa [show a * 1 = a by grind, show a * 0 = (0 : Rat) by grind] at this
  · have h2 : hv (tf x) (a / b) 1 ≠ 0 ∨ hv (bf x) (a / b) 1 ≠ 0 := by
      rw [h.et, h.eb]
      obtain ⟨u, v, e⟩ := h.bez
      have e := e (a / b)
      by_cases q : ev x.1 (a / b) = 0
      · right; intro z; rw [q, z] at e; grind
      · exact .inl q
    have := go b (a / b) 1 hb h2
    rwa [show b * (a / b) = a by grind, show b * 1 = b by grind] at this
end Mt
set_option Elab.async false
set_option linter.all false
set_option maxHeartbeats 1000000
/-! M7: worths, fibres, parts as forms. -/
namespace Mt
abbrev T (x : List Rat × List Rat) (o : Option Rat) : Rat := hv (tf x) (pair o).1 (pair o).2
abbrev B (x : List Rat × List Rat) (o : Option Rat) : Rat := hv (bf x) (pair o).1 (pair o).2
theorem pair_ne (o : Option Rat) : (pair o).1 ≠ 0 ∨ (pair o).2 ≠ 0 := by
  cases o with
  | none => left; show (1 : Rat) ≠ 0; decide
  | some q => right; show (1 : Rat) ≠ 0; decide
theorem worthOf_eq {x : List Rat × List Rat} {n : Nat} (h : Fr x n) (o : Option Rat) : worthOf x o = placeBy (T x o) (B x o) := by
  unfold worthOf
  rw [worthBy_hv _ _ _ h.l1, worthBy_hv _ _ _ h.l2]
  rfl
theorem lWorthAt_eq {x : List Rat × List Rat} {n : Nat} (h : Fr x n) (o : Option Rat) : lWorthAt x o = placeBy (T x o) (B x o) := by
  have hp := h.pos
  cases o with
  | some q =>
    show (if lWorth x.2 q = 0 then none else some (lWorth x.1 q / lWorth x.2 q)) = placeBy (hv (tf x) q 1) (hv (bf x) q 1)
    rw [lWorth_ev, lWorth_ev, h.et, h.eb]
    rfl
  | none =>
    show (if x.1.length > x.2.length then none else if x.1.length = x.2.length then some (hd x.1 / hd x.2) else some 0) = placeBy (hv (tf x) 1 0) (hv (bf x) 1 0)
    rw [h.tt, h.bt]
    have hd' := h.deg
    unfold degP at hd'
    unfold placeBy
    by_cases c1 : x.1.length > x.2.length
    · rw [if_pos c1, if_pos (cf_big (by omega))]
    · rw [if_neg c1]
      have c3 : cf x.2 n = 1 := by
        have h1 := h.h1
        unfold hd at h1
        rwa [show x.2.length - 1 = n by omega] at h1
      have c4 : ¬ (cf x.2 n = 0) := by rw [c3]; decide
      rw [if_neg c4]
      by_cases c2 : x.1.length = x.2.length
      · rw [if_pos c2]
        unfold hd
        rw [show x.1.length - 1 = n by omega, show x.2.length - 1 = n by omega]
      · rw [if_neg c2, cf_big (p := x.1) (by omega)]
        congr 1
        grind
theorem worth_eq {x : List Rat × List Rat} {n : Nat} (h : Fr x n) (o : Option Rat) : worthOf x o = lWorthAt x o := by rw [worthOf_eq h, lWorthAt_eq h]
theorem place_pair {X Y : Rat} (h : X ≠ 0 ∨ Y ≠ 0) : ∃ k : Rat, k ≠ 0 ∧ X = k * (pair (placeBy X Y)).1 ∧ Y = k * (pair (placeBy X Y)).2 := by
  unfold placeBy
  by_cases hy : Y = 0
  · rw [if_pos hy]
    refine ⟨X, h.resolve_right (fun z => z hy), ?_, ?_⟩
    · show X = X * 1; grind
    · show Y = X * 0; grind
  · rw [if_neg hy]
    refine ⟨Y, hy, ?_, ?_⟩
    · show X = Y * (X / Y); grind
    · show Y = Y * 1; grind
/-- the fibre at o, not yet told -/
def fibL (x : List Rat × List Rat) : Option Rat → List Rat
  | none => bf x
  | some q => fillF (lessOf x.1 (byNumber x.2 q)) (degP x + 1)
theorem fibreOf_eq (x : List Rat × List Rat) (o : Option Rat) : fibreOf x o = toldOf (fibL x o) := by cases o <;> rfl
theorem less_len (p q : List Rat) : (lessOf p q).length ≤ max p.length q.length := by
  unfold lessOf sumOf
  refine Nat.le_trans (trim_le _) ?_
  rw [addL_len]
  have : (byNumber q (-1)).length ≤ q.length := Nat.le_trans (trim_le _) (by simp)
  omega
theorem by_len (q : List Rat) (r : Rat) : (byNumber q r).length ≤ q.length := Nat.le_trans (trim_le _) (by simp)
theorem fibL_len {x : List Rat × List Rat} {n : Nat} (h : Fr x n) (o : Option Rat) : (fibL x o).length = n + 1 := by
  have l1 := h.l1
  have l2 := h.l2
  have hd' := h.deg
  cases o with
  | none => exact h.lb
  | some q =>
    show (fillF _ _).length = _
    have := less_len x.1 (byNumber x.2 q)
    have := by_len x.2 q
    rw [fillF_len _ _ (by omega), h.deg]
theorem lFibre_eq {x : List Rat × List Rat} {n : Nat} (h : Fr x n) (o : Option Rat) : lFibre x o = fibreOf x o := by
  rw [fibreOf_eq, told_headed]
  cases o with
  | none => rfl
  | some q =>
    show lHeaded (fillF (sumOf x.1 (byNumber x.2 (-q))) (degP x + 1)) = lHeaded (fibL x (some q))
    have e : fillF (sumOf x.1 (byNumber x.2 (-q))) (degP x + 1) = fibL x (some q) := by
      have l1 := h.l1
      have l2 := h.l2
      have b := by_len x.2 (-q)
      have s : (sumOf x.1 (byNumber x.2 (-q))).length ≤ max x.1.length (byNumber x.2 (-q)).length := by
        unfold sumOf
        refine Nat.le_trans (trim_le _) ?_
        rw [addL_len]
        omega
      refine form_eq ?_ fun z => ?_
      · rw [fillF_len _ _ (by omega), fibL_len h, h.deg]
      · rw [ev_fill, ev_sumOf, ev_byNumber]
        show _ = ev (fillF _ _) z
        rw [ev_fill, ev_lessOf, ev_byNumber]; grind
    rw [e]
theorem lPart_eq {x : List Rat × List Rat} {n : Nat} (h : Fr x n) (o : Option Rat) : lPart x o = partAt x o := by
  unfold lPart partAt
  rw [lFibre_eq h, worth_eq h]
theorem hv_fibL {x : List Rat × List Rat} {n : Nat} (h : Fr x n) (o : Option Rat) : ∃ s : Rat, s ≠ 0 ∧ ∀ a b, hv (fibL x o) a b = s * (hv (tf x) a b * (pair o).2 - hv (bf x) a b * (pair o).1) := by
  cases o with
  | none => exact ⟨-1, by decide, fun a b => by show hv (bf x) a b = -1 * (_ * 0 - _ * 1); grind⟩
  | some q =>
    refine ⟨1, by decide, fun a b => ?_⟩
    have e : fibL x (some q) = addL (tf x) ((bf x).map (· * (-q))) := by
      refine form_eq ?_ fun z => ?_
      · rw [fibL_len h, addL_len, List.length_map, h.lt, h.lb]; omega
      · show ev (fillF _ _) z = _
        rw [ev_fill, ev_lessOf, ev_byNumber, ev_addL, ev_map _ _ (-q) (fun _ => rfl)]
        unfold tf bf
        rw [ev_fill, ev_fill]; grind
    rw [e, hv_addL (by rw [List.length_map, h.lt, h.lb]), hv_map _ _ (-q) (fun _ => rfl)]
    show _ = 1 * (_ * 1 - _ * q)
    grind
/-- top and bottom are not proportional -/
theorem Fr.indep {x : List Rat × List Rat} {n : Nat} (h : Fr x n) {α β : Rat} (hab : α ≠ 0 ∨ β ≠ 0) : ∃ z, α * ev x.1 z + β * ev x.2 z ≠ 0 := by
  apply Classical.byContradiction
  intro hno
  have hz : ∀ z, α * ev x.1 z + β * ev x.2 z = 0 := fun z => Classical.byContradiction fun q => hno ⟨z, q⟩
  by_cases ha : α = 0
  · have hb := hab.resolve_left (fun z => z ha)
    obtain ⟨C, hC⟩ := nz_far h.t2 h.ne
    have h1 := hz (C : Rat)
    have h2 := hC C (Nat.le_refl _)
    rw [ha] at h1
    have : β * ev x.2 (C : Rat) = 0 := by grind
    rcases Rat.mul_eq_zero.mp this with q | q
    · exact hb q
    · exact h2 q
  · obtain ⟨u, v, e⟩ := h.bez
    have e1 : ∀ z, ev x.1 z = (-(β / α)) * ev x.2 z := fun z => by have := hz z; grind
    have e2 : ∀ z, ev [1] z = ev (trim (addL v (u.map (· * (-(β / α)))))) z * ev x.2 z := fun z => by
      rw [ev_trim, ev_addL, ev_map _ _ (-(β / α)) (fun _ => rfl)]
      have := e z
      rw [e1] at this
      show 1 + z * 0 = _
      grind
    have ne : trim (addL v (u.map (· * (-(β / α))))) ≠ [] := fun q => by
      have := e2 0
      rw [q] at this
      have h3 : ev [1] 0 = 1 := by show (1 : Rat) + 0 * 0 = 1; grind
      rw [h3] at this
      have h4 : ev ([] : List Rat) 0 = 0 := rfl
      rw [h4] at this
      grind
    have e3 := mul_len (r := [1]) (trim_tr _) h.t2 (.inr (by decide)) ne h.ne e2
    have e4 := congrArg List.length e3
    rw [conv_len] at e4
    have l0 := List.length_pos_iff.mpr ne
    have l2 := List.length_pos_iff.mpr h.ne
    have l3 : x.2.length = 1 := by simp at e4; omega
    have l4 : x.1.length ≤ x.2.length := by
      have e5 : trim x.1 = trim (x.2.map (· * (-(β / α)))) := trim_ev fun z => by rw [ev_map _ _ (-(β / α)) (fun _ => rfl), e1]; grind
      have e6 := trim_le (x.2.map (· * (-(β / α))))
      rw [← e5, trim_of_tr h.t1, List.length_map] at e6
      exact e6
    have hd' := h.deg
    have hp := h.pos
    unfold degP at hd'
    omega
/-- the part at o, not yet told -/
def partL (x : List Rat × List Rat) (o : Option Rat) : List Rat := fibL x (worthOf x o)
theorem partAt_eq (x : List Rat × List Rat) (o : Option Rat) : partAt x o = toldOf (partL x o) := fibreOf_eq _ _
theorem hv_partL {x : List Rat × List Rat} {n : Nat} (h : Fr x n) (o : Option Rat) : ∃ k : Rat, k ≠ 0 ∧ ∀ a b, hv (partL x o) a b = k * (hv (tf x) a b * B x o - hv (bf x) a b * T x o) := by
  obtain ⟨s, hs, e⟩ := hv_fibL h (worthOf x o)
  obtain ⟨k, hk, e1, e2⟩ := place_pair (h.none (pair_ne o))
  rw [← worthOf_eq h o] at e1 e2
  refine ⟨s / k, by grind, fun a b => ?_⟩
  show hv (fibL x (worthOf x o)) a b = _
  rw [e]
  show _ = s / k * (_ * hv (bf x) (pair o).1 (pair o).2 - _ * hv (tf x) (pair o).1 (pair o).2)
  rw [e1, e2]
  grind
theorem fib_ne {x : List Rat × List Rat} {n : Nat} (h : Fr x n) (o : Option Rat) : trim (fibL x o) ≠ [] := by
  obtain ⟨s, hs, e⟩ := hv_fibL h o
  obtain ⟨z, hz⟩ := h.indep (α := (pair o).2) (β := -(pair o).1) (by
    rcases pair_ne o with q | q
    · right; grind
    · exact .inl q)
  refine trim_ne (x := z) ?_
  rw [← hv_one, e, h.et, h.eb]
  intro q
  rcases Rat.mul_eq_zero.mp q with q | q
  · exact hs q
  · exact hz (by grind)
theorem part_ne {x : List Rat × List Rat} {n : Nat} (h : Fr x n) (o : Option Rat) : trim (partL x o) ≠ [] := fib_ne h _
theorem partL_len {x : List Rat × List Rat} {n : Nat} (h : Fr x n) (o : Option Rat) : (partL x o).length = n + 1 := fibL_len h _
end Mt
set_option Elab.async false
set_option linter.all false
set_option maxHeartbeats 1000000
/-! M8: what is put in has no common part. -/
namespace Mt
/-- a function given by a row -/
def PF (φ : Rat → Rat) : Prop := ∃ p : List Rat, ∀ z, φ z = ev p z
theorem PF.ev (p : List Rat) : PF (ev p) := ⟨p, fun _ => rfl⟩
theorem PF.c (c : Rat) : PF fun _ => c := ⟨[c], fun z => by show c = c + z * 0; grind⟩
theorem PF.add {φ ψ : Rat → Rat} (h : PF φ) (k : PF ψ) : PF fun z => φ z + ψ z := by
  obtain ⟨p, h⟩ := h
  obtain ⟨q, k⟩ := k
  exact ⟨addL p q, fun z => by show φ z + ψ z = _; rw [ev_addL, h, k]⟩
theorem PF.mul {φ ψ : Rat → Rat} (h : PF φ) (k : PF ψ) : PF fun z => φ z * ψ z := by
  obtain ⟨p, h⟩ := h
  obtain ⟨q, k⟩ := k
  exact ⟨conv p q, fun z => by show φ z * ψ z = _; rw [ev_conv, h, k]⟩
theorem PF.pow {φ : Rat → Rat} (h : PF φ) : ∀ n : Nat, PF fun z => φ z ^ n
  | 0 => ⟨[1], fun z => by show φ z ^ 0 = 1 + z * 0; grind⟩
  | n + 1 => by
    obtain ⟨p, e⟩ := (PF.pow h n).mul h
    exact ⟨p, fun z => by show φ z ^ (n + 1) = _; rw [Rat.pow_succ]; exact e z⟩
theorem PF.hv {φ ψ : Rat → Rat} (h : PF φ) (k : PF ψ) : ∀ L : List Rat, PF fun z => hv L (φ z) (ψ z)
  | [] => PF.c 0
  | c :: t => ((PF.c c).mul (k.pow t.length)).add (h.mul (PF.hv h k t))
theorem PF.far {φ ψ : Rat → Rat} (h : PF φ) (k : PF ψ) {B : Nat} (e : ∀ n : Nat, B ≤ n → φ n = ψ n) (z : Rat) : φ z = ψ z := by
  obtain ⟨p, h⟩ := h
  obtain ⟨q, k⟩ := k
  rw [h, k]
  exact ev_far (B := B) (fun n hn => by rw [← h, ← k]; exact e n hn) z
theorem bez_pf {p q : List Rat} {u v : Rat → Rat} (hu : PF u) (hv' : PF v) (e : ∀ z, u z * ev p z + v z * ev q z = 1) : Bez p q := by
  obtain ⟨a, ha⟩ := hu
  obtain ⟨b, hb⟩ := hv'
  exact ⟨a, b, fun z => by rw [← ha, ← hb]; exact e z⟩
theorem hv_snoc (L : List Rat) (c a b : Rat) : hv (L ++ [c]) a b = c * a ^ L.length + b * hv L a b := by
  induction L with
  | nil => show c * b ^ 0 + a * 0 = c * a ^ 0 + b * 0; grind
  | cons d t ih =>
    show d * b ^ (t ++ [c]).length + a * hv (t ++ [c]) a b = c * a ^ (t.length + 1) + b * (d * b ^ t.length + a * hv t a b)
    rw [ih, List.length_append, Rat.pow_succ]
    show d * b ^ (t.length + 1) + _ = _
    rw [Rat.pow_succ]; grind
theorem snoc_hd {p : List Rat} (h : p ≠ []) : p.dropLast ++ [hd p] = p := by
  rcases List.eq_nil_or_concat p with rfl | ⟨q, a, rfl⟩
  · exact absurd rfl h
  · rw [List.concat_eq_append, cf_append_last, List.dropLast_concat]
/-- (X + Y)^n = X^n + Y r -/
theorem pow_split {X t q : Rat → Rat} (hX : PF X) (ht : PF t) (hq : PF q) : ∀ n : Nat, ∃ r, PF r ∧ ∀ z, (X z + t z * q z) ^ n = X z ^ n + q z * r z
  | 0 => ⟨fun _ => 0, PF.c 0, fun z => by show _ = _ + q z * 0; grind⟩
  | n + 1 => by
    obtain ⟨r, hr, e⟩ := pow_split hX ht hq n
    refine ⟨fun z => (r z * X z + t z * X z ^ n) + r z * (t z * q z), ((hr.mul hX).add (ht.mul (hX.pow n))).add (hr.mul (ht.mul hq)), fun z => ?_⟩
    rw [Rat.pow_succ, e, Rat.pow_succ]
    show _ = _ + q z * ((r z * X z + t z * X z ^ n) + r z * (t z * q z))
    grind
/-- the combination that is a power of the second letter -/
theorem bez_form {x : List Rat × List Rat} {n : Nat} (h : Fr x n) : ∃ (U V : List Rat) (N : Nat), ∀ a b, hv U a b * hv (tf x) a b + hv V a b * hv (bf x) a b = b ^ N := by
  obtain ⟨u, v, e⟩ := h.bez
  have lu : u.length ≤ max u.length v.length + 1 := by omega
  have lv : v.length ≤ max u.length v.length + 1 := by omega
  have fu := fillF_len u _ lu
  have fv := fillF_len v _ lv
  generalize hL : max u.length v.length = L at lu lv fu fv
  refine ⟨fillF u (L + 1), fillF v (L + 1), L + n, fun a b => ?_⟩
  have hl : addL (conv (fillF u (L + 1)) (tf x)) (conv (fillF v (L + 1)) (bf x)) = 1 :: List.replicate (L + n) 0 := by
    refine form_eq ?_ fun z => ?_
    · rw [addL_len, conv_len, conv_len, fu, fv, h.lt, h.lb]; simp; omega
    · rw [ev_addL, ev_conv, ev_conv, ev_fill, ev_fill]
      show _ = 1 + z * ev (List.replicate (L + n) 0) z
      rw [ev_zeros]
      have := e z
      unfold tf bf
      rw [ev_fill, ev_fill]; grind
  have hh : hv (addL (conv (fillF u (L + 1)) (tf x)) (conv (fillF v (L + 1)) (bf x))) a b = hv (1 :: List.replicate (L + n) 0) a b := congrArg (fun l => hv l a b) hl
  rw [hv_addL (by rw [conv_len, conv_len, fu, fv, h.lt, h.lb]), hv_conv _ _ (ne_of_len fu) (ne_of_len h.lt), hv_conv _ _ (ne_of_len fv) (ne_of_len h.lb), hv_cons, hv_zeros, List.length_replicate] at hh
  rw [hh]; grind
theorem bez_comp {f h : List Rat × List Rat} {n m : Nat} (Ff : Fr f n) (Fh : Fr h m) {X Y : List Rat} (eX : ∀ z, ev X z = hv (tf f) (ev h.1 z) (ev h.2 z)) (eY : ∀ z, ev Y z = hv (bf f) (ev h.1 z) (ev h.2 z)) : Bez X Y := by
  obtain ⟨U, V, N, eN⟩ := bez_form Ff
  obtain ⟨s, t, est⟩ := Fh.bez
  have hp := PF.ev h.1
  have hq := PF.ev h.2
  have hU := PF.hv hp hq U
  have hV := PF.hv hp hq V
  obtain ⟨r, hr, er⟩ := pow_split (X := fun z => ev s z * ev h.1 z) (t := ev t) (q := ev h.2) ((PF.ev s).mul hp) (PF.ev t) hq n
  have er' : ∀ z, 1 = ev s z ^ n * ev h.1 z ^ n + ev h.2 z * r z := fun z => by
    have := er z
    rw [est z, one_pw, mul_pw] at this
    exact this
  -- one of the two rows has a top coefficient
  have go : ∀ (L W : List Rat), L.length = n + 1 → hv L 1 0 ≠ 0 → (∀ z, ev W z = hv L (ev h.1 z) (ev h.2 z)) → ∃ A C, PF A ∧ PF C ∧ ∀ z, A z * ev W z + C z * ev h.2 z = 1 := fun L W hL h0 eW => by
    have hne := ne_of_len hL
    rw [hv_last hne] at h0
    have e1 : ∀ a b, hv L a b = hd L * a ^ n + b * hv L.dropLast a b := fun a b => by
      have := hv_snoc L.dropLast (hd L) a b
      rw [snoc_hd hne, List.length_dropLast, hL] at this
      exact this
    have hS := PF.hv hp hq L.dropLast
    refine ⟨fun z => (1 / hd L) * ev s z ^ n, fun z => r z + (-(1 / hd L)) * (ev s z ^ n * hv L.dropLast (ev h.1 z) (ev h.2 z)), (PF.c _).mul ((PF.ev s).pow n), hr.add ((PF.c _).mul (((PF.ev s).pow n).mul hS)), fun z => ?_⟩
    rw [eW, e1]
    have := er' z
    show 1 / hd L * ev s z ^ n * (hd L * ev h.1 z ^ n + ev h.2 z * hv L.dropLast (ev h.1 z) (ev h.2 z)) + (r z + (-(1 / hd L)) * (ev s z ^ n * hv L.dropLast (ev h.1 z) (ev h.2 z))) * ev h.2 z = 1
    have h1 : 1 / hd L * hd L = 1 := by grind
    generalize ev s z ^ n = sn at this ⊢
    generalize ev h.1 z ^ n = pn at this ⊢
    generalize hv L.dropLast (ev h.1 z) (ev h.2 z) = S
    generalize ev h.2 z = q at this ⊢
    generalize r z = rz at this ⊢
    generalize 1 / hd L = k at h1 ⊢
    grind
  rcases Ff.top with ht | ht
  · obtain ⟨A, C, hA, hC, e⟩ := go _ X Ff.lt ht eX
    obtain ⟨r2, hr2, er2⟩ := pow_split (X := fun z => C z * ev h.2 z) (t := A) (q := ev X) (hC.mul hq) hA (PF.ev X) N
    refine bez_pf (u := fun z => C z ^ N * hv U (ev h.1 z) (ev h.2 z) + r2 z) (v := fun z => C z ^ N * hv V (ev h.1 z) (ev h.2 z)) (((hC.pow N).mul hU).add hr2) ((hC.pow N).mul hV) fun z => ?_
    have e1 := er2 z
    have e2 := e z
    rw [show C z * ev h.2 z + A z * ev X z = 1 by grind, one_pw, mul_pw, ← eN (ev h.1 z) (ev h.2 z), ← eX, ← eY] at e1
    show (C z ^ N * hv U (ev h.1 z) (ev h.2 z) + r2 z) * ev X z + C z ^ N * hv V (ev h.1 z) (ev h.2 z) * ev Y z = 1
    rw [e1]; grind
  · obtain ⟨A, C, hA, hC, e⟩ := go _ Y Ff.lb ht eY
    obtain ⟨r2, hr2, er2⟩ := pow_split (X := fun z => C z * ev h.2 z) (t := A) (q := ev Y) (hC.mul hq) hA (PF.ev Y) N
    refine bez_pf (u := fun z => C z ^ N * hv U (ev h.1 z) (ev h.2 z)) (v := fun z => C z ^ N * hv V (ev h.1 z) (ev h.2 z) + r2 z) ((hC.pow N).mul hU) (((hC.pow N).mul hV).add hr2) fun z => ?_
    have e1 := er2 z
    have e2 := e z
    rw [show C z * ev h.2 z + A z * ev Y z = 1 by grind, one_pw, mul_pw, ← eN (ev h.1 z) (ev h.2 z), ← eX, ← eY] at e1
    show C z ^ N * hv U (ev h.1 z) (ev h.2 z) * ev X z + (C z ^ N * hv V (ev h.1 z) (ev h.2 z) + r2 z) * ev Y z = 1
    rw [e1]; grind
end Mt
set_option Elab.async false
set_option linter.all false
set_option maxHeartbeats 1000000
/-! M9: the whole is full; forms of the whole. -/
namespace Mt
theorem by_eq {p : List Rat} {k : Rat} (t : Tr p) (hk : k ≠ 0) : byNumber p k = p.map (k * ·) := by
  refine tr_ev (trim_tr _) (tr_smul hk t) fun x => ?_
  rw [ev_byNumber, ev_map p _ k (by intro c; grind)]
theorem len_cf {p : List Rat} {n : Nat} (h : cf p n ≠ 0) : n < p.length := Nat.lt_of_not_le fun q => h (cf_big q)
/-- F is f of h -/
structure Comp (f h F : List Rat × List Rat) (n m : Nat) : Prop where
  ff : Fr f n
  fh : Fr h m
  fF : Fr F (n * m)
  k : ∃ k : Rat, k ≠ 0 ∧ ∀ a b, hv (tf F) a b = k * hv (tf f) (hv (tf h) a b) (hv (bf h) a b) ∧ hv (bf F) a b = k * hv (bf f) (hv (tf h) a b) (hv (bf h) a b)
theorem ev_ofT {f h : List Rat × List Rat} {n m : Nat} (Ff : Fr f n) (z : Rat) : ev (ofT f h) z = hv (tf f) (ev h.1 z) (ev h.2 z) := ev_tot _ _ _ _ Ff.l1
theorem ev_ofB {f h : List Rat × List Rat} {n m : Nat} (Ff : Fr f n) (z : Rat) : ev (ofB f h) z = hv (bf f) (ev h.1 z) (ev h.2 z) := ev_tot _ _ _ _ Ff.l2
/-- rows put in: their forms -/
theorem comp_form {h : List Rat × List Rat} {n m : Nat} (Fh : Fr h m) {L X : List Rat} (hL : L.length = n + 1) (tX : Tr X) (eX : ∀ z, ev X z = hv L (ev h.1 z) (ev h.2 z)) :
    X = trim (compL (tf h) (bf h) L) ∧ X.length ≤ n * m + 1 ∧ cf X (n * m) = hv L (hv (tf h) 1 0) (hv (bf h) 1 0) ∧ ∀ a b, hv (fillF X (n * m + 1)) a b = hv L (hv (tf h) a b) (hv (bf h) a b) := by
  have lC := compL_len Fh.lt Fh.lb L n hL
  have eC : ∀ z, ev (compL (tf h) (bf h) L) z = ev X z := fun z => by
    rw [← hv_one, hv_compL Fh.lt Fh.lb, Fh.et, Fh.eb, eX]
  have e1 : X = trim (compL (tf h) (bf h) L) := tr_ev tX (trim_tr _) fun z => by rw [ev_trim, eC]
  have l1 : X.length ≤ n * m + 1 := by rw [e1, ← lC]; exact trim_le _
  have e2 : fillF X (n * m + 1) = compL (tf h) (bf h) L := form_eq (by rw [fillF_len _ _ l1, lC]) fun z => by rw [ev_fill, eC]
  refine ⟨e1, l1, ?_, fun a b => by rw [e2, hv_compL Fh.lt Fh.lb]⟩
  have := hv_fill_top X (n * m) l1
  rw [← this, e2, hv_compL Fh.lt Fh.lb]
theorem comp_rows {f h : List Rat × List Rat} {n m : Nat} (Ff : Fr f n) (Fh : Fr h m) {X Y : List Rat} (tX : Tr X) (tY : Tr Y) (eX : ∀ z, ev X z = hv (tf f) (ev h.1 z) (ev h.2 z)) (eY : ∀ z, ev Y z = hv (bf f) (ev h.1 z) (ev h.2 z)) :
    X ≠ [] ∧ Y ≠ [] ∧ X.length ≤ n * m + 1 ∧ Y.length ≤ n * m + 1 ∧ max X.length Y.length = n * m + 1 := by
  obtain ⟨_, l1, c1, _⟩ := comp_form Fh Ff.lt tX eX
  obtain ⟨_, l2, c2, _⟩ := comp_form Fh Ff.lb tY eY
  have hB := bez_comp Ff Fh eX eY
  have top : cf X (n * m) ≠ 0 ∨ cf Y (n * m) ≠ 0 := by rw [c1, c2]; exact Ff.none Fh.top
  have hpos : 0 < n * m := Nat.mul_pos Ff.pos Fh.pos
  have hmax : max X.length Y.length = n * m + 1 := by
    rcases top with q | q
    · have := len_cf q; omega
    · have := len_cf q; omega
  obtain ⟨u, v, e⟩ := hB
  -- a row whose partner is empty has length 1
  have go : ∀ (p q r : List Rat), Tr p → (∀ z, ev q z * ev p z + ev r z * 0 = 1) → p.length = 1 := fun p q r tp e => by
    have hp : p ≠ [] := fun z => by have := e 0; rw [z] at this; have h0 : ev ([] : List Rat) 0 = 0 := rfl; rw [h0] at this; grind
    have hq : trim q ≠ [] := fun z => by have := e 0; rw [← ev_trim, z] at this; have h0 : ev ([] : List Rat) 0 = 0 := rfl; rw [h0] at this; grind
    have h1 := mul_len (r := [1]) (trim_tr q) tp (.inr (by decide)) hq hp fun z => by
      rw [ev_trim]; have := e z; show 1 + z * 0 = _; grind
    have h2 := congrArg List.length h1
    rw [conv_len] at h2
    have l0 := List.length_pos_iff.mpr hq
    have l1 := List.length_pos_iff.mpr hp
    simp at h2
    omega
  refine ⟨fun z => ?_, fun z => ?_, l1, l2, hmax⟩
  · subst z
    have := go Y v u tY fun z => by have := e z; have h0 : ev ([] : List Rat) z = 0 := rfl; rw [h0] at this; grind
    rw [this] at hmax
    simp at hmax
    omega
  · subst z
    have := go X u v tX fun z => by have := e z; have h0 : ev ([] : List Rat) z = 0 := rfl; rw [h0] at this; grind
    rw [this] at hmax
    simp at hmax
    omega
theorem comp_of {f h : List Rat × List Rat} {n m : Nat} (Ff : Fr f n) (Fh : Fr h m) {X Y : List Rat} (tX : Tr X) (tY : Tr Y) (eX : ∀ z, ev X z = hv (tf f) (ev h.1 z) (ev h.2 z)) (eY : ∀ z, ev Y z = hv (bf f) (ev h.1 z) (ev h.2 z)) :
    Comp f h (X.map (1 / hd Y * ·), Y.map (1 / hd Y * ·)) n m := by
  obtain ⟨nX, nY, l1, l2, hmax⟩ := comp_rows Ff Fh tX tY eX eY
  have hY := tY.resolve_left nY
  have hk : 1 / hd Y ≠ 0 := by grind
  have hpos : 0 < n * m := Nat.mul_pos Ff.pos Fh.pos
  have hdeg : degP (X.map (1 / hd Y * ·), Y.map (1 / hd Y * ·)) = n * m := by unfold degP; simp only [List.length_map]; omega
  obtain ⟨_, _, _, f1⟩ := comp_form Fh Ff.lt tX eX
  obtain ⟨_, _, _, f2⟩ := comp_form Fh Ff.lb tY eY
  have fm : ∀ (p : List Rat) (k : Rat), p.length ≤ n * m + 1 → ∀ a b, hv (fillF (p.map (k * ·)) (n * m + 1)) a b = k * hv (fillF p (n * m + 1)) a b := fun p k hl a b => by
    have e : fillF (p.map (k * ·)) (n * m + 1) = (fillF p (n * m + 1)).map (k * ·) := form_eq (by rw [fillF_len _ _ (by simpa using hl), List.length_map, fillF_len _ _ hl]) fun z => by
      rw [ev_fill, ev_map p _ k (by intro c; grind), ev_map _ _ k (by intro c; grind), ev_fill]
    rw [e, hv_map _ _ k (by intro c; grind)]; grind
  refine ⟨Ff, Fh, ⟨tr_smul hk tX, tr_smul hk tY, fun z => nY (List.map_eq_nil_iff.mp z), ?_, hdeg, hpos, ?_⟩, 1 / hd Y, hk, fun a b => ⟨?_, ?_⟩⟩
  · show hd (Y.map (1 / hd Y * ·)) = 1
    rw [hd_smul]; grind
  · obtain ⟨u, v, e⟩ := bez_comp Ff Fh eX eY
    refine ⟨u.map (hd Y * ·), v.map (hd Y * ·), fun z => ?_⟩
    show ev (u.map (hd Y * ·)) z * ev (X.map (1 / hd Y * ·)) z + ev (v.map (hd Y * ·)) z * ev (Y.map (1 / hd Y * ·)) z = 1
    rw [ev_map u _ (hd Y) (by intro c; grind), ev_map v _ (hd Y) (by intro c; grind), ev_map X _ (1 / hd Y) (by intro c; grind), ev_map Y _ (1 / hd Y) (by intro c; grind)]
    have := e z
    have h1 : hd Y * (1 / hd Y) = 1 := by grind
    generalize 1 / hd Y = k at h1 ⊢
    grind
  · unfold tf; rw [hdeg]
    show hv (fillF (X.map (1 / hd Y * ·)) (n * m + 1)) a b = _
    rw [fm X _ l1, f1]; rfl
  · unfold bf; rw [hdeg]
    show hv (fillF (Y.map (1 / hd Y * ·)) (n * m + 1)) a b = _
    rw [fm Y _ l2, f2]; rfl
/-- the law's own whole -/
theorem comp_lOf {f h : List Rat × List Rat} {n m : Nat} (Ff : Fr f n) (Fh : Fr h m) : Comp f h (lOf f h) n m ∧ ofT f h ≠ [] ∧ ofB f h ≠ [] := by
  have tX : Tr (ofT f h) := tot_tr f.1 h (degP f) f.1.length
  have tY : Tr (ofB f h) := tot_tr f.2 h (degP f) f.2.length
  have eX : ∀ z, ev (ofT f h) z = hv (tf f) (ev h.1 z) (ev h.2 z) := fun z => ev_ofT (n := n) (m := m) Ff z
  have eY : ∀ z, ev (ofB f h) z = hv (bf f) (ev h.1 z) (ev h.2 z) := fun z => ev_ofB (n := n) (m := m) Ff z
  obtain ⟨nX, nY, _⟩ := comp_rows Ff Fh tX tY eX eY
  have hY : hd (ofB f h) ≠ 0 := tY.resolve_left nY
  have hk : 1 / hd (ofB f h) ≠ 0 := by grind
  have := comp_of Ff Fh tX tY eX eY
  refine ⟨?_, nX, nY⟩
  unfold lOf
  rw [by_eq tX hk, by_eq tY hk]
  exact this
end Mt
set_option Elab.async false
set_option linter.all false
set_option maxHeartbeats 1000000
/-! M10: parts of the whole, the fibre of the whole. -/
namespace Mt
theorem hv_homn {L : List Rat} {n : Nat} (h : L.length = n + 1) (k x y : Rat) (hk : k ≠ 0) : hv L (k * x) (k * y) = k ^ n * hv L x y := by
  have := hv_hom L k x y
  rw [h, Rat.pow_succ] at this
  have h2 : k * hv L (k * x) (k * y) = k * (k ^ n * hv L x y) := by rw [this]; grind
  have h3 : k * (hv L (k * x) (k * y) - k ^ n * hv L x y) = 0 := by grind
  rcases Rat.mul_eq_zero.mp h3 with z | z
  · exact absurd z hk
  · grind
theorem told_smul {f : List Rat} (h : trim f ≠ []) : ∃ k : Rat, k ≠ 0 ∧ toldOf f = f.map (k * ·) := by
  obtain ⟨k, hk, e⟩ := told_self h
  exact ⟨k, hk, form_eq (by rw [toldOf_len, List.length_map]) fun x => by rw [e, ev_map _ _ k (by intro c; grind)]; grind⟩
/-- a led form, not yet told -/
def ledL (form : List Rat) (h : List Rat × List Rat) : List Rat := fillF (ledT form h) ((form.length - 1) * degP h + 1)
theorem lLed_eq (form : List Rat) (h : List Rat × List Rat) : lLed form h = toldOf (ledL form h) := (told_headed _).symm
theorem led_form {h : List Rat × List Rat} {m N : Nat} (Fh : Fr h m) {form : List Rat} (hl : form.length = N + 1) :
    (ledL form h).length = N * m + 1 ∧ (ledT form h).length ≤ N * m + 1 ∧ ∀ a b, hv (ledL form h) a b = hv form (hv (tf h) a b) (hv (bf h) a b) := by
  have ef : fillF form (N + 1) = form := by unfold fillF; rw [hl, Nat.sub_self, List.replicate_zero, List.append_nil]
  have e : ∀ z, ev (ledT form h) z = hv form (ev h.1 z) (ev h.2 z) := fun z => by
    unfold ledT
    rw [hl, Nat.add_sub_cancel]
    have := ev_tot form h N z (by omega)
    rw [hl, ef] at this
    exact this
  obtain ⟨_, l1, _, f1⟩ := comp_form Fh hl (tot_tr form h (form.length - 1) form.length) e
  have e2 : ledL form h = fillF (ledT form h) (N * m + 1) := by unfold ledL; rw [hl, Fh.deg, Nat.add_sub_cancel]
  exact ⟨by rw [e2]; exact fillF_len _ _ l1, l1, fun a b => by rw [e2]; exact f1 a b⟩
/-- the part of the whole is the part of the outer, the inner put in -/
theorem part_comp {f h F : List Rat × List Rat} {n m : Nat} (C : Comp f h F n m) (o : Option Rat) : ∃ k : Rat, k ≠ 0 ∧ ∀ a b, hv (partL F o) a b = k * hv (partL f (lWorthAt h o)) (hv (tf h) a b) (hv (bf h) a b) := by
  obtain ⟨k1, hk1, e1⟩ := hv_partL C.fF o
  obtain ⟨k2, hk2, e2⟩ := hv_partL C.ff (lWorthAt h o)
  obtain ⟨k, hk, e⟩ := C.k
  obtain ⟨k3, hk3, e3, e4⟩ := place_pair (C.fh.none (pair_ne o))
  rw [← lWorthAt_eq C.fh o] at e3 e4
  have p3 := pw_ne hk3 n
  have eT : T F o = k * (k3 ^ n * T f (lWorthAt h o)) := by
    show hv (tf F) (pair o).1 (pair o).2 = _
    rw [(e _ _).1, e3, e4, hv_homn C.ff.lt _ _ _ hk3]
  have eB : B F o = k * (k3 ^ n * B f (lWorthAt h o)) := by
    show hv (bf F) (pair o).1 (pair o).2 = _
    rw [(e _ _).2, e3, e4, hv_homn C.ff.lb _ _ _ hk3]
  refine ⟨k1 * k * k * k3 ^ n / k2, by grind, fun a b => ?_⟩
  rw [e1, e2, eT, eB, (e a b).1, (e a b).2]
  generalize k3 ^ n = k4 at p3 ⊢
  grind
theorem part_led {f h F : List Rat × List Rat} {n m : Nat} (C : Comp f h F n m) (o : Option Rat) : partAt F o = lLed (lPart f (lWorthAt h o)) h := by
  obtain ⟨k, hk, e⟩ := part_comp C o
  have hp := part_ne C.ff (lWorthAt h o)
  obtain ⟨k2, hk2, e2⟩ := told_smul hp
  have l1 := partL_len C.ff (lWorthAt h o)
  have l2 : (toldOf (partL f (lWorthAt h o))).length = n + 1 := by rw [toldOf_len, l1]
  obtain ⟨l3, _, e3⟩ := led_form C.fh l2
  rw [partAt_eq, lLed_eq, lPart_eq C.ff, partAt_eq]
  refine told_prop (k := k / k2) (by rw [partL_len C.fF, l3]) (by grind) fun z => ?_
  rw [← hv_one, ← hv_one, e, e3, e2, hv_map _ _ k2 (by intro c; grind)]
  grind
/-- .. and so is the fibre -/
theorem fib_led {f h F : List Rat × List Rat} {n m : Nat} (C : Comp f h F n m) (o : Option Rat) : fibreOf F o = lLed (lFibre f o) h := by
  obtain ⟨s1, hs1, e1⟩ := hv_fibL C.fF o
  obtain ⟨s2, hs2, e2⟩ := hv_fibL C.ff o
  obtain ⟨k, hk, e⟩ := C.k
  obtain ⟨k2, hk2, e3⟩ := told_smul (fib_ne C.ff o)
  have l2 : (toldOf (fibL f o)).length = n + 1 := by rw [toldOf_len, fibL_len C.ff]
  obtain ⟨l3, _, e4⟩ := led_form C.fh l2
  rw [fibreOf_eq, lLed_eq, lFibre_eq C.ff, fibreOf_eq]
  refine told_prop (k := s1 * k / (s2 * k2)) (by rw [fibL_len C.fF, l3]) (by grind) fun z => ?_
  rw [← hv_one, ← hv_one, e1, e4, e3, hv_map _ _ k2 (by intro c; grind), e2, (e z 1).1, (e z 1).2]
  grind
/-! ## factors of forms -/
/-- the line through the place (X : Y) -/
theorem form_factor {L : List Rat} {n : Nat} (hl : L.length = n + 2) {X Y : Rat} (hXY : X ≠ 0 ∨ Y ≠ 0) (h0 : hv L X Y = 0) : ∃ R : List Rat, R.length = n + 1 ∧ ∀ a b, hv L a b = (Y * a - X * b) * hv R a b := by
  by_cases hY : Y = 0
  · subst hY
    have hX : X ≠ 0 := hXY.resolve_right (fun z => z rfl)
    have hne := ne_of_len (m := n + 1) hl
    have e1 : ∀ a b, hv L a b = hd L * a ^ (n + 1) + b * hv L.dropLast a b := fun a b => by
      have := hv_snoc L.dropLast (hd L) a b
      rw [snoc_hd hne, List.length_dropLast, hl] at this
      exact this
    have hh : hd L = 0 := by
      have := e1 X 0
      rw [h0] at this
      have p := pw_ne hX (n + 1)
      have h2 : hd L * X ^ (n + 1) = 0 := by grind
      rcases Rat.mul_eq_zero.mp h2 with z | z
      · exact z
      · exact absurd z p
    refine ⟨L.dropLast.map ((-(1 / X)) * ·), by simp [hl], fun a b => ?_⟩
    rw [e1, hh, hv_map _ _ (-(1 / X)) (by intro c; grind)]
    grind
  · -- a root of a row
    have key : ∀ (n : Nat) (L : List Rat) (w : Rat), L.length = n + 2 → ∃ R : List Rat, R.length = n + 1 ∧ ∀ a b, hv L a b = (a - w * b) * hv R a b + ev L w * b ^ (n + 1) := by
      intro n
      induction n with
      | zero =>
        intro L w hl
        match L, hl with
        | [c, d], _ => exact ⟨[d], rfl, fun a b => by show c * b ^ 1 + a * (d * b ^ 0 + a * 0) = (a - w * b) * (d * b ^ 0 + a * 0) + (c + w * (d + w * 0)) * b ^ 1; grind⟩
      | succ n ih =>
        intro L w hl
        match L, hl with
        | c :: t, hl =>
          have ht : t.length = n + 2 := by simpa using hl
          obtain ⟨R, hR, e⟩ := ih t w ht
          refine ⟨ev t w :: R, by simp [hR], fun a b => ?_⟩
          rw [hv_cons, hv_cons, e, ht, hR]
          show _ = _ + (c + w * ev t w) * b ^ (n + 1 + 1)
          rw [Rat.pow_succ b (n + 1)]
          generalize b ^ (n + 1) = q
          grind
    obtain ⟨R, hR, e⟩ := key n L (X / Y) hl
    have hz : ev L (X / Y) = 0 := by
      have h1 := hv_homn (n := n + 1) hl Y (X / Y) 1 hY
      rw [show Y * (X / Y) = X by grind, show Y * 1 = Y by grind, h0, hv_one] at h1
      have p := pw_ne hY (n + 1)
      have h2 : Y ^ (n + 1) * ev L (X / Y) = 0 := h1.symm
      rcases Rat.mul_eq_zero.mp h2 with z | z
      · exact absurd z p
      · exact z
    refine ⟨R.map ((1 / Y) * ·), by simp [hR], fun a b => ?_⟩
    rw [e, hz, hv_map _ _ (1 / Y) (by intro c; grind)]
    grind
end Mt
set_option Elab.async false
set_option linter.all false
set_option maxHeartbeats 1000000
/-! M11: divisions. -/
namespace Mt
theorem ev_set (p : List Rat) (s : Nat) (f x : Rat) (h : s < p.length) : ev (p.set s f) x = ev p x + x ^ s * (f - cf p s) := by
  induction p generalizing s with
  | nil => simp at h
  | cons a t ih =>
    cases s with
    | zero => show f + x * ev t x = (a + x * ev t x) + x ^ 0 * (f - a); grind
    | succ s =>
      show a + x * ev (t.set s f) x = (a + x * ev t x) + x ^ (s + 1) * (f - cf t s)
      rw [ih s (by simpa using h), Rat.pow_succ]; grind
theorem ev_dropLast {p : List Rat} (h : p ≠ []) (x : Rat) : ev p.dropLast x = ev p x - hd p * x ^ (p.length - 1) := by
  have := ev_app p.dropLast [hd p] x
  rw [snoc_hd h, List.length_dropLast] at this
  have e : ev [hd p] x = hd p := by show hd p + x * 0 = hd p; grind
  rw [e] at this
  rw [this]; grind
theorem cf_set_ne (p : List Rat) (s i : Nat) (f : Rat) (h : s ≠ i) : cf (p.set s f) i = cf p i := by
  unfold cf
  rw [List.getD_eq_getElem?_getD, List.getD_eq_getElem?_getD, List.getElem?_set_ne h]
theorem ev_pRest {other rest : List Rat} (ho : other ≠ []) (h0 : hd other ≠ 0) (h : other.length ≤ rest.length) (x : Rat) :
    ev (pRest other rest) x = ev rest x - x ^ (rest.length - other.length) * (hd rest / hd other) * ev other x := by
  have lo := List.length_pos_iff.mpr ho
  have hr : rest ≠ [] := List.ne_nil_of_length_pos (by omega)
  unfold pRest
  have hl : (addAt (rest.length - other.length) rest (other.dropLast.map fun o => -(hd rest / hd other * o))).length = rest.length := addAt_len _ _ _
  have hne : addAt (rest.length - other.length) rest (other.dropLast.map fun o => -(hd rest / hd other * o)) ≠ [] := List.ne_nil_of_length_pos (by omega)
  have hh : hd (addAt (rest.length - other.length) rest (other.dropLast.map fun o => -(hd rest / hd other * o))) = hd rest := by
    show cf _ (_ - 1) = cf rest (rest.length - 1)
    rw [hl, cf_addAt _ _ _ _ (by omega), if_pos (by omega), cf_big (p := other.dropLast.map _) (by rw [List.length_map, List.length_dropLast]; omega)]
    grind
  rw [ev_trim, ev_dropLast hne, hh, hl, ev_addAt _ _ _ _ (by rw [List.length_map, List.length_dropLast]; omega), ev_map other.dropLast _ (-(hd rest / hd other)) (by intro c; grind), ev_dropLast ho]
  have e : x ^ (rest.length - 1) = x ^ (rest.length - other.length) * x ^ (other.length - 1) := by
    rw [← pw_add]; congr 1; omega
  rw [e]
  generalize x ^ (rest.length - other.length) = a
  generalize x ^ (other.length - 1) = b
  grind
theorem partsG_spec {other : List Rat} (ho : other ≠ []) (h0 : hd other ≠ 0) : ∀ (n : Nat) (quo rest : List Rat), rest.length < n → rest.length < quo.length + other.length → (∀ i, i + other.length ≤ rest.length → cf quo i = 0) → Tr rest →
    (∀ x, ev quo x * ev other x + ev rest x = ev (partsG other n (quo, rest)).1 x * ev other x + ev (partsG other n (quo, rest)).2 x) ∧ Tr (partsG other n (quo, rest)).2 ∧ (partsG other n (quo, rest)).2.length < other.length ∧ (partsG other n (quo, rest)).1.length = quo.length := by
  have lo := List.length_pos_iff.mpr ho
  intro n
  induction n with
  | zero => intro quo rest h; omega
  | succ n ih =>
    intro quo rest h1 h2 h3 t
    unfold partsG
    split
    · rename_i hle
      have hlt := pRest_lt (other := other) (rest := rest) (by omega)
      obtain ⟨i1, i2, i3, i4⟩ := ih (pQuo other rest quo) (pRest other rest) (by omega) (by unfold pQuo; rw [List.length_set]; omega) (fun i hi => by
        unfold pQuo
        rw [cf_set_ne _ _ _ _ (by omega)]
        exact h3 i (by omega)) (trim_tr _)
      refine ⟨fun x => ?_, i2, i3, by rw [i4]; unfold pQuo; rw [List.length_set]⟩
      rw [← i1 x, ev_pRest ho h0 hle]
      unfold pQuo
      rw [ev_set _ _ _ _ (by omega), h3 _ (by omega)]
      grind
    · rename_i hle
      exact ⟨fun x => rfl, t, by simp only; omega, rfl⟩
theorem partsOf_spec {one other : List Rat} (ho : other ≠ []) (h0 : hd other ≠ 0) (t : Tr one) : (∀ x, ev one x = ev (partsOf one other).1 x * ev other x + ev (partsOf one other).2 x) ∧ Tr (partsOf one other).2 ∧ (partsOf one other).2.length < other.length ∧ (partsOf one other).1.length = one.length + 1 - other.length := by
  have lo := List.length_pos_iff.mpr ho
  obtain ⟨i1, i2, i3, i4⟩ := partsG_spec ho h0 (one.length + 1) (List.replicate (one.length + 1 - other.length) 0) one (by omega) (by rw [List.length_replicate]; omega) (fun i _ => by
    unfold cf; rw [List.getD_eq_getElem?_getD, List.getElem?_replicate]; split <;> rfl) t
  refine ⟨fun x => ?_, i2, i3, by unfold partsOf; rw [i4, List.length_replicate]⟩
  have := i1 x
  rw [ev_zeros] at this
  unfold partsOf
  rw [← this]; grind
/-- what is left of an exact division is nothing -/
theorem exact_rest {one other q r g : List Rat} (to : Tr other) (ho : other ≠ []) (tr : Tr r) (hl : r.length < other.length) (e : ∀ x, ev one x = ev q x * ev other x + ev r x) (eg : ∀ x, ev one x = ev other x * ev g x) : r = [] ∧ ∀ x, ev q x = ev g x := by
  have e1 : ∀ x, ev r x = ev other x * ev (trim (addL g (q.map (· * (-1))))) x := fun x => by
    rw [ev_trim, ev_addL, ev_map q _ (-1) (fun _ => rfl)]
    have := e x
    have := eg x
    grind
  by_cases hz : trim (addL g (q.map (· * (-1)))) = []
  · have h2 : ∀ x, ev g x = ev q x := fun x => by
      have : ev (trim (addL g (q.map (· * (-1))))) x = 0 := by rw [hz]; rfl
      rw [ev_trim, ev_addL, ev_map q _ (-1) (fun _ => rfl)] at this
      grind
    refine ⟨tr_ev tr (.inl rfl) fun x => ?_, fun x => (h2 x).symm⟩
    rw [e1, hz]; show _ * 0 = (0 : Rat); grind
  · exfalso
    by_cases hr : r = []
    · subst hr
      have := mul_zero_far to ho fun x => by rw [← e1]; rfl
      have h3 : trim (addL g (q.map (· * (-1)))) = [] := tr_ev (trim_tr _) (.inl rfl) fun x => by rw [this]; rfl
      exact hz h3
    · have := mul_len to (trim_tr _) tr ho hz e1
      have h4 := congrArg List.length this
      rw [conv_len] at h4
      have := List.length_pos_iff.mpr hz
      omega
theorem parts_exact {one other g : List Rat} (to : Tr other) (ho : other ≠ []) (t1 : Tr one) (e : ∀ x, ev one x = ev other x * ev g x) : (partsOf one other).2 = [] ∧ ∀ x, ev (partsOf one other).1 x = ev g x := by
  obtain ⟨i1, i2, i3, _⟩ := partsOf_spec ho (to.resolve_left ho) t1
  exact exact_rest to ho i2 i3 i1 e
/-! the law's own division -/
theorem ev_lStep {other rest : List Rat} (x : Rat) : ev (lStep other rest) x = ev rest x - x ^ (rest.length - other.length) * (hd rest / hd other) * ev other x := by
  unfold lStep lSub lFac
  rw [ev_sumOf, ev_app, ev_zeros, ev_byNumber, List.length_replicate]; grind
theorem lG_spec {other : List Rat} (ho : other ≠ []) (h0 : hd other ≠ 0) : ∀ (n : Nat) (quo rest : List Rat), rest.length < n → rest.length < quo.length + other.length → (∀ i, i + other.length ≤ rest.length → cf quo i = 0) → Tr rest →
    (∀ x, ev quo x * ev other x + ev rest x = ev (lG other n (quo, rest)).1 x * ev other x + ev (lG other n (quo, rest)).2 x) ∧ (lG other n (quo, rest)).1.length = quo.length := by
  have lo := List.length_pos_iff.mpr ho
  intro n
  induction n with
  | zero => intro quo rest h; omega
  | succ n ih =>
    intro quo rest h1 h2 h3 t
    unfold lG
    split
    · rename_i hle
      have hlt := lStep_lt (rest := rest) ho h0 hle
      obtain ⟨i1, i4⟩ := ih (pQuo other rest quo) (lStep other rest) (by omega) (by unfold pQuo; rw [List.length_set]; omega) (fun i hi => by
        unfold pQuo
        rw [cf_set_ne _ _ _ _ (by omega)]
        exact h3 i (by omega)) (trim_tr _)
      refine ⟨fun x => ?_, by rw [i4]; unfold pQuo; rw [List.length_set]⟩
      rw [← i1 x, ev_lStep]
      unfold pQuo
      rw [ev_set _ _ _ _ (by omega), h3 _ (by omega)]
      grind
    · exact ⟨fun x => rfl, rfl⟩
theorem lDivided_spec {one other : List Rat} (ho : other ≠ []) (h0 : hd other ≠ 0) (t : Tr one) : (∀ x, ev one x = ev (lDivided one other).1 x * ev other x + ev (lDivided one other).2 x) ∧ Tr (lDivided one other).1 ∧ (lDivided one other).1.length ≤ one.length + 1 - other.length := by
  have lo := List.length_pos_iff.mpr ho
  obtain ⟨i1, i4⟩ := lG_spec ho h0 (one.length + 1) (List.replicate (one.length + 1 - other.length) 0) one (by omega) (by rw [List.length_replicate]; omega) (fun i _ => by
    unfold cf; rw [List.getD_eq_getElem?_getD, List.getElem?_replicate]; split <;> rfl) t
  refine ⟨fun x => ?_, trim_tr _, Nat.le_trans (trim_le _) (by rw [i4, List.length_replicate]; exact Nat.le_refl _)⟩
  have := i1 x
  rw [ev_zeros] at this
  show _ = ev (trim _) x * _ + _
  rw [ev_trim]
  show _ = ev (lG other (one.length + 1) (List.replicate (one.length + 1 - other.length) 0, one)).1 x * ev other x + ev (lG other (one.length + 1) (List.replicate (one.length + 1 - other.length) 0, one)).2 x
  rw [← this]; grind
theorem l_exact {one other g : List Rat} (to : Tr other) (ho : other ≠ []) (t1 : Tr one) (e : ∀ x, ev one x = ev other x * ev g x) : (lDivided one other).2 = [] ∧ ∀ x, ev (lDivided one other).1 x = ev g x := by
  have h0 := to.resolve_left ho
  obtain ⟨i1, _, _⟩ := lDivided_spec ho h0 t1
  exact exact_rest to ho (lDivided_tr t1) (lDivided_lt ho h0) i1 e
end Mt
set_option Elab.async false
set_option linter.all false
set_option maxHeartbeats 1000000
/-! M12: slopes. -/
namespace Mt
/-- φ has the slope d at x -/
def HD (φ : Rat → Rat) (x d : Rat) : Prop := ∃ g, PF g ∧ ∀ z, φ z = φ x + (z - x) * d + (z - x) ^ 2 * g z
def dv : List Rat → Rat → Rat
  | [], _ => 0
  | _ :: t, x => ev t x + x * dv t x
theorem cf_slope (p : List Rat) (i : Nat) : cf (slopeOf p) i = cf p (i + 1) * (((i : Nat) : Rat) + 1) := by
  unfold slopeOf
  by_cases h : i < p.length - 1
  · rw [cf_range _ h, Nat.add_comm 1 i]
    congr 1
    have : ((1 : Int) + (i : Nat) : Int) = ((i + 1 : Nat) : Int) := by omega
    rw [this, Rat.intCast_natCast, Rat.natCast_add]
    rfl
  · rw [cf_big (by simp; omega), cf_big (p := p) (by omega)]; grind
theorem ev_slope (p : List Rat) (x : Rat) : ev (slopeOf p) x = dv p x := by
  induction p with
  | nil => rfl
  | cons a t ih =>
    show _ = ev t x + x * dv t x
    rw [← ih]
    have e : ∀ i, cf (slopeOf (a :: t)) i = cf (addL t (0 :: slopeOf t)) i := fun i => by
      rw [cf_slope, cf_addL, cf_cons]
      cases i with
      | zero =>
        show cf t 0 * (((0 : Nat) : Rat) + 1) = cf t 0 + 0
        have : ((0 : Nat) : Rat) = 0 := rfl
        rw [this]; grind
      | succ i =>
        rw [cf_cons, cf_slope, Rat.natCast_add]
        have : ((1 : Nat) : Rat) = 1 := rfl
        rw [this]; grind
    rw [ev_cf e, ev_addL]
    show _ + (0 + x * ev (slopeOf t) x) = _
    grind
theorem pf_id : PF fun z => z := ⟨[0, 1], fun z => by show z = 0 + z * (1 + z * 0); grind⟩
theorem hd_ev (p : List Rat) (x : Rat) : HD (ev p) x (dv p x) := by
  induction p with
  | nil => exact ⟨fun _ => 0, PF.c 0, fun z => by show (0 : Rat) = 0 + (z - x) * 0 + _ * 0; grind⟩
  | cons a t ih =>
    obtain ⟨g, hg, e⟩ := ih
    refine ⟨fun z => dv t x + z * g z, (PF.c _).add (pf_id.mul hg), fun z => ?_⟩
    show a + z * ev t z = (a + x * ev t x) + (z - x) * (ev t x + x * dv t x) + (z - x) ^ 2 * (dv t x + z * g z)
    rw [e z]; grind
theorem HD.c (c x : Rat) : HD (fun _ => c) x 0 := ⟨fun _ => 0, PF.c 0, fun z => by show c = c + (z - x) * 0 + _ * 0; grind⟩
theorem HD.add {φ ψ : Rat → Rat} {x d e : Rat} (h : HD φ x d) (k : HD ψ x e) : HD (fun z => φ z + ψ z) x (d + e) := by
  obtain ⟨g, hg, h⟩ := h
  obtain ⟨f, hf, k⟩ := k
  exact ⟨fun z => g z + f z, hg.add hf, fun z => by show φ z + ψ z = (φ x + ψ x) + _ + _ * (g z + f z); rw [h z, k z]; grind⟩
theorem HD.mul {φ ψ : Rat → Rat} {x d e : Rat} (h : HD φ x d) (k : HD ψ x e) (pψ : PF ψ) : HD (fun z => φ z * ψ z) x (d * ψ x + φ x * e) := by
  obtain ⟨g, hg, h⟩ := h
  obtain ⟨f, hf, k⟩ := k
  refine ⟨fun z => g z * ψ z + (φ x * f z + (d * e + (z - x) * (d * f z))), ?_, fun z => ?_⟩
  · exact (hg.mul pψ).add (((PF.c _).mul hf).add ((PF.c _).add ((show PF fun z => z - x from ⟨[-x, 1], fun z => by show z - x = -x + z * (1 + z * 0); grind⟩).mul ((PF.c d).mul hf))))
  · show φ z * ψ z = φ x * ψ x + (z - x) * (d * ψ x + φ x * e) + (z - x) ^ 2 * (g z * ψ z + (φ x * f z + (d * e + (z - x) * (d * f z))))
    rw [h z]
    have hk := k z
    generalize ψ z = P at hk ⊢
    generalize f z = F at hk ⊢
    generalize g z = Gz
    generalize z - x = w at hk ⊢
    rw [hk]; grind
/-- a slope is one -/
theorem HD.one {φ : Rat → Rat} {x d e : Rat} (h : HD φ x d) (k : HD φ x e) : d = e := by
  obtain ⟨g, hg, h⟩ := h
  obtain ⟨f, hf, k⟩ := k
  obtain ⟨B, hB⟩ := arch x
  have := PF.far (φ := fun _ => d - e) (ψ := fun z => (z - x) * (f z + (-1) * g z)) (PF.c _) ((show PF fun z => z - x from ⟨[-x, 1], fun z => by show z - x = -x + z * (1 + z * 0); grind⟩).mul (hf.add ((PF.c _).mul hg))) (B := B + 1) (fun n hn => by
    have h1 := h n
    have h2 := k n
    have hx : (n : Rat) - x ≠ 0 := by
      have : (B : Rat) + 1 ≤ (n : Rat) := by
        have h3 : ((B + 1 : Nat) : Rat) ≤ (n : Rat) := by exact_mod_cast hn
        rw [Rat.natCast_add] at h3
        exact h3
      grind
    show d - e = ((n : Rat) - x) * (f n + (-1) * g n)
    have h3 : ((n : Rat) - x) * (d - e - ((n : Rat) - x) * (f n + (-1) * g n)) = 0 := by grind
    rcases Rat.mul_eq_zero.mp h3 with z | z
    · exact absurd z hx
    · grind) x
  have h4 : d - e = (x - x) * (f x + (-1) * g x) := this
  grind
end Mt
set_option Elab.async false
set_option linter.all false
set_option maxHeartbeats 1000000
/-! M13: the turning of the whole. -/
namespace Mt
theorem hd_pow {φ : Rat → Rat} {x d : Rat} (h : HD φ x d) (pf : PF φ) (h0 : φ x ≠ 0) : ∀ n : Nat, HD (fun z => φ z ^ n) x ((n : Rat) * φ x ^ n * (d / φ x))
  | 0 => by
    have := HD.c 1 x
    have e : ((0 : Nat) : Rat) * φ x ^ 0 * (d / φ x) = 0 := by
      have : ((0 : Nat) : Rat) = 0 := rfl
      rw [this]; grind
    rw [e]
    obtain ⟨g, hg, h⟩ := this
    exact ⟨g, hg, fun z => by have := h z; show φ z ^ 0 = φ x ^ 0 + _ + _; grind⟩
  | n + 1 => by
    have := (hd_pow h pf h0 n).mul h pf
    have e : (n : Rat) * φ x ^ n * (d / φ x) * φ x + φ x ^ n * d = ((n + 1 : Nat) : Rat) * φ x ^ (n + 1) * (d / φ x) := by
      rw [Rat.natCast_add, Rat.pow_succ]
      have : ((1 : Nat) : Rat) = 1 := rfl
      rw [this]
      generalize φ x ^ n = b
      grind
    rw [e] at this
    obtain ⟨g, hg, h⟩ := this
    exact ⟨g, hg, fun z => by have h2 : φ z ^ n * φ z = φ x ^ n * φ x + (z - x) * (((n + 1 : Nat) : Rat) * φ x ^ (n + 1) * (d / φ x)) + (z - x) ^ 2 * g z := h z; show φ z ^ (n + 1) = φ x ^ (n + 1) + _ + _; rw [Rat.pow_succ, h2, ← Rat.pow_succ]⟩
theorem hv_y {L : List Rat} {N : Nat} (h : L.length = N + 1) {a b : Rat} (hb : b ≠ 0) : hv L a b = b ^ N * ev L (a / b) := by
  have := hv_homn h b (a / b) 1 hb
  rw [show b * (a / b) = a by grind, show b * 1 = b by grind, hv_one] at this
  exact this
theorem hd_hv {p q : Rat → Rat} {x p' q' : Rat} (hp : HD p x p') (hq : HD q x q') (pp : PF p) (pq : PF q) (h0 : q x ≠ 0) : ∀ (L : List Rat) (N : Nat), L.length = N + 1 →
    HD (fun z => hv L (p z) (q z)) x (q x ^ N * ((N : Rat) * (q' / q x) * ev L (p x / q x) + dv L (p x / q x) * ((p' - p x / q x * q') / q x)))
  | [], N, h => by cases h
  | [c], N, h => by
    have hN : N = 0 := by simpa using h.symm
    subst hN
    have e : q x ^ 0 * (((0 : Nat) : Rat) * (q' / q x) * ev [c] (p x / q x) + dv [c] (p x / q x) * ((p' - p x / q x * q') / q x)) = 0 := by
      have h1 : ((0 : Nat) : Rat) = 0 := rfl
      have h2 : dv [c] (p x / q x) = 0 := by show (0 : Rat) + _ * 0 = 0; grind
      rw [h1, h2]; grind
    rw [e]
    obtain ⟨g, hg, h⟩ := HD.c c x
    exact ⟨g, hg, fun z => by have := h z; show c * q z ^ 0 + p z * 0 = c * q x ^ 0 + p x * 0 + _ + _; grind⟩
  | c :: d :: t, N, h => by
    have hN : N = t.length + 1 := by simp at h; omega
    subst hN
    have hl : (d :: t).length = t.length + 1 := rfl
    have ih := hd_hv hp hq pp pq h0 (d :: t) t.length hl
    have h1 := (((HD.c c x).mul (hd_pow hq pq h0 (t.length + 1)) (pq.pow _))).add (hp.mul ih (PF.hv pp pq (d :: t)))
    have e2 := hv_y (a := p x) hl h0
    have e : (0 * q x ^ (t.length + 1) + c * (((t.length + 1 : Nat) : Rat) * q x ^ (t.length + 1) * (q' / q x)) + (p' * hv (d :: t) (p x) (q x) + p x * (q x ^ t.length * ((t.length : Rat) * (q' / q x) * ev (d :: t) (p x / q x) + dv (d :: t) (p x / q x) * ((p' - p x / q x * q') / q x))))) = q x ^ (t.length + 1) * (((t.length + 1 : Nat) : Rat) * (q' / q x) * ev (c :: d :: t) (p x / q x) + dv (c :: d :: t) (p x / q x) * ((p' - p x / q x * q') / q x)) := by
      rw [e2]
      show _ = q x ^ (t.length + 1) * (((t.length + 1 : Nat) : Rat) * (q' / q x) * (c + (p x / q x) * ev (d :: t) (p x / q x)) + (ev (d :: t) (p x / q x) + (p x / q x) * dv (d :: t) (p x / q x)) * ((p' - p x / q x * q') / q x))
      rw [Rat.pow_succ, Rat.natCast_add]
      have : ((1 : Nat) : Rat) = 1 := rfl
      rw [this]
      generalize (t.length : Rat) = M
      generalize ev (d :: t) (p x / q x) = E
      generalize dv (d :: t) (p x / q x) = V
      generalize q x ^ t.length = bM
      have hy : p x = (p x / q x) * q x := by grind
      generalize p x / q x = y at hy ⊢
      rw [hy]
      have hr : q' = (q' / q x) * q x := by grind
      generalize q' / q x = r at hr ⊢
      rw [hr]
      have hs : p' = (p' / q x) * q x := by grind
      generalize p' / q x = s at hs
      rw [hs]
      have h5 : (s * q x - y * (r * q x)) / q x = s - y * r := by grind
      rw [h5]
      grind
    rw [e] at h1
    exact h1
end Mt
set_option Elab.async false
set_option linter.all false
set_option maxHeartbeats 1000000
/-! M14: the turning of the whole. -/
namespace Mt
def W (x : List Rat × List Rat) (z : Rat) : Rat := dv x.1 z * ev x.2 z - ev x.1 z * dv x.2 z
theorem ev_turn (x : List Rat × List Rat) (z : Rat) : ev (turnPoly x) z = W x z := by
  unfold turnPoly W
  rw [ev_lessOf, ev_productOf, ev_productOf, ev_slope, ev_slope]
theorem dv_ev {p q : List Rat} (h : ∀ z, ev p z = ev q z) (x : Rat) : dv p x = dv q x := by
  refine HD.one (hd_ev p x) ?_
  obtain ⟨g, hg, e⟩ := hd_ev q x
  exact ⟨g, hg, fun z => by rw [h, h]; exact e z⟩
theorem dv_smul {p : List Rat} {φ : Rat → Rat} {k x d : Rat} (h : ∀ z, ev p z = k * φ z) (hφ : HD φ x d) : dv p x = k * d := by
  refine HD.one (hd_ev p x) ?_
  obtain ⟨g, hg, e⟩ := hφ
  exact ⟨fun z => k * g z, (PF.c k).mul hg, fun z => by rw [h, h, e z]; grind⟩
theorem W_comp {f h F : List Rat × List Rat} {n m : Nat} (C : Comp f h F n m) : ∃ k : Rat, k ≠ 0 ∧ ∀ z, ev h.2 z ≠ 0 → W F z * (ev h.2 z) ^ 2 = k * (W h z * ((ev h.2 z ^ n) ^ 2 * W f (ev h.1 z / ev h.2 z))) := by
  obtain ⟨k, hk, e⟩ := C.k
  refine ⟨k * k, by intro z; rcases Rat.mul_eq_zero.mp z with z | z <;> exact hk z, fun z h0 => ?_⟩
  have e1 : ∀ z, ev F.1 z = k * hv (tf f) (ev h.1 z) (ev h.2 z) := fun z => by
    have := (e z 1).1
    rwa [C.fF.et, C.fh.et, C.fh.eb] at this
  have e2 : ∀ z, ev F.2 z = k * hv (bf f) (ev h.1 z) (ev h.2 z) := fun z => by
    have := (e z 1).2
    rwa [C.fF.eb, C.fh.et, C.fh.eb] at this
  have d1 := dv_smul e1 (hd_hv (hd_ev h.1 z) (hd_ev h.2 z) (PF.ev _) (PF.ev _) h0 (tf f) n C.ff.lt)
  have d2 := dv_smul e2 (hd_hv (hd_ev h.1 z) (hd_ev h.2 z) (PF.ev _) (PF.ev _) h0 (bf f) n C.ff.lb)
  have t1 : ∀ y, ev (tf f) y = ev f.1 y := fun y => ev_fill _ _ _
  have t2 : ∀ y, ev (bf f) y = ev f.2 y := fun y => ev_fill _ _ _
  have y1 := hv_y (a := ev h.1 z) C.ff.lt h0
  have y2 := hv_y (a := ev h.1 z) C.ff.lb h0
  have c1 := e1 z
  have c2 := e2 z
  rw [y1, t1] at c1
  rw [y2, t2] at c2
  rw [t1, dv_ev t1] at d1
  rw [t2, dv_ev t2] at d2
  unfold W
  rw [d1, d2, c1, c2]
  generalize ev h.2 z ^ n = bn
  generalize dv f.1 (ev h.1 z / ev h.2 z) = V1
  generalize dv f.2 (ev h.1 z / ev h.2 z) = V2
  generalize ev f.1 (ev h.1 z / ev h.2 z) = E1
  generalize ev f.2 (ev h.1 z / ev h.2 z) = E2
  generalize ev h.1 z = p at *
  generalize ev h.2 z = q at *
  generalize dv h.1 z = p'
  generalize dv h.2 z = q'
  have hs : (p' - p / q * q') / q * (q * q) = p' * q - p * q' := by grind
  generalize (p' - p / q * q') / q = s at hs ⊢
  generalize q' / q = r
  have : q ^ 2 = q * q := by grind
  rw [this]
  grind
theorem slope_len (p : List Rat) : (slopeOf p).length = p.length - 1 := by unfold slopeOf; simp
theorem turn_len {x : List Rat × List Rat} {n : Nat} (h : Fr x n) : (turnPoly x).length ≤ 2 * n - 1 := by
  have hp := h.pos
  have la := h.lt
  have lb := h.lb
  have sa : (slopeOf (tf x)).length = n := by rw [slope_len, la]; rfl
  have sb : (slopeOf (bf x)).length = n := by rw [slope_len, lb]; rfl
  have na : slopeOf (tf x) ≠ [] := List.ne_nil_of_length_pos (by omega)
  have nb : slopeOf (bf x) ≠ [] := List.ne_nil_of_length_pos (by omega)
  have l1 : (conv (slopeOf (tf x)) (bf x)).length = 2 * n := by rw [conv_len, sa, lb]; omega
  have l2 : (conv (tf x) (slopeOf (bf x))).length = 2 * n := by rw [conv_len, sb, la]; omega
  have lr : (addL (conv (slopeOf (tf x)) (bf x)) ((conv (tf x) (slopeOf (bf x))).map (· * (-1)))).length = 2 * n := by rw [addL_len, List.length_map, l1, l2]; omega
  have hz : hd (addL (conv (slopeOf (tf x)) (bf x)) ((conv (tf x) (slopeOf (bf x))).map (· * (-1)))) = 0 := by
    have c1 := cf_conv_last na (ne_of_len lb)
    have c2 := cf_conv_last (ne_of_len la) nb
    rw [sa, lb, show n + (n + 1) - 2 = 2 * n - 1 by omega] at c1
    rw [sb, la, show n + 1 + n - 2 = 2 * n - 1 by omega] at c2
    have ha : hd (slopeOf (tf x)) = hd (tf x) * (((n - 1 : Nat) : Rat) + 1) := by
      show cf _ (_ - 1) = cf _ (_ - 1) * _
      rw [sa, la, cf_slope, show n - 1 + 1 = n by omega]; rfl
    have hb : hd (slopeOf (bf x)) = hd (bf x) * (((n - 1 : Nat) : Rat) + 1) := by
      show cf _ (_ - 1) = cf _ (_ - 1) * _
      rw [sb, lb, cf_slope, show n - 1 + 1 = n by omega]; rfl
    show cf _ (_ - 1) = 0
    rw [lr, cf_addL, cf_neg, c1, c2, ha, hb]
    grind
  have e : turnPoly x = trim (addL (conv (slopeOf (tf x)) (bf x)) ((conv (tf x) (slopeOf (bf x))).map (· * (-1)))) := by
    refine tr_ev (trim_tr _) (trim_tr _) fun z => ?_
    rw [ev_turn, ev_trim, ev_addL, ev_map _ _ (-1) (fun _ => rfl), ev_conv, ev_conv, ev_slope, ev_slope]
    have t1 : ∀ y, ev (tf x) y = ev x.1 y := fun y => ev_fill _ _ _
    have t2 : ∀ y, ev (bf x) y = ev x.2 y := fun y => ev_fill _ _ _
    rw [dv_ev t1, dv_ev t2, t1, t2]
    unfold W
    grind
  have := trim_lt (List.ne_nil_of_length_pos (by rw [lr]; omega)) hz
  rw [← e, lr] at this
  omega
/-- the turning is not nought -/
theorem turn_ne {x : List Rat × List Rat} {n : Nat} (h : Fr x n) : trim (turnPoly x) ≠ [] := by
  intro hz
  have hW : ∀ z, W x z = 0 := fun z => by rw [← ev_turn, ← ev_trim, hz]; rfl
  obtain ⟨u, v, e⟩ := h.bez
  -- a row that divides its slope has no slope
  have go : ∀ (p g : List Rat), Tr p → (∀ z, dv p z = ev p z * ev g z) → ∀ z, dv p z = 0 := fun p g tp eg => by
    by_cases hp : p = []
    · subst hp; intro z; rfl
    · by_cases hs : trim (slopeOf p) = []
      · intro z; rw [← ev_slope, ← ev_trim, hs]; rfl
      · exfalso
        have h1 : ∀ z, ev (trim (slopeOf p)) z = ev p z * ev (trim g) z := fun z => by rw [ev_trim, ev_slope, ev_trim, eg]
        have hg : trim g ≠ [] := fun q => hs (tr_ev (trim_tr _) (.inl rfl) fun z => by rw [h1, q]; show _ * 0 = (0 : Rat); grind)
        have h2 := mul_len tp (trim_tr g) (trim_tr _) hp hg h1
        have h3 := congrArg List.length h2
        rw [conv_len] at h3
        have h4 := trim_le (slopeOf p)
        rw [slope_len] at h4
        have := List.length_pos_iff.mpr hp
        have := List.length_pos_iff.mpr hg
        omega
  have hx : ∀ z, dv x.1 z * ev x.2 z = ev x.1 z * dv x.2 z := fun z => by have := hW z; unfold W at this; grind
  have s2 := go x.2 (addL (conv u (slopeOf x.1)) (conv v (slopeOf x.2))) h.t2 fun z => by
    rw [ev_addL, ev_conv, ev_conv, ev_slope, ev_slope]
    have := e z
    have := hx z
    grind
  have s1 := go x.1 (addL (conv u (slopeOf x.1)) (conv v (slopeOf x.2))) h.t1 fun z => by
    rw [ev_addL, ev_conv, ev_conv, ev_slope, ev_slope]
    have := e z
    have := hx z
    grind
  -- no slope: a constant
  have con : ∀ p : List Rat, Tr p → (∀ z, dv p z = 0) → p.length ≤ 1 := fun p tp hd0 => by
    by_cases hp : p.length ≤ 1
    · exact hp
    · exfalso
      have h1 : cf (slopeOf p) (p.length - 2) = 0 := zero_far (B := 0) (fun k _ => by rw [ev_slope]; exact hd0 k) _
      rw [cf_slope, show p.length - 2 + 1 = p.length - 1 by omega] at h1
      have h2 := tp.resolve_left (fun q => by rw [q] at hp; simp at hp)
      have h3 : (((p.length - 2 : Nat) : Rat) + 1) ≠ 0 := by
        have : (0 : Rat) ≤ ((p.length - 2 : Nat) : Rat) := by exact_mod_cast Nat.zero_le _
        grind
      rcases Rat.mul_eq_zero.mp h1 with q | q
      · exact h2 q
      · exact h3 q
  have l1 := con x.1 h.t1 s1
  have l2 := con x.2 h.t2 s2
  have hd' := h.deg
  have hp := h.pos
  unfold degP at hd'
  omega
end Mt
set_option Elab.async false
set_option linter.all false
set_option maxHeartbeats 1000000
/-! M15: the turning of the whole is a product. -/
namespace Mt
def turnL (x : List Rat × List Rat) : List Rat := fillF (turnPoly x) (2 * degP x - 1)
theorem turningOf_eq (x : List Rat × List Rat) : turningOf x = toldOf (turnL x) := rfl
theorem turnL_len {x : List Rat × List Rat} {n : Nat} (h : Fr x n) : (turnL x).length = 2 * n - 1 := by
  unfold turnL
  rw [h.deg]
  exact fillF_len _ _ (turn_len h)
theorem ev_turnL (x : List Rat × List Rat) (z : Rat) : ev (turnL x) z = W x z := by unfold turnL; rw [ev_fill, ev_turn]
theorem turnL_ne {x : List Rat × List Rat} {n : Nat} (h : Fr x n) : trim (turnL x) ≠ [] := by
  have e : trim (turnL x) = trim (turnPoly x) := trim_ev fun z => by unfold turnL; rw [ev_fill]
  rw [e]; exact turn_ne h
theorem pf_W (x : List Rat × List Rat) : PF (W x) := ⟨turnPoly x, fun z => (ev_turn x z).symm⟩
theorem W_all {f h F : List Rat × List Rat} {n m : Nat} (C : Comp f h F n m) : ∃ k : Rat, k ≠ 0 ∧ ∀ z, W F z = k * (W h z * hv (turnL f) (ev h.1 z) (ev h.2 z)) := by
  obtain ⟨k, hk, e⟩ := W_comp C
  obtain ⟨B, hB⟩ := nz_far C.fh.t2 C.fh.ne
  have hp := C.ff.pos
  refine ⟨k, hk, PF.far (pf_W F) ((PF.c k).mul ((pf_W h).mul (PF.hv (PF.ev _) (PF.ev _) _))) (B := B) fun i hi => ?_⟩
  have h0 := hB i hi
  have e1 := e i h0
  have e2 := hv_y (N := 2 * n - 2) (a := ev h.1 i) (by rw [turnL_len C.ff]; omega) h0
  rw [ev_turnL] at e2
  rw [e2]
  have e3 : (ev h.2 i ^ n) ^ 2 = ev h.2 i ^ (2 * n - 2) * (ev h.2 i) ^ 2 := by
    have : (ev h.2 i ^ n) ^ 2 = ev h.2 i ^ n * ev h.2 i ^ n := by grind
    rw [this, ← pw_add, ← pw_add]; congr 1; omega
  rw [e3] at e1
  have h1 : (ev h.2 i) ^ 2 ≠ 0 := pw_ne h0 2
  generalize (ev h.2 i) ^ 2 = q2 at e1 h1
  generalize ev h.2 i ^ (2 * n - 2) = b at e1 ⊢
  generalize W f (ev h.1 i / ev h.2 i) = wf at e1 ⊢
  generalize W h i = wh at e1 ⊢
  have h3 : q2 * (W F i - k * (wh * (b * wf))) = 0 := by grind
  rcases Rat.mul_eq_zero.mp h3 with z | z
  · exact absurd z h1
  · grind
theorem ev_prodIn (f g : List Rat) (z : Rat) : ev (fillF (productOf (trim f) (trim g)) (f.length + g.length - 1)) z = ev f z * ev g z := by rw [ev_fill, ev_productOf, ev_trim, ev_trim]
theorem prod_len (p q : List Rat) : (productOf p q).length ≤ p.length + q.length - 1 := by
  unfold productOf
  split
  · exact Nat.zero_le _
  · rw [conv_len]; exact Nat.le_refl _
theorem prodIn_len {f g : List Rat} (hf : f ≠ []) (hg : g ≠ []) : (fillF (productOf (trim f) (trim g)) (f.length + g.length - 1)).length = f.length + g.length - 1 := by
  have h1 := prod_len (trim f) (trim g)
  have h2 := trim_le f
  have h3 := trim_le g
  have h4 := List.length_pos_iff.mpr hf
  have h5 := List.length_pos_iff.mpr hg
  exact fillF_len _ _ (by omega)
theorem turn_prod {f h F : List Rat × List Rat} {n m : Nat} (C : Comp f h F n m) : productIn (turningOf h) (lLed (turningOf f) h) = turningOf F := by
  obtain ⟨k, hk, e⟩ := W_all C
  have pf' := C.ff.pos
  have ph := C.fh.pos
  obtain ⟨k1, hk1, e1⟩ := told_smul (turnL_ne C.ff)
  obtain ⟨k2, hk2, e2⟩ := told_self (turnL_ne C.fh)
  have lf : (turningOf f).length = (2 * n - 2) + 1 := by rw [turningOf_eq, toldOf_len, turnL_len C.ff]; omega
  have lh : (turningOf h).length = 2 * m - 1 := by rw [turningOf_eq, toldOf_len, turnL_len C.fh]
  obtain ⟨ll, _, el⟩ := led_form C.fh lf
  have htne : trim (ledL (turningOf f) h) ≠ [] := fun q => by
    have hz : ∀ z, ev (ledL (turningOf f) h) z = 0 := fun z => by rw [← ev_trim, q]; rfl
    refine turn_ne C.fF (tr_ev (trim_tr _) (.inl rfl) fun z => ?_)
    rw [ev_trim, ev_turn, e]
    have := hz z
    rw [← hv_one, el, turningOf_eq, e1, hv_map _ _ k1 (by intro c; grind), C.fh.et, C.fh.eb] at this
    rcases Rat.mul_eq_zero.mp this with w | w
    · rw [w]; show k * (W h z * 0) = (0 : Rat); grind
    · exact absurd w hk1
  obtain ⟨k3, hk3, e3⟩ := told_self htne
  have l3 : (lLed (turningOf f) h).length = (2 * n - 2) * m + 1 := by rw [lLed_eq, toldOf_len, ll]
  have n1 : turningOf h ≠ [] := List.ne_nil_of_length_pos (by omega)
  have n2 : lLed (turningOf f) h ≠ [] := List.ne_nil_of_length_pos (by omega)
  unfold productIn
  rw [turningOf_eq F]
  refine told_prop (k := k2 * k3 * k1 / k) ?_ (by grind) fun z => ?_
  · rw [prodIn_len n1 n2, turnL_len C.fF, lh, l3]
    have : (2 * n - 2) * m = 2 * (n * m) - 2 * m := by rw [Nat.sub_mul, Nat.mul_assoc]
    have h5 : 2 * m ≤ 2 * (n * m) := Nat.mul_le_mul_left 2 (Nat.le_mul_of_pos_left m pf')
    omega
  · rw [ev_prodIn, turningOf_eq h, e2, ev_turnL, lLed_eq, e3, ← hv_one (ledL (turningOf f) h), el, turningOf_eq f, e1, hv_map _ _ k1 (by intro c; grind), C.fh.et, C.fh.eb, ev_turnL, e]
    grind
end Mt
set_option Elab.async false
set_option linter.all false
set_option maxHeartbeats 1000000
/-! M16: the inner's part divides the whole's. -/
namespace Mt
theorem part_factor {f h F : List Rat × List Rat} {n m : Nat} (C : Comp f h F n m) (o : Option Rat) : ∃ R : List Rat, R.length = (n - 1) * m + 1 ∧ ∀ z, ev (partL F o) z = ev (partL h o) z * ev R z := by
  obtain ⟨k, hk, e⟩ := part_comp C o
  obtain ⟨k1, hk1, e1⟩ := hv_partL C.ff (lWorthAt h o)
  obtain ⟨k2, hk2, e2⟩ := hv_partL C.fh o
  obtain ⟨k3, hk3, e3, e4⟩ := place_pair (C.fh.none (pair_ne o))
  rw [← lWorthAt_eq C.fh o] at e3 e4
  have pf' := C.ff.pos
  have l1 := partL_len C.ff (lWorthAt h o)
  have hz : hv (partL f (lWorthAt h o)) (T h o) (B h o) = 0 := by
    show hv _ (hv (tf h) (pair o).1 (pair o).2) (hv (bf h) (pair o).1 (pair o).2) = 0
    rw [e3, e4, hv_homn l1 _ _ _ hk3, e1]
    grind
  obtain ⟨R, hR, eR⟩ := form_factor (n := n - 1) (by rw [l1]; omega) (C.fh.none (pair_ne o)) hz
  refine ⟨(compL (tf h) (bf h) R).map ((k / k2) * ·), by rw [List.length_map, compL_len C.fh.lt C.fh.lb R (n - 1) hR], fun z => ?_⟩
  rw [ev_map _ _ (k / k2) (by intro c; grind), ← hv_one, ← hv_one, ← hv_one, hv_compL C.fh.lt C.fh.lb, e, eR, e2]
  generalize hv R (hv (tf h) z 1) (hv (bf h) z 1) = r
  generalize hv (tf h) z 1 = p
  generalize hv (bf h) z 1 = q
  show k * ((B h o * p - T h o * q) * r) = k2 * (p * B h o - q * T h o) * (r * (k / k2))
  grind
theorem told_len_eq (x : List Rat × List Rat) {n : Nat} (h : Fr x n) (o : Option Rat) : (partAt x o).length = n + 1 := by rw [partAt_eq, toldOf_len, partL_len h]
/-- what the rest is -/
theorem rest_eq {f h F : List Rat × List Rat} {n m : Nat} (C : Comp f h F n m) (o : Option Rat) :
    (partsOf (trim (partAt F o)) (trim (partAt h o))).2 = [] ∧ (restIn (partAt h o) (partAt F o)).length = (n - 1) * m + 1 ∧ trim (restIn (partAt h o) (partAt F o)) ≠ [] ∧
    (trim (partAt F o)).length + 1 = (trim (partAt h o)).length + (trim (partsOf (trim (partAt F o)) (trim (partAt h o))).1).length ∧
    (trim (partsOf (trim (partAt F o)) (trim (partAt h o))).1).length ≤ (n - 1) * m + 1 ∧
    productIn (partAt h o) (restIn (partAt h o) (partAt F o)) = partAt F o := by
  obtain ⟨R, lR, eR⟩ := part_factor C o
  have pf' := C.ff.pos
  have ph := C.fh.pos
  have lF := told_len_eq F C.fF o
  have lh := told_len_eq h C.fh o
  obtain ⟨k1, hk1, e1⟩ := told_self (part_ne C.fF o)
  obtain ⟨k2, hk2, e2⟩ := told_self (part_ne C.fh o)
  rw [← partAt_eq] at e1 e2
  have nh : trim (partAt h o) ≠ [] := by rw [partAt_eq]; exact told_trim_ne (part_ne C.fh o)
  have nF : trim (partAt F o) ≠ [] := by rw [partAt_eq]; exact told_trim_ne (part_ne C.fF o)
  obtain ⟨p1, p2⟩ := parts_exact (one := trim (partAt F o)) (other := trim (partAt h o)) (g := R.map ((k1 / k2) * ·)) (trim_tr _) nh (trim_tr _) fun x => by
    rw [ev_trim, ev_trim, e1, e2, eR, ev_map R _ (k1 / k2) (by intro c; grind)]; grind
  have lq := (partsOf_spec nh ((trim_tr _).resolve_left nh) (trim_tr (partAt F o))).2.2.2
  generalize hQ : (partsOf (trim (partAt F o)) (trim (partAt h o))).1 = Q at p2 lq
  have tQ : trim Q = trim (R.map ((k1 / k2) * ·)) := trim_ev p2
  have lQ : (trim Q).length ≤ (n - 1) * m + 1 := by rw [tQ, ← lR]; exact Nat.le_trans (trim_le _) (by simp)
  have nQ : trim Q ≠ [] := fun q => nF (tr_ev (trim_tr _) (.inl rfl) fun x => by
    rw [ev_trim, e1, eR]
    have : ev R x = 0 := by
      have h3 := p2 x
      rw [← ev_trim Q, q, ev_map R _ (k1 / k2) (by intro c; grind)] at h3
      have h4 : ev ([] : List Rat) x = 0 := rfl
      rw [h4] at h3
      have h5 : k1 / k2 ≠ 0 := by grind
      rcases Rat.mul_eq_zero.mp h3.symm with w | w
      · exact w
      · exact absurd w h5
    rw [this]; show k1 * (_ * 0) = (0 : Rat); grind)
  have hmul : trim (partAt F o) = conv (trim (partAt h o)) (trim Q) := by
    exact mul_len (trim_tr _) (trim_tr _) (trim_tr _) nh nQ fun x => by
      rw [ev_trim, ev_trim, ev_trim, p2, e1, e2, eR, ev_map R _ (k1 / k2) (by intro c; grind)]; grind
  have hlen : (trim (partAt F o)).length + 1 = (trim (partAt h o)).length + (trim Q).length := by
    have := congrArg List.length hmul
    rw [conv_len] at this
    have := List.length_pos_iff.mpr nF
    omega
  have hmle : m ≤ n * m := Nat.le_mul_of_pos_left m pf'
  have hsub : (n - 1) * m = n * m - m := by rw [Nat.sub_mul, Nat.one_mul]
  have eN : (partAt F o).length - (partAt h o).length + 1 = (n - 1) * m + 1 := by rw [lF, lh, hsub]; omega
  have lQ2 : Q.length ≤ (n - 1) * m + 1 := by rw [lq]; omega
  have nQ2 : trim (fillF Q ((n - 1) * m + 1)) ≠ [] := by
    have e3 : trim (fillF Q ((n - 1) * m + 1)) = trim Q := trim_ev fun z => ev_fill _ _ _
    rw [e3]
    exact nQ
  have eR2 : restIn (partAt h o) (partAt F o) = toldOf (fillF Q ((n - 1) * m + 1)) := by unfold restIn; rw [hQ, eN]
  have lR2 : (restIn (partAt h o) (partAt F o)).length = (n - 1) * m + 1 := by rw [eR2, toldOf_len, fillF_len _ _ lQ2]
  obtain ⟨k3, hk3, e3⟩ := told_self nQ2
  refine ⟨p1, lR2, by rw [eR2]; exact told_trim_ne nQ2, hlen, lQ, ?_⟩
  refine Eq.trans (b := toldOf (partL F o)) ?_ (partAt_eq F o).symm
  unfold productIn
  refine told_prop (k := k1 * k3) ?_ (fun z => (Rat.mul_eq_zero.mp z).elim hk1 hk3) fun z => ?_
  · rw [prodIn_len (List.ne_nil_of_length_pos (by omega)) (List.ne_nil_of_length_pos (by omega)), lR2, lh, partL_len C.fF, hsub]; omega
  · rw [ev_prodIn, eR2, e3, e2, ev_fill, p2, eR, ev_map R _ (k1 / k2) (by intro c; grind)]; grind
end Mt
set_option Elab.async false
set_option linter.all false
set_option maxHeartbeats 1000000
/-! M17: put is the whole. -/
namespace Mt
def putX (f h : List Rat × List Rat) : List Rat × List Rat := (putS (degP f) h.1 h.2 f.1 f.1.length, putS (degP f) h.1 h.2 f.2 f.2.length)
theorem putX_eq {f h : List Rat × List Rat} {n : Nat} (Ff : Fr f n) : putX f h = (ofT f h, ofB f h) := by
  unfold putX
  refine Prod.ext ?_ ?_
  · refine tr_ev (put_tr _ _ _ _ _) (tot_tr _ _ _ _) fun z => ?_
    rw [ev_put _ _ _ _ _ Ff.l1]
    exact (ev_ofT (n := n) (m := 1) Ff z).symm
  · refine tr_ev (put_tr _ _ _ _ _) (tot_tr _ _ _ _) fun z => ?_
    rw [ev_put _ _ _ _ _ Ff.l2]
    exact (ev_ofB (n := n) (m := 1) Ff z).symm
theorem put_whole {f h : List Rat × List Rat} {n m : Nat} (Ff : Fr f n) (Fh : Fr h m) : ((putX f h).1.map (· / hd (putX f h).2), (putX f h).2.map (· / hd (putX f h).2)) = lOf f h := by
  obtain ⟨_, nX, nY⟩ := comp_lOf Ff Fh
  have tX : Tr (ofT f h) := tot_tr _ _ _ _
  have tY : Tr (ofB f h) := tot_tr _ _ _ _
  have hY : hd (ofB f h) ≠ 0 := tY.resolve_left nY
  have hk : 1 / hd (ofB f h) ≠ 0 := by grind
  rw [putX_eq Ff]
  unfold lOf
  rw [by_eq tX hk, by_eq tY hk]
  have e : ∀ p : List Rat, p.map (· / hd (ofB f h)) = p.map (1 / hd (ofB f h) * ·) := fun p => by
    apply List.map_congr_left
    intro c _
    show c / hd (ofB f h) = 1 / hd (ofB f h) * c
    grind
  show (List.map _ _, List.map _ _) = _
  rw [e, e]
end Mt
set_option Elab.async false
set_option linter.all false
set_option maxHeartbeats 1000000
/-! M18: how often a place stands in a form. -/
namespace Mt
/-- the form is the e-th power of the place's line times what does not vanish there -/
def Mult (L : List Rat) (X Y : Rat) (e : Nat) : Prop := ∃ R : List Rat, R.length + e = L.length ∧ hv R X Y ≠ 0 ∧ ∀ a b, hv L a b = (Y * a - X * b) ^ e * hv R a b
theorem mult_of : ∀ (n : Nat) (L : List Rat) {X Y : Rat}, L.length = n + 1 → (X ≠ 0 ∨ Y ≠ 0) → (∃ z, ev L z ≠ 0) → ∃ e, e ≤ n ∧ Mult L X Y e := by
  intro n
  induction n with
  | zero =>
    intro L X Y hl hXY ⟨z, hz⟩
    refine ⟨0, Nat.le_refl _, L, by omega, ?_, fun a b => by grind⟩
    match L, hl with
    | [c], _ =>
      have h1 : ev [c] z = c := by show c + z * 0 = c; grind
      rw [h1] at hz
      show c * Y ^ 0 + X * 0 ≠ 0
      intro q
      exact hz (by grind)
  | succ n ih =>
    intro L X Y hl hXY hz
    by_cases h0 : hv L X Y = 0
    · obtain ⟨R, hR, eR⟩ := form_factor hl hXY h0
      obtain ⟨z, hz⟩ := hz
      obtain ⟨e, he, S, hS, h1, eS⟩ := ih R hR hXY ⟨z, fun q => hz (by rw [← hv_one, eR, hv_one, q]; grind)⟩
      refine ⟨e + 1, by omega, S, by omega, h1, fun a b => ?_⟩
      rw [eR, eS, Rat.pow_succ]; grind
    · exact ⟨0, Nat.zero_le _, L, by omega, h0, fun a b => by grind⟩
end Mt
set_option Elab.async false
set_option linter.all false
set_option maxHeartbeats 1000000
/-! M19: counting a place by divisions. -/
namespace Mt
def lin (q : Rat) : List Rat := [-q, 1]
theorem ev_lin (q z : Rat) : ev (lin q) z = z - q := by show -q + z * (1 + z * 0) = z - q; grind
theorem lin_tr (q : Rat) : Tr (lin q) := .inr (by show (1 : Rat) ≠ 0; decide)
/-- the quotient by z - q of a row that has it -/
theorem lin_quot {g : List Rat} (tg : Tr g) (hg : g ≠ []) (q : Rat) : partsOf (trim (conv (lin q) g)) (lin q) = (g, []) := by
  have hl : lin q ≠ [] := by intro z; cases z
  have ec : trim (conv (lin q) g) = conv (lin q) g := trim_of_tr (.inr (conv_tr hl hg ((lin_tr q).resolve_left hl) (tg.resolve_left hg)))
  rw [ec]
  have tc : Tr (conv (lin q) g) := .inr (conv_tr hl hg ((lin_tr q).resolve_left hl) (tg.resolve_left hg))
  obtain ⟨p1, p2⟩ := parts_exact (g := g) (lin_tr q) hl tc fun x => ev_conv _ _ _
  have lq := (partsOf_spec hl ((lin_tr q).resolve_left hl) tc).2.2.2
  have e1 : (partsOf (conv (lin q) g) (lin q)).1 = g := form_eq (by rw [lq, conv_len]; show 2 + g.length - 1 + 1 - 2 = _; omega) p2
  exact Prod.ext e1 p1
def qsq (q : Rat) (e : Nat) (R : List Rat) (i : Nat) : List Rat := trim (conv (powL (lin q) (e - i)) R)
theorem ev_powlin (q z : Rat) (k : Nat) : ev (powL (lin q) k) z = (z - q) ^ k := by
  rw [← hv_one, hv_powL (p := lin q) (m := 1) rfl, hv_one, ev_lin]
theorem ev_qsq (q z : Rat) (e : Nat) (R : List Rat) (i : Nat) : ev (qsq q e R i) z = (z - q) ^ (e - i) * ev R z := by
  unfold qsq; rw [ev_trim, ev_conv, ev_powlin]
theorem qsq_ne {q : Rat} {R : List Rat} (h : ev R q ≠ 0) (e i : Nat) : qsq q e R i ≠ [] := fun z => by
  have hR : trim R ≠ [] := trim_ne h
  obtain ⟨B, hB⟩ := nz_far (trim_tr R) hR
  obtain ⟨C, hC⟩ := arch (q + 1)
  have h1 := ev_qsq q ((max B C : Nat) : Rat) e R i
  rw [z] at h1
  have h2 := hB (max B C) (by omega)
  rw [ev_trim] at h2
  have h3 : ((max B C : Nat) : Rat) - q ≠ 0 := by
    have : (C : Rat) ≤ ((max B C : Nat) : Rat) := by exact_mod_cast (show C ≤ max B C by omega)
    grind
  have h4 := pw_ne h3 (e - i)
  have h5 : ev ([] : List Rat) ((max B C : Nat) : Rat) = 0 := rfl
  rw [h5] at h1
  rcases Rat.mul_eq_zero.mp h1.symm with w | w
  · exact h4 w
  · exact h2 w
theorem qsq_step {q : Rat} {R : List Rat} (h : ev R q ≠ 0) {e i : Nat} (hi : i < e) : partsOf (qsq q e R i) (lin q) = (qsq q e R (i + 1), []) := by
  have e1 : qsq q e R i = trim (conv (lin q) (qsq q e R (i + 1))) := tr_ev (trim_tr _) (trim_tr _) fun z => by
    rw [ev_qsq, ev_trim, ev_conv, ev_lin, ev_qsq, show e - i = (e - (i + 1)) + 1 by omega, Rat.pow_succ]; grind
  rw [e1]
  exact lin_quot (trim_tr _) (qsq_ne h _ _) q
theorem qsq_end {q : Rat} {R : List Rat} (h : ev R q ≠ 0) (e : Nat) : (partsOf (qsq q e R e) (lin q)).2 ≠ [] := fun z => by
  have hl : lin q ≠ [] := by intro w; cases w
  have := (partsOf_spec hl ((lin_tr q).resolve_left hl) (trim_tr (conv (powL (lin q) (e - e)) R))).1 q
  have h2 := ev_qsq q q e R e
  unfold qsq at z h2
  rw [z, h2, Nat.sub_self, ev_lin] at this
  have h5 : ev ([] : List Rat) q = 0 := rfl
  rw [h5] at this
  grind
end Mt
set_option Elab.async false
set_option linter.all false
set_option maxHeartbeats 1000000
/-! M20: the counts multiply. -/
namespace Mt
theorem powL_len' {p : List Rat} {m : Nat} (h : p.length = m + 1) (n : Nat) : (powL p n).length = n * m + 1 := powL_len h n
theorem pw_mul (x : Rat) (a : Nat) : ∀ b : Nat, x ^ (a * b) = (x ^ a) ^ b
  | 0 => by rw [Nat.mul_zero]; grind
  | b + 1 => by rw [Nat.mul_succ, pw_add, pw_mul x a b, Rat.pow_succ]
theorem ex_ev {L : List Rat} (h : trim L ≠ []) : ∃ z, ev L z ≠ 0 := by
  obtain ⟨B, hB⟩ := nz_far (trim_tr L) h
  exact ⟨_, by have := hB B (Nat.le_refl _); rwa [ev_trim] at this⟩
theorem mult_comp {f h F : List Rat × List Rat} {n m : Nat} (C : Comp f h F n m) (o : Option Rat) : ∃ e2 e3 : Nat, e2 ≤ m ∧ e3 ≤ n ∧ Mult (partL h o) (pair o).1 (pair o).2 e2 ∧ Mult (partL f (lWorthAt h o)) (pair (lWorthAt h o)).1 (pair (lWorthAt h o)).2 e3 ∧ Mult (partL F o) (pair o).1 (pair o).2 (e2 * e3) := by
  have lf := partL_len C.ff (lWorthAt h o)
  have lh := partL_len C.fh o
  have lF := partL_len C.fF o
  obtain ⟨e3, he3, M3⟩ := mult_of n _ lf (pair_ne (lWorthAt h o)) (ex_ev (part_ne C.ff _))
  obtain ⟨e2, he2, M2⟩ := mult_of m _ lh (pair_ne o) (ex_ev (part_ne C.fh _))
  refine ⟨e2, e3, he2, he3, M2, M3, ?_⟩
  obtain ⟨R3, l3, n3, f3⟩ := M3
  obtain ⟨R2, l2, n2, f2⟩ := M2
  obtain ⟨k, hk, e⟩ := part_comp C o
  obtain ⟨k2, hk2, g2⟩ := hv_partL C.fh o
  obtain ⟨k3, hk3, g3, g4⟩ := place_pair (C.fh.none (pair_ne o))
  rw [← lWorthAt_eq C.fh o] at g3 g4
  have r3 : R3.length = (n - e3) + 1 := by omega
  have r2 : R2.length = (m - e2) + 1 := by omega
  have lp := powL_len r2 e3
  have lc := compL_len C.fh.lt C.fh.lb R3 (n - e3) r3
  have eline : ∀ a b, (pair (lWorthAt h o)).2 * hv (tf h) a b - (pair (lWorthAt h o)).1 * hv (bf h) a b = 1 / (k3 * k2) * ((pair o).2 * a - (pair o).1 * b) ^ e2 * hv R2 a b := fun a b => by
    have h1 := g2 a b
    rw [f2] at h1
    have h2 : B h o = k3 * (pair (lWorthAt h o)).2 := g4
    have h3 : T h o = k3 * (pair (lWorthAt h o)).1 := g3
    rw [h2, h3] at h1
    generalize ((pair o).2 * a - (pair o).1 * b) ^ e2 = w at h1 ⊢
    grind
  have h32 : 1 / (k3 * k2) ≠ 0 := by
    have : k3 * k2 ≠ 0 := fun z => (Rat.mul_eq_zero.mp z).elim hk3 hk2
    grind
  refine ⟨(conv (powL R2 e3) (compL (tf h) (bf h) R3)).map ((k * (1 / (k3 * k2)) ^ e3) * ·), ?_, ?_, fun a b => ?_⟩
  · rw [List.length_map, conv_len, lp, lc, lF]
    have a1 : e3 * (m - e2) = e3 * m - e3 * e2 := Nat.mul_sub _ _ _
    have a2 : (n - e3) * m = n * m - e3 * m := Nat.sub_mul _ _ _
    have a3 : e3 * m ≤ n * m := Nat.mul_le_mul_right m he3
    have a4 : e3 * e2 ≤ e3 * m := Nat.mul_le_mul_left e3 he2
    have a5 : e2 * e3 = e3 * e2 := Nat.mul_comm _ _
    omega
  · rw [hv_map _ _ (k * (1 / (k3 * k2)) ^ e3) (by intro c; grind), hv_conv _ _ (ne_of_len lp) (ne_of_len lc), hv_powL r2, hv_compL C.fh.lt C.fh.lb]
    show hv R2 _ _ ^ e3 * hv R3 (T h o) (B h o) * _ ≠ 0
    have h2 : B h o = k3 * (pair (lWorthAt h o)).2 := g4
    have h3 : T h o = k3 * (pair (lWorthAt h o)).1 := g3
    rw [h2, h3, hv_homn r3 _ _ _ hk3]
    intro z
    rcases Rat.mul_eq_zero.mp z with z | z
    · rcases Rat.mul_eq_zero.mp z with z | z
      · exact pw_ne n2 e3 z
      · rcases Rat.mul_eq_zero.mp z with z | z
        · exact pw_ne hk3 _ z
        · exact n3 z
    · rcases Rat.mul_eq_zero.mp z with z | z
      · exact hk z
      · exact pw_ne h32 e3 z
  · rw [e, f3, eline, hv_map _ _ (k * (1 / (k3 * k2)) ^ e3) (by intro c; grind), hv_conv _ _ (ne_of_len lp) (ne_of_len lc), hv_powL r2, hv_compL C.fh.lt C.fh.lb, mul_pw, mul_pw]
    have a1 := pw_mul ((pair o).2 * a - (pair o).1 * b) e2 e3
    rw [a1]
    grind
end Mt
set_option Elab.async false
set_option linter.all false
set_option maxHeartbeats 1000000
/-! M21: how the program counts. -/
namespace Mt
/-- beyond: the trailing noughts -/
theorem count_none {L : List Rat} {e : Nat} (h : Mult L 1 0 e) : L.length - (trim L).length = e := by
  obtain ⟨R, l, n0, f⟩ := h
  have hR : R ≠ [] := fun z => n0 (by rw [z]; rfl)
  rw [hv_last hR] at n0
  have e1 : ∀ z, ev L z = ((-1 : Rat) ^ e) * ev R z := fun z => by
    rw [← hv_one, f, hv_one, show (0 * z - 1 * 1 : Rat) = -1 by grind]
  have e2 : trim L = (trim R).map (((-1 : Rat) ^ e) * ·) := trim_smul (pw_ne (by decide) e) e1
  rw [e2, List.length_map, trim_of_tr (.inr n0)]
  omega
theorem count_some {L : List Rat} {q : Rat} {e : Nat} (h : Mult L q 1 e) : ∃ R : List Rat, ev R q ≠ 0 ∧ ∀ z, ev L z = (z - q) ^ e * ev R z := by
  obtain ⟨R, l, n0, f⟩ := h
  refine ⟨R, by rwa [hv_one] at n0, fun z => ?_⟩
  rw [← hv_one, f, hv_one, show (1 * z - q * 1 : Rat) = z - q by grind]
theorem mult_smul {L L' : List Rat} {X Y k : Rat} {e : Nat} (hk : k ≠ 0) (h : Mult L X Y e) (h2 : L' = L.map (k * ·)) : Mult L' X Y e := by
  obtain ⟨R, l, n0, f⟩ := h
  refine ⟨R.map (k * ·), by rw [h2, List.length_map, List.length_map, l], ?_, fun a b => ?_⟩
  · rw [hv_map _ _ k (by intro c; grind)]
    exact fun z => (Rat.mul_eq_zero.mp z).elim n0 hk
  · rw [h2, hv_map _ _ k (by intro c; grind), hv_map _ _ k (by intro c; grind), f]; grind
theorem mult_part {x : List Rat × List Rat} {n e : Nat} (h : Fr x n) {o : Option Rat} (m : Mult (partL x o) (pair o).1 (pair o).2 e) : Mult (partAt x o) (pair o).1 (pair o).2 e := by
  obtain ⟨k, hk, e1⟩ := told_smul (part_ne h o)
  exact mult_smul hk m (by rw [partAt_eq, e1])
end Mt
set_option Elab.async false
set_option linter.all false
set_option maxHeartbeats 1000000
/-! M22: the law's own pairs are full. -/
namespace Mt
theorem lCom_spec : ∀ (n : Nat) (a b : List Rat), b.length < n → Tr a → Tr b → Tr (lComG n a b) ∧ (∃ u v : List Rat, ∀ z, ev (lComG n a b) z = ev u z * ev a z + ev v z * ev b z) ∧ (∃ s t : List Rat, ∀ z, ev a z = ev s z * ev (lComG n a b) z ∧ ev b z = ev t z * ev (lComG n a b) z) := by
  intro n
  induction n with
  | zero => intro a b h; omega
  | succ n ih =>
    intro a b h ta tb
    unfold lComG
    split
    · rename_i hb
      subst hb
      exact ⟨ta, ⟨[1], [], fun z => by show _ = (1 + z * 0) * _ + 0 * 0; grind⟩, [1], [], fun z => ⟨by show _ = (1 + z * 0) * _; grind, by show (0 : Rat) = 0 * _; grind⟩⟩
    · rename_i hb
      have h0 := tb.resolve_left hb
      have hl := lDivided_lt (one := a) hb h0
      obtain ⟨t1, ⟨u, v, e1⟩, s, t, e2⟩ := ih b (lDivided a b).2 (by omega) tb (lDivided_tr ta)
      obtain ⟨d, _, _⟩ := lDivided_spec hb h0 ta
      refine ⟨t1, ⟨v, addL u ((conv v (lDivided a b).1).map (· * (-1))), fun z => ?_⟩, addL (conv (lDivided a b).1 s) t, s, fun z => ⟨?_, (e2 z).1⟩⟩
      · rw [e1, ev_addL, ev_map _ _ (-1) (fun _ => rfl), ev_conv]
        have := d z
        grind
      · rw [ev_addL, ev_conv]
        have := d z
        have := e2 z
        grind
theorem lNear_spec {a b : List Rat} (ta : Tr a) (tb : Tr b) : Tr (lNear a b) ∧ (∃ u v : List Rat, ∀ z, ev (lNear a b) z = ev u z * ev a z + ev v z * ev b z) ∧ (∃ s t : List Rat, ∀ z, ev a z = ev s z * ev (lNear a b) z ∧ ev b z = ev t z * ev (lNear a b) z) := lCom_spec _ a b (Nat.lt_succ_self _) ta tb
theorem lowest_fr {p q : List Rat} (tp : Tr p) (tq : Tr q) (hq : q ≠ []) :
    lNear p q ≠ [] ∧ Tr (lCommon p q) ∧ lCommon p q ≠ [] ∧ (lDivided p (lCommon p q)).2 = [] ∧ (lDivided q (lCommon p q)).2 = [] ∧ (lDivided q (lCommon p q)).1 ≠ [] ∧ Tr (lDivided p (lCommon p q)).1 ∧ Tr (lDivided q (lCommon p q)).1 ∧
    ∀ n, degP (lLowest p q) = n → 0 < n → Fr (lLowest p q) n := by
  obtain ⟨tn, ⟨u, v, e1⟩, s, t, e2⟩ := lNear_spec tp tq
  have hn : lNear p q ≠ [] := fun z => hq (tr_ev tq (.inl rfl) fun x => by rw [(e2 x).2, z]; show _ * 0 = (0 : Rat); grind)
  have hd0 := tn.resolve_left hn
  have hk : 1 / hd (lNear p q) ≠ 0 := by grind
  have ec : lCommon p q = (lNear p q).map (1 / hd (lNear p q) * ·) := by unfold lCommon; rw [if_neg hn, by_eq tn hk]
  have tc : Tr (lCommon p q) := by rw [ec]; exact tr_smul hk tn
  have nc : lCommon p q ≠ [] := by rw [ec]; exact fun z => hn (List.map_eq_nil_iff.mp z)
  have evc : ∀ z, ev (lCommon p q) z = 1 / hd (lNear p q) * ev (lNear p q) z := fun z => by rw [ec, ev_map _ _ (1 / hd (lNear p q)) (by intro c; grind)]; grind
  obtain ⟨p1, p2⟩ := l_exact (g := s.map (hd (lNear p q) * ·)) tc nc tp fun x => by rw [evc, ev_map s _ (hd (lNear p q)) (by intro c; grind), (e2 x).1]; grind
  obtain ⟨q1, q2⟩ := l_exact (g := t.map (hd (lNear p q) * ·)) tc nc tq fun x => by rw [evc, ev_map t _ (hd (lNear p q)) (by intro c; grind), (e2 x).2]; grind
  have tX : Tr (lDivided p (lCommon p q)).1 := trim_tr _
  have tY : Tr (lDivided q (lCommon p q)).1 := trim_tr _
  have nY : (lDivided q (lCommon p q)).1 ≠ [] := fun z => hq (tr_ev tq (.inl rfl) fun x => by
    have h1 := q2 x
    rw [z, ev_map t _ (hd (lNear p q)) (by intro c; grind)] at h1
    have h5 : ev ([] : List Rat) x = 0 := rfl
    rw [h5] at h1
    have h6 : ev t x = 0 := (Rat.mul_eq_zero.mp h1.symm).resolve_right hd0
    rw [(e2 x).2, h6]; show 0 * _ = (0 : Rat); grind)
  refine ⟨hn, tc, nc, p1, q1, nY, tX, tY, fun n hdeg hpos => ?_⟩
  have hY := tY.resolve_left nY
  have hk2 : 1 / hd (lDivided q (lCommon p q)).1 ≠ 0 := by grind
  have eL : lLowest p q = ((lDivided p (lCommon p q)).1.map (1 / hd (lDivided q (lCommon p q)).1 * ·), (lDivided q (lCommon p q)).1.map (1 / hd (lDivided q (lCommon p q)).1 * ·)) := by
    unfold lLowest
    simp only
    rw [by_eq tX hk2, by_eq tY hk2]
  rw [eL] at hdeg ⊢
  refine ⟨tr_smul hk2 tX, tr_smul hk2 tY, fun z => nY (List.map_eq_nil_iff.mp z), ?_, hdeg, hpos, ?_⟩
  · show hd (List.map _ _) = 1
    rw [hd_smul]; grind
  · refine ⟨u.map ((hd (lDivided q (lCommon p q)).1 / hd (lNear p q)) * ·), v.map ((hd (lDivided q (lCommon p q)).1 / hd (lNear p q)) * ·), ?_⟩
    obtain ⟨B, hB⟩ := nz_far tn hn
    refine PF.far (φ := fun z => _) (ψ := fun _ => 1) ((PF.ev _).mul (PF.ev _) |>.add ((PF.ev _).mul (PF.ev _))) (PF.c 1) (B := B) fun i hi => ?_
    have h0 := hB i hi
    have h1 := e1 i
    have h2 := e2 i
    show ev (u.map _) _ * ev (List.map _ (lDivided p (lCommon p q)).1) _ + ev (v.map _) _ * ev (List.map _ (lDivided q (lCommon p q)).1) _ = 1
    rw [ev_map u _ _ (by intro c; rw [Rat.mul_comm]), ev_map v _ _ (by intro c; rw [Rat.mul_comm]), ev_map (lDivided p (lCommon p q)).1 _ _ (by intro c; rw [Rat.mul_comm]), ev_map (lDivided q (lCommon p q)).1 _ _ (by intro c; rw [Rat.mul_comm]), p2, q2, ev_map s _ _ (by intro c; rw [Rat.mul_comm]), ev_map t _ _ (by intro c; rw [Rat.mul_comm])]
    generalize hd (lDivided q (lCommon p q)).1 = y at hY
    generalize hd (lNear p q) = g at hd0
    generalize ev (lNear p q) (i : Rat) = N at *
    generalize ev u (i : Rat) = U at *
    generalize ev v (i : Rat) = V at *
    generalize ev s (i : Rat) = S at *
    generalize ev t (i : Rat) = Tt at *
    obtain ⟨h3, h4⟩ := h2
    rw [h3, h4] at h1
    have h6 : N * (1 - (U * S + V * Tt)) = 0 := by grind
    have h7 := (Rat.mul_eq_zero.mp h6).resolve_left h0
    grind
end Mt
set_option Elab.async false
set_option linter.all false
set_option maxHeartbeats 1000000
/-! M23: whole rows keep a combination; coprime rows have a common divisor of length 1. -/
namespace Mt
def cst (p : List Int) : List Rat := p.map (fun (i : Int) => ((i : Int) : Rat))
theorem cst_cf (p : List Int) (i : Nat) : cf (cst p) i = ((cf p i : Int) : Rat) := by
  unfold cst
  by_cases h : i < p.length
  · rw [cf_map _ h]
  · rw [cf_big (by simp; omega), cf_big (p := p) (by omega)]; rfl
theorem cst_trim (p : List Int) (x : Rat) : ev (cst (trim p)) x = ev (cst p) x := ev_cf (fun i => by rw [cst_cf, cst_cf, cf_trim]) x
theorem plain_ev {p : List Int} (h : trim p ≠ []) : ∃ g : Rat, g ≠ 0 ∧ ∀ x, ev (cst p) x = g * ev (cst (plainRow p)) x := by
  have h0 : hd (trim p) ≠ 0 := (trim_tr p).resolve_left h
  have hg := gcdL_pos h h0
  refine ⟨((gcdL (trim p) : Nat) : Rat), by
    have : (0 : Rat) < ((gcdL (trim p) : Nat) : Rat) := by exact_mod_cast hg
    grind, fun x => ?_⟩
  rw [← cst_trim]
  have e : cst (trim p) = (cst (plainRow p)).map (((gcdL (trim p) : Nat) : Rat) * ·) := by
    unfold cst plainRow
    rw [List.map_map, List.map_map]
    apply List.map_congr_left
    intro n hn
    have hd' : ((gcdL (trim p) : Nat) : Int) ∣ n := Int.ofNat_dvd_left.mpr (gcdL_dvd hn)
    show ((n : Int) : Rat) = ((gcdL (trim p) : Nat) : Rat) * ((n.fdiv ((gcdL (trim p) : Nat) : Int) : Int) : Rat)
    rw [Int.fdiv_eq_ediv_of_dvd hd', ← Rat.intCast_natCast, ← Rat.intCast_mul, Int.mul_ediv_cancel' hd']
  rw [e, ev_map _ _ ((gcdL (trim p) : Nat) : Rat) (by intro c; grind)]; grind
theorem plain_ev' (p : List Int) : ∃ g : Rat, g ≠ 0 ∧ ∀ x, ev (cst p) x = g * ev (cst (plainRow p)) x := by
  by_cases h : trim p = []
  · refine ⟨1, by decide, fun x => ?_⟩
    rw [← cst_trim, h]
    have : plainRow p = [] := by unfold plainRow; rw [h]; rfl
    rw [this]; show (0 : Rat) = 1 * 0; grind
  · exact plain_ev h
theorem cst_addAt (k : Nat) (xs ys : List Int) : cst (addAt k xs ys) = addAt k (cst xs) (cst ys) := addAt_map _ (by intro a b; rw [Rat.intCast_add]) k xs ys
theorem mid_ev {other rest : List Int} (ho : other ≠ []) (h : other.length ≤ rest.length) : ∃ Q : List Rat, ∀ x, ev (cst (iMid other rest)) x = (((hd other).natAbs : Nat) : Rat) * ev (cst rest) x + ev Q x * ev (cst other) x := by
  refine ⟨List.replicate (rest.length - other.length) 0 ++ [-((iLast other rest : Int) : Rat)], fun x => ?_⟩
  unfold iMid
  rw [cst_addAt, ev_addAt _ _ _ _ (by unfold cst; simp; omega), ev_app, ev_zeros, List.length_replicate]
  have e1 : cst (rest.map (· * ((hd other).natAbs : Int))) = (cst rest).map (((((hd other).natAbs : Nat) : Rat)) * ·) := by
    unfold cst
    rw [List.map_map, List.map_map]
    apply List.map_congr_left
    intro n _
    show (((n * ((hd other).natAbs : Int) : Int)) : Rat) = (((hd other).natAbs : Nat) : Rat) * (n : Rat)
    rw [Rat.intCast_mul, Rat.intCast_natCast, Rat.mul_comm]
  have e2 : cst (other.map fun n => -(iLast other rest * n)) = (cst other).map ((-((iLast other rest : Int) : Rat)) * ·) := by
    unfold cst
    rw [List.map_map, List.map_map]
    apply List.map_congr_left
    intro n _
    show (((-(iLast other rest * n) : Int)) : Rat) = -((iLast other rest : Int) : Rat) * (n : Rat)
    rw [Rat.intCast_neg, Rat.intCast_mul]; grind
  rw [e1, e2, ev_map _ _ (((hd other).natAbs : Nat) : Rat) (by intro c; grind), ev_map _ _ (-((iLast other rest : Int) : Rat)) (by intro c; grind)]
  show _ = _ + (0 + x ^ _ * (-((iLast other rest : Int) : Rat) + x * 0)) * _
  grind
/-- g a = Q b + c r, c ≠ 0 -/
theorem iRestG_ev {other : List Int} (ho : other ≠ []) : ∀ (n : Nat) (r : List Int), hd other ≠ 0 → ∃ (c g : Rat) (Q : List Rat), c ≠ 0 ∧ g ≠ 0 ∧ ∀ x, g * ev (cst (iRestG other n r)) x = c * ev (cst r) x + ev Q x * ev (cst other) x := by
  intro n
  induction n with
  | zero => intro r h0; exact ⟨1, 1, [], by decide, by decide, fun x => by show 1 * _ = 1 * ev (cst r) x + 0 * _; unfold iRestG; grind⟩
  | succ n ih =>
    intro r h0
    unfold iRestG
    split
    · rename_i hle
      obtain ⟨c, g, Q, hc, hg, e⟩ := ih (iStep other r) h0
      obtain ⟨Q2, e2⟩ := mid_ev ho hle
      obtain ⟨g2, hg2, e3⟩ := plain_ev' (iMid other r)
      have ha : (((hd other).natAbs : Nat) : Rat) ≠ 0 := by
        have h1 : 0 < (hd other).natAbs := by omega
        have : (0 : Rat) < (((hd other).natAbs : Nat) : Rat) := by exact_mod_cast h1
        grind
      refine ⟨c * (((hd other).natAbs : Nat) : Rat), g * g2, addL (Q2.map (c * ·)) (Q.map (g2 * ·)), fun z => (Rat.mul_eq_zero.mp z).elim hc ha, fun z => (Rat.mul_eq_zero.mp z).elim hg hg2, fun x => ?_⟩
      rw [ev_addL, ev_map Q2 _ c (by intro d; grind), ev_map Q _ g2 (by intro d; grind)]
      have h1 := e x
      have h2 := e2 x
      have h3 := e3 x
      have h4 : iStep other r = plainRow (iMid other r) := rfl
      rw [h4] at h1 ⊢
      grind
    · exact ⟨1, 1, [], by decide, by decide, fun x => by show 1 * _ = 1 * ev (cst r) x + 0 * _; grind⟩
theorem intRest_ev {a b : List Int} (hb : b ≠ []) (h0 : hd b ≠ 0) : ∃ (c g : Rat) (Q : List Rat), c ≠ 0 ∧ g ≠ 0 ∧ ∀ x, g * ev (cst (intRest a b)) x = c * ev (cst a) x + ev Q x * ev (cst b) x := by
  obtain ⟨c, g, Q, hc, hg, e⟩ := iRestG_ev hb (a.length + 1) a h0
  obtain ⟨g2, hg2, e2⟩ := plain_ev' (iRestG b (a.length + 1) a)
  refine ⟨c, g * g2, Q, hc, fun z => (Rat.mul_eq_zero.mp z).elim hg hg2, fun x => ?_⟩
  rw [← e x, e2 x]
  show g * g2 * ev (cst (plainRow _)) x = _
  grind
/-- a combination that is 1 is kept -/
theorem iCom_bez : ∀ (n : Nat) (a b : List Int), b.length < n → Tr a → Tr b → Bez (cst a) (cst b) → (iComG n a b).length ≤ 1 := by
  intro n
  induction n with
  | zero => intro a b h; omega
  | succ n ih =>
    intro a b h ta tb ⟨u, v, e⟩
    unfold iComG
    split
    · rename_i hb
      subst hb
      have tc : Tr (cst a) := by
        rcases ta with rfl | ta
        · exact .inl rfl
        · right
          by_cases hne : a = []
          · subst hne; exact absurd (cf_nil _) ta
          · unfold cst; rw [hd_map' _ hne]; intro z; exact ta (by exact_mod_cast z)
      have hp : cst a ≠ [] := fun z => by
        have := e 0
        rw [z] at this
        have h0 : ev ([] : List Rat) 0 = 0 := rfl
        have h1 : ev (cst []) 0 = 0 := rfl
        rw [h0, h1] at this
        grind
      have hu : trim u ≠ [] := fun z => by
        have := e 0
        rw [← ev_trim u, z] at this
        have h0 : ev ([] : List Rat) 0 = 0 := rfl
        have h1 : ev (cst []) 0 = 0 := rfl
        rw [h0, h1] at this
        grind
      have h1 := mul_len (r := [1]) (trim_tr u) tc (.inr (by decide)) hu hp fun z => by
        rw [ev_trim]
        have := e z
        have h1 : ev (cst []) z = 0 := rfl
        rw [h1] at this
        show 1 + z * 0 = _
        grind
      have h2 := congrArg List.length h1
      rw [conv_len] at h2
      have l0 := List.length_pos_iff.mpr hu
      have l1 : (cst a).length = a.length := by unfold cst; simp
      simp at h2
      omega
    · rename_i hb
      have h0 := tb.resolve_left hb
      obtain ⟨c, g, Q, hc, hg, e2⟩ := intRest_ev (a := a) hb h0
      refine ih b (intRest a b) (by have := intRest_lt (one := a) hb; omega) tb (plainRow_tr _) ?_
      refine ⟨addL v ((conv u Q).map ((-(1 / c)) * ·)), u.map ((g / c) * ·), fun z => ?_⟩
      rw [ev_addL, ev_map (conv u Q) _ (-(1 / c)) (by intro d; grind), ev_conv, ev_map u _ (g / c) (by intro d; grind)]
      have h1 := e z
      have h2 := e2 z
      grind
end Mt
set_option Elab.async false
set_option linter.all false
set_option maxHeartbeats 1000000
/-! M24: coprime rows have a common divisor of length at most 1. -/
namespace Mt
theorem ints_ev (p : List Rat) : ∃ g : Rat, g ≠ 0 ∧ ∀ x, ev p x = g * ev (cst (plainRow (intsOf p))) x := by
  obtain ⟨g, hg, e⟩ := plain_ev' (intsOf p)
  have hL : (0 : Rat) < ((lcmD p : Nat) : Rat) := by exact_mod_cast lcmD_pos p
  have hi : (1 : Rat) / ((lcmD p : Nat) : Rat) ≠ 0 := by grind
  refine ⟨(1 / ((lcmD p : Nat) : Rat)) * g, fun z => (Rat.mul_eq_zero.mp z).elim hi hg, fun x => ?_⟩
  have h1 : p = (cst (intsOf p)).map (· * (1 / ((lcmD p : Nat) : Rat))) := by
    unfold cst
    rw [List.map_map]
    exact (ints_eq (p := p)).symm
  have h2 : ev p x = ev (cst (intsOf p)) x * (1 / ((lcmD p : Nat) : Rat)) := by
    conv => lhs; rw [h1]
    rw [ev_map _ _ (1 / ((lcmD p : Nat) : Rat)) (by intro c; rfl)]
  rw [h2, e x]
  grind
theorem common_bez {p q : List Rat} (h : Bez p q) : (commonOf p q).length ≤ 1 := by
  obtain ⟨u, v, e⟩ := h
  obtain ⟨g1, h1, e1⟩ := ints_ev p
  obtain ⟨g2, h2, e2⟩ := ints_ev q
  unfold commonOf
  rw [List.length_map]
  unfold intCommon
  refine iCom_bez _ _ _ (Nat.lt_succ_self _) (plainRow_tr _) (plainRow_tr _) ⟨u.map (g1 * ·), v.map (g2 * ·), fun z => ?_⟩
  rw [ev_map u _ g1 (by intro c; grind), ev_map v _ g2 (by intro c; grind)]
  have := e z
  rw [e1 z, e2 z] at this
  grind
/-- what is taken where nothing comes -/
theorem dflt_fr : Fr (([0, 1] : List Rat), ([1] : List Rat)) 1 := by
  refine ⟨.inr ?_, .inr ?_, List.cons_ne_nil _ _, rfl, rfl, by decide, [], [1], fun z => ?_⟩
  · show (1 : Rat) ≠ 0; decide
  · show (1 : Rat) ≠ 0; decide
  · show 0 * _ + (1 + z * 0) * (1 + z * 0) = (1 : Rat)
    grind
end Mt
set_option Elab.async false
set_option linter.all false
set_option maxHeartbeats 1000000
/-! M25: sizes: a number over a given bottom. -/
namespace Mt
/-- c is m / D with m of at most n bits -/
def S1 (n D : Nat) (c : Rat) : Prop := ∃ m : Int, m.natAbs ≤ 2 ^ n ∧ c * (D : Rat) = (m : Rat)
def Sz (n D : Nat) (p : List Rat) : Prop := ∀ c ∈ p, S1 n D c
theorem pw_le {a b : Nat} (h : a ≤ b) : 2 ^ a ≤ 2 ^ b := Nat.pow_le_pow_right (by decide) h
theorem S1.mono {n n' D : Nat} {c : Rat} (h : S1 n D c) (hn : n ≤ n') : S1 n' D c := by
  obtain ⟨m, h1, h2⟩ := h
  exact ⟨m, Nat.le_trans h1 (pw_le hn), h2⟩
theorem S1.zero {n D : Nat} : S1 n D 0 := ⟨0, by simp, by simp [Rat.zero_mul]⟩
theorem S1.one : S1 0 1 1 := ⟨1, by decide, by simp⟩
theorem S1.neg {n D : Nat} {c : Rat} (h : S1 n D c) : S1 n D (-c) := by
  obtain ⟨m, h1, h2⟩ := h
  exact ⟨-m, by rw [Int.natAbs_neg]; exact h1, by rw [Rat.neg_mul, h2, Rat.intCast_neg]⟩
theorem S1.add {n D : Nat} {a b : Rat} (h : S1 n D a) (k : S1 n D b) : S1 (n + 1) D (a + b) := by
  obtain ⟨m, h1, h2⟩ := h
  obtain ⟨l, k1, k2⟩ := k
  refine ⟨m + l, ?_, by rw [Rat.add_mul, h2, k2, Rat.intCast_add]⟩
  have := Int.natAbs_add_le m l
  rw [Nat.pow_succ]; omega
theorem S1.mul {n n' D D' : Nat} {a b : Rat} (h : S1 n D a) (k : S1 n' D' b) : S1 (n + n') (D * D') (a * b) := by
  obtain ⟨m, h1, h2⟩ := h
  obtain ⟨l, k1, k2⟩ := k
  refine ⟨m * l, ?_, ?_⟩
  · rw [Int.natAbs_mul, Nat.pow_add]; exact Nat.mul_le_mul h1 k1
  · rw [Rat.natCast_mul, Rat.intCast_mul, ← h2, ← k2]; grind
/-- a greater bottom -/
theorem S1.up {n e D E : Nat} {c : Rat} (h : S1 n D c) (hE : E ≤ 2 ^ e) : S1 (n + e) (D * E) c := by
  obtain ⟨m, h1, h2⟩ := h
  refine ⟨m * (E : Int), ?_, ?_⟩
  · rw [Int.natAbs_mul, Nat.pow_add, Int.natAbs_natCast]; exact Nat.mul_le_mul h1 hE
  · rw [Rat.natCast_mul, Rat.intCast_mul, ← h2, Rat.intCast_natCast]; grind
theorem S1.ups {n k D : Nat} {c : Rat} (h : S1 n D c) {E e : Nat} (hE : E ≤ 2 ^ e) : S1 (n + e * k) (D * E ^ k) c := h.up (by rw [Nat.pow_mul]; exact Nat.pow_le_pow_left hE k)
/-- a quotient's bottom -/
theorem S1.bot {n D : Nat} {b : Rat} (h : S1 n D b) (hb : b ≠ 0) (hD : 0 < D) : ∃ E : Nat, 0 < E ∧ E ≤ 2 ^ n ∧ (b * (D : Rat) = (E : Rat) ∨ b * (D : Rat) = -(E : Rat)) := by
  obtain ⟨m, h1, h2⟩ := h
  have hD' : (0 : Rat) < (D : Rat) := by exact_mod_cast hD
  have hm : m ≠ 0 := fun z => by rw [z] at h2; have : b * (D : Rat) = 0 := h2; rcases Rat.mul_eq_zero.mp this with q | q <;> grind
  refine ⟨m.natAbs, by omega, h1, ?_⟩
  rw [h2]
  rcases Int.natAbs_eq m with q | q
  · left; conv => lhs; rw [q]
    rw [Rat.intCast_natCast]
  · right; conv => lhs; rw [q]
    rw [Rat.intCast_neg, Rat.intCast_natCast]
/-- a / b where both lie over D and b's bottom is E -/
theorem S1.over {n D E : Nat} {a b : Rat} (h : S1 n D a) (hD : 0 < D) (hE : 0 < E) (hb : b * (D : Rat) = (E : Rat) ∨ b * (D : Rat) = -(E : Rat)) : S1 n E (a / b) := by
  obtain ⟨m, h1, h2⟩ := h
  have hD' : (0 : Rat) < (D : Rat) := by exact_mod_cast hD
  have hE' : (0 : Rat) < (E : Rat) := by exact_mod_cast hE
  rcases hb with hb | hb
  · refine ⟨m, h1, ?_⟩
    have hb0 : b ≠ 0 := fun z => by rw [z] at hb; grind
    rw [← h2, ← hb]; grind
  · refine ⟨-m, by rw [Int.natAbs_neg]; exact h1, ?_⟩
    have hb0 : b ≠ 0 := fun z => by rw [z] at hb; grind
    rw [Rat.intCast_neg, ← h2]
    have : (E : Rat) = -(b * (D : Rat)) := by grind
    rw [this]; grind
/-- a / b over two bottoms -/
theorem S1.over2 {n d D D' E : Nat} {a b : Rat} (h : S1 n D a) (hD' : 0 < D') (hd : D' ≤ 2 ^ d) (hE : 0 < E) (hb : b * (D' : Rat) = (E : Rat) ∨ b * (D' : Rat) = -(E : Rat)) : S1 (n + d) (D * E) (a / b) := by
  obtain ⟨m, h1, h2⟩ := h
  have hD'' : (0 : Rat) < (D' : Rat) := by exact_mod_cast hD'
  have hE' : (0 : Rat) < (E : Rat) := by exact_mod_cast hE
  have hl : (m * (D' : Int)).natAbs ≤ 2 ^ (n + d) := by rw [Int.natAbs_mul, Nat.pow_add, Int.natAbs_natCast]; exact Nat.mul_le_mul h1 hd
  rcases hb with hb | hb
  · refine ⟨m * (D' : Int), hl, ?_⟩
    have hb0 : b ≠ 0 := fun z => by rw [z] at hb; grind
    rw [Rat.natCast_mul, Rat.intCast_mul, ← h2, ← hb, Rat.intCast_natCast]; grind
  · refine ⟨-(m * (D' : Int)), by rw [Int.natAbs_neg]; exact hl, ?_⟩
    have hb0 : b ≠ 0 := fun z => by rw [z] at hb; grind
    have : (E : Rat) = -(b * (D' : Rat)) := by grind
    rw [Rat.natCast_mul, Rat.intCast_neg, Rat.intCast_mul, ← h2, Rat.intCast_natCast, this]; grind
/-! rows -/
theorem Sz.mono {n n' D : Nat} {p : List Rat} (h : Sz n D p) (hn : n ≤ n') : Sz n' D p := fun c hc => (h c hc).mono hn
theorem Sz.nil {n D : Nat} : Sz n D [] := fun c hc => by cases hc
theorem Sz.sub {n D : Nat} {p q : List Rat} (h : Sz n D p) (s : ∀ c ∈ q, c ∈ p ∨ c = 0) : Sz n D q := fun c hc => by
  rcases s c hc with k | k
  · exact h c k
  · rw [k]; exact S1.zero
theorem mem_trim {p : List Rat} {c : Rat} (h : c ∈ trim p) : c ∈ p := by
  obtain ⟨n, e⟩ := trim_pad p
  rw [e]; exact List.mem_append_left _ h
theorem Sz.trim {n D : Nat} {p : List Rat} (h : Sz n D p) : Sz n D (trim p) := h.sub fun c hc => .inl (mem_trim hc)
theorem Sz.fill {n D k : Nat} {p : List Rat} (h : Sz n D p) : Sz n D (fillF p k) := h.sub fun c hc => by
  unfold fillF at hc
  rcases List.mem_append.mp hc with q | q
  · exact .inl q
  · exact .inr (List.mem_replicate.mp q).2
theorem cf_memz (p : List Rat) (i : Nat) : cf p i ∈ p ∨ cf p i = 0 := by
  by_cases h : i < p.length
  · exact .inl (List.mem_of_getElem? (get_cf h))
  · exact .inr (cf_big (by omega))
theorem Sz.cf {n D : Nat} {p : List Rat} (h : Sz n D p) (i : Nat) : S1 n D (cf p i) := by
  rcases cf_memz p i with k | k
  · exact h _ k
  · rw [k]; exact S1.zero
theorem Sz.hd {n D : Nat} {p : List Rat} (h : Sz n D p) : S1 n D (hd p) := h.cf _
theorem Sz.map {n n' D D' : Nat} {p : List Rat} (h : Sz n D p) (f : Rat → Rat) (hf : ∀ c, S1 n D c → S1 n' D' (f c)) : Sz n' D' (p.map f) := fun c hc => by
  obtain ⟨a, ha, rfl⟩ := List.mem_map.mp hc
  exact hf a (h a ha)
theorem Sz.by {n n' D D' : Nat} {p : List Rat} {r : Rat} (h : Sz n D p) (k : S1 n' D' r) : Sz (n + n') (D * D') (byNumber p r) := Sz.trim (h.map _ fun c hc => hc.mul k)
theorem mem_addL : ∀ (p q : List Rat) (c : Rat), c ∈ addL p q → c ∈ p ∨ c ∈ q ∨ ∃ a ∈ p, ∃ b ∈ q, c = a + b := by
  intro p
  induction p with
  | nil => intro q c h; exact .inr (.inl h)
  | cons a p ih =>
    intro q c h
    cases q with
    | nil => rw [addL_nil] at h; exact .inl h
    | cons b q =>
      rcases List.mem_cons.mp h with h | h
      · exact .inr (.inr ⟨a, by simp, b, by simp, h⟩)
      · rcases ih q c h with k | k | ⟨x, hx, y, hy, k⟩
        · exact .inl (by simp [k])
        · exact .inr (.inl (by simp [k]))
        · exact .inr (.inr ⟨x, by simp [hx], y, by simp [hy], k⟩)
theorem Sz.addL {n D : Nat} {p q : List Rat} (h : Sz n D p) (k : Sz n D q) : Sz (n + 1) D (addL p q) := fun c hc => by
  rcases mem_addL p q c hc with z | z | ⟨a, ha, b, hb, rfl⟩
  · exact (h c z).mono (by omega)
  · exact (k c z).mono (by omega)
  · exact (h a ha).add (k b hb)
theorem Sz.sum {n D : Nat} {p q : List Rat} (h : Sz n D p) (k : Sz n D q) : Sz (n + 1) D (sumOf p q) := (h.addL k).trim
theorem Sz.less {n D : Nat} {p q : List Rat} (h : Sz n D p) (k : Sz n D q) : Sz (n + 1) D (lessOf p q) := h.sum (Sz.trim (k.map _ fun c hc => by
  have := hc.neg
  rwa [show c * (-1 : Rat) = -c by grind]))
theorem mem_addAt {α : Type} [Add α] : ∀ (xs : List α) (k : Nat) (ys : List α) (c : α), c ∈ addAt k xs ys → c ∈ xs ∨ ∃ a ∈ xs, ∃ b ∈ ys, c = a + b := by
  intro xs
  induction xs with
  | nil => intro k ys c h; exact .inl (by cases k <;> exact h)
  | cons x xs ih =>
    intro k ys c h
    cases ys with
    | nil => exact .inl (by cases k <;> exact h)
    | cons y ys =>
      cases k with
      | zero =>
        rcases List.mem_cons.mp h with h | h
        · exact .inr ⟨x, by simp, y, by simp, h⟩
        · rcases ih 0 ys c h with k | ⟨a, ha, b, hb, k⟩
          · exact .inl (by simp [k])
          · exact .inr ⟨a, by simp [ha], b, by simp [hb], k⟩
      | succ k =>
        rcases List.mem_cons.mp h with h | h
        · exact .inl (by simp [h])
        · rcases ih k (y :: ys) c h with k | ⟨a, ha, b, hb, k⟩
          · exact .inl (by simp [k])
          · exact .inr ⟨a, by simp [ha], b, hb, k⟩
theorem Sz.addAt {n D k : Nat} {p q : List Rat} (h : Sz n D p) (l : Sz n D q) : Sz (n + 1) D (addAt k p q) := fun c hc => by
  rcases mem_addAt p k q c hc with z | ⟨a, ha, b, hb, rfl⟩
  · exact (h c z).mono (by omega)
  · exact (h a ha).add (l b hb)
theorem Sz.zeros {n D k : Nat} : Sz n D (List.replicate k 0) := fun c hc => by rw [(List.mem_replicate.mp hc).2]; exact S1.zero
theorem Sz.convS {n n' D D' : Nat} {p q : List Rat} (h : Sz n D p) (k : Sz n' D' q) : ∀ i, Sz (n + n' + i) (D * D') (convS p q i)
  | 0 => Sz.zeros
  | i + 1 => Sz.addAt (Sz.convS h k i) (Sz.mono (k.map _ fun c hc => (h.cf i).mul hc) (by show n + n' ≤ n + n' + i; omega))
theorem Sz.conv {n n' D D' : Nat} {p q : List Rat} (h : Sz n D p) (k : Sz n' D' q) : Sz (n + n' + p.length) (D * D') (conv p q) := h.convS k _
theorem Sz.prod {n n' D D' : Nat} {p q : List Rat} (h : Sz n D p) (k : Sz n' D' q) : Sz (n + n' + p.length) (D * D') (productOf p q) := by
  unfold productOf
  split
  · exact Sz.nil
  · exact h.conv k
theorem Sz.times {n n' D D' : Nat} {p q : List Rat} (h : Sz n D p) (k : Sz n' D' q) : Sz (n + n' + p.length) (D * D') (lTimes p q) := (h.conv k).trim
end Mt
set_option Elab.async false
set_option linter.all false
set_option maxHeartbeats 1000000
/-! M26: sizes of rows, of divisions. -/
namespace Mt
/-- a row over one bottom, s bits -/
def St (s : Nat) (p : List Rat) : Prop := ∃ D : Nat, 0 < D ∧ D ≤ 2 ^ s ∧ Sz s D p
theorem Sz.st {n D s : Nat} {p : List Rat} (h : Sz n D p) (hD : 0 < D) (hn : n ≤ s) {d : Nat} (hd : D ≤ 2 ^ d) (hs : d ≤ s) : St s p := ⟨D, hD, Nat.le_trans hd (pw_le hs), h.mono hn⟩
theorem St.mono {s t : Nat} {p : List Rat} (h : St s p) (hs : s ≤ t) : St t p := by
  obtain ⟨D, h0, h1, h2⟩ := h
  exact ⟨D, h0, Nat.le_trans h1 (pw_le hs), h2.mono hs⟩
theorem St.sub {s : Nat} {p q : List Rat} (h : St s p) (k : ∀ c ∈ q, c ∈ p ∨ c = 0) : St s q := by
  obtain ⟨D, h0, h1, h2⟩ := h
  exact ⟨D, h0, h1, h2.sub k⟩
theorem St.trim {s : Nat} {p : List Rat} (h : St s p) : St s (trim p) := h.sub fun c hc => .inl (mem_trim hc)
theorem St.app {s t : Nat} {p q : List Rat} (h : St s p) (k : St t q) : St (s + t) (p ++ q) := by
  obtain ⟨D, h0, h1, h2⟩ := h
  obtain ⟨E, k0, k1, k2⟩ := k
  refine ⟨D * E, Nat.mul_pos h0 k0, by rw [Nat.pow_add]; exact Nat.mul_le_mul h1 k1, fun c hc => ?_⟩
  rcases List.mem_append.mp hc with z | z
  · exact (h2 c z).up k1
  · have := (k2 c z).up h1
    rw [Nat.mul_comm, Nat.add_comm]; exact this
theorem St.l {s : Nat} {p q : List Rat} (h : St s (p ++ q)) : St s p := h.sub fun c hc => .inl (List.mem_append_left _ hc)
theorem St.r {s : Nat} {p q : List Rat} (h : St s (p ++ q)) : St s q := h.sub fun c hc => .inl (List.mem_append_right _ hc)
/-- all over one of them -/
theorem St.over {s : Nat} {p : List Rat} {b : Rat} (h : St s p) (hb : b ∈ p) (h0 : b ≠ 0) : ∃ E : Nat, 0 < E ∧ E ≤ 2 ^ s ∧ ∀ c ∈ p, S1 s E (c / b) := by
  obtain ⟨D, k0, k1, k2⟩ := h
  obtain ⟨E, e0, e1, e2⟩ := (k2 b hb).bot h0 k0
  exact ⟨E, e0, e1, fun c hc => (k2 c hc).over k0 e0 e2⟩
theorem hd_mem2 {p : List Rat} (h : p ≠ []) : hd p ∈ p := List.mem_of_getElem? (get_cf (by have := List.length_pos_iff.mpr h; omega))
theorem St.headed {s : Nat} {f : List Rat} (h : St s f) (ht : Mt.trim f ≠ []) : St s (f.map (· / hd (Mt.trim f))) := by
  have h0 := (trim_tr f).resolve_left ht
  obtain ⟨E, e0, e1, e2⟩ := h.over (mem_trim (hd_mem2 ht)) h0
  refine ⟨E, e0, e1, fun c hc => ?_⟩
  obtain ⟨a, ha, rfl⟩ := List.mem_map.mp hc
  exact e2 a ha
theorem St.lHeaded {s : Nat} {f : List Rat} (h : St s f) (ht : Mt.trim f ≠ []) : St s (lHeaded f) := h.headed ht
theorem St.told {s : Nat} {f : List Rat} (h : St s f) (ht : Mt.trim f ≠ []) : St s (toldOf f) := by rw [told_headed]; exact h.lHeaded ht
theorem St.fill {s k : Nat} {p : List Rat} (h : St s p) : St s (fillF p k) := h.sub fun c hc => by
  unfold fillF at hc
  rcases List.mem_append.mp hc with q | q
  · exact .inl q
  · exact .inr (List.mem_replicate.mp q).2
theorem mul_le_pow {D E a b : Nat} (h : D ≤ 2 ^ a) (k : E ≤ 2 ^ b) : D * E ≤ 2 ^ (a + b) := by rw [Nat.pow_add]; exact Nat.mul_le_mul h k
theorem pow_le_pow' {E b : Nat} (k : E ≤ 2 ^ b) (i : Nat) : E ^ i ≤ 2 ^ (b * i) := by rw [Nat.pow_mul]; exact Nat.pow_le_pow_left k i
theorem St.prod {s t : Nat} {p q : List Rat} (h : St s p) (k : St t q) : St (s + t + p.length) (productOf p q) := by
  obtain ⟨D, h0, h1, h2⟩ := h
  obtain ⟨E, k0, k1, k2⟩ := k
  exact (h2.prod k2).st (Nat.mul_pos h0 k0) (Nat.le_refl _) (mul_le_pow h1 k1) (by omega)
/-! divisions -/
theorem lStep_eq {other rest : List Rat} (ho : other ≠ []) (h0 : hd other ≠ 0) (h : other.length ≤ rest.length) : lStep other rest = pRest other rest :=
  tr_ev (trim_tr _) (trim_tr _) fun x => by rw [ev_lStep, ev_pRest ho h0 h]
theorem lG_eq {other : List Rat} (ho : other ≠ []) (h0 : hd other ≠ 0) : ∀ (n : Nat) (x : List Rat × List Rat), lG other n x = partsG other n x
  | 0, x => rfl
  | n + 1, (quo, rest) => by
    unfold lG partsG
    split
    · rename_i h
      rw [lStep_eq ho h0 h]; exact lG_eq ho h0 n _
    · rfl
/-- what a division keeps -/
structure Dv (one other : List Rat) (n1 D1 n2 d2 D2 E : Nat) : Prop where
  ne : other ≠ []
  h0 : hd other ≠ 0
  one : Sz n1 D1 one
  oth : Sz n2 D2 other
  p1 : 0 < D1
  p2 : 0 < D2
  d2 : D2 ≤ 2 ^ d2
  pE : 0 < E
  eE : E ≤ 2 ^ n2
  hE : hd other * (D2 : Rat) = (E : Rat) ∨ hd other * (D2 : Rat) = -(E : Rat)
theorem Dv.mk' {one other : List Rat} {n1 D1 n2 d2 D2 : Nat} (ne : other ≠ []) (h0 : hd other ≠ 0) (h1 : Sz n1 D1 one) (h2 : Sz n2 D2 other) (p1 : 0 < D1) (p2 : 0 < D2) (e2 : D2 ≤ 2 ^ d2) : ∃ E, Dv one other n1 D1 n2 d2 D2 E := by
  obtain ⟨E, a, b, c⟩ := h2.hd.bot h0 p2
  exact ⟨E, ne, h0, h1, h2, p1, p2, e2, a, b, c⟩
section
variable {one other : List Rat} {n1 D1 n2 d2 D2 E : Nat} (V : Dv one other n1 D1 n2 d2 D2 E)
include V
/-- the rest after i turns -/
def DvI (one : List Rat) (n1 D1 n2 E : Nat) (i : Nat) (rest : List Rat) : Prop := rest.length + i ≤ one.length ∧ Sz (n1 + i * (n2 + 1)) (D1 * E ^ i) rest
theorem Dv.start : DvI one n1 D1 n2 E 0 one := ⟨Nat.le_refl _, by rw [Nat.pow_zero, Nat.mul_one]; exact V.one.mono (by omega)⟩
theorem Dv.fac {i : Nat} {rest : List Rat} (h : DvI one n1 D1 n2 E i rest) : S1 (n1 + i * (n2 + 1) + d2) (D1 * E ^ i * E) (hd rest / hd other) := h.2.hd.over2 V.p2 V.d2 V.pE V.hE
theorem Dv.facs {i : Nat} {rest : List Rat} (h : DvI one n1 D1 n2 E i rest) {o : Rat} (ho : o ∈ other) : S1 (n1 + i * (n2 + 1) + n2) (D1 * E ^ i * E) (hd rest / hd other * o) := by
  have := h.2.hd.mul ((V.oth o ho).over V.p2 V.pE V.hE)
  rwa [show hd rest * (o / hd other) = hd rest / hd other * o by grind] at this
theorem Dv.step {i : Nat} {rest : List Rat} (h : DvI one n1 D1 n2 E i rest) (hl : other.length ≤ rest.length) : DvI one n1 D1 n2 E (i + 1) (pRest other rest) := by
  have hp := List.length_pos_iff.mpr V.ne
  refine ⟨by have := pRest_lt (other := other) (rest := rest) (by omega); have := h.1; omega, ?_⟩
  have e : n1 + (i + 1) * (n2 + 1) = n1 + i * (n2 + 1) + n2 + 1 := by rw [Nat.succ_mul]; omega
  rw [e, Nat.pow_succ, ← Nat.mul_assoc]
  unfold pRest
  refine Sz.trim ?_
  refine Sz.sub (p := addAt (rest.length - other.length) rest (other.dropLast.map fun o => -(hd rest / hd other * o))) ?_ (fun c hc => .inl ((List.dropLast_subset _) hc))
  refine Sz.addAt (fun c hc => (h.2 c hc).up V.eE) fun c hc => ?_
  obtain ⟨o, ho, rfl⟩ := List.mem_map.mp hc
  exact (V.facs h ((List.dropLast_subset _) ho)).neg
theorem mem_set {p : List Rat} {i : Nat} {a c : Rat} (h : c ∈ p.set i a) : c ∈ p ∨ c = a := by
  rcases List.mem_or_eq_of_mem_set h with k | k
  · exact .inl k
  · exact .inr k
theorem Dv.quo {K : Nat} (hK : one.length + 1 ≤ K + other.length) : ∀ (n i : Nat) (quo rest : List Rat), DvI one n1 D1 n2 E i rest → i ≤ K → Sz (n1 + K * (n2 + 1) + d2) (D1 * E ^ K) quo →
    Sz (n1 + K * (n2 + 1) + d2) (D1 * E ^ K) (partsG other n (quo, rest)).1 ∧ ∃ j, j ≤ K ∧ DvI one n1 D1 n2 E j (partsG other n (quo, rest)).2
  | 0, i, quo, rest, h, hi, hq => ⟨hq, i, hi, h⟩
  | n + 1, i, quo, rest, h, hi, hq => by
    unfold partsG
    split
    · rename_i hl
      have hi2 : i + 1 ≤ K := by have := h.1; omega
      refine Dv.quo hK n (i + 1) _ _ (V.step h hl) hi2 fun c hc => ?_
      unfold pQuo at hc
      rcases List.mem_or_eq_of_mem_set hc with k | k
      · exact hq c k
      · rw [k]
        have f := V.fac h
        have g := f.ups (k := K - (i + 1)) V.eE
        rw [Nat.mul_assoc D1, ← Nat.pow_succ, Nat.mul_assoc D1, ← Nat.pow_add, show i + 1 + (K - (i + 1)) = K by omega] at g
        refine g.mono ?_
        obtain ⟨r, rfl⟩ := Nat.exists_eq_add_of_le hi2
        rw [show i + 1 + r - (i + 1) = r by omega]
        have e1 : (i + 1 + r) * (n2 + 1) = i * (n2 + 1) + (n2 + 1) + r * (n2 + 1) := by rw [Nat.add_mul, Nat.add_mul]; omega
        have e2 : n2 * r ≤ r * (n2 + 1) := by rw [Nat.mul_comm]; exact Nat.mul_le_mul_left _ (by omega)
        omega
    · exact ⟨hq, i, hi, h⟩
theorem Dv.parts {K : Nat} (hK : one.length + 1 ≤ K + other.length) : Sz (n1 + K * (n2 + 1) + d2) (D1 * E ^ K) (partsOf one other).1 ∧ ∃ j, j ≤ K ∧ DvI one n1 D1 n2 E j (partsOf one other).2 :=
  V.quo hK _ 0 _ _ V.start (Nat.zero_le _) Sz.zeros
theorem Dv.divided {K : Nat} (hK : one.length + 1 ≤ K + other.length) : Sz (n1 + K * (n2 + 1) + d2) (D1 * E ^ K) (lDivided one other).1 ∧ ∃ j, j ≤ K ∧ DvI one n1 D1 n2 E j (lDivided one other).2 := by
  have h := V.quo hK (one.length + 1) 0 (List.replicate (one.length + 1 - other.length) 0) one V.start (Nat.zero_le _) Sz.zeros
  unfold lDivided
  rw [lG_eq V.ne V.h0]
  exact ⟨h.1.trim, h.2⟩
end
theorem St.quo {s t K : Nat} {one other : List Rat} (h : St s one) (k : St t other) (ne : other ≠ []) (h0 : hd other ≠ 0) (hK : one.length + 1 ≤ K + other.length) : St (s + K * (t + 1) + t) (partsOf one other).1 := by
  obtain ⟨D, a0, a1, a2⟩ := h
  obtain ⟨D2, b0, b1, b2⟩ := k
  obtain ⟨E, V⟩ := Dv.mk' ne h0 a2 b2 a0 b0 b1
  refine (V.parts hK).1.st (Nat.mul_pos a0 (Nat.pow_pos V.pE)) (Nat.le_refl _) (mul_le_pow a1 (pow_le_pow' V.eE K)) ?_
  rw [Nat.mul_succ, Nat.mul_comm K t]; omega
theorem St.lquo {s t K : Nat} {one other : List Rat} (h : St s one) (k : St t other) (ne : other ≠ []) (h0 : hd other ≠ 0) (hK : one.length + 1 ≤ K + other.length) : St (s + K * (t + 1) + t) (lDivided one other).1 ∧ St (s + K * (t + 1)) (lDivided one other).2 ∧ (lDivided one other).2.length ≤ one.length := by
  obtain ⟨D, a0, a1, a2⟩ := h
  obtain ⟨D2, b0, b1, b2⟩ := k
  obtain ⟨E, V⟩ := Dv.mk' ne h0 a2 b2 a0 b0 b1
  obtain ⟨h1, j, hj, h2⟩ := V.divided hK
  refine ⟨h1.st (Nat.mul_pos a0 (Nat.pow_pos V.pE)) (Nat.le_refl _) (mul_le_pow a1 (pow_le_pow' V.eE K)) ?_, h2.2.st (Nat.mul_pos a0 (Nat.pow_pos V.pE)) ?_ (mul_le_pow a1 (pow_le_pow' V.eE j)) ?_, by have := h2.1; omega⟩
  · rw [Nat.mul_succ, Nat.mul_comm K t]; omega
  · have := Nat.mul_le_mul_right (t + 1) hj; omega
  · have := Nat.mul_le_mul_right (t + 1) hj
    rw [Nat.mul_succ, Nat.mul_comm j t] at this; omega
end Mt
set_option Elab.async false
set_option linter.all false
set_option maxHeartbeats 1000000
/-! M27: sizes of the law's own pairs. -/
namespace Mt
/-- bits of a row in the chain by its length -/
def eb : Nat → Nat
  | 0 => 1000
  | 1 => 95
  | 2 => 29
  | 3 => 11
  | _ => 5
theorem eb_le (l : Nat) : eb l ≤ 1000 := by unfold eb; split <;> decide
theorem eb_step : ∀ la, la < 5 → ∀ lb, lb < 5 → ∀ lc, lc < lb → lc ≤ la → eb la + (la + 1 - lb) * (eb lb + 1) ≤ eb lc := by decide
def Jc (a b : List Rat) : Prop := Tr a ∧ Tr b ∧ a.length ≤ 4 ∧ b.length ≤ 4 ∧ St (eb a.length) a ∧ St (eb b.length) b
theorem Jc.step {a b : List Rat} (h : Jc a b) (hb : b ≠ []) : Jc b (lDivided a b).2 := by
  obtain ⟨ta, tb, la, lb, sa, sb⟩ := h
  have h0 := tb.resolve_left hb
  have hlt := lDivided_lt (one := a) hb h0
  obtain ⟨_, s, l⟩ := sa.lquo sb hb h0 (K := a.length + 1 - b.length) (by omega)
  exact ⟨tb, lDivided_tr ta, lb, by omega, sb, s.mono (eb_step _ (by omega) _ (by omega) _ hlt l)⟩
theorem Jc.near : ∀ (n : Nat) (a b : List Rat), b.length < n → Jc a b → Jc (lComG n a b) []
  | 0, a, b, h, _ => by omega
  | n + 1, a, b, h, J => by
    unfold lComG
    split
    · rename_i e; rw [e] at J; exact J
    · rename_i e
      have h0 := J.2.1.resolve_left e
      have := lDivided_lt (one := a) e h0
      exact Jc.near n _ _ (by omega) (J.step e)
theorem st_eb {p : List Rat} (h : Sz 5 6 p) (hl : p.length ≤ 4) : St (eb p.length) p := by
  refine h.st (by decide) ?_ (d := 3) (by decide) ?_
  all_goals
    generalize p.length = l at hl
    match l, hl with
    | 0, _ => decide
    | 1, _ => decide
    | 2, _ => decide
    | 3, _ => decide
    | 4, _ => decide
theorem Jc.of {p q : List Rat} (tp : Tr p) (tq : Tr q) (sp : Sz 5 6 p) (sq : Sz 5 6 q) (lp : p.length ≤ 4) (lq : q.length ≤ 4) : Jc p q := ⟨tp, tq, lp, lq, st_eb sp lp, st_eb sq lq⟩
theorem Jc.lNear {p q : List Rat} (h : Jc p q) : Jc (lNear p q) [] := Jc.near _ _ _ (Nat.lt_succ_self _) h
def cb (l : Nat) : Nat := if l = 1 then 0 else eb l
theorem common_sz {p q : List Rat} (h : Jc p q) (hn : lNear p q ≠ []) : (lCommon p q).length ≤ 4 ∧ 1 ≤ (lCommon p q).length ∧ Tr (lCommon p q) ∧ St (cb (lCommon p q).length) (lCommon p q) := by
  obtain ⟨tn, _, ln, _, sn, _⟩ := h.lNear
  have h0 := tn.resolve_left hn
  have hk : 1 / hd (lNear p q) ≠ 0 := by grind
  have e : lCommon p q = (lNear p q).map (1 / hd (lNear p q) * ·) := by
    unfold lCommon
    rw [if_neg hn, by_eq tn hk]
  have hp := List.length_pos_iff.mpr hn
  have hl : (lCommon p q).length = (lNear p q).length := by rw [e, List.length_map]
  refine ⟨by omega, by omega, by rw [e]; exact tr_smul hk tn, ?_⟩
  rw [hl]
  unfold cb
  split
  · rename_i h1
    obtain ⟨c, hc⟩ := List.length_eq_one_iff.mp h1
    refine ⟨1, by decide, by decide, fun d hd' => ?_⟩
    rw [e, hc] at hd'
    rw [hc] at h0
    have hh : hd [c] = c := rfl
    rw [hh] at hd' h0
    have : d = 1 / c * c := by simpa using hd'
    have : d = 1 := by grind
    rw [this]
    exact S1.one
  · obtain ⟨E, e0, e1, e2⟩ := sn.over (hd_mem2 hn) h0
    refine ⟨E, e0, e1, fun d hd' => ?_⟩
    rw [e] at hd'
    obtain ⟨a, ha, rfl⟩ := List.mem_map.mp hd'
    have := e2 a ha
    rwa [show a / hd (lNear p q) = 1 / hd (lNear p q) * a by grind] at this
/-- both quotients over one bottom -/
theorem quo_pair {p q C : List Rat} {n D s K : Nat} (hD : 0 < D) (sp : Sz n D p) (sq : Sz n D q) (sC : St s C) (ne : C ≠ []) (h0 : hd C ≠ 0) (kp : p.length + 1 ≤ K + C.length) (kq : q.length + 1 ≤ K + C.length) :
    ∃ E : Nat, 0 < E ∧ E ≤ 2 ^ s ∧ Sz (n + K * (s + 1) + s) (D * E ^ K) (lDivided p C).1 ∧ Sz (n + K * (s + 1) + s) (D * E ^ K) (lDivided q C).1 := by
  obtain ⟨D2, b0, b1, b2⟩ := sC
  obtain ⟨E, a, b, c⟩ := b2.hd.bot h0 b0
  have V1 : Dv p C n D s s D2 E := ⟨ne, h0, sp, b2, hD, b0, b1, a, b, c⟩
  have V2 : Dv q C n D s s D2 E := ⟨ne, h0, sq, b2, hD, b0, b1, a, b, c⟩
  exact ⟨E, a, b, (V1.divided kp).1, (V2.divided kq).1⟩
theorem cb_le : ∀ l, l < 5 → 1 ≤ l → 5 + (5 - l) * (cb l + 1) + cb l ≤ 124 ∧ 3 + cb l * (5 - l) ≤ 124 := by decide
/-- two rows over one bottom, scaled by a head -/
theorem pair_head {p q : List Rat} {n D : Nat} (hD : 0 < D) (sp : Sz n D p) (sq : Sz n D q) (hq : hd q ≠ 0) : St n (byNumber p (1 / hd q) ++ byNumber q (1 / hd q)) := by
  obtain ⟨E, e0, e1, e2⟩ := sq.hd.bot hq hD
  refine ⟨E, e0, e1, fun c hc => ?_⟩
  rcases List.mem_append.mp hc with z | z
  · obtain ⟨a, ha, rfl⟩ := List.mem_map.mp (mem_trim z)
    have := (sp a ha).over hD e0 e2
    rwa [show a / hd q = a * (1 / hd q) by grind] at this
  · obtain ⟨a, ha, rfl⟩ := List.mem_map.mp (mem_trim z)
    have := (sq a ha).over hD e0 e2
    rwa [show a / hd q = a * (1 / hd q) by grind] at this
theorem lowest_sz {p q : List Rat} (tp : Tr p) (tq : Tr q) (hq : q ≠ []) (sp : Sz 5 6 p) (sq : Sz 5 6 q) (lp : p.length ≤ 4) (lq : q.length ≤ 4) :
    St 124 ((lDivided p (lCommon p q)).1) ∧ St 124 ((lDivided q (lCommon p q)).1) ∧ St 124 ((lLowest p q).1 ++ (lLowest p q).2) ∧ (lLowest p q).1.length ≤ 4 ∧ (lLowest p q).2.length ≤ 4 := by
  have J := Jc.of tp tq sp sq lp lq
  obtain ⟨hn, tc, nc, _, _, nf, t1, t2, _⟩ := lowest_fr tp tq hq
  obtain ⟨lc, l1, _, sc⟩ := common_sz J hn
  have c0 := tc.resolve_left nc
  have bd := cb_le _ (by omega) l1
  obtain ⟨E, e0, e1, s1, s2⟩ := quo_pair (K := 5 - (lCommon p q).length) (by decide) sp sq sc nc c0 (by omega) (by omega)
  have hD : 0 < 6 * E ^ (5 - (lCommon p q).length) := Nat.mul_pos (by decide) (Nat.pow_pos e0)
  have hd' : 6 * E ^ (5 - (lCommon p q).length) ≤ 2 ^ (3 + cb (lCommon p q).length * (5 - (lCommon p q).length)) := mul_le_pow (by decide) (pow_le_pow' e1 _)
  have lq1 := (lDivided_spec (one := p) nc c0 tp).2.2
  have lq2 := (lDivided_spec (one := q) nc c0 tq).2.2
  refine ⟨s1.st hD bd.1 hd' bd.2, s2.st hD bd.1 hd' bd.2, ?_, ?_, ?_⟩
  · exact (pair_head hD s1 s2 (t2.resolve_left nf)).mono bd.1
  · have := by_len (lDivided p (lCommon p q)).1 (1 / hd (lDivided q (lCommon p q)).1)
    show (byNumber _ _).length ≤ 4
    omega
  · have := by_len (lDivided q (lCommon p q)).1 (1 / hd (lDivided q (lCommon p q)).1)
    show (byNumber _ _).length ≤ 4
    omega
end Mt
set_option Elab.async false
set_option linter.all false
set_option maxHeartbeats 1000000
/-! M28: sizes of what is put in. -/
namespace Mt
theorem lTimes_len (p q : List Rat) : (lTimes p q).length ≤ p.length + q.length - 1 := Nat.le_trans (trim_le _) (by rw [conv_len]; exact Nat.le_refl _)
theorem tS_len {inner : List Rat × List Rat} {m : Nat} (h1 : inner.1.length ≤ m + 1) (h2 : inner.2.length ≤ m + 1) (c : Rat) (at_ : Nat) : ∀ t, (tS inner c at_ t).length ≤ t * m + 1
  | 0 => by unfold tS; split <;> simp
  | t + 1 => by
    have ih := tS_len h1 h2 c at_ t
    have h := lTimes_len (tS inner c at_ t) (if t < at_ then inner.1 else inner.2)
    have hl : (if t < at_ then inner.1 else inner.2).length ≤ m + 1 := by split <;> assumption
    unfold tS
    rw [Nat.succ_mul]
    omega
/-- a term's bits -/
theorem tS_sz {inner : List Rat × List Rat} {m n k L H D : Nat} {c : Rat} (h1 : inner.1.length ≤ m + 1) (h2 : inner.2.length ≤ m + 1) (sc : S1 n D c) (s1 : Sz k H inner.1) (s2 : Sz k H inner.2) (at_ : Nat) :
    ∀ t, t * m + 1 ≤ L → Sz (n + t * (k + L)) (D * H ^ t) (tS inner c at_ t)
  | 0, _ => by
    rw [Nat.zero_mul, Nat.add_zero, Nat.pow_zero, Nat.mul_one]
    unfold tS
    split
    · intro d hd'
      rw [List.mem_singleton.mp hd']; exact sc
    · exact Sz.nil
  | t + 1, hL => by
    have hL' : t * m + 1 ≤ L := by rw [Nat.succ_mul] at hL; omega
    have ih := tS_sz h1 h2 sc s1 s2 at_ t hL'
    have hl := tS_len h1 h2 c at_ t
    have hk : Sz k H (if t < at_ then inner.1 else inner.2) := by split <;> assumption
    unfold tS
    have := ih.times hk
    rw [Nat.pow_succ, ← Nat.mul_assoc]
    refine this.mono ?_
    rw [Nat.succ_mul]
    omega
theorem totS_len {inner : List Rat × List Rat} {m : Nat} (h1 : inner.1.length ≤ m + 1) (h2 : inner.2.length ≤ m + 1) (poly : List Rat) (high : Nat) : ∀ i, (totS poly inner high i).length ≤ high * m + 1
  | 0 => by show (0 : Nat) ≤ _; omega
  | i + 1 => by
    have ih := totS_len h1 h2 poly high i
    have h := tS_len h1 h2 (cf poly i) i high
    show (sumOf _ _).length ≤ _
    unfold sumOf
    refine Nat.le_trans (trim_le _) ?_
    rw [addL_len]
    omega
theorem totS_sz {inner : List Rat × List Rat} {m n k L H D : Nat} {poly : List Rat} {high : Nat} (h1 : inner.1.length ≤ m + 1) (h2 : inner.2.length ≤ m + 1) (sc : Sz n D poly) (s1 : Sz k H inner.1) (s2 : Sz k H inner.2) (hL : high * m + 1 ≤ L) :
    ∀ i, Sz (n + high * (k + L) + i) (D * H ^ high) (totS poly inner high i)
  | 0 => Sz.nil
  | i + 1 => by
    have ih := totS_sz h1 h2 sc s1 s2 hL i
    have h := tS_sz h1 h2 (sc.cf i) s1 s2 i high hL
    exact Sz.sum ih (h.mono (by show n + high * (k + L) ≤ n + high * (k + L) + i; omega))
/-- the whole: both rows over one bottom -/
theorem lOf_sz {f h : List Rat × List Rat} {s t m : Nat} (sf : St s (f.1 ++ f.2)) (sh : St t (h.1 ++ h.2)) (h1 : h.1.length ≤ m + 1) (h2 : h.2.length ≤ m + 1) (l1 : f.1.length ≤ degP f + 1) (l2 : f.2.length ≤ degP f + 1) (hB : ofB f h ≠ []) :
    St (s + degP f * (t + (degP f * m + 1)) + (degP f + 1)) ((lOf f h).1 ++ (lOf f h).2) := by
  obtain ⟨D, a0, a1, a2⟩ := sf
  obtain ⟨H, b0, b1, b2⟩ := sh
  have f1 : Sz s D f.1 := fun c hc => a2 c (List.mem_append_left _ hc)
  have f2 : Sz s D f.2 := fun c hc => a2 c (List.mem_append_right _ hc)
  have g1 : Sz t H h.1 := fun c hc => b2 c (List.mem_append_left _ hc)
  have g2 : Sz t H h.2 := fun c hc => b2 c (List.mem_append_right _ hc)
  have T1 := totS_sz (high := degP f) h1 h2 f1 g1 g2 (Nat.le_refl _) f.1.length
  have T2 := totS_sz (high := degP f) h1 h2 f2 g1 g2 (Nat.le_refl _) f.2.length
  exact pair_head (Nat.mul_pos a0 (Nat.pow_pos b0)) (T1.mono (by omega)) (T2.mono (by omega)) ((tot_tr _ _ _ _).resolve_left hB)
/-- a led form -/
theorem ledT_sz {h : List Rat × List Rat} {form : List Rat} {s t m : Nat} (sf : St s form) (sh : St t (h.1 ++ h.2)) (h1 : h.1.length ≤ m + 1) (h2 : h.2.length ≤ m + 1) :
    St (s + (form.length - 1) * (t + ((form.length - 1) * m + 1)) + form.length) (ledT form h) := by
  obtain ⟨D, a0, a1, a2⟩ := sf
  obtain ⟨H, b0, b1, b2⟩ := sh
  have g1 : Sz t H h.1 := fun c hc => b2 c (List.mem_append_left _ hc)
  have g2 : Sz t H h.2 := fun c hc => b2 c (List.mem_append_right _ hc)
  have T1 := totS_sz (high := form.length - 1) h1 h2 a2 g1 g2 (Nat.le_refl _) form.length
  refine T1.st (Nat.mul_pos a0 (Nat.pow_pos b0)) (Nat.le_refl _) (mul_le_pow a1 (pow_le_pow' b1 _)) ?_
  rw [Nat.mul_comm t, Nat.mul_add]; omega
/-! worths -/
/-- a place's bits -/
def Pl (t : Nat) : Option Rat → Prop
  | none => True
  | some q => ∃ D : Nat, 0 < D ∧ D ≤ 2 ^ t ∧ S1 t D q
theorem hS_sz {p : List Rat} {x : Rat} {n t D E : Nat} (h : Sz n D p) (hx : S1 t E x) (hE : E ≤ 2 ^ t) : ∀ i, S1 (n + i * (t + 1)) (D * E ^ i) (hS p x i)
  | 0 => S1.zero
  | i + 1 => by
    have ih := hS_sz h hx hE i
    have h1 := ih.mul hx
    have hr : Sz n D p.reverse := fun c hc => h c (List.mem_reverse.mp hc)
    have h2 := (hr.cf i).ups (k := i + 1) hE
    unfold hS
    rw [Nat.mul_assoc, ← Nat.pow_succ] at h1
    have := h1.add (h2.mono (n' := n + i * (t + 1) + t) (by rw [Nat.mul_succ, Nat.mul_succ, Nat.mul_comm t]; omega))
    refine this.mono ?_
    rw [Nat.succ_mul]; omega
theorem wS_sz {p : List Rat} {a b : Rat} {high n t D E : Nat} (h : Sz n D p) (ha : S1 t E a) (hb : S1 t E b) (hE : E ≤ 2 ^ t) : ∀ i, S1 (n + i * (t + 1)) (D * E ^ i) (wS p high a b i).1 ∧ S1 (i * t) (E ^ i) (wS p high a b i).2
  | 0 => ⟨S1.zero, by rw [Nat.zero_mul, Nat.pow_zero]; exact S1.one⟩
  | i + 1 => by
    obtain ⟨i1, i2⟩ := wS_sz h ha hb hE i
    have h1 := i1.mul ha
    have h2 := i2.mul hb
    have h3 := ((h.cf (high - i)).mul i2).up hE
    refine ⟨?_, ?_⟩
    · show S1 _ _ ((wS p high a b i).1 * a + cf p (high - i) * (wS p high a b i).2)
      rw [Nat.mul_assoc, ← Nat.pow_succ] at h1 h3
      have := h1.add (h3.mono (n' := n + i * (t + 1) + t) (by rw [Nat.mul_succ]; omega))
      refine this.mono ?_
      rw [Nat.succ_mul]; omega
    · show S1 _ _ ((wS p high a b i).2 * b)
      rw [← Nat.pow_succ] at h2
      refine h2.mono ?_
      rw [Nat.succ_mul]; omega
/-- the pair of a place over one bottom -/
theorem Pl.pair {t : Nat} {o : Option Rat} (h : Pl t o) : ∃ E : Nat, 0 < E ∧ E ≤ 2 ^ t ∧ S1 t E (pair o).1 ∧ S1 t E (pair o).2 := by
  cases o with
  | none => exact ⟨1, by decide, Nat.one_le_two_pow, ⟨1, Nat.one_le_two_pow, by show (1 : Rat) * _ = _; simp⟩, S1.zero⟩
  | some q =>
    obtain ⟨E, h0, h1, h2⟩ := h
    exact ⟨E, h0, h1, h2, ⟨(E : Int), by simpa using h1, by show (1 : Rat) * _ = _; rw [Rat.one_mul, Rat.intCast_natCast]⟩⟩
theorem pl_by {a b : Rat} {n D : Nat} (hD : 0 < D) (ha : S1 n D a) (hb : S1 n D b) : Pl n (placeBy a b) := by
  unfold placeBy
  split
  · trivial
  · rename_i h0
    obtain ⟨E, e0, e1, e2⟩ := hb.bot h0 hD
    exact ⟨E, e0, e1, ha.over hD e0 e2⟩
theorem worth_pl {x : List Rat × List Rat} {s t : Nat} {o : Option Rat} (sx : St s (x.1 ++ x.2)) (h : Pl t o) : Pl (s + (degP x + 1) * (t + 1)) (worthOf x o) := by
  obtain ⟨D, a0, a1, a2⟩ := sx
  obtain ⟨E, e0, e1, e2, e3⟩ := h.pair
  have f1 : Sz s D x.1 := fun c hc => a2 c (List.mem_append_left _ hc)
  have f2 : Sz s D x.2 := fun c hc => a2 c (List.mem_append_right _ hc)
  unfold worthOf worthBy
  exact pl_by (Nat.mul_pos a0 (Nat.pow_pos e0)) (wS_sz f1 e2 e3 e1 _).1 (wS_sz f2 e2 e3 e1 _).1
/-! fibres -/
theorem lessBy_sz {x : List Rat × List Rat} {s t : Nat} {q : Rat} (sx : St s (x.1 ++ x.2)) (h : Pl t (some q)) : St (s + t) (byNumber x.2 q) ∧ St (s + t + 1) (lessOf x.1 (byNumber x.2 q)) := by
  obtain ⟨D, a0, a1, a2⟩ := sx
  obtain ⟨E, e0, e1, e2⟩ := h
  have f1 : Sz s D x.1 := fun c hc => a2 c (List.mem_append_left _ hc)
  have f2 : Sz s D x.2 := fun c hc => a2 c (List.mem_append_right _ hc)
  have g := f2.by e2
  have g1 : Sz (s + t) (D * E) x.1 := fun c hc => (f1 c hc).up e1
  exact ⟨g.st (Nat.mul_pos a0 e0) (Nat.le_refl _) (mul_le_pow a1 e1) (Nat.le_refl _), (g1.less g).st (Nat.mul_pos a0 e0) (Nat.le_refl _) (mul_le_pow a1 e1) (by omega)⟩
theorem fibL_sz {x : List Rat × List Rat} {s t : Nat} {o : Option Rat} (sx : St s (x.1 ++ x.2)) (h : Pl t o) : St (s + t + 1) (fibL x o) := by
  cases o with
  | none => exact (sx.r.fill (k := degP x + 1)).mono (by omega)
  | some q => exact (lessBy_sz sx h).2.fill
theorem fibre_sz {x : List Rat × List Rat} {s t n : Nat} {o : Option Rat} (F : Fr x n) (sx : St s (x.1 ++ x.2)) (h : Pl t o) : St (s + t + 1) (fibreOf x o) := by
  rw [fibreOf_eq]; exact (fibL_sz sx h).told (fib_ne F o)
/-! whole numbers -/
theorem ints_sz {n D : Nat} {p : List Rat} (h : Sz n D p) (hD : 0 < D) : ∀ t ∈ intsOf p, t.natAbs ≤ 2 ^ n := by
  intro t ht
  unfold intsOf at ht
  obtain ⟨c, hc, rfl⟩ := List.mem_map.mp ht
  obtain ⟨m, h1, h2⟩ := h c hc
  have hdv : lcmD p ∣ D := lcmD_le fun d hd' => by
    obtain ⟨l, k1, k2⟩ := h d hd'
    have e : d = Rat.divInt l D := by
      rw [divInt_eq, ← k2]
      have : (0 : Rat) < (D : Rat) := by exact_mod_cast hD
      grind
    rw [e, Rat.den_divInt, if_neg (by omega)]
    exact Nat.div_dvd_of_dvd (by have := Int.gcd_dvd_natAbs_left (a := (D : Int)) (b := l); simpa using this)
  have hL := lcmD_pos p
  have hle := Nat.le_of_dvd hD hdv
  have hi : ((c.num * ((lcmD p / c.den : Nat) : Int) : Int) : Rat) = c * (lcmD p : Rat) := by
    have e := int_over (lcmD_dvd hc) hL
    have : (0 : Rat) < (lcmD p : Rat) := by exact_mod_cast hL
    rw [divInt_eq] at e
    conv => rhs; rw [← e]
    grind
  generalize c.num * ((lcmD p / c.den : Nat) : Int) = i at hi
  have e2 : (i : Rat) * (D : Rat) = (m : Rat) * (lcmD p : Rat) := by rw [hi, ← h2]; grind
  have e3 : i * (D : Int) = m * (lcmD p : Int) := by
    have : ((i * (D : Int) : Int) : Rat) = ((m * (lcmD p : Int) : Int) : Rat) := by
      rw [Rat.intCast_mul, Rat.intCast_mul, Rat.intCast_natCast, Rat.intCast_natCast]; exact e2
    exact_mod_cast this
  have e4 : i.natAbs * D = m.natAbs * lcmD p := by
    have := congrArg Int.natAbs e3
    rwa [Int.natAbs_mul, Int.natAbs_mul, Int.natAbs_natCast, Int.natAbs_natCast] at this
  refine Nat.le_trans ?_ h1
  refine Nat.le_of_mul_le_mul_right (c := D) ?_ hD
  rw [e4]
  exact Nat.mul_le_mul_left _ hle
end Mt
set_option Elab.async false
set_option linter.all false
set_option maxHeartbeats 1000000
/-! M29: bits of whole rows in Euclid's chain. -/
namespace Mt
def Ib (e : Nat) (p : List Int) : Prop := ∀ t ∈ p, t.natAbs ≤ 2 ^ e
theorem Ib.mono {e f : Nat} {p : List Int} (h : Ib e p) (k : e ≤ f) : Ib f p := fun t ht => Nat.le_trans (h t ht) (pw_le k)
theorem mem_trimI {p : List Int} {c : Int} (h : c ∈ trim p) : c ∈ p := by
  obtain ⟨n, e⟩ := trim_pad p
  rw [e]; exact List.mem_append_left _ h
theorem Ib.plain {e : Nat} {p : List Int} (h : Ib e p) : Ib e (plainRow p) := by
  intro t ht
  unfold plainRow at ht
  obtain ⟨n, hn, rfl⟩ := List.mem_map.mp ht
  have hd' : ((gcdL (trim p) : Nat) : Int) ∣ n := Int.ofNat_dvd_left.mpr (gcdL_dvd hn)
  rw [Int.fdiv_eq_ediv_of_dvd hd', Int.natAbs_ediv_of_dvd hd']
  exact Nat.le_trans (Nat.div_le_self _ _) (h n (mem_trimI hn))
theorem cfI_memz (p : List Int) (i : Nat) : cf p i ∈ p ∨ cf p i = 0 := by
  by_cases h : i < p.length
  · exact .inl (List.mem_of_getElem? (get_cf h))
  · exact .inr (cf_big (by omega))
theorem Ib.hd {e : Nat} {p : List Int} (h : Ib e p) : (hd p).natAbs ≤ 2 ^ e := by
  rcases cfI_memz p (p.length - 1) with k | k
  · exact h _ k
  · unfold Mt.hd; rw [k]; simp
theorem Ib.mid {e1 e2 : Nat} {other rest : List Int} (h : Ib e1 rest) (k : Ib e2 other) : Ib (e1 + e2 + 1) (iMid other rest) := by
  have a1 : ∀ c ∈ rest.map (· * ((Mt.hd other).natAbs : Int)), c.natAbs ≤ 2 ^ (e1 + e2) := fun c hc => by
    obtain ⟨r, hr, rfl⟩ := List.mem_map.mp hc
    rw [Int.natAbs_mul, Int.natAbs_natCast, Nat.pow_add]
    exact Nat.mul_le_mul (h r hr) k.hd
  have a2 : ∀ c ∈ other.map (fun n => -(iLast other rest * n)), c.natAbs ≤ 2 ^ (e1 + e2) := fun c hc => by
    obtain ⟨n, hn, rfl⟩ := List.mem_map.mp hc
    rw [Int.natAbs_neg, Int.natAbs_mul, Nat.pow_add]
    have : (iLast other rest).natAbs = (Mt.hd rest).natAbs := by unfold iLast; split <;> omega
    rw [this]
    exact Nat.mul_le_mul h.hd (k n hn)
  intro c hc
  unfold iMid at hc
  rw [Nat.pow_succ]
  rcases mem_addAt _ _ _ _ hc with z | ⟨a, ha, b, hb, rfl⟩
  · have := a1 c z; omega
  · have := a1 a ha
    have := a2 b hb
    have := Int.natAbs_add_le a b
    omega
theorem Ib.step {e1 e2 : Nat} {other rest : List Int} (h : Ib e1 rest) (k : Ib e2 other) : Ib (e1 + e2 + 1) (iStep other rest) := (h.mid k).plain
/-- the rest after i turns -/
def IvI (one : List Int) (e1 e2 i : Nat) (rest : List Int) : Prop := rest.length + i ≤ one.length ∧ Ib (e1 + i * (e2 + 1)) rest
theorem IvI.step {one other rest : List Int} {e1 e2 i : Nat} (h : IvI one e1 e2 i rest) (k : Ib e2 other) (ho : other ≠ []) (hl : other.length ≤ rest.length) : IvI one e1 e2 (i + 1) (iStep other rest) := by
  have := iStep_lt ho hl
  refine ⟨by have := h.1; omega, ?_⟩
  have := h.2.step k
  rwa [show e1 + (i + 1) * (e2 + 1) = e1 + i * (e2 + 1) + e2 + 1 by rw [Nat.succ_mul]; omega]
theorem iRestG_ib {one other : List Int} {e1 e2 K : Nat} (k : Ib e2 other) (ho : other ≠ []) (hK : one.length + 1 ≤ K + other.length) : ∀ (n i : Nat) (rest : List Int), i ≤ K → IvI one e1 e2 i rest → ∃ j, j ≤ K ∧ IvI one e1 e2 j (iRestG other n rest)
  | 0, i, rest, hi, h => ⟨i, hi, h⟩
  | n + 1, i, rest, hi, h => by
    unfold iRestG
    split
    · rename_i hl
      exact iRestG_ib k ho hK n (i + 1) _ (by have := h.1; omega) (h.step k ho hl)
    · exact ⟨i, hi, h⟩
theorem intRest_ib {one other : List Int} {e1 e2 K : Nat} (h : Ib e1 one) (k : Ib e2 other) (ho : other ≠ []) (hK : one.length + 1 ≤ K + other.length) : Ib (e1 + K * (e2 + 1)) (intRest one other) := by
  obtain ⟨j, hj, _, h2⟩ := iRestG_ib (e1 := e1) k ho hK (one.length + 1) 0 one (Nat.zero_le _) ⟨Nat.le_refl _, h.mono (by omega)⟩
  unfold intRest
  exact Ib.plain (h2.mono (by have := Nat.mul_le_mul_right (e2 + 1) hj; omega))
def vv (la lb : Nat) : Nat := if lb < la then 3 ^ (la - 1) else 39366
theorem vv_step : ∀ la, la < 11 → ∀ lb, lb < 11 → 1 ≤ lb → (la + 1 - lb + 1) * 3 ^ (lb - 1) ≤ vv la lb := by decide
theorem vv_pos (la lb : Nat) : 1 ≤ vv la lb := by unfold vv; split <;> first | exact Nat.pow_pos (by decide) | decide
def Ji (a b : List Int) : Prop := Tr a ∧ Tr b ∧ a.length ≤ 10 ∧ b.length ≤ 10 ∧ ∃ e, Ib e a ∧ Ib e b ∧ (e + 1) * vv a.length b.length ≤ 59999999
theorem Ji.step {a b : List Int} (h : Ji a b) (hb : b ≠ []) : Ji b (intRest a b) ∧ ∃ e, Ib e a ∧ Ib e b ∧ (a.length + 1 - b.length + 1) * (e + 1) ≤ 59999999 := by
  obtain ⟨ta, tb, la, lb, e, ia, ib, hc⟩ := h
  have hp := List.length_pos_iff.mpr hb
  have hlt := intRest_lt (one := a) hb
  have hv := vv_step a.length (by omega) b.length (by omega) (by omega)
  have h1 : (a.length + 1 - b.length + 1) * (e + 1) * 3 ^ (b.length - 1) ≤ 59999999 := by
    refine Nat.le_trans ?_ hc
    rw [Nat.mul_right_comm, Nat.mul_comm (e + 1)]
    exact Nat.mul_le_mul_right _ hv
  have h3 : 1 ≤ 3 ^ (b.length - 1) := Nat.pow_pos (by decide)
  refine ⟨⟨tb, plainRow_tr _, lb, by omega, e + (a.length + 1 - b.length) * (e + 1), ib.mono (by omega), intRest_ib ia ib hb (by omega), ?_⟩, e, ia, ib, Nat.le_trans (Nat.le_mul_of_pos_right _ h3) h1⟩
  have hvv : vv b.length (intRest a b).length = 3 ^ (b.length - 1) := by unfold vv; rw [if_pos hlt]
  rw [hvv]
  refine Nat.le_trans (Nat.le_of_eq ?_) h1
  congr 1
  rw [Nat.succ_mul]; omega
theorem Ji.of {one other : List Int} {e : Nat} (h : Ib e one) (k : Ib e other) (l1 : one.length ≤ 10) (l2 : other.length ≤ 10) (he : e ≤ 1500) : Ji (plainRow one) (plainRow other) := by
  have t1 := trim_le one
  have t2 := trim_le other
  refine ⟨plainRow_tr _, plainRow_tr _, by rw [plainRow_len]; omega, by rw [plainRow_len]; omega, e, h.plain, k.plain, ?_⟩
  have hv : ∀ la, la < 11 → ∀ lb, lb < 11 → vv la lb ≤ 39366 := by decide
  have := hv (plainRow one).length (by rw [plainRow_len]; omega) (plainRow other).length (by rw [plainRow_len]; omega)
  exact Nat.le_trans (Nat.mul_le_mul (show e + 1 ≤ 1501 by omega) this) (by decide)
end Mt
set_option Elab.async false
set_option linter.all false
set_option maxRecDepth 100000
set_option maxHeartbeats 1000000
/-! S2: what a walk asks of sizes, by bits. -/
namespace Mt
open Ty Wk
theorem S1.divInt {n D : Nat} {c : Rat} (h : S1 n D c) (hD : 0 < D) : ∃ m : Int, m.natAbs ≤ 2 ^ n ∧ c = Rat.divInt m D := by
  obtain ⟨m, h1, h2⟩ := h
  refine ⟨m, h1, ?_⟩
  have : (0 : Rat) < (D : Rat) := by exact_mod_cast hD
  rw [divInt_eq, ← h2]; grind
theorem S1.bq {n D d : Nat} {c : Rat} (h : S1 n D c) (hD : 0 < D) (hd : D ≤ 2 ^ d) (hn : n < 60000000) (hd' : d < 60000000) : Bq c := by
  obtain ⟨m, h1, rfl⟩ := h.divInt hD
  exact ⟨Bg.le (Nat.le_trans (divInt_num hD) h1) hn, Bg.le (by have := Nat.le_of_dvd hD (divInt_den (m := m) hD); simpa using Nat.le_trans this hd) hd'⟩
theorem Sz.bq {n D d : Nat} {p : List Rat} (h : Sz n D p) (hD : 0 < D) (hd : D ≤ 2 ^ d) (hn : n < 60000000) (hd' : d < 60000000) : BqL p := fun c hc => (h c hc).bq hD hd hn hd'
theorem St.bq {s : Nat} {p : List Rat} (h : St s p) (hs : s < 60000000) : BqL p := by
  obtain ⟨D, h0, h1, h2⟩ := h
  exact h2.bq h0 h1 hs hs
theorem St.pb {s : Nat} {p : List Rat} (h : St s p) (hs : s ≤ 13000) (hl : p.length ≤ 100) : PB p := by
  obtain ⟨D, h0, h1, h2⟩ := h
  exact ⟨hl, D, h0, Nat.le_trans h1 (pw_le hs), fun c hc => ((h2 c hc).mono (by omega)).divInt h0⟩
/-! divisions -/
theorem div_ok {s t : Nat} {one other : List Rat} (h : St s one) (k : St t other) (ne : other ≠ []) (h0 : hd other ≠ 0) (l1 : one.length ≤ 100) (l2 : other.length ≤ 100) (hs : s ≤ 100000) (ht : t ≤ 100000) : DivOk one other := by
  obtain ⟨D, a0, a1, a2⟩ := h
  obtain ⟨D2, b0, b1, b2⟩ := k
  obtain ⟨E, V⟩ := Dv.mk' ne h0 a2 b2 a0 b0 b1
  refine ⟨l1, l2, ne, h0, b2.bq b0 b1 (by omega) (by omega), fun rest => ∃ i, DvI one s D t E i rest, ⟨0, V.start⟩, fun rest ⟨i, hi⟩ => ?_⟩
  have hi' : i ≤ 100 := by have := hi.1; omega
  have q1 : i * (t + 1) ≤ 100 * (t + 1) := Nat.mul_le_mul_right _ hi'
  have q2 : t * i ≤ t * 100 := Nat.mul_le_mul_left _ hi'
  have p1 : 0 < D * E ^ i := Nat.mul_pos a0 (Nat.pow_pos V.pE)
  have p2 : D * E ^ i ≤ 2 ^ (s + t * i) := mul_le_pow a1 (pow_le_pow' V.eE i)
  refine ⟨hi.2.bq p1 p2 (by omega) (by omega), fun hl => ⟨⟨i + 1, V.step hi hl⟩, (V.fac hi).bq (Nat.mul_pos p1 V.pE) (mul_le_pow p2 V.eE) (by omega) (by omega), fun o ho => (V.facs hi ho).bq (Nat.mul_pos p1 V.pE) (mul_le_pow p2 V.eE) (by omega) (by omega)⟩⟩
theorem ldiv_ok {s t : Nat} {one other : List Rat} (h : St s one) (k : St t other) (ne : other ≠ []) (h0 : hd other ≠ 0) (l1 : one.length ≤ 100) (l2 : other.length ≤ 100) (hs : s ≤ 100000) (ht : t ≤ 100000) : LDivOk one other := by
  obtain ⟨D, a0, a1, a2⟩ := h
  obtain ⟨D2, b0, b1, b2⟩ := k
  obtain ⟨E, V⟩ := Dv.mk' ne h0 a2 b2 a0 b0 b1
  refine ⟨l1, l2, ne, h0, b2.bq b0 b1 (by omega) (by omega), fun rest => ∃ i, DvI one s D t E i rest, ⟨0, V.start⟩, fun rest ⟨i, hi⟩ => ?_⟩
  have hi' : i ≤ 100 := by have := hi.1; omega
  have q1 : i * (t + 1) ≤ 100 * (t + 1) := Nat.mul_le_mul_right _ hi'
  have q2 : t * i ≤ t * 100 := Nat.mul_le_mul_left _ hi'
  have p1 : 0 < D * E ^ i := Nat.mul_pos a0 (Nat.pow_pos V.pE)
  have p2 : D * E ^ i ≤ 2 ^ (s + t * i) := mul_le_pow a1 (pow_le_pow' V.eE i)
  refine ⟨hi.2.bq p1 p2 (by omega) (by omega), by have := hi.1; omega, fun hl => ⟨⟨i + 1, by rw [lStep_eq ne h0 hl]; exact V.step hi hl⟩, (V.fac hi).bq (Nat.mul_pos p1 V.pE) (mul_le_pow p2 V.eE) (by omega) (by omega), fun c hc => ?_⟩⟩
  obtain ⟨o, ho, rfl⟩ := List.mem_map.mp (mem_trim hc)
  have := (V.facs hi ho).neg
  have e : -(hd rest / hd other * o) = o * -(lFac other rest) := by unfold lFac; grind
  rw [e] at this
  exact this.bq (Nat.mul_pos p1 V.pE) (mul_le_pow p2 V.eE) (by omega) (by omega)
/-! the drawn pair -/
theorem lcom_ok {p q : List Rat} (J : Jc p q) : LComOk p q := by
  have N := J.lNear
  obtain ⟨tn, _, ln, _, sn, _⟩ := N
  have he := eb_le (lNear p q).length
  refine ⟨J.1, J.2.1, sn.bq (by omega), by omega, fun hn => ?_, Jc, J, fun a b h hb => ⟨?_, h.step hb⟩⟩
  · obtain ⟨D, a0, a1, a2⟩ := sn
    obtain ⟨E, e0, e1, e2⟩ := a2.hd.bot (tn.resolve_left hn) a0
    have h1 : S1 0 1 (1 : Rat) := S1.one
    have := h1.over2 a0 a1 e0 e2
    exact this.bq (by omega) (by rw [Nat.one_mul]; exact e1) (by omega) (by omega)
  · obtain ⟨ta, tb, la, lb, sa, sb⟩ := h
    have := eb_le a.length
    have := eb_le b.length
    exact ldiv_ok sa sb hb (tb.resolve_left hb) (by omega) (by omega) (by omega) (by omega)
theorem llow_ok {p q : List Rat} (tp : Tr p) (tq : Tr q) (hq : q ≠ []) (sp : Sz 5 6 p) (sq : Sz 5 6 q) (lp : p.length ≤ 4) (lq : q.length ≤ 4) : LLowOk p q := by
  have J := Jc.of tp tq sp sq lp lq
  obtain ⟨hn, tc, nc, _, _, nf, t1, t2, _⟩ := lowest_fr tp tq hq
  obtain ⟨lc, l1, _, sc⟩ := common_sz J hn
  have c0 := tc.resolve_left nc
  have sc' : St 1000 (lCommon p q) := sc.mono (by unfold cb; split; omega; exact eb_le _)
  obtain ⟨s1, s2, s3, l3, l4⟩ := lowest_sz tp tq hq sp sq lp lq
  have lq1 := (lDivided_spec (one := p) nc c0 tp).2.2
  have lq2 := (lDivided_spec (one := q) nc c0 tq).2.2
  have f0 := t2.resolve_left nf
  have e1 := eb_le p.length
  have e2 := eb_le q.length
  refine ⟨lcom_ok J, ldiv_ok J.2.2.2.2.1 sc' nc c0 (by omega) (by omega) (by omega) (by omega), ldiv_ok J.2.2.2.2.2 sc' nc c0 (by omega) (by omega) (by omega) (by omega), nf, f0, s1.bq (by omega), s2.bq (by omega), ?_, by omega, by omega, ?_⟩
  · obtain ⟨D, a0, a1, a2⟩ := s2
    obtain ⟨E, e0, e1, e2⟩ := a2.hd.bot f0 a0
    have h1 : S1 0 1 (1 : Rat) := S1.one
    have := h1.over2 a0 a1 e0 e2
    exact this.bq (by omega) (by rw [Nat.one_mul]; exact e1) (by omega) (by omega)
  · have hk : 1 / hd (lDivided q (lCommon p q)).1 ≠ 0 := by grind
    have e : (lLowest p q).2 = (lDivided q (lCommon p q)).1.map (1 / hd (lDivided q (lCommon p q)).1 * ·) := by
      show byNumber _ _ = _
      rw [by_eq t2 hk]
    have := List.length_pos_iff.mpr nf
    rw [e, List.length_map]
    omega
theorem e9_sz : ∀ c ∈ E9, S1 5 6 c := by
  intro c hc
  simp only [E9, List.mem_cons, List.not_mem_nil, or_false] at hc
  rcases hc with h | h | h | h | h | h | h | h | h <;> subst h
  · exact ⟨0, by decide, by decide +kernel⟩
  · exact ⟨0, by decide, by decide +kernel⟩
  · exact ⟨6, by decide, by decide +kernel⟩
  · exact ⟨-6, by decide, by decide +kernel⟩
  · exact ⟨12, by decide, by decide +kernel⟩
  · exact ⟨18, by decide, by decide +kernel⟩
  · exact ⟨-24, by decide, by decide +kernel⟩
  · exact ⟨3, by decide, by decide +kernel⟩
  · exact ⟨-10, by decide, by decide +kernel⟩
theorem e3_sz : ∀ c ∈ E3, S1 5 6 c := by
  intro c hc
  simp only [E3, List.mem_cons, List.not_mem_nil, or_false] at hc
  rcases hc with h | h | h <;> subst h
  · exact ⟨6, by decide, by decide +kernel⟩
  · exact ⟨-12, by decide, by decide +kernel⟩
  · exact ⟨2, by decide, by decide +kernel⟩
theorem e7_pl : ∀ o ∈ E7, Pl 2 o := by
  intro o ho
  simp only [E7, List.mem_cons, List.not_mem_nil, or_false] at ho
  rcases ho with h | h | h | h | h | h | h | h <;> subst h
  · exact ⟨2, by decide, by decide, 0, by decide, by decide +kernel⟩
  · exact ⟨2, by decide, by decide, 2, by decide, by decide +kernel⟩
  · exact ⟨2, by decide, by decide, -2, by decide, by decide +kernel⟩
  · exact ⟨2, by decide, by decide, 4, by decide, by decide +kernel⟩
  · exact ⟨1, by decide, by decide, -3, by decide, by decide +kernel⟩
  · exact ⟨2, by decide, by decide, 1, by decide, by decide +kernel⟩
  · exact ⟨2, by decide, by decide, -3, by decide, by decide +kernel⟩
  · trivial
theorem draws_ok {p q : List Rat} (hp : DrawP 4 p) (hq : DrawS 4 q) : LLowOk p q := by
  obtain ⟨lp, tp, ep⟩ := hp
  obtain ⟨lq, nq, h0, eq⟩ := hq
  exact llow_ok tp (.inr h0) nq (fun c hc => e9_sz c (ep c hc)) (fun c hc => (eq c hc).elim (e9_sz c) (e3_sz c)) lp lq
/-- a full fraction that is drawn -/
structure Dr (s L : Nat) (x : List Rat × List Rat) (n : Nat) : Prop where
  fr : Fr x n
  st : St s (x.1 ++ x.2)
  le : n ≤ L
theorem full_dr {x : List Rat × List Rat} (h : FullIs 4 x) : ∃ n, Dr 130 3 x n := by
  rcases h with ⟨p, q, ⟨lp, tp, ep⟩, ⟨lq, nq, h0, eq⟩, rfl, hpos⟩ | rfl
  · have sp : Sz 5 6 p := fun c hc => e9_sz c (ep c hc)
    have sq : Sz 5 6 q := fun c hc => (eq c hc).elim (e9_sz c) (e3_sz c)
    obtain ⟨_, _, s3, l3, l4⟩ := lowest_sz tp (.inr h0) nq sp sq lp lq
    obtain ⟨_, _, _, _, _, _, _, _, hf⟩ := lowest_fr tp (.inr h0) nq
    exact ⟨_, hf _ rfl hpos, s3.mono (by omega), by unfold degP; omega⟩
  · refine ⟨1, dflt_fr, ⟨1, by decide, Nat.one_le_two_pow, fun c hc => ?_⟩, by decide⟩
    simp only [dflt, List.mem_append, List.mem_cons, List.not_mem_nil, or_false] at hc
    have : c = 0 ∨ c = 1 := by rcases hc with (h | h) | h <;> simp [h]
    rcases this with rfl | rfl
    · exact S1.zero
    · exact S1.one.mono (by omega)
end Mt
set_option Elab.async false
set_option linter.all false
set_option maxRecDepth 100000
set_option maxHeartbeats 1000000
/-! S3: what is asked of full fractions, by bits. -/
namespace Mt
open Ty Wk
theorem Fr.ne1 {x : List Rat × List Rat} {n : Nat} (F : Fr x n) : x.1 ≠ [] := fun z => by
  obtain ⟨a, h⟩ := F.indep (α := 1) (β := 0) (.inl (by decide))
  rw [z] at h
  apply h
  show 1 * (0 : Rat) + 0 * _ = 0
  grind
theorem Fr.ll1 {x : List Rat × List Rat} {n : Nat} (F : Fr x n) : x.1.length ≤ n + 1 := by have := F.l1; rw [F.deg] at this; exact this
theorem Fr.ll2 {x : List Rat × List Rat} {n : Nat} (F : Fr x n) : x.2.length ≤ n + 1 := by have := F.l2; rw [F.deg] at this; exact this
theorem Fr.mx {x : List Rat × List Rat} {n : Nat} (F : Fr x n) : 0 < max x.1.length x.2.length := by have := List.length_pos_iff.mpr F.ne; omega
theorem irest_ok {a b : List Int} (h : Ji a b) (hb : b ≠ []) : IRestOk a b := by
  obtain ⟨_, e, ia, ib, hc⟩ := h.step hb
  have h0 := h.2.1.resolve_left hb
  have la := h.2.2.1
  have h1 : e + 1 ≤ (a.length + 1 - b.length + 1) * (e + 1) := Nat.le_mul_of_pos_left _ (Nat.succ_pos _)
  refine ⟨hb, h0, fun t ht => Bg.le (ib t ht) (by omega), fun rest => ∃ i, i ≤ a.length + 1 - b.length ∧ IvI a e e i rest, ⟨0, Nat.zero_le _, Nat.le_refl _, ia.mono (by omega)⟩, fun rest ⟨i, hi, hr⟩ => ⟨fun t ht => Bg.le (hr.2 t ht) ?_, by have := hr.1; omega, fun hl => ⟨i + 1, by have := hr.1; omega, hr.step ib hb hl⟩⟩⟩
  have h2 : i * (e + 1) ≤ (a.length + 1 - b.length) * (e + 1) := Nat.mul_le_mul_right _ hi
  rw [Nat.succ_mul] at hc
  omega
theorem icom_ok {p q : List Int} {e : Nat} (h : Ib e p) (k : Ib e q) (l1 : p.length ≤ 10) (l2 : q.length ≤ 10) (he : e ≤ 1500) : IComOk p q :=
  ⟨by omega, by omega, Ji, Ji.of h k l1 l2 he, fun a b J hb => ⟨irest_ok J hb, (J.step hb).1⟩⟩
theorem St.two {s : Nat} {x : List Rat × List Rat} (h : St s (x.1 ++ x.2)) : ∃ D : Nat, 0 < D ∧ D ≤ 2 ^ s ∧ Sz s D x.1 ∧ Sz s D x.2 := by
  obtain ⟨D, h0, h1, h2⟩ := h
  exact ⟨D, h0, h1, fun c hc => h2 c (List.mem_append_left _ hc), fun c hc => h2 c (List.mem_append_right _ hc)⟩
theorem lmade_ok {x : List Rat × List Rat} {n s : Nat} (F : Fr x n) (S : St s (x.1 ++ x.2)) (hn : n ≤ 9) (hs : s ≤ 1500) : LMadeOk x := by
  have l1 := F.ll1
  have l2 := F.ll2
  obtain ⟨D, d0, d1, s1, s2⟩ := S.two
  refine ⟨by omega, by omega, F.t1, F.t2, F.ne1, F.ne, F.h1, ⟨S.l.pb (by omega) (by omega), S.r.pb (by omega) (by omega), icom_ok (ints_sz s1 d0) (ints_sz s2 d0) (by rw [ints_len]; omega) (by rw [ints_len]; omega) hs⟩, common_bez F.bez⟩
theorem mul9 {a b c : Nat} (h : a ≤ b) : a * c ≤ b * c := Nat.mul_le_mul_right _ h
theorem horn_ok {p : List Rat} {q : Rat} {n t D E : Nat} (h : Sz n D p) (hD : 0 < D) (dD : D ≤ 2 ^ n) (hq : S1 t E q) (hE : 0 < E) (dE : E ≤ 2 ^ t) (hl : p.length ≤ 10) (hn : n ≤ 100000) (ht : t ≤ 100000) : HornOk p q ∧ Bq (lWorth p q) := by
  have hx : ∀ i, i ≤ 10 → Bq (hS p q i) ∧ Bq (hS p q i * q) := fun i hi => by
    have k := hS_sz h hq dE i
    have q1 : i * (t + 1) ≤ 10 * (t + 1) := mul9 hi
    have q2 : t * i ≤ t * 10 := Nat.mul_le_mul_left _ hi
    have p1 : 0 < D * E ^ i := Nat.mul_pos hD (Nat.pow_pos hE)
    have p2 : D * E ^ i ≤ 2 ^ (n + t * i) := mul_le_pow dD (pow_le_pow' dE i)
    exact ⟨k.bq p1 p2 (by omega) (by omega), (k.mul hq).bq (Nat.mul_pos p1 hE) (mul_le_pow p2 dE) (by omega) (by omega)⟩
  exact ⟨⟨hq.bq hE dE (by omega) (by omega), h.bq hD dD (by omega) (by omega), by omega, fun i hi => hx i (by omega)⟩, (hx _ hl).1⟩
theorem wat_ok {x : List Rat × List Rat} {n s t : Nat} {o : Option Rat} (F : Fr x n) (S : St s (x.1 ++ x.2)) (hn : n ≤ 9) (hs : s ≤ 100000) (hp : Pl t o) (ht : t ≤ 100000) : WAtOk x o := by
  have l1 := F.ll1
  have l2 := F.ll2
  obtain ⟨D, d0, d1, s1, s2⟩ := S.two
  refine ⟨F.ne, F.t2.resolve_left F.ne, S.l.bq (by omega), S.r.bq (by omega), ?_⟩
  cases o with
  | none => trivial
  | some q =>
    obtain ⟨E, e0, e1, e2⟩ := hp
    have h1 := horn_ok s1 d0 d1 e2 e0 e1 (by omega) hs ht
    have h2 := horn_ok s2 d0 d1 e2 e0 e1 (by omega) hs ht
    exact ⟨h1.1, h2.1, h1.2, h2.2⟩
theorem Pl.neg {t : Nat} {q : Rat} (h : Pl t (some q)) : Pl t (some (-q)) := by
  obtain ⟨E, a, b, c⟩ := h
  exact ⟨E, a, b, c.neg⟩
theorem Pl.bq {t : Nat} {q : Rat} (h : Pl t (some q)) (ht : t < 60000000) : Bq q := by
  obtain ⟨E, a, b, c⟩ := h
  exact c.bq a b ht ht
theorem sumBy_sz {x : List Rat × List Rat} {s t : Nat} {q : Rat} (sx : St s (x.1 ++ x.2)) (h : Pl t (some q)) : St (s + t + 1) (sumOf x.1 (byNumber x.2 q)) := by
  obtain ⟨D, a0, a1, f1, f2⟩ := sx.two
  obtain ⟨E, e0, e1, e2⟩ := h
  have g := f2.by e2
  have g1 : Sz (s + t) (D * E) x.1 := fun c hc => (f1 c hc).up e1
  exact (g1.sum g).st (Nat.mul_pos a0 e0) (Nat.le_refl _) (mul_le_pow a1 e1) (by omega)
theorem sum_len (p q : List Rat) : (sumOf p q).length ≤ max p.length q.length := Nat.le_trans (trim_le _) (by rw [addL_len]; exact Nat.le_refl _)
theorem lfib_ok {x : List Rat × List Rat} {n s t : Nat} {o : Option Rat} (F : Fr x n) (S : St s (x.1 ++ x.2)) (hn : n ≤ 9) (hs : s ≤ 100000) (hp : Pl t o) (ht : t ≤ 100000) : LFibOk x o := by
  have l1 := F.ll1
  have l2 := F.ll2
  cases o with
  | none => exact ⟨by omega, by omega, F.mx, S.r.bq (by omega), fib_ne F none⟩
  | some q =>
    have b := by_len x.2 (-q)
    have sl := sum_len x.1 (byNumber x.2 (-q))
    refine ⟨by omega, by omega, F.mx, hp.bq (by omega), S.l.bq (by omega), S.r.bq (by omega), (lessBy_sz S hp.neg).1.bq (by omega), (sumBy_sz S hp.neg).bq (by omega), by omega, ?_⟩
    obtain ⟨z, hz⟩ := ex_ev (fib_ne F (some q))
    refine trim_ne (x := z) fun h0 => hz ?_
    show ev (fillF (lessOf x.1 (byNumber x.2 q)) (degP x + 1)) z = 0
    rw [ev_fill, ev_sumOf, ev_byNumber] at h0
    rw [ev_fill, ev_lessOf, ev_byNumber, ← h0]; grind
theorem times_ok {p q : List Rat} {n k D H d h : Nat} (sp : Sz n D p) (sq : Sz k H q) (hD : 0 < D) (hH : 0 < H) (dD : D ≤ 2 ^ d) (dH : H ≤ 2 ^ h) (lp : p.length ≤ 100) (lq : q.length ≤ 100) (hn : n ≤ 1000000) (hk : k ≤ 1000000) (hd' : d ≤ 1000000) (hh : h ≤ 1000000) : TimesOk p q :=
  ⟨lp, lq, sp.bq hD dD (by omega) (by omega), sq.bq hH dH (by omega) (by omega), fun i j hi hj => ⟨((sp.convS sq i).cf _).bq (Nat.mul_pos hD hH) (mul_le_pow dD dH) (by omega) (by omega), ((sp.cf i).mul (sq.cf j)).bq (Nat.mul_pos hD hH) (mul_le_pow dD dH) (by omega) (by omega)⟩⟩
theorem tot_ok {poly : List Rat} {inner : List Rat × List Rat} {high m n k D H : Nat} (sp : Sz n D poly) (hD : 0 < D) (dD : D ≤ 2 ^ n) (si : St k (inner.1 ++ inner.2)) (l1 : inner.1.length ≤ m + 1) (l2 : inner.2.length ≤ m + 1) (hm : m ≤ 3) (hh : high ≤ 9) (lp : poly.length ≤ high + 1) (hn : n ≤ 10000) (hk : k ≤ 10000) :
    TotOk poly inner high ∧ BqL (totS poly inner high poly.length) ∧ (totS poly inner high poly.length).length ≤ high * m + 1 ∧ high * m + 1 ≤ 28 := by
  obtain ⟨H, b0, b1, s1, s2⟩ := si.two
  have hL : high * m + 1 ≤ 28 := by have := Nat.mul_le_mul hh hm; omega
  have pH : ∀ t, t ≤ 9 → 0 < D * H ^ t ∧ D * H ^ t ≤ 2 ^ (n + k * t) := fun t _ => ⟨Nat.mul_pos hD (Nat.pow_pos b0), mul_le_pow dD (pow_le_pow' b1 t)⟩
  have q0 : k * high ≤ k * 9 := Nat.mul_le_mul_left _ hh
  have q1 : high * (k + (high * m + 1)) ≤ 9 * (k + 28) := Nat.mul_le_mul hh (by omega)
  have hT : ∀ i, i ≤ poly.length → BqL (totS poly inner high i) := fun i hi => (totS_sz (high := high) l1 l2 sp s1 s2 (Nat.le_refl _) i).bq (pH high hh).1 (pH high hh).2 (by omega) (by omega)
  have lT := totS_len l1 l2 poly high
  refine ⟨fun i hi => ⟨fun t ht => ?_, (tS_sz l1 l2 (sp.cf i) s1 s2 i high (Nat.le_refl _)).bq (pH high hh).1 (pH high hh).2 (by omega) (by omega), ?_, hT i (by omega), ?_⟩, hT _ (Nat.le_refl _), lT _, hL⟩
  · have ht' : t ≤ 9 := by omega
    have r1 : t * m ≤ high * m := Nat.mul_le_mul_right _ (by omega)
    have r2 := tS_len l1 l2 (cf poly i) i t
    have r3 : t * (k + (high * m + 1)) ≤ 9 * (k + 28) := Nat.mul_le_mul ht' (by omega)
    have r4 : k * t ≤ k * 9 := Nat.mul_le_mul_left _ ht'
    have sz := tS_sz (L := high * m + 1) l1 l2 (sp.cf i) s1 s2 i t (by omega)
    have sk : Sz k H (if t < i then inner.1 else inner.2) := by split <;> assumption
    have lk : (if t < i then inner.1 else inner.2).length ≤ m + 1 := by split <;> assumption
    exact times_ok sz sk (pH t ht').1 b0 (pH t ht').2 b1 (by omega) (by omega) (by omega) (by omega) (by omega) (by omega)
  · have := tS_len l1 l2 (cf poly i) i high; omega
  · have := lT i; omega
theorem lof_ok {f h : List Rat × List Rat} {n m s t : Nat} (Ff : Fr f n) (Fh : Fr h m) (sf : St s (f.1 ++ f.2)) (sh : St t (h.1 ++ h.2)) (hn : n ≤ 3) (hm : m ≤ 3) (hs : s ≤ 10000) (ht : t ≤ 10000) : LOfOk f h := by
  obtain ⟨D, d0, d1, s1, s2⟩ := sf.two
  obtain ⟨H, b0, b1, g1, g2⟩ := sh.two
  have l1 := Ff.ll1
  have l2 := Ff.ll2
  obtain ⟨_, nT, nB⟩ := comp_lOf Ff Fh
  obtain ⟨o1, q1, k1, k3⟩ := tot_ok (high := n) s1 d0 d1 sh Fh.ll1 Fh.ll2 hm (by omega) l1 hs ht (H := H)
  obtain ⟨o2, q2, k2, _⟩ := tot_ok (high := n) s2 d0 d1 sh Fh.ll1 Fh.ll2 hm (by omega) l2 hs ht (H := H)
  have hB : hd (ofB f h) ≠ 0 := (tot_tr _ _ _ _).resolve_left nB
  have e1 : ofT f h = totS f.1 h n f.1.length := by unfold ofT; rw [Ff.deg]
  have e2 : ofB f h = totS f.2 h n f.2.length := by unfold ofB; rw [Ff.deg]
  refine ⟨Ff.mx, by omega, by omega, by rw [Ff.deg]; exact o1, by rw [Ff.deg]; exact o2, nB, hB, by rw [e1]; exact q1, by rw [e2]; exact q2, ?_, by rw [e1]; omega, by rw [e2]; omega⟩
  have T2 := totS_sz (high := n) Fh.ll1 Fh.ll2 s2 g1 g2 (Nat.le_refl _) f.2.length
  rw [← e2] at T2
  have hp := Nat.mul_pos d0 (Nat.pow_pos b0 (n := n))
  obtain ⟨E, e0, e1', e2'⟩ := T2.hd.bot hB hp
  have h1 : S1 0 1 (1 : Rat) := S1.one
  have r := h1.over2 hp (mul_le_pow d1 (pow_le_pow' b1 n)) e0 e2'
  have z1 : t * n ≤ t * 3 := Nat.mul_le_mul_left _ hn
  have z2 : n * (t + (n * m + 1)) ≤ 3 * (t + 28) := Nat.mul_le_mul hn (by omega)
  exact r.bq (by omega) (by rw [Nat.one_mul]; exact e1') (by omega) (by omega)
theorem lled_ok {form : List Rat} {h : List Rat × List Rat} {N m s t : Nat} (hl : form.length = N + 1) (Fh : Fr h m) (sf : St s form) (sh : St t (h.1 ++ h.2)) (hn : N ≤ 9) (hm : m ≤ 3) (hs : s ≤ 10000) (ht : t ≤ 10000) (ne : trim (ledL form h) ≠ []) : LLedOk form h := by
  obtain ⟨D, d0, d1, s1⟩ := sf
  obtain ⟨H, b0, b1, g1, g2⟩ := sh.two
  obtain ⟨o1, q1, k1, k3⟩ := tot_ok (high := N) s1 d0 d1 sh Fh.ll1 Fh.ll2 hm hn (by omega) hs ht (H := H)
  have e1 : ledT form h = totS form h N form.length := by unfold ledT; rw [hl]; rfl
  refine ⟨ne_of_len hl, by omega, Fh.mx, by rw [Fh.deg]; omega, by rw [hl]; exact o1, by rw [e1]; omega, by rw [hl, Fh.deg]; show N * m ≤ 400; omega, by rw [e1]; exact q1, ne⟩
end Mt
set_option Elab.async false
set_option linter.all false
set_option maxRecDepth 100000
set_option maxHeartbeats 1000000
/-! S4: the program's own fractions, by bits. -/
namespace Mt
open Ty Wk
theorem worth_ok {p : List Rat} {a b : Rat} {high n t D E : Nat} (h : Sz n D p) (hD : 0 < D) (dD : D ≤ 2 ^ n) (ha : S1 t E a) (hb : S1 t E b) (hE : 0 < E) (dE : E ≤ 2 ^ t) (hl : p.length ≤ 10) (hh : high ≤ 9) (hn : n ≤ 100000) (ht : t ≤ 100000) :
    WorthOk p high a b ∧ Bq (wS p high a b (high + 1)).1 := by
  have hx : ∀ i, i ≤ 10 → Bq (wS p high a b i).1 ∧ Bq (wS p high a b i).2 ∧ Bq ((wS p high a b i).1 * a) ∧ Bq (cf p (high - i) * (wS p high a b i).2) := fun i hi => by
    obtain ⟨k1, k2⟩ := wS_sz (high := high) h ha hb dE i
    have q1 : i * (t + 1) ≤ 10 * (t + 1) := mul9 hi
    have q2 : t * i ≤ t * 10 := Nat.mul_le_mul_left _ hi
    have q3 : i * t ≤ 10 * t := mul9 hi
    have p0 : 0 < E ^ i := Nat.pow_pos hE
    have p1 : 0 < D * E ^ i := Nat.mul_pos hD p0
    have p3 := pow_le_pow' dE i
    have p2 : D * E ^ i ≤ 2 ^ (n + t * i) := mul_le_pow dD p3
    exact ⟨k1.bq p1 p2 (by omega) (by omega), k2.bq p0 p3 (by omega) (by omega), (k1.mul ha).bq (Nat.mul_pos p1 hE) (mul_le_pow p2 dE) (by omega) (by omega), ((h.cf _).mul k2).bq p1 p2 (by omega) (by omega)⟩
  exact ⟨⟨by omega, h.bq hD dD (by omega) (by omega), ha.bq hE dE (by omega) (by omega), hb.bq hE dE (by omega) (by omega), by omega, fun i hi => hx i (by omega)⟩, (hx _ (by omega)).1⟩
theorem worthof_ok {x : List Rat × List Rat} {n s t : Nat} {o : Option Rat} (F : Fr x n) (S : St s (x.1 ++ x.2)) (hn : n ≤ 9) (hs : s ≤ 100000) (hp : Pl t o) (ht : t ≤ 100000) : WorthOf x o := by
  have l1 := F.ll1
  have l2 := F.ll2
  have dg := F.deg
  obtain ⟨D, d0, d1, s1, s2⟩ := S.two
  obtain ⟨E, e0, e1, e2, e3⟩ := hp.pair
  have h1 := worth_ok (high := degP x) s1 d0 d1 e2 e3 e0 e1 (by omega) (by omega) hs ht
  have h2 := worth_ok (high := degP x) s2 d0 d1 e2 e3 e0 e1 (by omega) (by omega) hs ht
  exact ⟨F.mx, h1.1, h2.1, h1.2, h2.2⟩
theorem told_ok {f : List Rat} {s : Nat} (h : St s f) (hs : s < 60000000) (ne : f ≠ []) (hl : f.length ≤ 400) : ToldOk f := ⟨ne, h.bq hs, hl⟩
theorem fib_ok {x : List Rat × List Rat} {n s t : Nat} {o : Option Rat} (F : Fr x n) (S : St s (x.1 ++ x.2)) (hn : n ≤ 9) (hs : s ≤ 100000) (hp : Pl t o) (ht : t ≤ 100000) : FibOk x o := by
  have l1 := F.ll1
  have l2 := F.ll2
  have dg := F.deg
  have fl := fibL_len F o
  have ft := told_ok (fibL_sz S hp) (by omega) (ne_of_len fl) (by omega)
  cases o with
  | none => exact ⟨ft, by omega, by omega⟩
  | some q =>
    have h1 := lessBy_sz S hp
    have b := by_len x.2 q
    have sl := less_len x.1 (byNumber x.2 q)
    refine ⟨hp.bq (by omega), S.l.bq (by omega), S.r.bq (by omega), h1.1.bq (by omega), ?_, by omega, by omega, by omega, by omega, ft⟩
    intro c hc
    obtain ⟨a, ha, rfl⟩ := List.mem_map.mp (mem_trim hc)
    have := bq_neg (h1.1.bq (by omega) a ha)
    rwa [show -a = a * -1 by grind] at this
theorem part_ok {x : List Rat × List Rat} {n s t : Nat} {o : Option Rat} (F : Fr x n) (S : St s (x.1 ++ x.2)) (hn : n ≤ 9) (hs : s ≤ 5000) (hp : Pl t o) (ht : t ≤ 5000) : PartOk x o := by
  have hw := worth_pl S hp
  rw [F.deg] at hw
  have q1 : (n + 1) * (t + 1) ≤ 10 * (t + 1) := mul9 (by omega)
  exact ⟨worthof_ok F S hn (by omega) hp (by omega), fib_ok F S hn (by omega) hw (by omega), by rw [F.deg]; exact F.pos⟩
theorem part_sz {x : List Rat × List Rat} {n s t : Nat} {o : Option Rat} (F : Fr x n) (S : St s (x.1 ++ x.2)) (hp : Pl t o) : St (s + (s + (n + 1) * (t + 1)) + 1) (partAt x o) := by
  have hw := worth_pl S hp
  rw [F.deg] at hw
  exact fibre_sz F S hw
theorem lin_sz {t : Nat} {q : Rat} (h : Pl t (some q)) : St t (lin q) := by
  obtain ⟨E, e0, e1, e2, e3⟩ := h.pair
  refine ⟨E, e0, e1, fun c hc => ?_⟩
  simp only [lin, List.mem_cons, List.not_mem_nil, or_false] at hc
  rcases hc with h | h
  · rw [h]; exact S1.neg e2
  · rw [h]; exact e3
theorem qsq_sz {q : Rat} {R : List Rat} {e s t : Nat} (h0 : ev R q ≠ 0) (h : St s (qsq q e R 0)) (hl : (qsq q e R 0).length ≤ 10) (hp : Pl t (some q)) : ∀ i, i ≤ e → St (s + i * (10 * (t + 1) + t)) (qsq q e R i) ∧ (qsq q e R i).length ≤ 10
  | 0, _ => ⟨by simpa using h, hl⟩
  | i + 1, hi => by
    obtain ⟨ih, il⟩ := qsq_sz h0 h hl hp i (by omega)
    have st := qsq_step h0 (show i < e by omega)
    have k := ih.quo (lin_sz hp) (List.cons_ne_nil _ _) ((lin_tr q).resolve_left (List.cons_ne_nil _ _)) (K := 10) (by show _ ≤ 10 + 2; omega)
    rw [st] at k
    refine ⟨k.mono (by rw [Nat.succ_mul i (10 * (t + 1) + t)]; omega), ?_⟩
    have sp := (partsOf_spec (one := qsq q e R i) (other := lin q) (List.cons_ne_nil _ _) ((lin_tr q).resolve_left (List.cons_ne_nil _ _)) (trim_tr _)).2.2.2
    rw [st] at sp
    have : (lin q).length = 2 := rfl
    simp only at sp
    omega
theorem often_ok {f : List Rat} {q : Rat} {e s t : Nat} (m : Mult f q 1 e) (h : St s f) (hl : f.length ≤ 10) (hp : Pl t (some q)) (hs : s ≤ 10000) (ht : t ≤ 500) : OftenOk f q e := by
  have he : e ≤ 10 := by obtain ⟨R, h1, _⟩ := m; omega
  obtain ⟨R, h0, e1⟩ := count_some m
  have e0 : qsq q e R 0 = trim f := tr_ev (trim_tr _) (trim_tr _) fun z => by rw [ev_qsq, ev_trim, e1 z, Nat.sub_zero]
  have tl := trim_le f
  have sz := qsq_sz (t := t) h0 (by rw [e0]; exact h.trim) (by rw [e0]; omega) hp
  have l0 := (lin_tr q).resolve_left (List.cons_ne_nil _ _)
  refine ⟨by omega, qsq q e R, e0, fun i hi => ?_, fun i hi => qsq_step h0 hi, qsq_end h0 e⟩
  have q1 : i * (10 * (t + 1) + t) ≤ 10 * (10 * (t + 1) + t) := mul9 (by omega)
  have := (sz i hi).2
  exact div_ok (sz i hi).1 (lin_sz hp) (List.cons_ne_nil _ _) l0 (by omega) (by show (2 : Nat) ≤ 100; omega) (by omega) (by omega)
theorem taken_ok {x : List Rat × List Rat} {n s t e : Nat} {o : Option Rat} (F : Fr x n) (S : St s (x.1 ++ x.2)) (hn : n ≤ 9) (hs : s ≤ 3000) (hp : Pl t o) (ht : t ≤ 300) (m : Mult (partAt x o) (pair o).1 (pair o).2 e) : TakenOk x o e := by
  refine ⟨part_ok F S hn (by omega) hp (by omega), ?_⟩
  have pl := told_len_eq x F o
  have q1 : (n + 1) * (t + 1) ≤ 10 * (t + 1) := mul9 (by omega)
  cases o with
  | none => exact (count_none m).symm
  | some q => exact often_ok m (part_sz F S hp) (by omega) hp (by omega) (by omega)
theorem slope_sz {n D : Nat} {p : List Rat} (h : Sz n D p) (hl : p.length ≤ 16) : Sz (n + 4) D (slopeOf p) := by
  intro c hc
  unfold slopeOf at hc
  obtain ⟨i, hi, rfl⟩ := List.mem_map.mp hc
  have hi' := List.mem_range.mp hi
  have k : S1 4 1 ((((1 : Int) + (i : Nat) : Int)) : Rat) := ⟨(1 : Int) + (i : Nat), by omega, by simp⟩
  have := (h.cf (1 + i)).mul k
  rwa [Nat.mul_one] at this
theorem turn_ok {x : List Rat × List Rat} {n s : Nat} (F : Fr x n) (S : St s (x.1 ++ x.2)) (hn : n ≤ 9) (hs : s ≤ 5000) : TurnOk x ∧ St (2 * s + 20) (turningOf x) := by
  have l1 := F.ll1
  have l2 := F.ll2
  have dg := F.deg
  obtain ⟨D, d0, d1, s1, s2⟩ := S.two
  have a1 := slope_sz s1 (by omega)
  have a2 := slope_sz s2 (by omega)
  have b1 := slope_len x.1
  have b2 := slope_len x.2
  have c1 := a1.prod s2
  have c2 := s1.prod a2
  have p1 := prod_len (slopeOf x.1) x.2
  have p2 := prod_len x.1 (slopeOf x.2)
  have DD := Nat.mul_pos d0 d0
  have dd := mul_le_pow d1 d1
  have tl := turn_len F
  have tz : Sz (2 * s + 20) (D * D) (turnPoly x) := ((c1.mono (n' := 2 * s + 19) (by omega)).less (c2.mono (by omega)))
  have ts : St (2 * s + 20) (turnPoly x) := tz.st DD (Nat.le_refl _) dd (by omega)
  have fl : (fillF (turnPoly x) (2 * degP x - 1)).length = 2 * n - 1 := turnL_len F
  have hp := F.pos
  have tt : St (2 * s + 20) (turnL x) := ts.fill
  refine ⟨⟨by omega, by omega, S.l.bq (by omega), S.r.bq (by omega), by omega, by omega, (a1.st d0 (Nat.le_refl _) d1 (by omega)).pb (by omega) (by omega), S.r.pb (by omega) (by omega), S.l.pb (by omega) (by omega), (a2.st d0 (Nat.le_refl _) d1 (by omega)).pb (by omega) (by omega), c1.bq DD dd (by omega) (by omega), c2.bq DD dd (by omega) (by omega), ?_, by omega, by omega, by omega, told_ok tt (by omega) (List.ne_nil_of_length_pos (by omega)) (by omega)⟩, tt.told (turnL_ne F)⟩
  intro c hc
  obtain ⟨a, ha, rfl⟩ := List.mem_map.mp (mem_trim hc)
  have := bq_neg (c2.bq DD dd (by omega) (by omega) a ha)
  rwa [show -a = a * -1 by grind] at this
end Mt
set_option Elab.async false
set_option linter.all false
set_option maxRecDepth 100000
set_option maxHeartbeats 1000000
/-! S5: put, by bits. -/
namespace Mt
open Ty Wk
theorem pw_len {p : List Rat} {m : Nat} (h : p.length ≤ m + 1) : ∀ n, (pw p n).length ≤ n * m + 1
  | 0 => by show (1 : Nat) ≤ _; omega
  | n + 1 => by
    have ih := pw_len h n
    have := prod_len (pw p n) p
    show (productOf (pw p n) p).length ≤ _
    rw [Nat.succ_mul]
    omega
theorem pw_sz {p : List Rat} {m k L H : Nat} (h : p.length ≤ m + 1) (s : Sz k H p) : ∀ n, n * m + 1 ≤ L → Sz (n * (k + L)) (H ^ n) (pw p n)
  | 0, _ => fun c hc => by
    rw [List.mem_singleton.mp hc, Nat.zero_mul, Nat.pow_zero]; exact S1.one
  | n + 1, hL => by
    have hL' : n * m + 1 ≤ L := by rw [Nat.succ_mul] at hL; omega
    have ih := pw_sz h s n hL'
    have l := pw_len h n
    have := ih.prod s
    rw [← Nat.pow_succ] at this
    refine this.mono ?_
    rw [Nat.succ_mul]; omega
section
variable {near far poly : List Rat} {m k L H n D high : Nat} (h1 : near.length ≤ m + 1) (h2 : far.length ≤ m + 1) (s1 : Sz k H near) (s2 : Sz k H far) (sp : Sz n D poly) (hL : high * m + 1 ≤ L)
include h1 h2
theorem pp_len {i : Nat} (hi : i ≤ high) : (productOf (pw near i) (pw far (high - i))).length ≤ high * m + 1 := by
  have a := pw_len h1 i
  have b := pw_len h2 (high - i)
  have := prod_len (pw near i) (pw far (high - i))
  obtain ⟨r, rfl⟩ := Nat.exists_eq_add_of_le hi
  rw [show i + r - i = r by omega] at *
  rw [Nat.add_mul]; omega
theorem putS_len : ∀ i, i ≤ high + 1 → (putS high near far poly i).length ≤ high * m + 1
  | 0, _ => by show (0 : Nat) ≤ _; omega
  | i + 1, hi => by
    have ih := putS_len i (by omega)
    have pl := pp_len (high := high) h1 h2 (show i ≤ high by omega)
    unfold putS
    split
    · have a := sum_len (putS high near far poly i) (byNumber (productOf (pw near i) (pw far (high - i))) (cf poly i))
      have b := by_len (productOf (pw near i) (pw far (high - i))) (cf poly i)
      omega
    · exact ih
include s1 s2 hL
theorem pp_sz {i : Nat} (hi : i ≤ high) : Sz (high * (k + L) + L) (H ^ high) (productOf (pw near i) (pw far (high - i))) := by
  have r1 : i * m ≤ high * m := Nat.mul_le_mul_right _ hi
  have r2 : (high - i) * m ≤ high * m := Nat.mul_le_mul_right _ (by omega)
  have a := pw_sz (L := L) h1 s1 i (by omega)
  have b := pw_sz (L := L) h2 s2 (high - i) (by omega)
  have c := a.prod b
  have l := pw_len h1 i
  rw [← Nat.pow_add, show i + (high - i) = high by omega] at c
  refine c.mono ?_
  rw [← Nat.add_mul, show i + (high - i) = high by omega]
  omega
include sp
theorem pb_sz {i : Nat} (hi : i ≤ high) : Sz (n + high * (k + L) + L) (D * H ^ high) (byNumber (productOf (pw near i) (pw far (high - i))) (cf poly i)) := by
  have := (pp_sz h1 h2 s1 s2 hL hi).by (sp.cf i)
  rw [Nat.mul_comm (H ^ high)] at this
  exact this.mono (by omega)
theorem putS_sz : ∀ i, i ≤ high + 1 → Sz (n + high * (k + L) + L + i) (D * H ^ high) (putS high near far poly i)
  | 0, _ => Sz.nil
  | i + 1, hi => by
    have ih := putS_sz i (by omega)
    unfold putS
    split
    · exact Sz.sum ih ((pb_sz h1 h2 s1 s2 sp hL (show i ≤ high by omega)).mono (by show n + high * (k + L) + L ≤ n + high * (k + L) + L + i; omega))
    · exact ih.mono (by show n + high * (k + L) + L + i ≤ n + high * (k + L) + L + (i + 1); omega)
end
theorem put_ok {f h : List Rat × List Rat} {n m s t : Nat} (Ff : Fr f n) (Fh : Fr h m) (sf : St s (f.1 ++ f.2)) (sh : St t (h.1 ++ h.2)) (hn : n ≤ 3) (hm : m ≤ 3) (hs : s ≤ 1500) (ht : t ≤ 1500) : PutAll f h (lOf f h) := by
  obtain ⟨D, d0, d1, s1, s2⟩ := sf.two
  obtain ⟨H, b0, b1, g1, g2⟩ := sh.two
  have l1 := Ff.ll1
  have l2 := Ff.ll2
  have k1 := Fh.ll1
  have k2 := Fh.ll2
  have df := Ff.deg
  have dh := Fh.deg
  have hnm : n * m ≤ 3 * 3 := Nat.mul_le_mul hn hm
  obtain ⟨_, nT, nB⟩ := comp_lOf Ff Fh
  have hB : hd (ofB f h) ≠ 0 := (tot_tr _ _ _ _).resolve_left nB
  have e : putPair f.1 f.2 h.1 h.2 = (ofT f h, ofB f h) := putX_eq Ff
  have w : ((putPair f.1 f.2 h.1 h.2).1.map (· / hd (putPair f.1 f.2 h.1 h.2).2), (putPair f.1 f.2 h.1 h.2).2.map (· / hd (putPair f.1 f.2 h.1 h.2).2)) = lOf f h := put_whole Ff Fh
  have hg : max f.1.length f.2.length - 1 = n := df
  have z1 : n * (t + (n * m + 1)) ≤ 3 * (t + 10) := Nat.mul_le_mul hn (by omega)
  have z2 : t * n ≤ t * 3 := Nat.mul_le_mul_left _ hn
  have pH : ∀ i, i ≤ 3 → 0 < H ^ i ∧ H ^ i ≤ 2 ^ (t * i) := fun i hi => ⟨Nat.pow_pos b0, pow_le_pow' b1 i⟩
  have pD : 0 < D * H ^ n ∧ D * H ^ n ≤ 2 ^ (s + t * n) := ⟨Nat.mul_pos d0 (Nat.pow_pos b0), mul_le_pow d1 (pow_le_pow' b1 n)⟩
  have pP : ∀ p : List Rat, p.length ≤ m + 1 → Sz t H p → ∀ i, i ≤ n → PB (pw p i) := fun p lp sp i hi => by
    have r0 : i * m ≤ n * m := Nat.mul_le_mul_right _ hi
    have r1 : i * (t + (n * m + 1)) ≤ 3 * (t + 10) := Nat.mul_le_mul (by omega) (by omega)
    have r2 : t * i ≤ t * 3 := Nat.mul_le_mul_left _ (by omega)
    have := pw_len lp i
    exact ((pw_sz (L := n * m + 1) lp sp i (by omega)).st (s := 3 * (t + 10)) (Nat.pow_pos b0) r1 (pow_le_pow' b1 i) (by omega)).pb (by omega) (by omega)
  have PK : PutOk f.1 f.2 h.1 h.2 := by
    refine ⟨by omega, by omega, Ff.mx, fun i hi => ?_, sh.l.pb (by omega) (by omega), sh.r.pb (by omega) (by omega), fun poly hp => ?_⟩
    · rw [hg] at hi
      exact ⟨pP _ k1 g1 i hi, pP _ k2 g2 i hi⟩
    · have sp : Sz s D poly := by rcases hp with rfl | rfl <;> assumption
      have lp : poly.length ≤ n + 1 := by rcases hp with rfl | rfl <;> assumption
      rw [hg]
      refine ⟨sp.bq d0 d1 (by omega) (by omega), fun i hi => ?_⟩
      have a := pp_len (high := n) k1 k2 (show i ≤ n by omega)
      have c := putS_len (high := n) (poly := poly) k1 k2 i (by omega)
      refine ⟨(pp_sz (high := n) k1 k2 g1 g2 (Nat.le_refl _) (show i ≤ n by omega)).bq (pH n hn).1 (pH n hn).2 (by omega) (by omega), by omega, (pb_sz (high := n) k1 k2 g1 g2 sp (Nat.le_refl _) (show i ≤ n by omega)).bq pD.1 pD.2 (by omega) (by omega), (putS_sz (high := n) k1 k2 g1 g2 sp (Nat.le_refl _) i (by omega)).bq pD.1 pD.2 (by omega) (by omega), by omega⟩
  have lT : (ofT f h).length ≤ n * m + 1 := by unfold ofT; rw [df]; exact totS_len k1 k2 _ _ _
  have lB : (ofB f h).length ≤ n * m + 1 := by unfold ofB; rw [df]; exact totS_len k1 k2 _ _ _
  have L := lof_ok Ff Fh sf sh hn hm (by omega) (by omega)
  obtain ⟨_, _, _, _, _, _, _, qT, qB, _⟩ := L
  refine ⟨lmade_ok Ff sf (by omega) hs, lmade_ok Fh sh (by omega) ht, Ff.mx, Fh.mx, by show degP f * degP h ≤ 24; rw [df, dh]; omega, by show degP f ≤ 100; omega, by show degP h ≤ 100; omega, PK, by rw [e]; exact nT, by rw [e]; exact nB, by rw [e]; exact hB, by rw [e]; exact qT, by rw [e]; exact qB, by rw [e]; show (ofT f h).length ≤ 1000; omega, by rw [e]; show (ofB f h).length ≤ 1000; omega, w⟩
end Mt
set_option Elab.async false
set_option linter.all false
set_option maxRecDepth 100000
set_option maxHeartbeats 1000000
/-! S6: all that is asked of two full fractions holds. -/
namespace Mt
open Ty Wk
theorem told_ne {g : List Rat} (h : trim (toldOf g) ≠ []) : trim g ≠ [] := fun z => h (tr_ev (trim_tr _) (.inl rfl) fun x => by
  rw [ev_trim, ev_told, ← ev_trim g, z]
  show (0 : Rat) / _ = 0
  grind)
theorem prod_ne {f g : List Rat} (h : trim (productIn f g) ≠ []) : trim g ≠ [] := fun z => h (tr_ev (trim_tr _) (.inl rfl) fun x => by
  unfold productIn
  rw [ev_trim, ev_told, ev_prodIn, ← ev_trim g, z]
  show (_ * (0 : Rat)) / _ = 0
  grind)
theorem Pl.mono {t u : Nat} {o : Option Rat} (h : Pl t o) (k : t ≤ u) : Pl u o := by
  cases o with
  | none => trivial
  | some q =>
    obtain ⟨E, a, b, c⟩ := h
    exact ⟨E, a, Nat.le_trans b (pw_le k), c.mono k⟩
theorem form_ok {f : List Rat} (h1 : 1 ≤ f.length) (h2 : f.length ≤ 25) (h3 : trim f ≠ []) : FormOk f := ⟨h1, h2, h3⟩
theorem prod_ok {f g : List Rat} {s t : Nat} (sf : St s f) (sg : St t g) (nf : trim f ≠ []) (ng : trim g ≠ []) (lf : f.length ≤ 100) (lg : g.length ≤ 100) (hs : s ≤ 13000) (ht : t ≤ 13000) : ProdOk f g := by
  have a := trim_le f
  have b := trim_le g
  have c := List.length_pos_iff.mpr nf
  have d := List.length_pos_iff.mpr ng
  have p := prod_len (trim f) (trim g)
  exact ⟨List.ne_nil_of_length_pos (by omega), List.ne_nil_of_length_pos (by omega), sf.trim.pb hs (by omega), sg.trim.pb ht (by omega), (sf.trim.prod sg.trim).bq (by omega), by omega, lf, lg⟩
section
variable {f h : List Rat × List Rat} {n m : Nat} (Df : Dr 130 3 f n) (Dh : Dr 130 3 h m)
include Df Dh
theorem F_sz : St 600 ((lOf f h).1 ++ (lOf f h).2) := by
  obtain ⟨_, nT, nB⟩ := comp_lOf Df.fr Dh.fr
  have := lOf_sz Df.st Dh.st Dh.fr.ll1 Dh.fr.ll2 Df.fr.l1 Df.fr.l2 nB
  rw [Df.fr.deg] at this
  have h1 := Df.le
  have h2 := Dh.le
  have h3 : n * m ≤ 3 * 3 := Nat.mul_le_mul h1 h2
  have h4 : n * (130 + (n * m + 1)) ≤ 3 * (130 + 10) := Nat.mul_le_mul h1 (by omega)
  exact this.mono (by omega)
theorem turn_all : TurnAll f h (lOf f h) := by
  obtain ⟨C, nT, nB⟩ := comp_lOf Df.fr Dh.fr
  have sF := F_sz Df Dh
  have h1 := Df.le
  have h2 := Dh.le
  have pf := Df.fr.pos
  have ph := Dh.fr.pos
  have h3 : n * m ≤ 3 * 3 := Nat.mul_le_mul h1 h2
  obtain ⟨of', sf⟩ := turn_ok Df.fr Df.st (by omega) (by omega)
  obtain ⟨oh, sh⟩ := turn_ok Dh.fr Dh.st (by omega) (by omega)
  obtain ⟨oF, _⟩ := turn_ok C.fF sF (by omega) (by omega)
  have e := turn_prod C
  have lf : (turningOf f).length = (2 * n - 2) + 1 := by rw [turningOf_eq, toldOf_len, turnL_len Df.fr]; omega
  have lh : (turningOf h).length = 2 * m - 1 := by rw [turningOf_eq, toldOf_len, turnL_len Dh.fr]
  have ln : trim (lLed (turningOf f) h) ≠ [] := prod_ne (f := turningOf h) (by rw [e, turningOf_eq]; exact told_trim_ne (turnL_ne C.fF))
  have ne : trim (ledL (turningOf f) h) ≠ [] := told_ne (by rw [← lLed_eq]; exact ln)
  obtain ⟨ll, _, _⟩ := led_form Dh.fr lf
  have ll2 : (lLed (turningOf f) h).length = (2 * n - 2) * m + 1 := by rw [lLed_eq, toldOf_len, ll]
  have k1 : (2 * n - 2) * m ≤ 4 * 3 := Nat.mul_le_mul (by omega) h2
  have sL := ledT_sz sf Dh.st Dh.fr.ll1 Dh.fr.ll2
  rw [lf, show 2 * n - 2 + 1 - 1 = 2 * n - 2 by omega] at sL
  have k2 : (2 * n - 2) * (130 + ((2 * n - 2) * m + 1)) ≤ 4 * (130 + 13) := Nat.mul_le_mul (by omega) (by omega)
  have sL2 : St 900 (lLed (turningOf f) h) := by
    rw [lLed_eq]
    exact St.told (St.fill (sL.mono (by omega))) ne
  have hn : trim (turningOf h) ≠ [] := by rw [turningOf_eq]; exact told_trim_ne (turnL_ne Dh.fr)
  exact ⟨lmade_ok C.fF sF (by omega) (by omega), lmade_ok Dh.fr Dh.st (by omega) (by omega), lmade_ok Df.fr Df.st (by omega) (by omega), of', oh, oF, by omega, lled_ok lf Dh.fr sf Dh.st (by omega) h2 (by omega) (by omega) ne, by omega, form_ok (by omega) (by omega) hn, form_ok (by omega) (by omega) ln, by omega, prod_ok sh sL2 hn ln (by omega) (by omega) (by omega) (by omega), e⟩
theorem fib_all {o : Option Rat} (hp : Pl 2 o) : FibAll f h (lOf f h) o := by
  obtain ⟨C, nT, nB⟩ := comp_lOf Df.fr Dh.fr
  have sF := F_sz Df Dh
  have h1 := Df.le
  have h2 := Dh.le
  have h3 : n * m ≤ 3 * 3 := Nat.mul_le_mul h1 h2
  have e := fib_led C o
  have lf : (lFibre f o).length = n + 1 := by rw [lFibre_eq Df.fr, fibreOf_eq, toldOf_len, fibL_len Df.fr]
  have lF : (fibreOf (lOf f h) o).length = n * m + 1 := by rw [fibreOf_eq, toldOf_len, fibL_len C.fF]
  have ln : trim (lLed (lFibre f o) h) ≠ [] := by rw [← e, fibreOf_eq]; exact told_trim_ne (fib_ne C.fF o)
  have ne : trim (ledL (lFibre f o) h) ≠ [] := told_ne (by rw [← lLed_eq]; exact ln)
  have sf : St 133 (lFibre f o) := by rw [lFibre_eq Df.fr]; exact fibre_sz Df.fr Df.st hp
  exact ⟨lmade_ok C.fF sF (by omega) (by omega), lfib_ok Df.fr Df.st (by omega) (by omega) hp (by omega), lled_ok lf Dh.fr sf Dh.st (by omega) h2 (by omega) (by omega) ne, by rw [C.fF.deg]; exact C.fF.pos, fib_ok C.fF sF (by omega) (by omega) hp (by omega), by omega, e⟩
theorem place_all {o : Option Rat} (hp : Pl 2 o) : PlaceOk f h (lOf f h) o := by
  obtain ⟨C, nT, nB⟩ := comp_lOf Df.fr Dh.fr
  have sF := F_sz Df Dh
  have h1 := Df.le
  have h2 := Dh.le
  have pf := Df.fr.pos
  have ph := Dh.fr.pos
  have h3 : n * m ≤ 3 * 3 := Nat.mul_le_mul h1 h2
  have h4 : n * m = (n - 1) * m + m := by
    obtain ⟨k, rfl⟩ := Nat.exists_eq_add_of_lt pf
    rw [show 0 + k + 1 - 1 = k by omega, show 0 + k + 1 = k + 1 by omega, Nat.succ_mul]
  have pc : Pl 150 (lWorthAt h o) := by
    rw [← worth_eq Dh.fr]
    have := worth_pl Dh.st hp
    rw [Dh.fr.deg] at this
    have k : (m + 1) * (2 + 1) ≤ 4 * 3 := Nat.mul_le_mul (by omega) (by omega)
    exact this.mono (by omega)
  have pd : Pl 800 (lWorthAt f (lWorthAt h o)) := by
    rw [← worth_eq Df.fr]
    have := worth_pl Df.st pc
    rw [Df.fr.deg] at this
    have k : (n + 1) * (150 + 1) ≤ 4 * 151 := Nat.mul_le_mul (by omega) (by omega)
    exact this.mono (by omega)
  have e := part_led C o
  have lF := told_len_eq (lOf f h) C.fF o
  have lh := told_len_eq h Dh.fr o
  have lf : (lPart f (lWorthAt h o)).length = n + 1 := by rw [lPart_eq Df.fr]; exact told_len_eq f Df.fr _
  have nF : trim (partAt (lOf f h) o) ≠ [] := by rw [partAt_eq]; exact told_trim_ne (part_ne C.fF o)
  have nh : trim (partAt h o) ≠ [] := by rw [partAt_eq]; exact told_trim_ne (part_ne Dh.fr o)
  have ne : trim (ledL (lPart f (lWorthAt h o)) h) ≠ [] := told_ne (by rw [← lLed_eq, ← e]; exact nF)
  have sp : St 1000 (lPart f (lWorthAt h o)) := by
    rw [lPart_eq Df.fr]
    have k : (n + 1) * (150 + 1) ≤ 4 * 151 := Nat.mul_le_mul (by omega) (by omega)
    exact (part_sz Df.fr Df.st pc).mono (by omega)
  have sP : St 1300 (partAt (lOf f h) o) := by
    have k : (n * m + 1) * (2 + 1) ≤ 10 * 3 := Nat.mul_le_mul (by omega) (by omega)
    exact (part_sz C.fF sF hp).mono (by omega)
  have sH : St 300 (partAt h o) := by
    have k : (m + 1) * (2 + 1) ≤ 4 * 3 := Nat.mul_le_mul (by omega) (by omega)
    exact (part_sz Dh.fr Dh.st hp).mono (by omega)
  obtain ⟨rA, rB, rC, rD, rE, rF⟩ := rest_eq C o
  have th := trim_le (partAt h o)
  have tF := trim_le (partAt (lOf f h) o)
  have qh := List.length_pos_iff.mpr nh
  have h0 := (trim_tr (partAt h o)).resolve_left nh
  have ql := (partsOf_spec (one := trim (partAt (lOf f h) o)) nh h0 (trim_tr _)).2.2.2
  have sq := sP.trim.quo sH.trim nh h0 (K := 10) (by omega)
  have sR : St 5000 (restIn (partAt h o) (partAt (lOf f h) o)) := by
    unfold restIn
    refine St.told (St.fill (sq.mono (by omega))) ?_
    unfold restIn at rC
    exact told_ne rC
  obtain ⟨e2, e3, le2, le3, M2, M3, M1⟩ := mult_comp C o
  have mF := lmade_ok C.fF sF (by omega) (by omega)
  have mh := lmade_ok Dh.fr Dh.st (by omega) (by omega)
  have mf := lmade_ok Df.fr Df.st (by omega) (by omega)
  have tOk : ToldOk (partAt (lOf f h) o) := told_ok sP (by omega) (ne_of_len lF) (by omega)
  refine ⟨mF, mh, mf, wat_ok Dh.fr Dh.st (by omega) (by omega) hp (by omega), wat_ok Df.fr Df.st (by omega) (by omega) pc (by omega), lfib_ok Df.fr Df.st (by omega) (by omega) pd (by omega), lled_ok lf Dh.fr sp Dh.st (by omega) h2 (by omega) (by omega) ne, by rw [← e]; omega,
    part_ok C.fF sF (by omega) (by omega) hp (by omega), part_ok Dh.fr Dh.st (by omega) (by omega) hp (by omega), form_ok (by omega) (by omega) nF, by rw [← e]; exact form_ok (by omega) (by omega) nF, tOk, by rw [← e]; exact tOk, by rw [← e],
    form_ok (by omega) (by omega) nh, ⟨by omega, by omega, div_ok sP.trim sH.trim nh h0 (by omega) (by omega) (by omega) (by omega), rA, by omega, sq.bq (by omega), by omega⟩, form_ok (by omega) (by omega) rC, by omega, prod_ok sH sR nh rC (by omega) (by omega) (by omega) (by omega), rF,
    e2 * e3, e2, e3, taken_ok C.fF sF (by omega) (by omega) hp (by omega) (mult_part C.fF M1), taken_ok Dh.fr Dh.st (by omega) (by omega) hp (by omega) (mult_part Dh.fr M2), taken_ok Df.fr Df.st (by omega) (by omega) pc (by omega) (mult_part Df.fr M3), rfl, by omega, by omega⟩
theorem all_ok : AllOk f h := by
  have h1 := Df.le
  have h2 := Dh.le
  exact ⟨lof_ok Df.fr Dh.fr Df.st Dh.st h1 h2 (by omega) (by omega), fun o ho => place_all Df Dh (e7_pl o ho), turn_all Df Dh, fun o ho => fib_all Df Dh (e7_pl o ho), put_ok Df.fr Dh.fr Df.st Dh.st h1 h2 (by omega) (by omega)⟩
end
theorem draw_all : DrawAll := ⟨fun p q hp hq => draws_ok hp hq, fun f h hf hh => by
  obtain ⟨n, Df⟩ := full_dr hf
  obtain ⟨m, Dh⟩ := full_dr hh
  exact all_ok Df Dh⟩
end Mt
set_option Elab.async false
set_option linter.all false
set_option maxRecDepth 100000
set_option maxHeartbeats 0
/-! F0: head and walk joined; what is left is DrawAll, a plain law. -/
namespace Wk
open PySem PySem.Spec PyProof.Rows L2 Ty Tx Mt
theorem modB_ok {K : PySem.W.Frag} (h : modB K = true) : ∃ bm ob, PySem.W.nsIn K mainGlobals "__builtins__" = some (some (.ref bm)) ∧ K.lookup bm = some ob ∧ ob.cls = .type "module" ∧ ob.dict = some builtinsNs := by
  unfold modB at h
  split at h
  · rename_i b e
    split at h
    · rename_i c d x y e2
      obtain ⟨h1, h2⟩ := He.ba h
      have h1 := of_decide_eq_true h1
      have h2 := of_decide_eq_true h2
      subst h1 h2
      exact ⟨b, _, e, e2, rfl, rfl⟩
    · cases h
  · cases h
theorem wf_of {P : Program} {w : World} {K : PySem.W.Frag} {mg : Str → Option Value} {base : Heap} (c : Fc K) (X : K.In base) (G : base.Ns mainGlobals mg) (ht : P.given.tree = none) : Wf P w K mg base where
  c := c
  mgl := fun i x h => He.glo_ok X G (c.fact i h)
  mfr := fun i x h => He.free_ok X G (c.fact i h)
  min := fun i x n h => He.int_ok X G (c.fact i h)
  mst := fun i x z h => He.str_ok X G (c.fact i h)
  gcd := PySem.W.mg_of X G (bIs_ok (c.x 0 rfl))
  lcm := PySem.W.mg_of X G (bIs_ok (c.x 1 rfl))
  seer := ⟨bIs_ok (c.x 2 rfl), bIs_ok (c.x 3 rfl), c.x 5 rfl, bIs_ok (c.x 4 rfl), modB_ok (c.x 6 rfl)⟩
  tree := ht
theorem ok_law {P : Program} {w : World} {K : PySem.W.Frag} {mg : Str → Option Value} {base : Heap} {fd : FuncData} (z : Wf P w K mg base) (F : FunD K "law" "law" (defArgs sLLaw) (defBody sLLaw) (defScope sLLaw) [] [] (plA K (.glo "law")) fd) :
    FnOk P w K mg base CX0 54 (plA K (.glo "law")) fd ["_law_script"] (spT (fun _ : List Int => DrawAll) (fun y => [tSq K y]) fun _ => tB true) := by
  refine fn_ty F sc_c_law (fun _ => rfl) fun cdv B outer s H E G y Hb hp => ?_
  exact bl_ret (ex_call (c_right z) G () (by decide) (exa_cons (ex_call (c_pot z) G y (by decide) (exa_cons (ex_v 0) (exa_cons ex_int exa_nil)) trivial) exa_nil) hp)
end Wk
open PySem PySem.W PySem.Calls PyProof.Rows
theorem holds_of (hall : Wk.DrawAll) : PySem.Challenge.rw_innerfractions_k48_whole_parts_of_what_i.Holds := by
  w_on; o_law
  refine HandSHeadRun.head_imp (r := OpenLaw.row PySem.Challenge.rw_innerfractions_k48_whole_parts_of_what_i) (q := Hd.qv) (H := Tx.hkK) (ob := Hd.ob) (M := 12000) (loose := Hd.names) (d := HandSHeadRun.topDef (OpenLaw.row PySem.Challenge.rw_innerfractions_k48_whole_parts_of_what_i).prog 138) (kwd := []) Hd.ob_eq Hd.run
    (by kernel_rfl) (by kernel_rfl) (by kernel_rfl) (by rfl) (by first | assumption | decide +kernel) (by decide +kernel) ⟨rfl, rfl, rfl, rfl, rfl, by decide +kernel⟩ ?hw ?hc
  case hw => w_witness2
  case hc =>
    refine L2.walk_ofE (l := PySem.Challenge.rw_innerfractions_k48_whole_parts_of_what_i) (n := 63) (k := 54) (x := "_law_script") (CX := L2.CX0) rfl (by decide) (by kernel_rfl) ⟨rfl, by decide, by decide⟩ ?F (fun _ _ _ _ z => z)
    intro w mg fa h Y G hmg0
    obtain ⟨K, KX, c⟩ := Y
    have hmg : mg ("law" : PySem.Str) = some (.ref fa) := by
      have e : (HandSHeadRun.topDef (OpenLaw.row PySem.Challenge.rw_innerfractions_k48_whole_parts_of_what_i).prog 138).name = ("law" : PySem.Str) := by kernel_rfl
      rw [← e]
      exact hmg0
    obtain ⟨fd, F⟩ := c.fLLaw
    have b := L2.FunD.bindsA (ps := ["_law_script"]) F fun _ _ _ _ _ _ us hl => match us, hl with | [_], _ => rfl
    have z0 : ∀ base : Heap, K.In base → base.Ns mainGlobals mg → Tx.Wf (PySem.Challenge.rw_innerfractions_k48_whole_parts_of_what_i).prog w K mg base := fun base kx g => Wk.wf_of c kx g (by kernel_rfl)
    refine ⟨K, fd, Ty.spT (fun _ : List Int => Wk.DrawAll) (fun y => [Ty.tSq K y]) (fun _ => Ty.tB true), KX, fun s v => b s [v] rfl, fun H a ns hl _ hS => ⟨ns, H, hall, L2.Ext.rfl', .cons ⟨a, rfl, hS⟩ .nil, fun v Hb' H' st e => e⟩, fun base kx g => ?_⟩
    have z := z0 base kx g
    have e := hmg.symm.trans z.g_law
    cases e
    exact Wk.ok_law z F
theorem PySem.Challenge.cw_innerfractions_k48_whole_parts_of_what_i_holds : PySem.Challenge.rw_innerfractions_k48_whole_parts_of_what_i.Holds := by
  exact holds_of Mt.draw_all
