import PyProof.Rows.All
import Wide.All
import OpenK.AllK
import Wide.FinOn
import KE.KStateDown
import Lean
import HandS.Head0
import HandS.Head1
import HandS.Head2
import HandS.HeadEnd
import HandS.HeadHook1
import HandS.HeadHook2
import HandS.HeadHook3
import HandS.HeadHook4
import HandS.ForMost
import HandS.ForExc
import HandS.Codes
import HandS.IsInst
import HandS.Defaults
import HandS.MakeKw
import HandS.ClsMeth
import HandS.ExcInit
import HandS.ExcField
import HandS.Deep
import HandS.Zip
import HandS.TupAny
import HandS.Star
import HandS.Strs
import HandS.SetKeys
import HandS.SetBool
import HandS.Conv
import HandS.Steps
import HandS.Evl
import HandS.Walk
import HandS.Style
import HandS.CallSlots
import KE.KDictKeyed
import PySem.Challenge.RW_truthwell_k82_whole_broken_at_the_first
import HandS.HeadNt
import KE.GoesEnum
import KE.GoesMore
import KE.GoesZip
import KE.DatumOrd
import KE.KeyNested
import KE.KDictLaws
import HandS.SetFor
import HandS.ExcOwn
import HandS.Small
set_option Elab.async false
set_option linter.all false
set_option maxRecDepth 100000
set_option maxHeartbeats 4000000
namespace TW
open PySem PySem.Spec PyProof.Rows L2
def top (i : Nat) : Stmt := PySem.Challenge.pw_truthwell_k82_whole_broken_at_the_first.main.body.getD i (.Pass ⟨0, 0, 0, 0⟩)
abbrev sIsInteger : Stmt := top 3
abbrev nIsInteger : List Str := ["value"]
abbrev pIsInteger : List Str := ["value"]
theorem scIsInteger : FnScope nIsInteger pIsInteger (defScope sIsInteger) := ⟨rfl, rfl, rfl, by decide +kernel, rfl, by decide +kernel, by decide +kernel⟩
abbrev sIsWithin : Stmt := top 4
abbrev nIsWithin : List Str := ["value", "least", "most"]
abbrev pIsWithin : List Str := ["value", "least", "most"]
theorem scIsWithin : FnScope nIsWithin pIsWithin (defScope sIsWithin) := ⟨rfl, rfl, rfl, by decide +kernel, rfl, by decide +kernel, by decide +kernel⟩
abbrev sIsList : Stmt := top 5
abbrev nIsList : List Str := ["value"]
abbrev pIsList : List Str := ["value"]
theorem scIsList : FnScope nIsList pIsList (defScope sIsList) := ⟨rfl, rfl, rfl, by decide +kernel, rfl, by decide +kernel, by decide +kernel⟩
abbrev sAreWithin : Stmt := top 6
abbrev nAreWithin : List Str := ["value", "least", "most", "one"]
abbrev pAreWithin : List Str := ["value", "least", "most"]
theorem scAreWithin : FnScope nAreWithin pAreWithin (defScope sAreWithin) := ⟨rfl, rfl, rfl, by decide +kernel, rfl, by decide +kernel, by decide +kernel⟩
abbrev sAreRows : Stmt := top 41
abbrev nAreRows : List Str := ["rows", "size", "line", "entry"]
abbrev pAreRows : List Str := ["rows", "size"]
theorem scAreRows : FnScope nAreRows pAreRows (defScope sAreRows) := ⟨rfl, rfl, rfl, by decide +kernel, rfl, by decide +kernel, by decide +kernel⟩
abbrev sNeedLive : Stmt := top 42
abbrev nNeedLive : List Str := ["answerers", "heaps", "rows", "stand", "line", "who", "true", "begin", "entry"]
abbrev pNeedLive : List Str := ["answerers", "heaps", "rows"]
theorem scNeedLive : FnScope nNeedLive pNeedLive (defScope sNeedLive) := ⟨rfl, rfl, rfl, by decide +kernel, rfl, by decide +kernel, by decide +kernel⟩
abbrev sIsEvenLine : Stmt := top 43
abbrev nIsEvenLine : List Str := ["line", "answerers", "heaps", "sides", "place", "entry", "is_truth"]
abbrev pIsEvenLine : List Str := ["line", "answerers", "heaps"]
theorem scIsEvenLine : FnScope nIsEvenLine pIsEvenLine (defScope sIsEvenLine) := ⟨rfl, rfl, rfl, by decide +kernel, rfl, by decide +kernel, by decide +kernel⟩
abbrev sNextOf : Stmt := top 46
abbrev nNextOf : List Str := ["rule", "stand", "who", "true", "told"]
abbrev pNextOf : List Str := ["rule", "stand", "who", "true", "told"]
theorem scNextOf : FnScope nNextOf pNextOf (defScope sNextOf) := ⟨rfl, rfl, rfl, by decide +kernel, rfl, by decide +kernel, by decide +kernel⟩
abbrev sNeedSizes : Stmt := top 47
abbrev nNeedSizes : List Str := ["answerers", "heaps"]
abbrev pNeedSizes : List Str := ["answerers", "heaps"]
theorem scNeedSizes : FnScope nNeedSizes pNeedSizes (defScope sNeedSizes) := ⟨rfl, rfl, rfl, by decide +kernel, rfl, by decide +kernel, by decide +kernel⟩
abbrev sNeedNumber : Stmt := top 64
abbrev nNeedNumber : List Str := ["value", "least", "most", "part"]
abbrev pNeedNumber : List Str := ["value", "least", "most", "part"]
theorem scNeedNumber : FnScope nNeedNumber pNeedNumber (defScope sNeedNumber) := ⟨rfl, rfl, rfl, by decide +kernel, rfl, by decide +kernel, by decide +kernel⟩
abbrev sIsFitting : Stmt := top 65
abbrev nIsFitting : List Str := ["question", "things", "answerers", "heaps"]
abbrev pIsFitting : List Str := ["question", "things", "answerers", "heaps"]
theorem scIsFitting : FnScope nIsFitting pIsFitting (defScope sIsFitting) := ⟨rfl, rfl, rfl, by decide +kernel, rfl, by decide +kernel, by decide +kernel⟩
abbrev sFirstAgain : Stmt := top 66
abbrev nFirstAgain : List Str := ["questions", "seen", "number", "question"]
abbrev pFirstAgain : List Str := ["questions"]
theorem scFirstAgain : FnScope nFirstAgain pFirstAgain (defScope sFirstAgain) := ⟨rfl, rfl, rfl, by decide +kernel, rfl, by decide +kernel, by decide +kernel⟩
abbrev sNumbered : Stmt := top 72
abbrev nNumbered : List Str := ["classes", "numbers", "one"]
abbrev pNumbered : List Str := ["classes"]
theorem scNumbered : FnScope nNumbered pNumbered (defScope sNumbered) := ⟨rfl, rfl, rfl, by decide +kernel, rfl, by decide +kernel, by decide +kernel⟩
abbrev sMetBy : Stmt := top 73
abbrev nMetBy : List Str := ["wish", "some", "thing"]
abbrev pMetBy : List Str := ["wish", "some"]
theorem scMetBy : FnScope nMetBy pMetBy (defScope sMetBy) := ⟨rfl, rfl, rfl, by decide +kernel, rfl, by decide +kernel, by decide +kernel⟩
abbrev sNeedLike : Stmt := top 78
abbrev nNeedLike : List Str := ["stock", "rule", "wish"]
abbrev pNeedLike : List Str := ["stock", "rule", "wish"]
theorem scNeedLike : FnScope nNeedLike pNeedLike (defScope sNeedLike) := ⟨rfl, rfl, rfl, by decide +kernel, rfl, by decide +kernel, by decide +kernel⟩
abbrev sNeedLog : Stmt := top 82
abbrev nNeedLog : List Str := ["case", "numbers", "heard", "number", "told"]
abbrev pNeedLog : List Str := ["case", "numbers", "heard"]
theorem scNeedLog : FnScope nNeedLog pNeedLog (defScope sNeedLog) := ⟨rfl, rfl, rfl, by decide +kernel, rfl, by decide +kernel, by decide +kernel⟩
abbrev sHeapsFor : Stmt := top 83
abbrev nHeapsFor : List Str := ["case", "told"]
abbrev pHeapsFor : List Str := ["case", "told"]
theorem scHeapsFor : FnScope nHeapsFor pHeapsFor (defScope sHeapsFor) := ⟨rfl, rfl, rfl, by decide +kernel, rfl, by decide +kernel, by decide +kernel⟩
abbrev sStandsBehind : Stmt := top 84
abbrev nStandsBehind : List Str := ["case", "number", "told", "thing", "stands", "question", "found", "stand", "heap", "later"]
abbrev pStandsBehind : List Str := ["case", "number", "told", "thing", "stands"]
theorem scStandsBehind : FnScope nStandsBehind pStandsBehind (defScope sStandsBehind) := ⟨rfl, rfl, rfl, by decide +kernel, rfl, by decide +kernel, by decide +kernel⟩
abbrev sStandsOf : Stmt := top 85
abbrev nStandsOf : List Str := ["case", "numbers", "heard", "found", "number", "told", "stand", "thing", "stands"]
abbrev pStandsOf : List Str := ["case", "numbers", "heard"]
theorem scStandsOf : FnScope nStandsOf pStandsOf (defScope sStandsOf) := ⟨rfl, rfl, rfl, by decide +kernel, rfl, by decide +kernel, by decide +kernel⟩
abbrev sOpenOnes : Stmt := top 86
abbrev nOpenOnes : List Str := ["stands", "thing", "some"]
abbrev pOpenOnes : List Str := ["stands"]
theorem scOpenOnes : FnScope nOpenOnes pOpenOnes (defScope sOpenOnes) := ⟨rfl, rfl, rfl, by decide +kernel, rfl, by decide +kernel, by decide +kernel⟩
abbrev sStandsLeft : Stmt := top 87
abbrev nStandsLeft : List Str := ["case", "numbers", "heard"]
abbrev pStandsLeft : List Str := ["case", "numbers", "heard"]
theorem scStandsLeft : FnScope nStandsLeft pStandsLeft (defScope sStandsLeft) := ⟨rfl, rfl, rfl, by decide +kernel, rfl, by decide +kernel, by decide +kernel⟩
abbrev sIsBroken : Stmt := top 88
abbrev nIsBroken : List Str := ["case", "numbers", "heard"]
abbrev pIsBroken : List Str := ["case", "numbers", "heard"]
theorem scIsBroken : FnScope nIsBroken pIsBroken (defScope sIsBroken) := ⟨rfl, rfl, rfl, by decide +kernel, rfl, by decide +kernel, by decide +kernel⟩
abbrev sPlaceIn : Stmt := top 92
abbrev nPlaceIn : List Str := ["asked", "asking", "place", "pair"]
abbrev pPlaceIn : List Str := ["asked", "asking"]
theorem scPlaceIn : FnScope nPlaceIn pPlaceIn (defScope sPlaceIn) := ⟨rfl, rfl, rfl, by decide +kernel, rfl, by decide +kernel, by decide +kernel⟩
abbrev sSureOf : Stmt := top 93
abbrev nSureOf : List Str := ["case", "some"]
abbrev pSureOf : List Str := ["case", "some"]
theorem scSureOf : FnScope nSureOf pSureOf (defScope sSureOf) := ⟨rfl, rfl, rfl, by decide +kernel, rfl, by decide +kernel, by decide +kernel⟩
abbrev sLawPot : Stmt := top 97
abbrev nLawPot : List Str := ["_law_script", "_law_cell"]
abbrev pLawPot : List Str := ["_law_script"]
theorem scLawPot : FnScope nLawPot pLawPot (defScope sLawPot) := ⟨rfl, rfl, rfl, by decide +kernel, rfl, by decide +kernel, by decide +kernel⟩
abbrev sLawDip : Stmt := top 98
abbrev nLawDip : List Str := ["_law_pot_here", "_law_many", "_law_turn", "_law_cell", "_law_mixed", "_law_rest"]
abbrev pLawDip : List Str := ["_law_pot_here", "_law_many"]
theorem scLawDip : FnScope nLawDip pLawDip (defScope sLawDip) := ⟨rfl, rfl, rfl, by decide +kernel, rfl, by decide +kernel, by decide +kernel⟩
abbrev sLawOut : Stmt := top 99
abbrev nLawOut : List Str := ["_law_pot_here", "_law_some"]
abbrev pLawOut : List Str := ["_law_pot_here", "_law_some"]
theorem scLawOut : FnScope nLawOut pLawOut (defScope sLawOut) := ⟨rfl, rfl, rfl, by decide +kernel, rfl, by decide +kernel, by decide +kernel⟩
abbrev sLawSpots : Stmt := top 100
abbrev nLawSpots : List Str := ["_law_answerers", "_law_heaps", "_law_found", "_law_who", "_law_true", "_law_told"]
abbrev pLawSpots : List Str := ["_law_answerers", "_law_heaps"]
theorem scLawSpots : FnScope nLawSpots pLawSpots (defScope sLawSpots) := ⟨rfl, rfl, rfl, by decide +kernel, rfl, by decide +kernel, by decide +kernel⟩
abbrev sLawAnyRow : Stmt := top 101
abbrev nLawAnyRow : List Str := ["_law_pot_here", "_law_stands_here", "_law_spots_here", "_law_heaps", "_law_found", "_law_who", "_law_true", "_law_told", "_law_pick", "_law_one"]
abbrev pLawAnyRow : List Str := ["_law_pot_here", "_law_stands_here", "_law_spots_here", "_law_heaps"]
theorem scLawAnyRow : FnScope nLawAnyRow pLawAnyRow (defScope sLawAnyRow) := ⟨rfl, rfl, rfl, by decide +kernel, rfl, by decide +kernel, by decide +kernel⟩
abbrev sLawRows : Stmt := top 102
abbrev nLawRows : List Str := ["_law_pot_here", "_law_answerers", "_law_heaps", "_law_spots_here", "_law_shapes", "_law_way", "_law_found", "_law_stands_here", "_law_turn", "_law_truth", "_law_lie", "_law_spot"]
abbrev pLawRows : List Str := ["_law_pot_here", "_law_answerers", "_law_heaps"]
theorem scLawRows : FnScope nLawRows pLawRows (defScope sLawRows) := ⟨rfl, rfl, rfl, by decide +kernel, rfl, by decide +kernel, by decide +kernel⟩
abbrev sLawPlain : Stmt := top 103
abbrev nLawPlain : List Str := ["_law_pot_here", "_law_things", "_law_answerers", "_law_heaps", "_law_questions", "_law_turn", "_law_rows_here", "_law_alike", "_law_firsts", "_law_way", "_law_classes", "_law_most", "_law_sizes", "_law_one", "_law_thing"]
abbrev pLawPlain : List Str := ["_law_pot_here"]
theorem scLawPlain : FnScope nLawPlain pLawPlain (defScope sLawPlain) := ⟨rfl, rfl, rfl, by decide +kernel, rfl, by decide +kernel, by decide +kernel⟩
abbrev sLawCase : Stmt := top 104
abbrev nLawCase : List Str := ["_law_plain_here", "_law_questions", "_law_stock", "_law_wish", "_law_who", "_law_line"]
abbrev pLawCase : List Str := ["_law_plain_here"]
theorem scLawCase : FnScope nLawCase pLawCase (defScope sLawCase) := ⟨rfl, rfl, rfl, by decide +kernel, rfl, by decide +kernel, by decide +kernel⟩
abbrev sLawNext : Stmt := top 105
abbrev nLawNext : List Str := ["_law_plain_here", "_law_stand", "_law_who", "_law_true", "_law_told"]
abbrev pLawNext : List Str := ["_law_plain_here", "_law_stand", "_law_who", "_law_true", "_law_told"]
theorem scLawNext : FnScope nLawNext pLawNext (defScope sLawNext) := ⟨rfl, rfl, rfl, by decide +kernel, rfl, by decide +kernel, by decide +kernel⟩
abbrev sLawAnswers : Stmt := top 106
abbrev nLawAnswers : List Str := ["_law_plain_here", "_law_heard", "_law_found", "_law_told", "_law_longer", "_law_row", "_law_heap"]
abbrev pLawAnswers : List Str := ["_law_plain_here", "_law_heard"]
theorem scLawAnswers : FnScope nLawAnswers pLawAnswers (defScope sLawAnswers) := ⟨rfl, rfl, rfl, by decide +kernel, rfl, by decide +kernel, by decide +kernel⟩
abbrev sLawEnd : Stmt := top 107
abbrev nLawEnd : List Str := ["_law_plain_here", "_law_thing", "_law_numbers", "_law_answers_here", "_law_stand", "_law_number", "_law_told", "_law_who", "_law_line"]
abbrev pLawEnd : List Str := ["_law_plain_here", "_law_thing", "_law_numbers", "_law_answers_here"]
theorem scLawEnd : FnScope nLawEnd pLawEnd (defScope sLawEnd) := ⟨rfl, rfl, rfl, by decide +kernel, rfl, by decide +kernel, by decide +kernel⟩
abbrev sLawStands : Stmt := top 108
abbrev nLawStands : List Str := ["_law_plain_here", "_law_numbers", "_law_heard", "_law_rows_here", "_law_found", "_law_thing", "_law_ends", "_law_row", "_law_end_here"]
abbrev pLawStands : List Str := ["_law_plain_here", "_law_numbers", "_law_heard"]
theorem scLawStands : FnScope nLawStands pLawStands (defScope sLawStands) := ⟨rfl, rfl, rfl, by decide +kernel, rfl, by decide +kernel, by decide +kernel⟩
abbrev sLawOpen : Stmt := top 109
abbrev nLawOpen : List Str := ["_law_stands_here", "_law_thing"]
abbrev pLawOpen : List Str := ["_law_stands_here"]
theorem scLawOpen : FnScope nLawOpen pLawOpen (defScope sLawOpen) := ⟨rfl, rfl, rfl, by decide +kernel, rfl, by decide +kernel, by decide +kernel⟩
abbrev sLawIsRefused : Stmt := top 110
abbrev nLawIsRefused : List Str := ["_law_evening", "_law_asking", "_law_told", "error"]
abbrev pLawIsRefused : List Str := ["_law_evening", "_law_asking", "_law_told"]
theorem scLawIsRefused : FnScope nLawIsRefused pLawIsRefused (defScope sLawIsRefused) := ⟨rfl, rfl, rfl, by decide +kernel, rfl, by decide +kernel, by decide +kernel⟩
abbrev sLawOrder : Stmt := top 111
abbrev nLawOrder : List Str := ["_law_pot_here", "_law_many", "_law_left", "_law_found", "_law_turn"]
abbrev pLawOrder : List Str := ["_law_pot_here", "_law_many"]
theorem scLawOrder : FnScope nLawOrder pLawOrder (defScope sLawOrder) := ⟨rfl, rfl, rfl, by decide +kernel, rfl, by decide +kernel, by decide +kernel⟩
abbrev sLawAsked : Stmt := top 112
abbrev nLawAsked : List Str := ["_law_plain_here", "_law_numbers", "_law_evening", "_law_number"]
abbrev pLawAsked : List Str := ["_law_plain_here", "_law_numbers"]
theorem scLawAsked : FnScope nLawAsked pLawAsked (defScope sLawAsked) := ⟨rfl, rfl, rfl, by decide +kernel, rfl, by decide +kernel, by decide +kernel⟩
abbrev sLawHearingRight : Stmt := top 113
abbrev nLawHearingRight : List Str := ["_law_plain_here", "_law_numbers", "_law_answers_here", "_law_order_here", "_law_evening", "_law_heard", "_law_refused", "_law_place", "_law_later", "_law_stands_here", "_law_found"]
abbrev pLawHearingRight : List Str := ["_law_plain_here", "_law_numbers", "_law_answers_here", "_law_order_here"]
theorem scLawHearingRight : FnScope nLawHearingRight pLawHearingRight (defScope sLawHearingRight) := ⟨rfl, rfl, rfl, by decide +kernel, rfl, by decide +kernel, by decide +kernel⟩
abbrev sLawOneByOneRight : Stmt := top 114
abbrev nLawOneByOneRight : List Str := ["_law_plain_here", "_law_numbers", "_law_answers_here", "_law_case_here", "_law_evening", "_law_place", "_law_number", "_law_asking", "_law_cut", "_law_due"]
abbrev pLawOneByOneRight : List Str := ["_law_plain_here", "_law_numbers", "_law_answers_here"]
theorem scLawOneByOneRight : FnScope nLawOneByOneRight pLawOneByOneRight (defScope sLawOneByOneRight) := ⟨rfl, rfl, rfl, by decide +kernel, rfl, by decide +kernel, by decide +kernel⟩
abbrev sLaw : Stmt := top 115
abbrev nLaw : List Str := ["_law_script", "_law_pot_here", "_law_plain_here", "_law_many", "_law_numbers", "_law_answers_here", "_law_first", "_law_second", "_law_third", "_law_turn", "_law_one"]
abbrev pLaw : List Str := ["_law_script"]
theorem scLaw : FnScope nLaw pLaw (defScope sLaw) := ⟨rfl, rfl, rfl, by decide +kernel, rfl, by decide +kernel, by decide +kernel⟩
abbrev sRuleInit : Stmt := inClass (top 44) 1
abbrev nRuleInit : List Str := ["self", "answerers", "heaps", "rows", "line"]
abbrev pRuleInit : List Str := ["self", "answerers", "heaps", "rows"]
theorem scRuleInit : FnScope nRuleInit pRuleInit (defScope sRuleInit) := ⟨rfl, rfl, rfl, by decide +kernel, rfl, by decide +kernel, by decide +kernel⟩
abbrev sRuleLen : Stmt := inClass (top 44) 5
abbrev nRuleLen : List Str := ["self"]
abbrev pRuleLen : List Str := ["self"]
theorem scRuleLen : FnScope nRuleLen pRuleLen (defScope sRuleLen) := ⟨rfl, rfl, rfl, by decide +kernel, rfl, by decide +kernel, by decide +kernel⟩
abbrev sQuestionInit : Stmt := inClass (top 58) 0
abbrev nQuestionInit : List Str := ["self", "who", "heaps", "heap"]
abbrev pQuestionInit : List Str := ["self", "who", "heaps"]
theorem scQuestionInit : FnScope nQuestionInit pQuestionInit (defScope sQuestionInit) := ⟨rfl, rfl, rfl, by decide +kernel, rfl, by decide +kernel, by decide +kernel⟩
abbrev sStockInit : Stmt := inClass (top 68) 1
abbrev nStockInit : List Str := ["self", "things", "answerers", "heaps", "questions", "again", "one"]
abbrev pStockInit : List Str := ["self", "things", "answerers", "heaps", "questions"]
theorem scStockInit : FnScope nStockInit pStockInit (defScope sStockInit) := ⟨rfl, rfl, rfl, by decide +kernel, rfl, by decide +kernel, by decide +kernel⟩
abbrev sWishInit : Stmt := inClass (top 75) 0
abbrev nWishInit : List Str := ["self", "classes", "most"]
abbrev pWishInit : List Str := ["self", "classes", "most"]
theorem scWishInit : FnScope nWishInit pWishInit (defScope sWishInit) := ⟨rfl, rfl, rfl, by decide +kernel, rfl, by decide +kernel, by decide +kernel⟩
abbrev sWishOf : Stmt := inClass (top 75) 1
abbrev nWishOf : List Str := ["classes"]
abbrev pWishOf : List Str := ["classes"]
theorem scWishOf : FnScope nWishOf pWishOf (defScope sWishOf) := ⟨rfl, rfl, rfl, by decide +kernel, rfl, by decide +kernel, by decide +kernel⟩
abbrev sWishLeft : Stmt := inClass (top 75) 3
abbrev nWishLeft : List Str := ["most"]
abbrev pWishLeft : List Str := ["most"]
theorem scWishLeft : FnScope nWishLeft pWishLeft (defScope sWishLeft) := ⟨rfl, rfl, rfl, by decide +kernel, rfl, by decide +kernel, by decide +kernel⟩
abbrev sCaseInit : Stmt := inClass (top 80) 0
abbrev nCaseInit : List Str := ["self", "stock", "rule", "firsts", "wish", "stand"]
abbrev pCaseInit : List Str := ["self", "stock", "rule", "firsts", "wish"]
theorem scCaseInit : FnScope nCaseInit pCaseInit (defScope sCaseInit) := ⟨rfl, rfl, rfl, by decide +kernel, rfl, by decide +kernel, by decide +kernel⟩
abbrev sStandingInit : Stmt := inClass (top 94) 0
abbrev nStandingInit : List Str := ["self", "case", "story", "given", "asked", "tolds", "pairs", "pair", "told"]
abbrev pStandingInit : List Str := ["self", "case", "story", "given", "asked", "tolds"]
theorem scStandingInit : FnScope nStandingInit pStandingInit (defScope sStandingInit) := ⟨rfl, rfl, rfl, by decide +kernel, rfl, by decide +kernel, by decide +kernel⟩
abbrev sEveningInit : Stmt := inClass (top 95) 0
abbrev nEveningInit : List Str := ["self", "case"]
abbrev pEveningInit : List Str := ["self", "case"]
theorem scEveningInit : FnScope nEveningInit pEveningInit (defScope sEveningInit) := ⟨rfl, rfl, rfl, by decide +kernel, rfl, by decide +kernel, by decide +kernel⟩
abbrev sEveningStand : Stmt := inClass (top 95) 1
abbrev nEveningStand : List Str := ["self", "now"]
abbrev pEveningStand : List Str := ["self", "now"]
theorem scEveningStand : FnScope nEveningStand pEveningStand (defScope sEveningStand) := ⟨rfl, rfl, rfl, by decide +kernel, rfl, by decide +kernel, by decide +kernel⟩
abbrev sEveningEnter : Stmt := inClass (top 95) 2
abbrev nEveningEnter : List Str := ["self", "deed", "given", "asked", "tolds", "later"]
abbrev pEveningEnter : List Str := ["self", "deed", "given", "asked", "tolds"]
theorem scEveningEnter : FnScope nEveningEnter pEveningEnter (defScope sEveningEnter) := ⟨rfl, rfl, rfl, by decide +kernel, rfl, by decide +kernel, by decide +kernel⟩
abbrev sEveningAsk : Stmt := inClass (top 95) 3
abbrev nEveningAsk : List Str := ["self", "number", "asking"]
abbrev pEveningAsk : List Str := ["self", "number"]
theorem scEveningAsk : FnScope nEveningAsk pEveningAsk (defScope sEveningAsk) := ⟨rfl, rfl, rfl, by decide +kernel, rfl, by decide +kernel, by decide +kernel⟩
abbrev sEveningHear : Stmt := inClass (top 95) 4
abbrev nEveningHear : List Str := ["self", "asking", "told", "place", "tolds"]
abbrev pEveningHear : List Str := ["self", "asking", "told"]
theorem scEveningHear : FnScope nEveningHear pEveningHear (defScope sEveningHear) := ⟨rfl, rfl, rfl, by decide +kernel, rfl, by decide +kernel, by decide +kernel⟩
abbrev sBrokenInit : Stmt := inClass (top 29) 0
abbrev nBrokenInit : List Str := ["self", "asking"]
abbrev pBrokenInit : List Str := ["self", "asking"]
theorem scBrokenInit : FnScope nBrokenInit pBrokenInit (defScope sBrokenInit) := ⟨rfl, rfl, rfl, by decide +kernel, rfl, by decide +kernel, by decide +kernel⟩
/-! ### data in the heap -/
mutual
/-- the value v stands for the data d: lists and tuples are tracked -/
inductive Rp (H : Hp) : V → PyData → Prop
  | non : Rp H .non .none
  | bl (b : Bool) : Rp H (.bl b) (.bool b)
  | int (i : Int) : Rp H (.int i) (.int i)
  | str (x : Str) : Rp H (.str x) (.str x)
  | lst {a : Addr} {xs : List V} {ds : List PyData} : H a = some (.lst xs) → RpA H xs ds → Rp H (.ref a) (.list ds)
  | tup {a : Addr} {xs : List V} {ds : List PyData} : H a = some (.tup xs) → RpA H xs ds → Rp H (.ref a) (.tuple ds)
inductive RpA (H : Hp) : List V → List PyData → Prop
  | nil : RpA H [] []
  | cons {v : V} {vs : List V} {d : PyData} {ds : List PyData} : Rp H v d → RpA H vs ds → RpA H (v :: vs) (d :: ds)
end
section
variable {K : PySem.W.Frag} {H H' : Hp}
mutual
theorem Rp.mono (e : Same H H') : ∀ (d : PyData) (v : V), Rp H v d → Rp H' v d
  | .none, _, h => by
    cases h
    exact .non
  | .bool b, _, h => by
    cases h
    exact .bl b
  | .int i, _, h => by
    cases h
    exact .int i
  | .str x, _, h => by
    cases h
    exact .str x
  | .list ds, _, h => by
    cases h with
    | lst h1 h2 => exact .lst (e _ _ h1) (RpA.mono e ds _ h2)
  | .tuple ds, _, h => by
    cases h with
    | tup h1 h2 => exact .tup (e _ _ h1) (RpA.mono e ds _ h2)
  | .dict _, _, h => by cases h
theorem RpA.mono (e : Same H H') : ∀ (ds : List PyData) (vs : List V), RpA H vs ds → RpA H' vs ds
  | [], _, h => by
    cases h
    exact .nil
  | d :: ds, _, h => by
    cases h with
    | cons h1 h2 => exact .cons (Rp.mono e d _ h1) (RpA.mono e ds _ h2)
end
theorem Rp.up {v : V} {d : PyData} (h : Rp H v d) (e : Same H H') : Rp H' v d := Rp.mono e d v h
theorem RpA.up {vs : List V} {ds : List PyData} (h : RpA H vs ds) (e : Same H H') : RpA H' vs ds := RpA.mono e ds vs h
mutual
theorem Rp.dp0 : ∀ (d : PyData) (v : V), Rp H v d → Dp K H v d
  | .none, _, h => by
    cases h
    exact .non
  | .bool b, _, h => by
    cases h
    exact .bl b
  | .int i, _, h => by
    cases h
    exact .int i
  | .str x, _, h => by
    cases h
    exact .str x
  | .list ds, _, h => by
    cases h with
    | lst h1 h2 => exact .lst (SqL.of h1) (RpA.dp0 ds _ h2)
  | .tuple ds, _, h => by
    cases h with
    | tup h1 h2 => exact .tup (SqT.of h1) (RpA.dp0 ds _ h2)
  | .dict _, _, h => by cases h
theorem RpA.dp0 : ∀ (ds : List PyData) (vs : List V), RpA H vs ds → DpAll K H vs ds
  | [], _, h => by
    cases h
    exact .nil
  | d :: ds, _, h => by
    cases h with
    | cons h1 h2 => exact .cons (Rp.dp0 d _ h1) (RpA.dp0 ds _ h2)
end
theorem Rp.dp {v : V} {d : PyData} (h : Rp H v d) : Dp K H v d := Rp.dp0 d v h
theorem Rp.none_inv {v : V} (h : Rp H v .none) : v = .non := by
  cases h
  rfl
theorem Rp.bool_inv {v : V} {b : Bool} (h : Rp H v (.bool b)) : v = .bl b := by
  cases h
  rfl
theorem Rp.int_inv {v : V} {i : Int} (h : Rp H v (.int i)) : v = .int i := by
  cases h
  rfl
theorem Rp.lst_inv {v : V} {ds : List PyData} (h : Rp H v (.list ds)) : ∃ a xs, v = .ref a ∧ H a = some (.lst xs) ∧ RpA H xs ds := by
  cases h with
  | lst h1 h2 => exact ⟨_, _, rfl, h1, h2⟩
theorem Rp.tup_inv {v : V} {ds : List PyData} (h : Rp H v (.tuple ds)) : ∃ a xs, v = .ref a ∧ H a = some (.tup xs) ∧ RpA H xs ds := by
  cases h with
  | tup h1 h2 => exact ⟨_, _, rfl, h1, h2⟩
theorem RpA.nil_inv {vs : List V} (h : RpA H vs []) : vs = [] := by
  cases h
  rfl
theorem RpA.cons_inv {vs : List V} {d : PyData} {ds : List PyData} (h : RpA H vs (d :: ds)) : ∃ v r, vs = v :: r ∧ Rp H v d ∧ RpA H r ds := by
  cases h with
  | cons h1 h2 => exact ⟨_, _, rfl, h1, h2⟩
theorem RpA.len : ∀ {vs : List V} {ds : List PyData}, RpA H vs ds → vs.length = ds.length
  | _, _, .nil => rfl
  | _, _, .cons _ t => congrArg Nat.succ t.len
theorem RpA.get : ∀ {vs : List V} {ds : List PyData} {i : Nat} {d : PyData}, RpA H vs ds → ds[i]? = some d → ∃ v, vs[i]? = some v ∧ Rp H v d
  | _, _, i, d, .nil, e => by simp at e
  | _, _, 0, d, .cons h _, e => by
    simp at e
    subst e
    exact ⟨_, rfl, h⟩
  | _, _, i + 1, d, .cons _ t, e => by
    obtain ⟨v, h1, h2⟩ := t.get (i := i) (d := d) (by simpa using e)
    exact ⟨v, by simpa using h1, h2⟩
theorem RpA.get' : ∀ {vs : List V} {ds : List PyData} {i : Nat} {v : V}, RpA H vs ds → vs[i]? = some v → ∃ d, ds[i]? = some d ∧ Rp H v d
  | _, _, i, v, .nil, e => by simp at e
  | _, _, 0, v, .cons h _, e => by
    simp at e
    subst e
    exact ⟨_, rfl, h⟩
  | _, _, i + 1, v, .cons _ t, e => by
    obtain ⟨d, h1, h2⟩ := t.get' (i := i) (v := v) (by simpa using e)
    exact ⟨d, by simpa using h1, h2⟩
theorem RpA.app : ∀ {vs ws : List V} {ds es : List PyData}, RpA H vs ds → RpA H ws es → RpA H (vs ++ ws) (ds ++ es)
  | _, _, _, _, .nil, t => t
  | _, _, _, _, .cons h r, t => .cons h (r.app t)
theorem RpA.snoc {vs : List V} {ds : List PyData} {v : V} {d : PyData} (h : RpA H vs ds) (r : Rp H v d) : RpA H (vs ++ [v]) (ds ++ [d]) := h.app (.cons r .nil)
theorem RpA.take : ∀ {vs : List V} {ds : List PyData} (n : Nat), RpA H vs ds → RpA H (vs.take n) (ds.take n)
  | _, _, 0, _ => .nil
  | _, _, _ + 1, .nil => .nil
  | _, _, n + 1, .cons r t => .cons r (t.take n)
theorem RpA.drop : ∀ {vs : List V} {ds : List PyData} (n : Nat), RpA H vs ds → RpA H (vs.drop n) (ds.drop n)
  | _, _, 0, r => r
  | _, _, _ + 1, .nil => .nil
  | _, _, n + 1, .cons _ t => t.drop n
theorem RpA.set : ∀ {vs : List V} {ds : List PyData} {v : V} {d : PyData} (n : Nat), RpA H vs ds → Rp H v d → RpA H (vs.set n v) (ds.set n d)
  | _, _, _, _, _, .nil, _ => .nil
  | _, _, _, _, 0, .cons _ t, r => .cons r t
  | _, _, _, _, n + 1, .cons q t, r => .cons q (t.set n r)
/-- ints as data -/
def dI (ns : List Int) : List PyData := ns.map PyData.int
theorem RpA.ints : ∀ (ns : List Int), RpA H (ns.map V.int) (dI ns)
  | [] => .nil
  | n :: ns => .cons (.int n) (RpA.ints ns)
theorem RpA.ints_inv : ∀ {ns : List Int} {vs : List V}, RpA H vs (dI ns) → vs = ns.map V.int
  | [], _, h => h.nil_inv
  | n :: ns, vs, h => by
    obtain ⟨v, r, rfl, h1, h2⟩ := RpA.cons_inv (d := .int n) (ds := dI ns) h
    rw [h1.int_inv, RpA.ints_inv h2]
    rfl
theorem Same.new {p : Addr} {o : HO} (h : H p = none) : Same H (upd H p o) := fun b u e => by
  rw [upd_ne (ne_of_none e h)]
  exact e
/-- an address that the ground does not know may change -/
theorem Same.mut {p : Addr} {o : HO} (e : Same H H') (h : H p = none) : Same H (upd H' p o) := fun b u q => by
  rw [upd_ne (ne_of_none q h)]
  exact e b u q
theorem Same.newT {p : Addr} {o : HO} (e : Same H H') (h : H' p = none) : Same H (upd H' p o) := e.trans (Same.new h)
/-- the ground grows with the heap -/
theorem Same.both {p : Addr} {o : HO} (e : Same H H') : Same (upd H p o) (upd H' p o) := fun b u q => by
  by_cases hb : b = p
  · subst hb
    rw [upd_same] at q ⊢
    exact q
  · rw [upd_ne hb] at q ⊢
    exact e b u q
end
/-! ### readings by name -/
abbrev qAdd : R2 := rI0 fun i j => .int (i + j)
abbrev qSub : R2 := rI0 fun i j => .int (i - j)
abbrev qMul : R2 := rI CMul fun i j => .int (i * j)
abbrev qDiv : R2 := rI CDiv fun i j => .int (i / j)
abbrev qMod : R2 := rI (fun _ j => 0 < j) fun i j => .int (i % j)
abbrev qPow : R2 := rI CPow fun i j => .int (i ^ j.toNat)
abbrev qLt : R2 := rI0 fun i j => .bl (decide (i < j))
abbrev qLe : R2 := rI0 fun i j => .bl (decide (i ≤ j))
abbrev qGt : R2 := rI0 fun i j => .bl (decide (j < i))
abbrev qGe : R2 := rI0 fun i j => .bl (decide (j ≤ i))
def qTupS (K : PySem.W.Frag) : List V → Hp → VK → Prop := fun xs H Q => ∃ p ys, xs = [.ref p] ∧ ((SqL K H p ys ∧ ∀ l, H l = none → Q (.ref l) (upd H l (.tup ys))) ∨ (SqT K H p ys ∧ Q (.ref p) H))
def qInt1 : List V → Hp → VK → Prop := fun xs H Q => (∃ i, xs = [.int i] ∧ Q (.int i) H) ∨ ∃ k, xs = [.bl k] ∧ Q (.int (if k then 1 else 0)) H
def qAbs : List V → Hp → VK → Prop := fun xs H Q => ∃ i, xs = [.int i] ∧ Q (.int (if i < 0 then -i else i)) H
def rIsC (C : Addr) : List V → Hp → VK → Prop := fun xs H Q => ∃ a dx fs, xs = [.ref a, .ref C] ∧ H a = some (.ins C dx fs) ∧ Q (.bl true) H
/-! ### what the top has written -/
/-- where the classes and Broken stand -/
structure Adr where
  Rule : Addr
  Question : Addr
  Stock : Addr
  Wish : Addr
  Case : Addr
  Standing : Addr
  Evening : Addr
  Broken : Addr
/-- a def of the text, found by its name -/
structure Df (K : PySem.W.Frag) (mg : Str → Option Value) (x : Str) (st : Stmt) : Prop where
  ex : ∃ f fd, FunD K x x (defArgs st) (defBody st) (defScope st) [] [] f fd ∧ mg x = some (.ref f)
/-- a method -/
structure Mt (K : PySem.W.Frag) (C : Addr) (m q : Str) (st : Stmt) : Prop where
  ex : ∃ f fd, FunD K m q (defArgs st) (defBody st) (defScope st) [] [] f fd ∧ Meth K C m f
/-- an __init__ -/
structure In (K : PySem.W.Frag) (C : Addr) (q : Str) (st : Stmt) (dvs : List V) : Prop where
  ex : ∃ f fd, FunD K "__init__" q (defArgs st) (defBody st) (defScope st) dvs [] f fd ∧ Mk K C f
/-- the class Broken -/
structure Brk (K : PySem.W.Frag) (C : Addr) : Prop where
  ox : OexC K C
  xf : XfC K C
  no : PySem.W.findIn K (.ref C) "asking" = some none
  ex : ∃ f fd, FunD K "__init__" "Broken.__init__" (defArgs sBrokenInit) (defBody sBrokenInit) (defScope sBrokenInit) [] [] f fd ∧ PySem.W.findIn K (.ref C) "__init__" = some (some (.ref f)) ∧ PySem.W.typeIn K (.ref f) = some (.type "function")
  me : PySem.W.exmOne K (.ref C) (.ref C) = some true
/-- a static method, read off its class -/
structure Sm (K : PySem.W.Frag) (C : Addr) (m q : Str) (st : Stmt) : Prop where
  ex : ∃ f fd mc p, FunD K m q (defArgs st) (defBody st) (defScope st) [] [] f fd ∧ ClX.CRead K C mc ∧ PySem.W.findCls K (.ref C) mc m = some (.get (.builtin "staticmethod.__get__") (.ref p) .none (.ref C)) ∧ ∃ rest, PySem.W.recIn K p "staticmethod" = some (.ref f :: rest)
/-- all of it -/
structure Tx (K : PySem.W.Frag) (mg : Str → Option Value) (B : Adr) : Prop where
  f_isinstance : mg "isinstance" = none
  f_int : mg "int" = none
  f_bool : mg "bool" = none
  f_list : mg "list" = none
  f_tuple : mg "tuple" = none
  f_all : mg "all" = none
  f_len : mg "len" = none
  f_range : mg "range" = none
  f_enumerate : mg "enumerate" = none
  f_zip : mg "zip" = none
  f_sorted : mg "sorted" = none
  f_set : mg "set" = none
  f_max : mg "max" = none
  f_abs : mg "abs" = none
  g_Rule : mg "Rule" = some (.ref B.Rule)
  g_Question : mg "Question" = some (.ref B.Question)
  g_Stock : mg "Stock" = some (.ref B.Stock)
  g_Wish : mg "Wish" = some (.ref B.Wish)
  g_Case : mg "Case" = some (.ref B.Case)
  g_Standing : mg "Standing" = some (.ref B.Standing)
  g_Evening : mg "Evening" = some (.ref B.Evening)
  g_Broken : mg "Broken" = some (.ref B.Broken)
  k_MOST_ANSWERERS_rules : ∃ u, mg "MOST_ANSWERERS_rules" = some u ∧ RelV (.int 4) u
  k_MOST_THINGS : ∃ u, mg "MOST_THINGS" = some u ∧ RelV (.int 16) u
  k_MOST_WHO : ∃ u, mg "MOST_WHO" = some u ∧ RelV (.int 3) u
  k_MOST_HEAP : ∃ u, mg "MOST_HEAP" = some u ∧ RelV (.int 2) u
  k_MOST_ANSWERERS_stocks : ∃ u, mg "MOST_ANSWERERS_stocks" = some u ∧ RelV (.int 4) u
  k_LEAST_HEAPS : ∃ u, mg "LEAST_HEAPS" = some u ∧ RelV (.int 2) u
  k_MOST_HEAPS : ∃ u, mg "MOST_HEAPS" = some u ∧ RelV (.int 3) u
  v_Rule_MOST : ∃ mc u, ClX.CRead K B.Rule mc ∧ ClX.CVal K B.Rule mc "MOST" (.int 64) u
  v_Stock_MOST : ∃ mc u, ClX.CRead K B.Stock mc ∧ ClX.CVal K B.Stock mc "MOST" (.int 64) u
  c_Rule : Cls K B.Rule
  a_Rule_answerers : NoAttr K B.Rule "answerers"
  a_Rule_heaps : NoAttr K B.Rule "heaps"
  a_Rule_rows : NoAttr K B.Rule "rows"
  a_Rule_is_even : NoAttr K B.Rule "is_even"
  c_Question : Cls K B.Question
  a_Question_who : NoAttr K B.Question "who"
  a_Question_heaps : NoAttr K B.Question "heaps"
  a_Question_is_idle : NoAttr K B.Question "is_idle"
  c_Stock : Cls K B.Stock
  a_Stock_things : NoAttr K B.Stock "things"
  a_Stock_answerers : NoAttr K B.Stock "answerers"
  a_Stock_heaps : NoAttr K B.Stock "heaps"
  a_Stock_questions : NoAttr K B.Stock "questions"
  c_Wish : Cls K B.Wish
  a_Wish_classes : NoAttr K B.Wish "classes"
  a_Wish_most : NoAttr K B.Wish "most"
  c_Case : Cls K B.Case
  a_Case_stock : NoAttr K B.Case "stock"
  a_Case_rule : NoAttr K B.Case "rule"
  a_Case_firsts : NoAttr K B.Case "firsts"
  a_Case_wish : NoAttr K B.Case "wish"
  a_Case_things : NoAttr K B.Case "things"
  a_Case_answerers : NoAttr K B.Case "answerers"
  a_Case_heaps : NoAttr K B.Case "heaps"
  c_Standing : Cls K B.Standing
  a_Standing_story : NoAttr K B.Standing "story"
  a_Standing_given : NoAttr K B.Standing "given"
  a_Standing_asked : NoAttr K B.Standing "asked"
  a_Standing_tolds : NoAttr K B.Standing "tolds"
  a_Standing_heard : NoAttr K B.Standing "heard"
  a_Standing_unheard : NoAttr K B.Standing "unheard"
  a_Standing_log : NoAttr K B.Standing "log"
  a_Standing_stands : NoAttr K B.Standing "stands"
  a_Standing_open_things : NoAttr K B.Standing "open_things"
  a_Standing_is_settled : NoAttr K B.Standing "is_settled"
  a_Standing_sure : NoAttr K B.Standing "sure"
  c_Evening : Cls K B.Evening
  a_Evening_case : NoAttr K B.Evening "case"
  a_Evening_past : NoAttr K B.Evening "past"
  a_Evening_undone : NoAttr K B.Evening "undone"
  a_Evening_now : NoAttr K B.Evening "now"
  a_Evening_story : NoAttr K B.Evening "story"
  a_Evening_asked : NoAttr K B.Evening "asked"
  a_Evening_heard : NoAttr K B.Evening "heard"
  a_Evening_unheard : NoAttr K B.Evening "unheard"
  a_Evening_log : NoAttr K B.Evening "log"
  a_Evening_stands : NoAttr K B.Evening "stands"
  a_Evening_open_things : NoAttr K B.Evening "open_things"
  a_Evening_is_settled : NoAttr K B.Evening "is_settled"
  a_Evening_sure : NoAttr K B.Evening "sure"
  i_Question : C8.InsC K B.Question
  i_Stock : C8.InsC K B.Stock
  i_Rule : C8.InsC K B.Rule
  i_Wish : C8.InsC K B.Wish
  i_Case : C8.InsC K B.Case
  d_is_integer : Df K mg "is_integer" sIsInteger
  d_is_within : Df K mg "is_within" sIsWithin
  d_is_list : Df K mg "is_list" sIsList
  d_are_within : Df K mg "are_within" sAreWithin
  d_are_rows : Df K mg "are_rows" sAreRows
  d_need_live : Df K mg "need_live" sNeedLive
  d_is_even_line : Df K mg "is_even_line" sIsEvenLine
  d_next_of : Df K mg "next_of" sNextOf
  d_need_sizes : Df K mg "need_sizes" sNeedSizes
  d_need_number : Df K mg "need_number" sNeedNumber
  d_is_fitting : Df K mg "is_fitting" sIsFitting
  d_first_again : Df K mg "first_again" sFirstAgain
  d_numbered : Df K mg "numbered" sNumbered
  d_met_by : Df K mg "met_by" sMetBy
  d_need_like : Df K mg "need_like" sNeedLike
  d_need_log : Df K mg "need_log" sNeedLog
  d_heaps_for : Df K mg "heaps_for" sHeapsFor
  d_stands_behind : Df K mg "stands_behind" sStandsBehind
  d_stands_of : Df K mg "stands_of" sStandsOf
  d_open_ones : Df K mg "open_ones" sOpenOnes
  d_stands_left : Df K mg "stands_left" sStandsLeft
  d_is_broken : Df K mg "is_broken" sIsBroken
  d_place_in : Df K mg "place_in" sPlaceIn
  d_sure_of : Df K mg "sure_of" sSureOf
  d_law_pot : Df K mg "_law_pot" sLawPot
  d_law_dip : Df K mg "_law_dip" sLawDip
  d_law_out : Df K mg "_law_out" sLawOut
  d_law_spots : Df K mg "_law_spots" sLawSpots
  d_law_any_row : Df K mg "_law_any_row" sLawAnyRow
  d_law_rows : Df K mg "_law_rows" sLawRows
  d_law_plain : Df K mg "_law_plain" sLawPlain
  d_law_case : Df K mg "_law_case" sLawCase
  d_law_next : Df K mg "_law_next" sLawNext
  d_law_answers : Df K mg "_law_answers" sLawAnswers
  d_law_end : Df K mg "_law_end" sLawEnd
  d_law_stands : Df K mg "_law_stands" sLawStands
  d_law_open : Df K mg "_law_open" sLawOpen
  d_law_is_refused : Df K mg "_law_is_refused" sLawIsRefused
  d_law_order : Df K mg "_law_order" sLawOrder
  d_law_asked : Df K mg "_law_asked" sLawAsked
  d_law_hearing_right : Df K mg "_law_hearing_right" sLawHearingRight
  d_law_one_by_one_right : Df K mg "_law_one_by_one_right" sLawOneByOneRight
  d_law : Df K mg "law" sLaw
  n_Rule : In K B.Rule "Rule.__init__" sRuleInit []
  m_Rule_len : Mt K B.Rule "__len__" "Rule.__len__" sRuleLen
  n_Question : In K B.Question "Question.__init__" sQuestionInit []
  n_Stock : In K B.Stock "Stock.__init__" sStockInit []
  n_Wish : In K B.Wish "Wish.__init__" sWishInit [.non, .non]
  s_Wish_of : Sm K B.Wish "of" "Wish.of" sWishOf
  s_Wish_left : Sm K B.Wish "left" "Wish.left" sWishLeft
  n_Case : In K B.Case "Case.__init__" sCaseInit []
  n_Standing : In K B.Standing "Standing.__init__" sStandingInit []
  n_Evening : In K B.Evening "Evening.__init__" sEveningInit []
  m_Evening_stand : Mt K B.Evening "stand" "Evening.stand" sEveningStand
  m_Evening_enter : Mt K B.Evening "enter" "Evening.enter" sEveningEnter
  m_Evening_ask : Mt K B.Evening "ask" "Evening.ask" sEveningAsk
  m_Evening_hear : Mt K B.Evening "hear" "Evening.hear" sEveningHear
  bk : Brk K B.Broken
section
variable {P : Program} {w : World} {K : PySem.W.Frag} {mg : Str → Option Value} {base : Heap}
/-- a def's promise by its body -/
theorem cal_of {x : Str} {st : Stmt} {N ps : List Str} {k : Nat} {sp : Sp} (D : Df K mg x st) (S : FnScope N ps (defScope st))
    (hb : ∀ (kV doc pm : Value) (an : Option Addr) (cdv ct : Value) (us : List Value), us.length = ps.length → bindArgs (PySem.W.fnOf x x (defArgs st) (defBody st) (defScope st) .none kV doc pm an cdv ct) ⟨us, []⟩ = pure (ps.zip us))
    (len : ∀ vs H Q E, sp vs H Q E → vs.length = ps.length)
    (hbody : ∀ (f : Addr) (cdv : Value) (A : Around) (outer : List Env) (s : Shared) (H : Hp) (vs : List V) (Q : VK) (E : XK), Room k (A.deeper (envOfC x (defScope st) s.heap.objs.size f cdv)) → sp vs H Q E →
      ∃ t, PSs (cxOf C8.CX0 P w K mg base N x (defScope st) f cdv A outer s H E).nox (defBody st) t ∧ t { nx := fun _ H' => Q .non H', rt := Q } (start N vs) H) : C8.Cal P w K mg base (k + 1) x sp [] := by
  obtain ⟨f, fd, F, gm⟩ := D.ex
  refine ⟨f, fd, ps, [], F.ok S len (fun cdv A outer s H vs Q E hr h => ?_), gm, F.kp, F.bindsN hb, .nil⟩
  obtain ⟨t, h1, h2⟩ := hbody f cdv A outer s H vs Q E hr h
  exact ⟨t, h1.nox, h2⟩
/-- a method's -/
theorem met_of {C : Addr} {m q : Str} {st : Stmt} {N ps : List Str} {k : Nat} {sp : Sp} (D : Mt K C m q st) (c : Cls K C) (S : FnScope N ps (defScope st))
    (hb : ∀ (kV doc pm : Value) (an : Option Addr) (cdv ct : Value) (us : List Value), us.length = ps.length → bindArgs (PySem.W.fnOf m q (defArgs st) (defBody st) (defScope st) .none kV doc pm an cdv ct) ⟨us, []⟩ = pure (ps.zip us))
    (len : ∀ vs H Q E, sp vs H Q E → vs.length = ps.length)
    (hbody : ∀ (f : Addr) (cdv : Value) (A : Around) (outer : List Env) (s : Shared) (H : Hp) (vs : List V) (Q : VK) (E : XK), Room k (A.deeper (envOfC q (defScope st) s.heap.objs.size f cdv)) → sp vs H Q E →
      ∃ t, PSs (cxOf C8.CX0 P w K mg base N q (defScope st) f cdv A outer s H E).nox (defBody st) t ∧ t { nx := fun _ H' => Q .non H', rt := Q } (start N vs) H) : C8.Met P w K mg base (k + 1) C m sp [] := by
  obtain ⟨f, fd, F, me⟩ := D.ex
  refine ⟨f, fd, ps, [], c, me, F.ok S len (fun cdv A outer s H vs Q E hr h => ?_), F.bindsN hb, .nil⟩
  obtain ⟨t, h1, h2⟩ := hbody f cdv A outer s H vs Q E hr h
  exact ⟨t, h1.nox, h2⟩
/-- an __init__'s (no defaults) -/
theorem mak_of {C : Addr} {x q : Str} {st : Stmt} {N ps : List Str} {k : Nat} {sp : Sp} (D : In K C q st []) (gm : mg x = some (.ref C)) (S : FnScope N ps (defScope st))
    (hb : ∀ (kV doc pm : Value) (an : Option Addr) (cdv ct : Value) (us : List Value), us.length = ps.length → bindArgs (PySem.W.fnOf "__init__" q (defArgs st) (defBody st) (defScope st) .none kV doc pm an cdv ct) ⟨us, []⟩ = pure (ps.zip us))
    (len : ∀ vs H Q E, sp vs H Q E → vs.length = ps.length)
    (hbody : ∀ (f : Addr) (cdv : Value) (A : Around) (outer : List Env) (s : Shared) (H : Hp) (vs : List V) (Q : VK) (E : XK), Room k (A.deeper (envOfC q (defScope st) s.heap.objs.size f cdv)) → sp vs H Q E →
      ∃ t, PSs (cxOf C8.CX0 P w K mg base N q (defScope st) f cdv A outer s H E).nox (defBody st) t ∧ t { nx := fun _ H' => Q .non H', rt := Q } (start N vs) H) : C8.Mak P w K mg base (k + 1) x C sp [] := by
  obtain ⟨f, fd, F, mk⟩ := D.ex
  refine ⟨f, fd, ps, [], mk, F.ok S len (fun cdv A outer s H vs Q E hr h => ?_), gm, F.bindsN hb, .nil⟩
  obtain ⟨t, h1, h2⟩ := hbody f cdv A outer s H vs Q E hr h
  exact ⟨t, h1.nox, h2⟩
end
end TW

set_option Elab.async false
set_option linter.all false
set_option maxRecDepth 100000
set_option maxHeartbeats 4000000
namespace TW
open PySem PySem.Spec PyProof.Rows L2
open PySem PySem.W PySem.Calls PyProof.Rows PySem.Spec L2
abbrev R : OpenRow := OpenLaw.row PySem.Challenge.rw_truthwell_k82_whole_broken_at_the_first
abbrev qv : Program := view R.prog [115]
def nm0 : List PySem.Str := ["_wall", "DIGITS", "is_integer", "is_within", "is_list", "are_within", "WellError", "BadRule", "BadQuestion", "BadStock", "BadWish", "BadCase", "BadHearing", "BadList", "BadStory", "BadNumber", "Missing", "NoAnswerer", "NoHeap", "NoStand", "NoQuestion", "NoAsked", "Unlike", "Twice", "Dead"]
def nm1 : List PySem.Str := ["Unheard", "Heard", "Broken", "TooMany", "BadText", "MOST_DIGITS", "number_in", "Scan", "MOST_STANDS", "MOST_ANSWERERS_rules", "BAR_rules", "NONE", "are_rows", "need_live", "is_even_line", "Rule", "read_line", "next_of", "need_sizes", "need_stand", "need_answerer", "need_heap", "MOST_THINGS", "MOST_WHO", "MOST_HEAP"]
def nm2 : List PySem.Str := ["FIGURES", "heaps_in", "take_question", "Question", "MOST_ANSWERERS_stocks", "LEAST_HEAPS", "MOST_HEAPS", "BAR_stocks", "need_number", "is_fitting", "first_again", "take_stock", "Stock", "CLASSES", "LEFT", "numbered", "met_by", "take_wish", "Wish", "END", "need_like", "take_rule", "Case", "need_log", "heaps_for"]
def nm3 : List PySem.Str := ["stands_behind", "stands_of", "open_ones", "stands_left", "is_broken", "SIZES", "is_deed", "place_in", "sure_of", "Standing", "Evening", "_law_pot", "_law_dip", "_law_out", "_law_spots", "_law_any_row", "_law_rows", "_law_plain", "_law_case", "_law_next", "_law_answers", "_law_end", "_law_stands", "_law_open", "_law_is_refused"]
def nm4 : List PySem.Str := ["_law_order", "_law_asked", "_law_hearing_right", "_law_one_by_one_right"]
def names : List PySem.Str := nm0 ++ nm1 ++ nm2 ++ nm3 ++ nm4
def dIsInteger : He.DefD := ⟨("is_integer", none), "is_integer", "is_integer", defArgs sIsInteger, defBody sIsInteger, defScope sIsInteger, [], []⟩
def dIsWithin : He.DefD := ⟨("is_within", none), "is_within", "is_within", defArgs sIsWithin, defBody sIsWithin, defScope sIsWithin, [], []⟩
def dIsList : He.DefD := ⟨("is_list", none), "is_list", "is_list", defArgs sIsList, defBody sIsList, defScope sIsList, [], []⟩
def dAreWithin : He.DefD := ⟨("are_within", none), "are_within", "are_within", defArgs sAreWithin, defBody sAreWithin, defScope sAreWithin, [], []⟩
def dAreRows : He.DefD := ⟨("are_rows", none), "are_rows", "are_rows", defArgs sAreRows, defBody sAreRows, defScope sAreRows, [], []⟩
def dNeedLive : He.DefD := ⟨("need_live", none), "need_live", "need_live", defArgs sNeedLive, defBody sNeedLive, defScope sNeedLive, [], []⟩
def dIsEvenLine : He.DefD := ⟨("is_even_line", none), "is_even_line", "is_even_line", defArgs sIsEvenLine, defBody sIsEvenLine, defScope sIsEvenLine, [], []⟩
def dNextOf : He.DefD := ⟨("next_of", none), "next_of", "next_of", defArgs sNextOf, defBody sNextOf, defScope sNextOf, [], []⟩
def dNeedSizes : He.DefD := ⟨("need_sizes", none), "need_sizes", "need_sizes", defArgs sNeedSizes, defBody sNeedSizes, defScope sNeedSizes, [], []⟩
def dNeedNumber : He.DefD := ⟨("need_number", none), "need_number", "need_number", defArgs sNeedNumber, defBody sNeedNumber, defScope sNeedNumber, [], []⟩
def dIsFitting : He.DefD := ⟨("is_fitting", none), "is_fitting", "is_fitting", defArgs sIsFitting, defBody sIsFitting, defScope sIsFitting, [], []⟩
def dFirstAgain : He.DefD := ⟨("first_again", none), "first_again", "first_again", defArgs sFirstAgain, defBody sFirstAgain, defScope sFirstAgain, [], []⟩
def dNumbered : He.DefD := ⟨("numbered", none), "numbered", "numbered", defArgs sNumbered, defBody sNumbered, defScope sNumbered, [], []⟩
def dMetBy : He.DefD := ⟨("met_by", none), "met_by", "met_by", defArgs sMetBy, defBody sMetBy, defScope sMetBy, [], []⟩
def dNeedLike : He.DefD := ⟨("need_like", none), "need_like", "need_like", defArgs sNeedLike, defBody sNeedLike, defScope sNeedLike, [], []⟩
def dNeedLog : He.DefD := ⟨("need_log", none), "need_log", "need_log", defArgs sNeedLog, defBody sNeedLog, defScope sNeedLog, [], []⟩
def dHeapsFor : He.DefD := ⟨("heaps_for", none), "heaps_for", "heaps_for", defArgs sHeapsFor, defBody sHeapsFor, defScope sHeapsFor, [], []⟩
def dStandsBehind : He.DefD := ⟨("stands_behind", none), "stands_behind", "stands_behind", defArgs sStandsBehind, defBody sStandsBehind, defScope sStandsBehind, [], []⟩
def dStandsOf : He.DefD := ⟨("stands_of", none), "stands_of", "stands_of", defArgs sStandsOf, defBody sStandsOf, defScope sStandsOf, [], []⟩
def dOpenOnes : He.DefD := ⟨("open_ones", none), "open_ones", "open_ones", defArgs sOpenOnes, defBody sOpenOnes, defScope sOpenOnes, [], []⟩
def dStandsLeft : He.DefD := ⟨("stands_left", none), "stands_left", "stands_left", defArgs sStandsLeft, defBody sStandsLeft, defScope sStandsLeft, [], []⟩
def dIsBroken : He.DefD := ⟨("is_broken", none), "is_broken", "is_broken", defArgs sIsBroken, defBody sIsBroken, defScope sIsBroken, [], []⟩
def dPlaceIn : He.DefD := ⟨("place_in", none), "place_in", "place_in", defArgs sPlaceIn, defBody sPlaceIn, defScope sPlaceIn, [], []⟩
def dSureOf : He.DefD := ⟨("sure_of", none), "sure_of", "sure_of", defArgs sSureOf, defBody sSureOf, defScope sSureOf, [], []⟩
def dLawPot : He.DefD := ⟨("_law_pot", none), "_law_pot", "_law_pot", defArgs sLawPot, defBody sLawPot, defScope sLawPot, [], []⟩
def dLawDip : He.DefD := ⟨("_law_dip", none), "_law_dip", "_law_dip", defArgs sLawDip, defBody sLawDip, defScope sLawDip, [], []⟩
def dLawOut : He.DefD := ⟨("_law_out", none), "_law_out", "_law_out", defArgs sLawOut, defBody sLawOut, defScope sLawOut, [], []⟩
def dLawSpots : He.DefD := ⟨("_law_spots", none), "_law_spots", "_law_spots", defArgs sLawSpots, defBody sLawSpots, defScope sLawSpots, [], []⟩
def dLawAnyRow : He.DefD := ⟨("_law_any_row", none), "_law_any_row", "_law_any_row", defArgs sLawAnyRow, defBody sLawAnyRow, defScope sLawAnyRow, [], []⟩
def dLawRows : He.DefD := ⟨("_law_rows", none), "_law_rows", "_law_rows", defArgs sLawRows, defBody sLawRows, defScope sLawRows, [], []⟩
def dLawPlain : He.DefD := ⟨("_law_plain", none), "_law_plain", "_law_plain", defArgs sLawPlain, defBody sLawPlain, defScope sLawPlain, [], []⟩
def dLawCase : He.DefD := ⟨("_law_case", none), "_law_case", "_law_case", defArgs sLawCase, defBody sLawCase, defScope sLawCase, [], []⟩
def dLawNext : He.DefD := ⟨("_law_next", none), "_law_next", "_law_next", defArgs sLawNext, defBody sLawNext, defScope sLawNext, [], []⟩
def dLawAnswers : He.DefD := ⟨("_law_answers", none), "_law_answers", "_law_answers", defArgs sLawAnswers, defBody sLawAnswers, defScope sLawAnswers, [], []⟩
def dLawEnd : He.DefD := ⟨("_law_end", none), "_law_end", "_law_end", defArgs sLawEnd, defBody sLawEnd, defScope sLawEnd, [], []⟩
def dLawStands : He.DefD := ⟨("_law_stands", none), "_law_stands", "_law_stands", defArgs sLawStands, defBody sLawStands, defScope sLawStands, [], []⟩
def dLawOpen : He.DefD := ⟨("_law_open", none), "_law_open", "_law_open", defArgs sLawOpen, defBody sLawOpen, defScope sLawOpen, [], []⟩
def dLawIsRefused : He.DefD := ⟨("_law_is_refused", none), "_law_is_refused", "_law_is_refused", defArgs sLawIsRefused, defBody sLawIsRefused, defScope sLawIsRefused, [], []⟩
def dLawOrder : He.DefD := ⟨("_law_order", none), "_law_order", "_law_order", defArgs sLawOrder, defBody sLawOrder, defScope sLawOrder, [], []⟩
def dLawAsked : He.DefD := ⟨("_law_asked", none), "_law_asked", "_law_asked", defArgs sLawAsked, defBody sLawAsked, defScope sLawAsked, [], []⟩
def dLawHearingRight : He.DefD := ⟨("_law_hearing_right", none), "_law_hearing_right", "_law_hearing_right", defArgs sLawHearingRight, defBody sLawHearingRight, defScope sLawHearingRight, [], []⟩
def dLawOneByOneRight : He.DefD := ⟨("_law_one_by_one_right", none), "_law_one_by_one_right", "_law_one_by_one_right", defArgs sLawOneByOneRight, defBody sLawOneByOneRight, defScope sLawOneByOneRight, [], []⟩
def dLaw : He.DefD := ⟨("law", none), "law", "law", defArgs sLaw, defBody sLaw, defScope sLaw, [], []⟩
def dRuleInit : He.DefD := ⟨("Rule", some "__init__"), "__init__", "Rule.__init__", defArgs sRuleInit, defBody sRuleInit, defScope sRuleInit, [], []⟩
def dRuleLen : He.DefD := ⟨("Rule", some "__len__"), "__len__", "Rule.__len__", defArgs sRuleLen, defBody sRuleLen, defScope sRuleLen, [], []⟩
def dQuestionInit : He.DefD := ⟨("Question", some "__init__"), "__init__", "Question.__init__", defArgs sQuestionInit, defBody sQuestionInit, defScope sQuestionInit, [], []⟩
def dStockInit : He.DefD := ⟨("Stock", some "__init__"), "__init__", "Stock.__init__", defArgs sStockInit, defBody sStockInit, defScope sStockInit, [], []⟩
def dWishInit : He.DefD := ⟨("Wish", some "__init__"), "__init__", "Wish.__init__", defArgs sWishInit, defBody sWishInit, defScope sWishInit, [.non, .non], []⟩
def dCaseInit : He.DefD := ⟨("Case", some "__init__"), "__init__", "Case.__init__", defArgs sCaseInit, defBody sCaseInit, defScope sCaseInit, [], []⟩
def dStandingInit : He.DefD := ⟨("Standing", some "__init__"), "__init__", "Standing.__init__", defArgs sStandingInit, defBody sStandingInit, defScope sStandingInit, [], []⟩
def dEveningInit : He.DefD := ⟨("Evening", some "__init__"), "__init__", "Evening.__init__", defArgs sEveningInit, defBody sEveningInit, defScope sEveningInit, [], []⟩
def dEveningStand : He.DefD := ⟨("Evening", some "stand"), "stand", "Evening.stand", defArgs sEveningStand, defBody sEveningStand, defScope sEveningStand, [], []⟩
def dEveningEnter : He.DefD := ⟨("Evening", some "enter"), "enter", "Evening.enter", defArgs sEveningEnter, defBody sEveningEnter, defScope sEveningEnter, [], []⟩
def dEveningAsk : He.DefD := ⟨("Evening", some "ask"), "ask", "Evening.ask", defArgs sEveningAsk, defBody sEveningAsk, defScope sEveningAsk, [], []⟩
def dEveningHear : He.DefD := ⟨("Evening", some "hear"), "hear", "Evening.hear", defArgs sEveningHear, defBody sEveningHear, defScope sEveningHear, [], []⟩
def dBrokenInit : He.DefD := ⟨("Broken", some "__init__"), "__init__", "Broken.__init__", defArgs sBrokenInit, defBody sBrokenInit, defScope sBrokenInit, [], []⟩
def fn0 : List He.DefD := [dIsInteger, dIsWithin, dIsList, dAreWithin, dAreRows, dNeedLive, dIsEvenLine, dNextOf, dNeedSizes, dNeedNumber, dIsFitting, dFirstAgain, dNumbered, dMetBy, dNeedLike, dNeedLog, dHeapsFor, dStandsBehind, dStandsOf, dOpenOnes, dStandsLeft, dIsBroken, dPlaceIn, dSureOf, dLawPot]
def fn1 : List He.DefD := [dLawDip, dLawOut, dLawSpots, dLawAnyRow, dLawRows, dLawPlain, dLawCase, dLawNext, dLawAnswers, dLawEnd, dLawStands, dLawOpen, dLawIsRefused, dLawOrder, dLawAsked, dLawHearingRight, dLawOneByOneRight, dLaw, dRuleInit, dRuleLen, dQuestionInit, dStockInit, dWishInit, dCaseInit, dStandingInit]
def fn2 : List He.DefD := [dEveningInit, dEveningStand, dEveningEnter, dEveningAsk, dEveningHear, dBrokenInit]
def fn : List He.DefD := fn0 ++ (fn1 ++ fn2)
def fa0 : List He.Fa := [.glo "is_integer", .glo "is_within", .glo "is_list", .glo "are_within", .glo "are_rows", .glo "need_live", .glo "is_even_line", .glo "next_of", .glo "need_sizes", .glo "need_number", .glo "is_fitting", .glo "first_again", .glo "numbered", .glo "met_by", .glo "need_like", .glo "need_log", .glo "heaps_for", .glo "stands_behind", .glo "stands_of", .glo "open_ones", .glo "stands_left", .glo "is_broken", .glo "place_in", .glo "sure_of", .glo "_law_pot"]
def fa1 : List He.Fa := [.glo "_law_dip", .glo "_law_out", .glo "_law_spots", .glo "_law_any_row", .glo "_law_rows", .glo "_law_plain", .glo "_law_case", .glo "_law_next", .glo "_law_answers", .glo "_law_end", .glo "_law_stands", .glo "_law_open", .glo "_law_is_refused", .glo "_law_order", .glo "_law_asked", .glo "_law_hearing_right", .glo "_law_one_by_one_right", .glo "law", .glo "Rule", .glo "Question", .glo "Stock", .glo "Wish", .glo "Case", .glo "Standing", .glo "Evening"]
def fa2 : List He.Fa := [.glo "Broken", .free "isinstance", .free "int", .free "bool", .free "list", .free "tuple", .free "all", .free "len", .free "range", .free "enumerate", .free "zip", .free "sorted", .free "set", .free "max", .free "abs", .int "MOST_ANSWERERS_rules" 4, .int "MOST_THINGS" 16, .int "MOST_WHO" 3, .int "MOST_HEAP" 2, .int "MOST_ANSWERERS_stocks" 4, .int "LEAST_HEAPS" 2, .int "MOST_HEAPS" 3, .cls "Rule", .mkr "Rule", .noat "Rule" "answerers"]
def fa3 : List He.Fa := [.noat "Rule" "heaps", .noat "Rule" "rows", .noat "Rule" "is_even", .cls "Question", .mkr "Question", .noat "Question" "who", .noat "Question" "heaps", .noat "Question" "is_idle", .cls "Stock", .mkr "Stock", .noat "Stock" "things", .noat "Stock" "answerers", .noat "Stock" "heaps", .noat "Stock" "questions", .cls "Wish", .mkr "Wish", .noat "Wish" "classes", .noat "Wish" "most", .cls "Case", .mkr "Case", .noat "Case" "stock", .noat "Case" "rule", .noat "Case" "firsts", .noat "Case" "wish", .noat "Case" "things"]
def fa4 : List He.Fa := [.noat "Case" "answerers", .noat "Case" "heaps", .cls "Standing", .mkr "Standing", .noat "Standing" "story", .noat "Standing" "given", .noat "Standing" "asked", .noat "Standing" "tolds", .noat "Standing" "heard", .noat "Standing" "unheard", .noat "Standing" "log", .noat "Standing" "stands", .noat "Standing" "open_things", .noat "Standing" "is_settled", .noat "Standing" "sure", .cls "Evening", .mkr "Evening", .noat "Evening" "case", .noat "Evening" "past", .noat "Evening" "undone", .noat "Evening" "now", .noat "Evening" "story", .noat "Evening" "asked", .noat "Evening" "heard", .noat "Evening" "unheard"]
def fa5 : List He.Fa := [.noat "Evening" "log", .noat "Evening" "stands", .noat "Evening" "open_things", .noat "Evening" "is_settled", .noat "Evening" "sure", .meth "Evening" "stand", .meth "Evening" "enter", .meth "Evening" "ask", .meth "Evening" "hear"]
def fa : List He.Fa := fa0 ++ fa1 ++ fa2 ++ fa3 ++ fa4 ++ fa5
def aWishOf : He5.DefA := ⟨fun K => He5.wf K (He.ga K "Wish") "staticmethod" "of", "of", "Wish.of", defArgs sWishOf, defBody sWishOf, defScope sWishOf, [], []⟩
def aWishLeft : He5.DefA := ⟨fun K => He5.wf K (He.ga K "Wish") "staticmethod" "left", "left", "Wish.left", defArgs sWishLeft, defBody sWishLeft, defScope sWishLeft, [], []⟩
/-! ### the further looks -/
def rdB (K : PySem.W.Frag) (C : Addr) : Bool := PySem.W.readsIn K C (.type "type") && He.eqO (PySem.W.specialIn K (.ref C) "__getattribute__") (some (some (.builtin "type.__getattribute__")))
theorem rdB_ok {K : PySem.W.Frag} {C : Addr} (h : rdB K C = true) : ClX.CRead K C (.type "type") := ⟨(He.ba h).1, He.eqO_ok (He.ba h).2⟩
def mostB (K : PySem.W.Frag) (C : Addr) : Bool := match PySem.W.findCls K (.ref C) (.type "type") "MOST" with
  | some (.val u) => He.relB (.int 64) u
  | _ => false
theorem mostB_ok {K : PySem.W.Frag} {C : Addr} (h : mostB K C = true) : ∃ u, ClX.CVal K C (.type "type") "MOST" (.int 64) u := by
  unfold mostB at h
  split at h
  · rename_i u e
    exact ⟨u, e, He.relB_ok h⟩
  · cases h
def insB (K : PySem.W.Frag) (C : Addr) : Bool := He.eqO (PySem.W.findIn K (.ref C) "__class__") (some (some (.builtin "object.__class__"))) && (He.eqO (PySem.W.specialIn K (.builtin "object.__class__") "__get__") (some (some (.builtin "getset_descriptor.__get__"))) &&
  (decide (PySem.W.takesIn K (.builtin "object.__class__") = some true) && (decide (PySem.W.mroIn K C (.type "object") = some true) && decide (PySem.W.kitOne K (.ref C) (.ref C) = some true))))
theorem insB_ok {K : PySem.W.Frag} {C : Addr} (c : Cls K C) (h : insB K C = true) : C8.InsC K C := by
  obtain ⟨h1, h⟩ := He.ba h
  obtain ⟨h2, h⟩ := He.ba h
  obtain ⟨h3, h⟩ := He.ba h
  obtain ⟨h4, h5⟩ := He.ba h
  exact ⟨c, He.eqO_ok h1, He.eqO_ok h2, of_decide_eq_true h3, of_decide_eq_true h4, of_decide_eq_true h5⟩
def exClsB (K : PySem.W.Frag) (C : Addr) : Bool := match K.lookup C with
  | some ⟨.type t, _, .cls cd, sl⟩ => (match cd.mro, sl.toList with
    | .ref D :: bm, [_, _, _, _, some (.builtin n), _] => decide (t = "type") && (decide (D = C) && (decide (n = "ValueError.__new__") && (cd.hasDict && (!cd.hasDel && PySem.HandSPX.refsVE bm))))
    | _, _ => false)
  | _ => false
theorem exClsB_ok {K : PySem.W.Frag} {C : Addr} (h : exClsB K C = true) : ∃ nm q N bs bm sn sub ab col dd k0 k1 k2 k3 k5, K.lookup C = some (excClassObj nm q C N bs bm true sn sub ab col dd k0 k1 k2 k3 k5 "ValueError.__new__") ∧ PySem.HandSPX.refsVE bm = true := by
  unfold exClsB at h
  split at h
  · rename_i t dd cd sl ho
    split at h
    · rename_i D bm k0 k1 k2 k3 n k5 hm hs
      obtain ⟨h1, h⟩ := He.ba h
      obtain ⟨h2, h⟩ := He.ba h
      obtain ⟨h3, h⟩ := He.ba h
      obtain ⟨h4, h⟩ := He.ba h
      obtain ⟨h5, h6⟩ := He.ba h
      have e1 := of_decide_eq_true h1
      have e2 := of_decide_eq_true h2
      have e3 := of_decide_eq_true h3
      obtain ⟨nm, bs, mro, ns, qn, hd, sn, sub, ab, col, del⟩ := cd
      dsimp only at hm h4 h5
      subst hm e1 e2 e3 h4
      cases del with
      | true => cases h5
      | false =>
        have hsl : sl = #[k0, k1, k2, k3, some (.builtin "ValueError.__new__"), k5] := by
          obtain ⟨l⟩ := sl
          simp only at hs
          rw [hs]
        subst hsl
        exact ⟨nm, qn, ns, bs, bm, sn, sub, ab, col, dd, k0, k1, k2, k3, k5, ho, h6⟩
    · cases h
  · cases h
def oexB (K : PySem.W.Frag) (C : Addr) : Bool := exClsB K C && (He.eqO (PySem.W.findIn K (.ref C) "__setattr__") (some (some (.builtin "object.__setattr__"))) && (decide (PySem.W.subIn K (.ref C) (.type "BaseException") = some true) && (decide (PySem.W.typeIn K (.ref C) = some (.type "type")) && PySem.W.keepIn K (.ref C))))
theorem oexB_ok {K : PySem.W.Frag} {C : Addr} (h : oexB K C = true) : OexC K C := by
  obtain ⟨h1, h⟩ := He.ba h
  obtain ⟨h2, h⟩ := He.ba h
  obtain ⟨h3, h⟩ := He.ba h
  obtain ⟨h4, h5⟩ := He.ba h
  exact ⟨exClsB_ok h1, He.eqO_ok h2, of_decide_eq_true h3, of_decide_eq_true h4, h5⟩
def brkB (K : PySem.W.Frag) (C : Addr) : Bool := oexB K C && (xfB K C && (He.eqO (PySem.W.findIn K (.ref C) "asking") (some none) && (He.eqO (PySem.W.findIn K (.ref C) "__init__") (some (some (.ref (He.ma K C "__init__")))) &&
  (decide (PySem.W.typeIn K (.ref (He.ma K C "__init__")) = some (.type "function")) && decide (PySem.W.exmOne K (.ref C) (.ref C) = some true)))))
theorem brkB_ok {K : PySem.W.Frag} {C : Addr} (h : brkB K C = true) (F : ∃ fd, FunD K "__init__" "Broken.__init__" (defArgs sBrokenInit) (defBody sBrokenInit) (defScope sBrokenInit) [] [] (He.ma K C "__init__") fd) : Brk K C := by
  obtain ⟨h1, h⟩ := He.ba h
  obtain ⟨h2, h⟩ := He.ba h
  obtain ⟨h3, h⟩ := He.ba h
  obtain ⟨h4, h⟩ := He.ba h
  obtain ⟨h5, h6⟩ := He.ba h
  obtain ⟨fd, F⟩ := F
  exact ⟨oexB_ok h1, xfB_ok h2, He.eqO_ok h3, ⟨_, fd, F, He.eqO_ok h4, of_decide_eq_true h5⟩, of_decide_eq_true h6⟩
def stB (K : PySem.W.Frag) (m : PySem.Str) (d : He5.DefA) : Bool := He5.wrapB K (He.ga K "Wish") "staticmethod" "staticmethod.__get__" m && d.ok K
def exL (K : PySem.W.Frag) : List Bool := [(rdB K (He.ga K "Rule")), (rdB K (He.ga K "Stock")), (rdB K (He.ga K "Wish")), (mostB K (He.ga K "Rule")), (mostB K (He.ga K "Stock")), (insB K (He.ga K "Question")), (insB K (He.ga K "Stock")), (insB K (He.ga K "Rule")), (insB K (He.ga K "Wish")), (insB K (He.ga K "Case")), (stB K "of" aWishOf), (stB K "left" aWishLeft), ((He.Fa.meth "Rule" "__len__").ok K), (brkB K (He.ga K "Broken"))]
theorem x_rd_Rule {K : PySem.W.Frag} (h : (exL K).all id = true) : (rdB K (He.ga K "Rule")) = true := List.all_eq_true.mp h _ (List.mem_of_getElem? (i := 0) rfl)
theorem x_rd_Stock {K : PySem.W.Frag} (h : (exL K).all id = true) : (rdB K (He.ga K "Stock")) = true := List.all_eq_true.mp h _ (List.mem_of_getElem? (i := 1) rfl)
theorem x_rd_Wish {K : PySem.W.Frag} (h : (exL K).all id = true) : (rdB K (He.ga K "Wish")) = true := List.all_eq_true.mp h _ (List.mem_of_getElem? (i := 2) rfl)
theorem x_most_Rule {K : PySem.W.Frag} (h : (exL K).all id = true) : (mostB K (He.ga K "Rule")) = true := List.all_eq_true.mp h _ (List.mem_of_getElem? (i := 3) rfl)
theorem x_most_Stock {K : PySem.W.Frag} (h : (exL K).all id = true) : (mostB K (He.ga K "Stock")) = true := List.all_eq_true.mp h _ (List.mem_of_getElem? (i := 4) rfl)
theorem x_ins_Question {K : PySem.W.Frag} (h : (exL K).all id = true) : (insB K (He.ga K "Question")) = true := List.all_eq_true.mp h _ (List.mem_of_getElem? (i := 5) rfl)
theorem x_ins_Stock {K : PySem.W.Frag} (h : (exL K).all id = true) : (insB K (He.ga K "Stock")) = true := List.all_eq_true.mp h _ (List.mem_of_getElem? (i := 6) rfl)
theorem x_ins_Rule {K : PySem.W.Frag} (h : (exL K).all id = true) : (insB K (He.ga K "Rule")) = true := List.all_eq_true.mp h _ (List.mem_of_getElem? (i := 7) rfl)
theorem x_ins_Wish {K : PySem.W.Frag} (h : (exL K).all id = true) : (insB K (He.ga K "Wish")) = true := List.all_eq_true.mp h _ (List.mem_of_getElem? (i := 8) rfl)
theorem x_ins_Case {K : PySem.W.Frag} (h : (exL K).all id = true) : (insB K (He.ga K "Case")) = true := List.all_eq_true.mp h _ (List.mem_of_getElem? (i := 9) rfl)
theorem x_st_of {K : PySem.W.Frag} (h : (exL K).all id = true) : (stB K "of" aWishOf) = true := List.all_eq_true.mp h _ (List.mem_of_getElem? (i := 10) rfl)
theorem x_st_left {K : PySem.W.Frag} (h : (exL K).all id = true) : (stB K "left" aWishLeft) = true := List.all_eq_true.mp h _ (List.mem_of_getElem? (i := 11) rfl)
theorem x_len_Rule {K : PySem.W.Frag} (h : (exL K).all id = true) : ((He.Fa.meth "Rule" "__len__").ok K) = true := List.all_eq_true.mp h _ (List.mem_of_getElem? (i := 12) rfl)
theorem x_brk {K : PySem.W.Frag} (h : (exL K).all id = true) : (brkB K (He.ga K "Broken")) = true := List.all_eq_true.mp h _ (List.mem_of_getElem? (i := 13) rfl)
/-! ### the part of the heap, the Hook -/
def refsS (o : Obj) : List Addr := match o.data with
  | .seq its _ => its.toList.flatMap He.refV
  | .dict es _ => es.toList.flatMap fun e => He.refV e.val
  | .func fd => He.refV fd.code ++ (He.refV fd.defaults ++ He.refV fd.kwdefaults)
  | .cls cd => [cd.ns]
  | .fields vs => (vs.toList.take 1).flatMap He.refV
  | _ => []
def lvS (g : Addr → Option Obj) : Nat → List Addr → List Addr
  | 0, l => l
  | n + 1, l => l ++ lvS g n (l.flatMap fun a => match g a with
    | some o => refsS o
    | none => [])
def frS (g : Addr → Option Obj) : PySem.W.Frag := He.frG g (cStatics :: lvS g 5 [mainGlobals])
abbrev AlW : Type := He.AlD × (Bool × List He5.FnW)
def obsW (K : PySem.W.Frag) : AlW := (He.obsD fa fn K, (exL K).all id, [He5.fnA K (aWishOf.at_ K), He5.fnA K (aWishLeft.at_ K)])
def valW : AlW := (He.valD fn, true, [aWishOf.val, aWishLeft.val])
def hkW : PySem.W.Hook where
  α := AlW
  obs := fun s => obsW (frS s.heap.get?)
  val := fun _ => valW
  says := fun _ h => ∃ K : PySem.W.Frag, K.In h ∧ obsW K = valW
  of := fun _ _ e => ⟨_, He.frG_in, e⟩
  keeps := fun _ _ _ ⟨K, hK, c⟩ k => ⟨K, PySem.W.Frag.In.keeps hK k, c⟩
def ob (s : PySem.W.SharedT) : AlW := obsW (frS (HandSHeadRun.getT s))
theorem ob_eq (s : PySem.W.SharedT) : ob s = hkW.obs s.abs := by
  have e : HandSHeadRun.getT s = s.abs.heap.get? := funext (HandSHeadRun.getT_eq s)
  show obsW (frS (HandSHeadRun.getT s)) = obsW (frS s.abs.heap.get?)
  rw [e]
/-! ### Tx behind the head -/
def adr (K : PySem.W.Frag) : Adr := ⟨He.ga K "Rule", He.ga K "Question", He.ga K "Stock", He.ga K "Wish", He.ga K "Case", He.ga K "Standing", He.ga K "Evening", He.ga K "Broken"⟩
section
variable {K : PySem.W.Frag} {h : Heap} {mg : Str → Option Value}
theorem kF {x : Str} {i : Int} (e : ∃ t, mg x = some (.int i t)) : ∃ u, mg x = some u ∧ RelV (.int i) u := by
  obtain ⟨t, e⟩ := e
  exact ⟨_, e, t, rfl⟩
theorem dF {x : Str} {st : Stmt} {f : Addr} (g : mg x = some (.ref f)) (F : ∃ fd, FunD K x x (defArgs st) (defBody st) (defScope st) [] [] f fd) : Df K mg x st := by
  obtain ⟨fd, F⟩ := F
  exact ⟨f, fd, F, g⟩
theorem mF {C f : Addr} {m q : Str} {st : Stmt} (g : Meth K C m f) (F : ∃ fd, FunD K m q (defArgs st) (defBody st) (defScope st) [] [] f fd) : Mt K C m q st := by
  obtain ⟨fd, F⟩ := F
  exact ⟨f, fd, F, g⟩
theorem nF {C f : Addr} {q : Str} {st : Stmt} {dvs : List V} (g : Mk K C f) (F : ∃ fd, FunD K "__init__" q (defArgs st) (defBody st) (defScope st) dvs [] f fd) : In K C q st dvs := by
  obtain ⟨fd, F⟩ := F
  exact ⟨f, fd, F, g⟩
theorem vF {C : Addr} (r : rdB K C = true) (m : mostB K C = true) : ∃ mc u, ClX.CRead K C mc ∧ ClX.CVal K C mc "MOST" (.int 64) u := by
  obtain ⟨u, e⟩ := mostB_ok m
  exact ⟨_, u, rdB_ok r, e⟩
theorem sF {m q : Str} {st : Stmt} {d : He5.DefA} (r : rdB K (He.ga K "Wish") = true) (c : stB K m d = true) (ha : d.at_ K = He5.wf K (He.ga K "Wish") "staticmethod" m) (e : He5.fnA K (d.at_ K) = d.val) (hd : ∀ f fd, FunD K d.name d.qual d.params d.body d.scope (d.dvs K) (d.kws K) f fd → FunD K m q (defArgs st) (defBody st) (defScope st) [] [] f fd) : Sm K (He.ga K "Wish") m q st := by
  obtain ⟨c1, c2⟩ := He.ba c
  obtain ⟨fd, F⟩ := He5.DefA.funD e c2
  obtain ⟨w1, w2⟩ := He5.wrapB_ok c1
  rw [ha] at F
  exact ⟨_, fd, _, _, hd _ _ F, rdB_ok r, w1, w2⟩

theorem tx (X : K.In h) (G : h.Ns mainGlobals mg) (e : obsW K = valW) : Tx K mg (adr K) := by
  have c : He.SaysD fa fn K := congrArg (fun z : AlW => z.1) e
  have xs : (exL K).all id = true := congrArg (fun z : AlW => z.2.1) e
  have ss : [He5.fnA K (aWishOf.at_ K), He5.fnA K (aWishLeft.at_ K)] = [aWishOf.val, aWishLeft.val] := congrArg (fun z : AlW => z.2.2) e
  have s1 : He5.fnA K (aWishOf.at_ K) = aWishOf.val := (List.cons.inj ss).1
  have s2 : He5.fnA K (aWishLeft.at_ K) = aWishLeft.val := (List.cons.inj (List.cons.inj ss).2).1
  exact {
    f_isinstance := He.free_ok X G (c.fact 51 (f := .free "isinstance") rfl)
    f_int := He.free_ok X G (c.fact 52 (f := .free "int") rfl)
    f_bool := He.free_ok X G (c.fact 53 (f := .free "bool") rfl)
    f_list := He.free_ok X G (c.fact 54 (f := .free "list") rfl)
    f_tuple := He.free_ok X G (c.fact 55 (f := .free "tuple") rfl)
    f_all := He.free_ok X G (c.fact 56 (f := .free "all") rfl)
    f_len := He.free_ok X G (c.fact 57 (f := .free "len") rfl)
    f_range := He.free_ok X G (c.fact 58 (f := .free "range") rfl)
    f_enumerate := He.free_ok X G (c.fact 59 (f := .free "enumerate") rfl)
    f_zip := He.free_ok X G (c.fact 60 (f := .free "zip") rfl)
    f_sorted := He.free_ok X G (c.fact 61 (f := .free "sorted") rfl)
    f_set := He.free_ok X G (c.fact 62 (f := .free "set") rfl)
    f_max := He.free_ok X G (c.fact 63 (f := .free "max") rfl)
    f_abs := He.free_ok X G (c.fact 64 (f := .free "abs") rfl)
    g_Rule := He.glo_ok X G (c.fact 43 (f := .glo "Rule") rfl)
    g_Question := He.glo_ok X G (c.fact 44 (f := .glo "Question") rfl)
    g_Stock := He.glo_ok X G (c.fact 45 (f := .glo "Stock") rfl)
    g_Wish := He.glo_ok X G (c.fact 46 (f := .glo "Wish") rfl)
    g_Case := He.glo_ok X G (c.fact 47 (f := .glo "Case") rfl)
    g_Standing := He.glo_ok X G (c.fact 48 (f := .glo "Standing") rfl)
    g_Evening := He.glo_ok X G (c.fact 49 (f := .glo "Evening") rfl)
    g_Broken := He.glo_ok X G (c.fact 50 (f := .glo "Broken") rfl)
    k_MOST_ANSWERERS_rules := kF (He.int_ok X G (c.fact 65 (f := .int "MOST_ANSWERERS_rules" 4) rfl))
    k_MOST_THINGS := kF (He.int_ok X G (c.fact 66 (f := .int "MOST_THINGS" 16) rfl))
    k_MOST_WHO := kF (He.int_ok X G (c.fact 67 (f := .int "MOST_WHO" 3) rfl))
    k_MOST_HEAP := kF (He.int_ok X G (c.fact 68 (f := .int "MOST_HEAP" 2) rfl))
    k_MOST_ANSWERERS_stocks := kF (He.int_ok X G (c.fact 69 (f := .int "MOST_ANSWERERS_stocks" 4) rfl))
    k_LEAST_HEAPS := kF (He.int_ok X G (c.fact 70 (f := .int "LEAST_HEAPS" 2) rfl))
    k_MOST_HEAPS := kF (He.int_ok X G (c.fact 71 (f := .int "MOST_HEAPS" 3) rfl))
    v_Rule_MOST := vF (x_rd_Rule xs) (x_most_Rule xs)
    v_Stock_MOST := vF (x_rd_Stock xs) (x_most_Stock xs)
    c_Rule := He.cls_ok (c.fact 72 (f := .cls "Rule") rfl)
    a_Rule_answerers := He.noat_ok (c.fact 74 (f := .noat "Rule" "answerers") rfl)
    a_Rule_heaps := He.noat_ok (c.fact 75 (f := .noat "Rule" "heaps") rfl)
    a_Rule_rows := He.noat_ok (c.fact 76 (f := .noat "Rule" "rows") rfl)
    a_Rule_is_even := He.noat_ok (c.fact 77 (f := .noat "Rule" "is_even") rfl)
    c_Question := He.cls_ok (c.fact 78 (f := .cls "Question") rfl)
    a_Question_who := He.noat_ok (c.fact 80 (f := .noat "Question" "who") rfl)
    a_Question_heaps := He.noat_ok (c.fact 81 (f := .noat "Question" "heaps") rfl)
    a_Question_is_idle := He.noat_ok (c.fact 82 (f := .noat "Question" "is_idle") rfl)
    c_Stock := He.cls_ok (c.fact 83 (f := .cls "Stock") rfl)
    a_Stock_things := He.noat_ok (c.fact 85 (f := .noat "Stock" "things") rfl)
    a_Stock_answerers := He.noat_ok (c.fact 86 (f := .noat "Stock" "answerers") rfl)
    a_Stock_heaps := He.noat_ok (c.fact 87 (f := .noat "Stock" "heaps") rfl)
    a_Stock_questions := He.noat_ok (c.fact 88 (f := .noat "Stock" "questions") rfl)
    c_Wish := He.cls_ok (c.fact 89 (f := .cls "Wish") rfl)
    a_Wish_classes := He.noat_ok (c.fact 91 (f := .noat "Wish" "classes") rfl)
    a_Wish_most := He.noat_ok (c.fact 92 (f := .noat "Wish" "most") rfl)
    c_Case := He.cls_ok (c.fact 93 (f := .cls "Case") rfl)
    a_Case_stock := He.noat_ok (c.fact 95 (f := .noat "Case" "stock") rfl)
    a_Case_rule := He.noat_ok (c.fact 96 (f := .noat "Case" "rule") rfl)
    a_Case_firsts := He.noat_ok (c.fact 97 (f := .noat "Case" "firsts") rfl)
    a_Case_wish := He.noat_ok (c.fact 98 (f := .noat "Case" "wish") rfl)
    a_Case_things := He.noat_ok (c.fact 99 (f := .noat "Case" "things") rfl)
    a_Case_answerers := He.noat_ok (c.fact 100 (f := .noat "Case" "answerers") rfl)
    a_Case_heaps := He.noat_ok (c.fact 101 (f := .noat "Case" "heaps") rfl)
    c_Standing := He.cls_ok (c.fact 102 (f := .cls "Standing") rfl)
    a_Standing_story := He.noat_ok (c.fact 104 (f := .noat "Standing" "story") rfl)
    a_Standing_given := He.noat_ok (c.fact 105 (f := .noat "Standing" "given") rfl)
    a_Standing_asked := He.noat_ok (c.fact 106 (f := .noat "Standing" "asked") rfl)
    a_Standing_tolds := He.noat_ok (c.fact 107 (f := .noat "Standing" "tolds") rfl)
    a_Standing_heard := He.noat_ok (c.fact 108 (f := .noat "Standing" "heard") rfl)
    a_Standing_unheard := He.noat_ok (c.fact 109 (f := .noat "Standing" "unheard") rfl)
    a_Standing_log := He.noat_ok (c.fact 110 (f := .noat "Standing" "log") rfl)
    a_Standing_stands := He.noat_ok (c.fact 111 (f := .noat "Standing" "stands") rfl)
    a_Standing_open_things := He.noat_ok (c.fact 112 (f := .noat "Standing" "open_things") rfl)
    a_Standing_is_settled := He.noat_ok (c.fact 113 (f := .noat "Standing" "is_settled") rfl)
    a_Standing_sure := He.noat_ok (c.fact 114 (f := .noat "Standing" "sure") rfl)
    c_Evening := He.cls_ok (c.fact 115 (f := .cls "Evening") rfl)
    a_Evening_case := He.noat_ok (c.fact 117 (f := .noat "Evening" "case") rfl)
    a_Evening_past := He.noat_ok (c.fact 118 (f := .noat "Evening" "past") rfl)
    a_Evening_undone := He.noat_ok (c.fact 119 (f := .noat "Evening" "undone") rfl)
    a_Evening_now := He.noat_ok (c.fact 120 (f := .noat "Evening" "now") rfl)
    a_Evening_story := He.noat_ok (c.fact 121 (f := .noat "Evening" "story") rfl)
    a_Evening_asked := He.noat_ok (c.fact 122 (f := .noat "Evening" "asked") rfl)
    a_Evening_heard := He.noat_ok (c.fact 123 (f := .noat "Evening" "heard") rfl)
    a_Evening_unheard := He.noat_ok (c.fact 124 (f := .noat "Evening" "unheard") rfl)
    a_Evening_log := He.noat_ok (c.fact 125 (f := .noat "Evening" "log") rfl)
    a_Evening_stands := He.noat_ok (c.fact 126 (f := .noat "Evening" "stands") rfl)
    a_Evening_open_things := He.noat_ok (c.fact 127 (f := .noat "Evening" "open_things") rfl)
    a_Evening_is_settled := He.noat_ok (c.fact 128 (f := .noat "Evening" "is_settled") rfl)
    a_Evening_sure := He.noat_ok (c.fact 129 (f := .noat "Evening" "sure") rfl)
    i_Question := insB_ok (He.cls_ok (c.fact 78 (f := .cls "Question") rfl)) (x_ins_Question xs)
    i_Stock := insB_ok (He.cls_ok (c.fact 83 (f := .cls "Stock") rfl)) (x_ins_Stock xs)
    i_Rule := insB_ok (He.cls_ok (c.fact 72 (f := .cls "Rule") rfl)) (x_ins_Rule xs)
    i_Wish := insB_ok (He.cls_ok (c.fact 89 (f := .cls "Wish") rfl)) (x_ins_Wish xs)
    i_Case := insB_ok (He.cls_ok (c.fact 93 (f := .cls "Case") rfl)) (x_ins_Case xs)
    d_is_integer := dF (He.glo_ok X G (c.fact 0 (f := .glo "is_integer") rfl)) (c.def_ 0 (d := dIsInteger) rfl)
    d_is_within := dF (He.glo_ok X G (c.fact 1 (f := .glo "is_within") rfl)) (c.def_ 1 (d := dIsWithin) rfl)
    d_is_list := dF (He.glo_ok X G (c.fact 2 (f := .glo "is_list") rfl)) (c.def_ 2 (d := dIsList) rfl)
    d_are_within := dF (He.glo_ok X G (c.fact 3 (f := .glo "are_within") rfl)) (c.def_ 3 (d := dAreWithin) rfl)
    d_are_rows := dF (He.glo_ok X G (c.fact 4 (f := .glo "are_rows") rfl)) (c.def_ 4 (d := dAreRows) rfl)
    d_need_live := dF (He.glo_ok X G (c.fact 5 (f := .glo "need_live") rfl)) (c.def_ 5 (d := dNeedLive) rfl)
    d_is_even_line := dF (He.glo_ok X G (c.fact 6 (f := .glo "is_even_line") rfl)) (c.def_ 6 (d := dIsEvenLine) rfl)
    d_next_of := dF (He.glo_ok X G (c.fact 7 (f := .glo "next_of") rfl)) (c.def_ 7 (d := dNextOf) rfl)
    d_need_sizes := dF (He.glo_ok X G (c.fact 8 (f := .glo "need_sizes") rfl)) (c.def_ 8 (d := dNeedSizes) rfl)
    d_need_number := dF (He.glo_ok X G (c.fact 9 (f := .glo "need_number") rfl)) (c.def_ 9 (d := dNeedNumber) rfl)
    d_is_fitting := dF (He.glo_ok X G (c.fact 10 (f := .glo "is_fitting") rfl)) (c.def_ 10 (d := dIsFitting) rfl)
    d_first_again := dF (He.glo_ok X G (c.fact 11 (f := .glo "first_again") rfl)) (c.def_ 11 (d := dFirstAgain) rfl)
    d_numbered := dF (He.glo_ok X G (c.fact 12 (f := .glo "numbered") rfl)) (c.def_ 12 (d := dNumbered) rfl)
    d_met_by := dF (He.glo_ok X G (c.fact 13 (f := .glo "met_by") rfl)) (c.def_ 13 (d := dMetBy) rfl)
    d_need_like := dF (He.glo_ok X G (c.fact 14 (f := .glo "need_like") rfl)) (c.def_ 14 (d := dNeedLike) rfl)
    d_need_log := dF (He.glo_ok X G (c.fact 15 (f := .glo "need_log") rfl)) (c.def_ 15 (d := dNeedLog) rfl)
    d_heaps_for := dF (He.glo_ok X G (c.fact 16 (f := .glo "heaps_for") rfl)) (c.def_ 16 (d := dHeapsFor) rfl)
    d_stands_behind := dF (He.glo_ok X G (c.fact 17 (f := .glo "stands_behind") rfl)) (c.def_ 17 (d := dStandsBehind) rfl)
    d_stands_of := dF (He.glo_ok X G (c.fact 18 (f := .glo "stands_of") rfl)) (c.def_ 18 (d := dStandsOf) rfl)
    d_open_ones := dF (He.glo_ok X G (c.fact 19 (f := .glo "open_ones") rfl)) (c.def_ 19 (d := dOpenOnes) rfl)
    d_stands_left := dF (He.glo_ok X G (c.fact 20 (f := .glo "stands_left") rfl)) (c.def_ 20 (d := dStandsLeft) rfl)
    d_is_broken := dF (He.glo_ok X G (c.fact 21 (f := .glo "is_broken") rfl)) (c.def_ 21 (d := dIsBroken) rfl)
    d_place_in := dF (He.glo_ok X G (c.fact 22 (f := .glo "place_in") rfl)) (c.def_ 22 (d := dPlaceIn) rfl)
    d_sure_of := dF (He.glo_ok X G (c.fact 23 (f := .glo "sure_of") rfl)) (c.def_ 23 (d := dSureOf) rfl)
    d_law_pot := dF (He.glo_ok X G (c.fact 24 (f := .glo "_law_pot") rfl)) (c.def_ 24 (d := dLawPot) rfl)
    d_law_dip := dF (He.glo_ok X G (c.fact 25 (f := .glo "_law_dip") rfl)) (c.def_ 25 (d := dLawDip) rfl)
    d_law_out := dF (He.glo_ok X G (c.fact 26 (f := .glo "_law_out") rfl)) (c.def_ 26 (d := dLawOut) rfl)
    d_law_spots := dF (He.glo_ok X G (c.fact 27 (f := .glo "_law_spots") rfl)) (c.def_ 27 (d := dLawSpots) rfl)
    d_law_any_row := dF (He.glo_ok X G (c.fact 28 (f := .glo "_law_any_row") rfl)) (c.def_ 28 (d := dLawAnyRow) rfl)
    d_law_rows := dF (He.glo_ok X G (c.fact 29 (f := .glo "_law_rows") rfl)) (c.def_ 29 (d := dLawRows) rfl)
    d_law_plain := dF (He.glo_ok X G (c.fact 30 (f := .glo "_law_plain") rfl)) (c.def_ 30 (d := dLawPlain) rfl)
    d_law_case := dF (He.glo_ok X G (c.fact 31 (f := .glo "_law_case") rfl)) (c.def_ 31 (d := dLawCase) rfl)
    d_law_next := dF (He.glo_ok X G (c.fact 32 (f := .glo "_law_next") rfl)) (c.def_ 32 (d := dLawNext) rfl)
    d_law_answers := dF (He.glo_ok X G (c.fact 33 (f := .glo "_law_answers") rfl)) (c.def_ 33 (d := dLawAnswers) rfl)
    d_law_end := dF (He.glo_ok X G (c.fact 34 (f := .glo "_law_end") rfl)) (c.def_ 34 (d := dLawEnd) rfl)
    d_law_stands := dF (He.glo_ok X G (c.fact 35 (f := .glo "_law_stands") rfl)) (c.def_ 35 (d := dLawStands) rfl)
    d_law_open := dF (He.glo_ok X G (c.fact 36 (f := .glo "_law_open") rfl)) (c.def_ 36 (d := dLawOpen) rfl)
    d_law_is_refused := dF (He.glo_ok X G (c.fact 37 (f := .glo "_law_is_refused") rfl)) (c.def_ 37 (d := dLawIsRefused) rfl)
    d_law_order := dF (He.glo_ok X G (c.fact 38 (f := .glo "_law_order") rfl)) (c.def_ 38 (d := dLawOrder) rfl)
    d_law_asked := dF (He.glo_ok X G (c.fact 39 (f := .glo "_law_asked") rfl)) (c.def_ 39 (d := dLawAsked) rfl)
    d_law_hearing_right := dF (He.glo_ok X G (c.fact 40 (f := .glo "_law_hearing_right") rfl)) (c.def_ 40 (d := dLawHearingRight) rfl)
    d_law_one_by_one_right := dF (He.glo_ok X G (c.fact 41 (f := .glo "_law_one_by_one_right") rfl)) (c.def_ 41 (d := dLawOneByOneRight) rfl)
    d_law := dF (He.glo_ok X G (c.fact 42 (f := .glo "law") rfl)) (c.def_ 42 (d := dLaw) rfl)
    n_Rule := nF (He.mkr_ok (c.fact 73 (f := .mkr "Rule") rfl)) (c.def_ 43 (d := dRuleInit) rfl)
    m_Rule_len := mF (He.meth_ok (x_len_Rule xs)) (c.def_ 44 (d := dRuleLen) rfl)
    n_Question := nF (He.mkr_ok (c.fact 79 (f := .mkr "Question") rfl)) (c.def_ 45 (d := dQuestionInit) rfl)
    n_Stock := nF (He.mkr_ok (c.fact 84 (f := .mkr "Stock") rfl)) (c.def_ 46 (d := dStockInit) rfl)
    n_Wish := nF (He.mkr_ok (c.fact 90 (f := .mkr "Wish") rfl)) (c.def_ 47 (d := dWishInit) rfl)
    s_Wish_of := sF (x_rd_Wish xs) (x_st_of xs) rfl s1 (fun _ _ F => F)
    s_Wish_left := sF (x_rd_Wish xs) (x_st_left xs) rfl s2 (fun _ _ F => F)
    n_Case := nF (He.mkr_ok (c.fact 94 (f := .mkr "Case") rfl)) (c.def_ 48 (d := dCaseInit) rfl)
    n_Standing := nF (He.mkr_ok (c.fact 103 (f := .mkr "Standing") rfl)) (c.def_ 49 (d := dStandingInit) rfl)
    n_Evening := nF (He.mkr_ok (c.fact 116 (f := .mkr "Evening") rfl)) (c.def_ 50 (d := dEveningInit) rfl)
    m_Evening_stand := mF (He.meth_ok (c.fact 130 (f := .meth "Evening" "stand") rfl)) (c.def_ 51 (d := dEveningStand) rfl)
    m_Evening_enter := mF (He.meth_ok (c.fact 131 (f := .meth "Evening" "enter") rfl)) (c.def_ 52 (d := dEveningEnter) rfl)
    m_Evening_ask := mF (He.meth_ok (c.fact 132 (f := .meth "Evening" "ask") rfl)) (c.def_ 53 (d := dEveningAsk) rfl)
    m_Evening_hear := mF (He.meth_ok (c.fact 133 (f := .meth "Evening" "hear") rfl)) (c.def_ 54 (d := dEveningHear) rfl)
    bk := brkB_ok (x_brk xs) (c.def_ 55 (d := dBrokenInit) rfl)
  }
end
end TW

set_option Elab.async false
set_option linter.all false
set_option maxRecDepth 100000
set_option maxHeartbeats 0
namespace TW
open PySem PySem.Spec PyProof.Rows L2
open PySem PySem.W PySem.Calls PyProof.Rows HandSHeadRun
/-! ### the top, run: what it leaves, in each of the two worlds -/
theorem join3 {σ α β γ : Type} {o : Option σ} {f : σ → α} {g : σ → β} {k : σ → γ} {a : α} {b : β} {c : γ} (h1 : o.map (fun s => (f s, g s)) = some (a, b)) (h2 : o.map k = some c) : o.map (fun s => (f s, g s, k s)) = some (a, b, c) := by
  cases o with
  | none => cases h1
  | some s =>
    have e1 : (f s, g s) = (a, b) := Option.some.inj h1
    have e2 : k s = c := Option.some.inj h2
    obtain ⟨e3, e4⟩ := Prod.mk.inj e1
    show some (f s, g s, k s) = some (a, b, c)
    rw [e3, e4, e2]
abbrev wF (w : World) : World := w.withFollow "special-get-raises" false
abbrev wT (w : World) : World := w.withFollow "special-get-raises" true
theorem factsF (w : World) (os : OsState) : (endF (stepQ (denQ tabQ) R.prog (w.withFollow "special-get-raises" false)) 60000 R.prog (w.withFollow "special-get-raises" false) os).map ob = some valW := by
  kernel_rfl
theorem factsT (w : World) (os : OsState) : (endF (stepQ (denQ tabQ) R.prog (w.withFollow "special-get-raises" true)) 60000 R.prog (w.withFollow "special-get-raises" true) os).map ob = some valW := by
  kernel_rfl
theorem looksF0 (w : World) (os : OsState) : (endF (stepQ (denQ tabQ) R.prog (w.withFollow "special-get-raises" false)) 60000 R.prog (w.withFollow "special-get-raises" false) os).map (fun s => (looksF R.prog (boot_heap (w.withFollow "special-get-raises" false).params) s.abs, seenQ qv names (importedModules R.prog.main.body) (fun s => xlAt qv [] s && recOk R.toRowW.records s) s.abs)) = some (true, openGood qv names) := by
  kernel_rfl
theorem looksT0 (w : World) (os : OsState) : (endF (stepQ (denQ tabQ) R.prog (w.withFollow "special-get-raises" true)) 60000 R.prog (w.withFollow "special-get-raises" true) os).map (fun s => (looksF R.prog (boot_heap (w.withFollow "special-get-raises" true).params) s.abs, seenQ qv names (importedModules R.prog.main.body) (fun s => xlAt qv [] s && recOk R.toRowW.records s) s.abs)) = some (true, openGood qv names) := by
  kernel_rfl
theorem runW (w : World) : RunEq R qv hkW ob 60000 names w :=
  byRow2 "special-get-raises" (P := fun w => RunEq R qv hkW ob 60000 names w) (fun w os => join3 (looksF0 w os) (factsF w os)) (fun w os => join3 (looksT0 w os) (factsT w os)) w
end TW

set_option Elab.async false
set_option linter.all false
set_option maxRecDepth 100000
set_option maxHeartbeats 4000000
namespace TW
open PySem PySem.Spec PyProof.Rows L2
/-! ### readings, step by step -/
section
variable {K : PySem.W.Frag} {σ : L2.St} {H : Hp} {Q : VK} {QT : Bool → Hp → Prop} {QA : List V → Hp → Prop} {QS : L2.St → Hp → Prop} {D : Ends} {te ta tb : TE} {tt uu : TT} {tr : TA} {ts us : TS} {g : TG} {r : R2} {i j : Int} {a b : Bool} {v x y : V} {n : Nat}
theorem r_seq (h : ts { D with nx := us D } σ H) : tSeq ts us D σ H := h
theorem r_next (h : D.nx σ H) : tNext D σ H := h
theorem r_ret (h : te σ H D.rt) : tRet te D σ H := h
theorem r_retN (h : D.rt .non H) : tRetN D σ H := h
theorem r_drop (h : te σ H fun _ H1 => D.nx σ H1) : tDrop te D σ H := h
theorem r_asg (h : te σ H fun x H1 => g x σ H1 D.nx) : tAsg te g D σ H := h
theorem r_if (h : tt σ H fun b H1 => if b = true then ts D σ H1 else us D σ H1) : tIfS tt ts us D σ H := h
theorem r_gName (h : QS (σ.set n (some v)) H) : gName n v σ H QS := h
theorem r_par {k l : Nat} (h : tr σ H fun vs H1 => ∃ v w, vs = [v, w] ∧ D.nx ((σ.set k (some v)).set l (some w)) H1) : tPar k l tr D σ H := h
theorem r_var (e : σ[n]? = some (some v)) (h : Q v H) : tVar n σ H Q := ⟨v, e, h⟩
theorem r_c (h : Q v H) : tC v σ H Q := h
theorem r_cons (h : te σ H fun x H1 => tr σ H1 fun xs H2 => QA (x :: xs) H2) : tCons te tr σ H QA := h
theorem r_nil (h : QA [] H) : tNil σ H QA := h
theorem r_op (h : ta σ H fun x H1 => tb σ H1 fun y H2 => r x y H2 Q) : tOp r ta tb σ H Q := h
theorem r_CB {f : List V → Hp → VK → Prop} (h : tr σ H fun vs H1 => f vs H1 Q) : tCB f tr σ H Q := h
theorem r_andV (h : ta σ H fun x H1 => ∃ c, x = .bl c ∧ if c = true then tb σ H1 Q else Q (.bl false) H1) : tAndV ta tb σ H Q := h
theorem r_orV (h : ta σ H fun x H1 => ∃ c, x = .bl c ∧ if c = true then Q (.bl true) H1 else tb σ H1 Q) : tOrV ta tb σ H Q := h
theorem r_notV (h : ta σ H fun x H1 => ∃ c, x = .bl c ∧ Q (.bl (!c)) H1) : tNotV ta σ H Q := h
theorem r_tIf (h : tt σ H fun c H1 => if c = true then ta σ H1 Q else tb σ H1 Q) : tIf tt ta tb σ H Q := h
theorem r_B (h : te σ H fun x H1 => ∃ c, x = .bl c ∧ QT c H1) : tB te σ H QT := h
theorem r_Test (h : te σ H fun x H1 => ∃ c, x = .bl c ∧ QT c H1) : tTest te σ H QT := h
theorem r_and (h : tt σ H fun c H1 => if c = true then uu σ H1 QT else QT false H1) : tAnd tt uu σ H QT := h
theorem r_or (h : tt σ H fun c H1 => if c = true then QT true H1 else uu σ H1 QT) : tOr tt uu σ H QT := h
theorem r_not (h : tt σ H fun c H1 => QT (!c) H1) : tNot tt σ H QT := h
theorem r_yes (h : QT true H) : tYes σ H QT := h
theorem r_bl {P : Bool → Prop} (h : P a) : ∃ c, V.bl a = .bl c ∧ P c := ⟨a, rfl, h⟩
theorem r_T {A A' : Prop} (h : A) : if true = true then A else A' := by
  rw [if_pos rfl]
  exact h
theorem r_F {A A' : Prop} (h : A') : if false = true then A else A' := by
  rw [if_neg Bool.false_ne_true]
  exact h
theorem r_nT {A A' : Prop} (h : A') : if (!true) = true then A else A' := by
  rw [if_neg (by decide)]
  exact h
theorem r_nF {A A' : Prop} (h : A) : if (!false) = true then A else A' := by
  rw [if_pos (by decide)]
  exact h
theorem r_dT {c : Prop} [Decidable c] {A A' : Prop} (e : c) (h : A) : if decide c = true then A else A' := by
  rw [if_pos (decide_eq_true e)]
  exact h
theorem r_dF {c : Prop} [Decidable c] {A A' : Prop} (e : ¬ c) (h : A') : if decide c = true then A else A' := by
  rw [if_neg (by rw [decide_eq_false e]; exact Bool.false_ne_true)]
  exact h
theorem r_bT {c : Bool} {A A' : Prop} (e : c = true) (h : A) : if c = true then A else A' := by
  rw [if_pos e]
  exact h
theorem r_bF {c : Bool} {A A' : Prop} (e : c = false) (h : A') : if c = true then A else A' := by
  rw [e, if_neg Bool.false_ne_true]
  exact h
theorem r_2 {c : Bool} {A A' : Prop} (h : c = true → A) (h' : c = false → A') : if c = true then A else A' := by
  cases c with
  | true => exact r_T (h rfl)
  | false => exact r_F (h' rfl)
theorem r_I0 {f : Int → Int → V} (h : Q (f i j) H) : rI0 f (.int i) (.int j) H Q := ⟨i, j, rfl, rfl, h⟩
theorem r_I {f : Int → Int → V} {C : Int → Int → Prop} (h : Q (f i j) H) (c : C i j) : rI C f (.int i) (.int j) H Q := ⟨i, j, rfl, rfl, c, h⟩
theorem dec_int' {i j : Int} : decide (V.int i = V.int j) = decide (i = j) := by
  by_cases e : i = j
  · subst e
    rw [decide_eq_true rfl, decide_eq_true rfl]
  · rw [decide_eq_false e, decide_eq_false fun q => e (V.int.inj q)]
theorem dec_bl' {i j : Bool} : decide (V.bl i = V.bl j) = decide (i = j) := by
  cases i <;> cases j <;> decide
theorem r_eqI (h : Q (.bl (decide (i = j))) H) : rEq (.int i) (.int j) H Q := ⟨rfl, by rw [dec_int']; exact h⟩
theorem r_neI (h : Q (.bl (!decide (i = j))) H) : rNe (.int i) (.int j) H Q := ⟨rfl, by rw [dec_int']; exact h⟩
theorem r_eqB (h : Q (.bl (decide (a = b))) H) : rEq (.bl a) (.bl b) H Q := ⟨rfl, by rw [dec_bl']; exact h⟩
theorem r_neB (h : Q (.bl (!decide (a = b))) H) : rNe (.bl a) (.bl b) H Q := ⟨rfl, by rw [dec_bl']; exact h⟩
theorem r_isN0 (h : Q (.bl true) H) : rIsN .non .non H Q := ⟨rfl, h⟩
theorem r_isN1 (h : Q (.bl false) H) : rIsN (.int i) .non H Q := ⟨rfl, h⟩
theorem r_isN2 {p : Addr} (h : Q (.bl false) H) : rIsN (.ref p) .non H Q := ⟨rfl, h⟩
theorem r_notN0 (h : Q (.bl false) H) : rNotN .non .non H Q := ⟨rfl, h⟩
theorem r_notN1 (h : Q (.bl true) H) : rNotN (.int i) .non H Q := ⟨rfl, h⟩
theorem r_notN2 {p : Addr} (h : Q (.bl true) H) : rNotN (.ref p) .non H Q := ⟨rfl, h⟩
/-- None or an int -/
def oV : Option Int → V
  | none => .non
  | some i => .int i
theorem r_isNo {o : Option Int} (h : Q (.bl o.isNone) H) : rIsN (oV o) .non H Q := ⟨rfl, by cases o <;> exact h⟩
theorem r_notNo {o : Option Int} (h : Q (.bl o.isSome) H) : rNotN (oV o) .non H Q := ⟨rfl, by cases o <;> exact h⟩
/-- reading an attribute -/
def FldG (K : PySem.W.Frag) (f : Str) (x : V) (H : Hp) (Q : VK) : Prop := ∃ a C dx fs v, x = .ref a ∧ H a = some (.ins C dx fs) ∧ Cls K C ∧ NoAttr K C f ∧ fs.lookup f = some v ∧ Q v H
theorem r_fld {f : Str} (h : te σ H fun x H1 => FldG K f x H1 Q) : tFld K te f σ H Q := h
theorem r_fldG {f : Str} {p C dx : Addr} {fs : List (Str × V)} (e : H p = some (.ins C dx fs)) (c : Cls K C) (na : NoAttr K C f) (l : fs.lookup f = some v) (h : Q v H) : FldG K f (.ref p) H Q := ⟨p, C, dx, fs, v, rfl, e, c, na, l, h⟩
/-- storing one -/
def StG (K : PySem.W.Frag) (f : Str) (y x : V) (H : Hp) (R : Hp → Prop) : Prop := ∃ a C dx fs, x = .ref a ∧ H a = some (.ins C dx fs) ∧ Cls K C ∧ NoAttr K C f ∧ fs.length < 1000 ∧ R (upd H a (.ins C dx (putF f y fs)))
theorem r_sfld {f : Str} (h : tb σ H fun y H1 => ta σ H1 fun x H2 => StG K f y x H2 (D.nx σ)) : sFld K ta tb f D σ H := h
theorem r_stG {f : Str} {p C dx : Addr} {fs : List (Str × V)} {R : Hp → Prop} (e : H p = some (.ins C dx fs)) (c : Cls K C) (na : NoAttr K C f) (l : fs.length < 1000) (h : R (upd H p (.ins C dx (putF f y fs)))) : StG K f y (.ref p) H R := ⟨p, C, dx, fs, rfl, e, c, na, l, h⟩
theorem r_tup (h : tr σ H fun xs H1 => xs.length ≤ sizeLine ∧ ∀ p, H1 p = none → Q (.ref p) (upd H1 p (.tup xs))) : tTup tr σ H Q := h
theorem r_lst (h : tr σ H fun xs H1 => xs.length ≤ sizeLine ∧ ∀ p, H1 p = none → Q (.ref p) (upd H1 p (.lst xs))) : tLst tr σ H Q := h
theorem r_call {sp : Sp} {dvs : List V} {E : XK} (h : tr σ H fun vs H1 => sp (vs ++ dvs) H1 Q E) : tCall sp dvs E tr σ H Q := h
theorem r_make {sp : Sp} {C : Addr} {dvs : List V} {E : XK} (h : tr σ H fun vs H1 => ∀ x dx, H1 x = none → H1 dx = none → dx ≠ x → sp (.ref x :: (vs ++ dvs)) (upd (upd H1 dx (.own x)) x (.ins C dx [])) (fun v H2 => v = .non ∧ Q (.ref x) H2) E) : tMake C sp dvs E tr σ H Q := h
theorem r_sl {f : V → Option Int → Option Int → Hp → VK → Prop} {tl th : TO} (h : te σ H fun x H1 => tl σ H1 fun lo H2 => th σ H2 fun hi H3 => f x lo hi H3 Q) : tSl f te tl th σ H Q := h
theorem r_part {QO : Option Int → Hp → Prop} (h : te σ H fun x H1 => ∃ i, x = .int i ∧ QO (some i) H1) : tPart te σ H QO := h
theorem r_noPart {QO : Option Int → Hp → Prop} (h : QO none H) : tNoPart σ H QO := h
theorem r_iList {R : It → Hp → Prop} (h : te σ H fun x H1 => ∃ a, x = .ref a ∧ (∃ xs, SqL K H1 a xs) ∧ R (Itl K a) H1) : iList K te σ H R := h
theorem r_iTup {R : It → Hp → Prop} (h : te σ H fun x H1 => ∃ a, x = .ref a ∧ (∃ xs, SqT K H1 a xs) ∧ R (Itt K a) H1) : iTup K te σ H R := h
theorem r_iRng1 {R : It → Hp → Prop} (h : tr σ H fun vs H1 => ∃ j : Int, vs = [.int j] ∧ -(2 ^ 62) ≤ j ∧ j < 2 ^ 62 ∧ R (Itr 0 j.toNat) H1) : iRng1 tr σ H R := h
theorem r_iEnum {R : It → Hp → Prop} (h : tr σ H fun vs H1 => ∃ a xs, vs = [.ref a] ∧ SqL K H1 a xs ∧ R (Ite K a) H1) : iEnum K tr σ H R := h
/-- an item of a list, a tuple, at a place -/
theorem r_ixL {p : Addr} {xs : List V} {k : Nat} (e : H p = some (.lst xs)) (hx : xs[k]? = some v) (h : Q v H) : rIxL K (.ref p) (.int (k : Int)) H Q := ⟨p, xs, _, v, rfl, rfl, SqL.of e, atI_nat hx, h⟩
theorem r_ixT {p : Addr} {xs : List V} {k : Nat} (e : H p = some (.tup xs)) (hx : xs[k]? = some v) (h : Q v H) : rIxT K (.ref p) (.int (k : Int)) H Q := ⟨p, xs, _, v, rfl, rfl, SqT.of e, atI_nat hx, h⟩
theorem r_lenL {p : Addr} {xs : List V} (e : H p = some (.lst xs)) (h : Q (.int (xs.length : Int)) H) : Evl.rLenS K [.ref p] H Q := ⟨p, xs, rfl, .inl (SqL.of e), h⟩
theorem r_lenT {p : Addr} {xs : List V} (e : H p = some (.tup xs)) (h : Q (.int (xs.length : Int)) H) : Evl.rLenS K [.ref p] H Q := ⟨p, xs, rfl, .inr (SqT.of e), h⟩
theorem r_listL {p : Addr} {xs : List V} (e : H p = some (.lst xs)) (h : ∀ l, H l = none → Q (.ref l) (upd H l (.lst xs))) : Evl.rListS K [.ref p] H Q := ⟨p, xs, rfl, .inl (SqL.of e), h⟩
theorem r_listT {p : Addr} {xs : List V} (e : H p = some (.tup xs)) (h : ∀ l, H l = none → Q (.ref l) (upd H l (.lst xs))) : Evl.rListS K [.ref p] H Q := ⟨p, xs, rfl, .inr (SqT.of e), h⟩
theorem r_tupL {p : Addr} {xs : List V} (e : H p = some (.lst xs)) (h : ∀ l, H l = none → Q (.ref l) (upd H l (.tup xs))) : qTupS K [.ref p] H Q := ⟨p, xs, rfl, .inl ⟨SqL.of e, h⟩⟩
theorem r_tupT {p : Addr} {xs : List V} (e : H p = some (.tup xs)) (h : Q (.ref p) H) : qTupS K [.ref p] H Q := ⟨p, xs, rfl, .inr ⟨SqT.of e, h⟩⟩
theorem r_int1 (h : Q (.int i) H) : qInt1 [.int i] H Q := .inl ⟨i, rfl, h⟩
theorem r_intB (h : Q (.int (if a then 1 else 0)) H) : qInt1 [.bl a] H Q := .inr ⟨a, rfl, h⟩
theorem r_abs (h : Q (.int (if i < 0 then -i else i)) H) : qAbs [.int i] H Q := ⟨i, rfl, h⟩
theorem r_isC {p C dx : Addr} {fs : List (Str × V)} (e : H p = some (.ins C dx fs)) (h : Q (.bl true) H) : rIsC C [.ref p, .ref C] H Q := ⟨p, dx, fs, rfl, e, h⟩
theorem r_all {p : Addr} {bs : List Bool} (e : H p = some (.lst (bs.map V.bl))) (h : Q (.bl (bs.all id)) H) : rAll K [.ref p] H Q := ⟨p, bs, rfl, SqL.of e, h⟩
theorem r_bm {T : String} {f : V → List V → Hp → VK → Prop} (h : ta σ H fun x H1 => tyV K T x H1 ∧ tr σ H1 fun xs H2 => f x xs H2 Q) : tBM K T f ta tr σ H Q := h
theorem tyL {p : Addr} {xs : List V} (e : H p = some (.lst xs)) : tyV K "list" (.ref p) H := .inl ⟨rfl, _, SqL.of e⟩
theorem r_append {p : Addr} {xs : List V} (e : H p = some (.lst xs)) (l : xs.length < sizeLine) (h : Q .non (upd H p (.lst (xs ++ [v])))) : rAppend (.ref p) [v] H Q := ⟨p, xs, v, rfl, rfl, e, l, h⟩
theorem szL {n : Nat} (h : n ≤ 100000) : n ≤ sizeLine := Nat.le_trans h (by decide)
theorem szT {n : Nat} (h : n ≤ 100000) : n < sizeLine := Nat.lt_of_le_of_lt h (by decide)
theorem r_eqD {d e : PyData} (hx : Rp H x d) (hy : Rp H y e) (sd : SeqAt.shaped d = true) (se : SeqAt.shaped e = true) (h : Q (.bl (PyData.eqv d e)) H) : rEqD K x y H Q := ⟨d, e, hx.dp, hy.dp, sd, se, h⟩
theorem r_neD {d e : PyData} (hx : Rp H x d) (hy : Rp H y e) (sd : SeqAt.shaped d = true) (se : SeqAt.shaped e = true) (h : Q (.bl (!PyData.eqv d e)) H) : rNeD K x y H Q := ⟨d, e, hx.dp, hy.dp, sd, se, h⟩
/-- isinstance of an int -/
theorem r_isiI {c : String} {k : Bool} (e : kitB "int" c = some k) (h : Q (.bl k) H) : rIsi K [.int i, .ty c] H Q := ⟨_, _, _, _, k, rfl, .ty _, .base (.int _), kit_ty e, h⟩
end
end TW

set_option Elab.async false
set_option linter.all false
set_option maxRecDepth 100000
set_option maxHeartbeats 4000000
namespace TW
open PySem PySem.Spec PyProof.Rows L2
namespace EZ
/-! ### enumerate over a tuple, zip of a list with a tuple, max of a tuple -/
def IteT (K : PySem.W.Frag) (a : Addr) : It where
  go i H := ∃ (xs : List V) (x : V), SqT K H a xs ∧ xs[i]? = some x
  yld i H v H' := ∃ T x, v = .ref T ∧ H T = none ∧ H' = upd H T (.tup [.int (i : Nat), x]) ∧ ∀ xs, SqT K H a xs → xs[i]? = some x
  stop i H := ∃ xs : List V, SqT K H a xs ∧ xs.length = i
theorem tup_apart {h : Heap} {a it : Addr} {its : Array Value} {i : Nat} (p : h.IsTuple a its) (q : h.IsTupleIter it a i) : a ≠ it := by
  rintro rfl
  obtain ⟨o1, e1, c1, _⟩ := p
  obtain ⟨o2, e2, c2, _⟩ := q
  rw [e1] at e2
  cases e2
  rw [c1] at c2
  exact absurd (Value.type.inj c2) (by decide)
theorem turn_enumT {P : Program} {w : World} {K : PySem.W.Frag} {elts : List Expr} {kk : Nat} {tpos : Pos} (a e it : Addr) :
    Turn P w K (.Tuple elts kk tpos) (IteT K a) [e, it] e (fun i h => (∃ old, IsEnum h e it ((i : Nat) : Int) old) ∧ h.IsTupleIter it a i ∧ e ≠ it) where
  mem := List.mem_cons_self
  obj := by
    rintro i h ⟨⟨old, he⟩, ⟨o, ho, hc, hd⟩, _⟩ b hb
    rcases List.mem_cons.mp hb with z | z
    · subst z
      exact ⟨_, he, fun v q => nomatch q⟩
    · have z := List.mem_singleton.mp z
      subst z
      exact ⟨o, ho, fun v q => by rw [hd] at q; cases q⟩
  keep := by
    rintro i h h' ⟨⟨old, he⟩, hi, hne⟩ k
    exact ⟨⟨old, k e List.mem_cons_self _ he⟩, hi.at fun o q => k it (List.mem_cons_of_mem _ List.mem_cons_self) o q, hne⟩
  item := by
    intro X hP hw hK hc i pins s σ H E I hf st hg
    subst hP hw hK
    obtain ⟨⟨old, he⟩, hit, hne⟩ := st
    obtain ⟨xs, x, hq, hx⟩ := hg
    obtain ⟨its, rv, p, _⟩ := I.tuple hq
    obtain ⟨u, hu, ru⟩ := rv.get hx
    have hel : e < s.heap.objs.size := Heap.lt_size he
    have hil : it < s.heap.objs.size := by
      obtain ⟨_, q, _⟩ := id hit
      exact Heap.lt_size q
    have hap := tup_apart p hit
    have hea : e ≠ a := by
      rintro rfl
      obtain ⟨o1, e1, c1, _⟩ := id p
      rw [he] at e1
      cases e1
      exact absurd (Value.type.inj c1) (by decide)
    have hsz : its.toArray.size = its.length := List.size_toArray
    have hi : i < its.toArray.size := by
      rw [hsz]
      exact (List.getElem?_eq_some_iff.mp hu).1
    refine wpAny_pyNext_enum_itemD (Draws.tuple (A := X.A.in1) (I.ok.hd hc) it a hap its.toArray) he ⟨hit, p⟩ hi hne (by simp [hne, hea]) fun y h' tk hy ho hst hT _ hk => ?_
    have ey : y = u := by
      have q : its.toArray[i]? = some y := hy
      rw [List.getElem?_toArray, hu] at q
      exact (Option.some.inj q).symm
    subst ey
    refine ⟨_, rfl, wpAny_letOwnedTupleGo_enum (s := { s with heap := h', toks := tk + 1 }) ho fun h2 he2 sb => ?_⟩
    have hT2 : h2.get? s.heap.objs.size = some { cls := .type "tuple", data := .seq #[.int i tk, y] } := (sb.2 _ (Nat.ne_of_gt hel)).trans hT
    have new : ObjOk X.prog X.w (upd H s.heap.objs.size (.tup [.int (i : Nat), x])) h2 s.heap.objs.size (.tup [.int (i : Nat), x]) :=
      ⟨by show 2 ≤ sizeLine; decide, [.int i tk, y], .cons ⟨_, rfl⟩ (.cons ru .nil), ⟨_, hT2, rfl, _, rfl⟩⟩
    have J : Inv X pins σ (upd H s.heap.objs.size (.tup [.int (i : Nat), x])) { s with heap := h2, toks := tk + 1 } := by
      refine I.turnedNew (ch := [e, it]) (fun b ob hb q => ?_) hf (Nat.le_refl _) new
      have b1 : b ≠ e := fun z => hb (z ▸ List.mem_cons_self)
      have b2 : b ≠ it := fun z => hb (z ▸ List.mem_cons_of_mem _ List.mem_cons_self)
      exact (sb.2 b b1).trans (hk b ob b1 b2 q)
    refine ⟨.ref s.heap.objs.size, _, J, rfl, ⟨_, x, rfl, I.hok.fresh (Nat.le_refl _), rfl, fun ys hy => by rw [I.tuple_inj hy hq]; exact hx⟩, ⟨⟨y, ?_⟩, hst.1.at fun o q => (sb.2 it (Ne.symm hne)).trans q, hne⟩, fun b hb => ?_⟩
    · rw [show ((i + 1 : Nat) : Int) = (i : Int) + 1 from Int.natCast_succ i]
      exact he2
    · have hb' : b < s.heap.objs.size := by
        rcases List.mem_cons.mp hb with z | z
        · exact z ▸ hel
        · exact List.mem_singleton.mp z ▸ hil
      rw [upd_ne (Nat.ne_of_lt hb')]
      exact (hf b hb).1
  done := by
    intro X hP hw hK hc i pins s σ H E I hf st hg
    subst hP hw hK
    obtain ⟨⟨old, he⟩, hit, hne⟩ := st
    obtain ⟨xs, hq, hx⟩ := hg
    obtain ⟨its, rv, p, _⟩ := I.tuple hq
    have hap := tup_apart p hit
    have hl : its.toArray.size = i := by
      rw [List.size_toArray, ← rv.length]
      exact hx
    obtain ⟨f0, f1, f2, f3, f4, f5⟩ := hf it (List.mem_cons_of_mem _ List.mem_cons_self)
    refine wpAny_pyNext_enum_endD (Draws.tuple (A := X.A.in1) (I.ok.hd hc) it a hap its.toArray) he ⟨by rw [hl]; exact hit, p⟩ fun h' eb => ?_
    exact ⟨rfl, I.turned (t' := s.toks) (fun b o hb q => eb b o hb q) f0 f1 f3 f4 f5⟩
  self := by
    rintro A i s Q E ⟨⟨_, he⟩, _⟩ h
    exact wpAny_pyIter_enum he h
theorem meets_enum_tup (l : Addr) (items : Array Value) :
    Meets (Builtin.«enumerate.__new__» ⟨[.type "enumerate", .ref l], []⟩) (fun _ R s => s.heap.IsTuple l items ∧
      R (.ok (.ret (.ref (s.heap.push { cls := .type "tuple_iterator", data := .fields #[.ref l, .int 0 0] }).objs.size)))
        { s with heap := (s.heap.push { cls := .type "tuple_iterator", data := .fields #[.ref l, .int 0 0] }).push { cls := .type "enumerate", data := .fields #[.none, .bool false, .ref s.heap.objs.size, rawInt 0, .none, .none] } }) :=
  .of_wp fun prog w A R s h => by
    obtain ⟨hp, g, d, tk, os⟩ := s
    obtain ⟨hl, h⟩ := h
    have hsub := sub_enumerate
    have q1 : ∀ {A' : Around} {E : Value → Shared → Prop} {Q : Value → Shared → Prop}, Q (.ref hp.objs.size) ⟨hp.push { cls := .type "tuple_iterator", data := .fields #[.ref l, .int 0 0] }, g, d, tk, os⟩ → wpAny (model prog w) A' (pyIter (.ref l)) Q E ⟨hp, g, d, tk, os⟩ :=
      fun q => (begins_tuple l items).iter prog w _ _ ⟨hp, g, d, tk, os⟩ _ hl q
    wp_walk using q1
    refine wpAny_stack_any fun st => wpAny_pure ?_
    split
    · rename_i c _ _ _ _ _
      cases (c == Value.type "enumerate")
      · wp_walk using q1
        exact ⟨_, rfl, h⟩
      · wp_walk using q1
        exact ⟨_, rfl, h⟩
    · wp_walk using q1
      exact ⟨_, rfl, h⟩
theorem call_enum_tup {prog : Program} {w : World} {A : Around} {E : Value → Shared → Prop} {s : Shared} {l : Addr} {items : Array Value} {Q : Value → Shared → Prop} (hL : s.heap.IsTuple l items)
    (h : ∀ h', IsEnum h' (s.heap.objs.size + 1) s.heap.objs.size 0 .none → h'.IsTupleIter s.heap.objs.size l 0 → (∀ b o, s.heap.get? b = some o → h'.get? b = some o) → Q (.ref (s.heap.objs.size + 1)) { s with heap := h' }) :
    wpAny (model prog w) A (call (.type "enumerate") [.ref l]) Q E s := by
  refine callType_new F.called_enumerate (by decide) (F.typeCall_enumerate_1 _) (F.newCall_enumerate_1 _) (fun obj => F.args_object_init_2 obj _) F.entry_enumerate_new (meets_enum_tup l items) ⟨hL, ?_⟩
  have hz : (s.heap.push { cls := .type "tuple_iterator", data := .fields #[.ref l, .int 0 0] }).objs.size = s.heap.objs.size + 1 := Heap.size_push ..
  show _ ∧ _
  rw [hz]
  have he := Heap.get?_push_size (s.heap.push { cls := .type "tuple_iterator", data := .fields #[.ref l, .int 0 0] }) (o := { cls := .type "enumerate", data := .fields #[.none, .bool false, .ref s.heap.objs.size, rawInt 0, .none, .none] }) rfl
  rw [hz] at he
  exact ⟨⟨_, he, rfl⟩, h _ he ⟨_, Heap.get?_push_of_some _ (Heap.get?_push_size _ rfl), rfl, rfl⟩ fun b o x => Heap.get?_push_of_some _ (Heap.get?_push_of_some _ x)⟩
def iEnumT (K : PySem.W.Frag) (ta : TA) : TI := fun σ H R => ta σ H fun vs H1 => ∃ a xs, vs = [.ref a] ∧ SqT K H1 a xs ∧ R (IteT K a) H1
theorem pi_enumT {X : Cx} {e : Expr} {ta : TA} {p pos tpos : Pos} {elts : List Expr} {kk : Nat} (hg : Gl X "enumerate") (hm : X.mg "enumerate" = none) (ha : PA X [e] ta) (hs : starEach [e] X.env = [(false, eval e X.env)] := by rfl) :
    PI X (.Tuple elts kk tpos) (.Call (.Name "enumerate" p) [e] [] pos) (iEnumT X.K ta) := by
  refine ⟨fun pins s σ H R I h => Call_ (ld_blt I hg hm boot_enumerate (PyProof.Rows.callWith_type1 (thn (ha.run pos pins s σ H _ I h) fun us s1 hh => ?_) hs rfl))⟩
  obtain ⟨vs, H1, J, r1, a, xs, ex, hq, q⟩ := hh
  subst ex
  cases r1 with
  | cons r rr =>
    cases rr
    cases r
    obtain ⟨its, rv, p', _⟩ := J.tuple hq
    refine call_enum_tup p' fun h' he hit hk => wpAny_pyIter_enum he ?_
    have J2 : Inv X pins σ H1 { s1 with heap := h' } := J.kept (t' := s1.toks) hk
    refine ⟨s1.heap.objs.size + 1, [s1.heap.objs.size + 1, s1.heap.objs.size], _, _, H1, rfl, J2, turn_enumT a (s1.heap.objs.size + 1) s1.heap.objs.size, ⟨⟨.none, he⟩, hit, Nat.succ_ne_self _⟩, fun b hb => ?_, q⟩
    have hle : s1.heap.objs.size ≤ b := by
      rcases List.mem_cons.mp hb with z | z
      · exact z ▸ Nat.le_succ _
      · exact List.mem_singleton.mp z ▸ Nat.le_refl _
    exact J.fpOk hle (J.hok.fresh hle)
theorem walk_enumT {K : PySem.W.Frag} {a : Addr} {xs : List V} : Walk (IteT K a) xs.length (fun H => SqT K H a xs) (YPair (fun i => some (.int (i : Nat))) (fun i => xs[i]?)) := by
  refine ⟨fun i _ hi q => ⟨xs, xs[i], q, by simp [hi]⟩, fun _ q => ⟨xs, q, rfl⟩, fun i H v H' _ q y => ?_⟩
  obtain ⟨T, x, h1, h2, h3, h4⟩ := y
  exact ⟨T, _, x, h1, h2, h3, rfl, h4 xs q⟩
/-! ### zip(list, tuple) -/
def ItzM (K : PySem.W.Frag) (a b : Addr) : It where
  go i H := ∃ (xs ys : List V) (x y : V), SqL K H a xs ∧ SqT K H b ys ∧ xs[i]? = some x ∧ ys[i]? = some y
  yld i H v H' := ∃ T x y, v = .ref T ∧ H T = none ∧ H' = upd H T (.tup [x, y]) ∧ (∀ xs, SqL K H a xs → xs[i]? = some x) ∧ ∀ ys, SqT K H b ys → ys[i]? = some y
  stop i H := ∃ xs ys : List V, SqL K H a xs ∧ SqT K H b ys ∧ i = min xs.length ys.length
theorem lst_apart {h : Heap} {a it : Addr} {its : Array Value} {i : Nat} (p : h.IsList a its) (q : h.IsListIter it a i) : a ≠ it := by
  rintro rfl
  obtain ⟨o1, e1, c1, _⟩ := p
  obtain ⟨o2, e2, c2, _⟩ := q
  rw [e1] at e2
  cases e2
  rw [c1] at c2
  exact absurd (Value.type.inj c2) (by decide)
theorem turn_zipM {P : Program} {w : World} {K : PySem.W.Frag} {elts : List Expr} {kk : Nat} {tpos : Pos} {a b z TI TO i1 i2 : Addr} (D : ZipSep2 z TI TO i1 i2 [i1, a] [i2, b]) :
    Turn P w K (.Tuple elts kk tpos) (ItzM K a b) [z, TI, TO, i1, i2] z (fun i h => IsZip h z TI TO .none ∧ IsTupOf2 h TI (.ref i1) (.ref i2) ∧ (∃ x y, IsTupOf2 h TO x y) ∧ h.IsListIter i1 a i ∧ h.IsTupleIter i2 b i) where
  mem := List.mem_cons_self
  obj := by
    rintro i h ⟨hz, hTI, ⟨x, y, hTO⟩, ⟨o1, e1, _, d1⟩, ⟨o2, e2, _, d2⟩⟩ c hc
    simp only [List.mem_cons, List.not_mem_nil, or_false] at hc
    rcases hc with rfl | rfl | rfl | rfl | rfl
    · exact ⟨_, hz, fun v q => nomatch q⟩
    · exact ⟨_, hTI, fun v q => nomatch q⟩
    · exact ⟨_, hTO, fun v q => nomatch q⟩
    · exact ⟨o1, e1, fun v q => by rw [d1] at q; cases q⟩
    · exact ⟨o2, e2, fun v q => by rw [d2] at q; cases q⟩
  keep := by
    rintro i h h' ⟨hz, hTI, ⟨x, y, hTO⟩, h1, h2⟩ k
    exact ⟨k z (by simp) _ hz, k TI (by simp) _ hTI, ⟨x, y, k TO (by simp) _ hTO⟩, h1.at fun o q => k i1 (by simp) o q, h2.at fun o q => k i2 (by simp) o q⟩
  item := by
    intro X hP hw hK hc i pins s σ H E I hf st hg
    subst hP hw hK
    obtain ⟨hz, hTI, ⟨x0, y0, hTO⟩, h1, h2⟩ := st
    obtain ⟨xs, ys, x, y, hqx, hqy, hx, hy⟩ := hg
    obtain ⟨its, rv, p, _⟩ := I.list hqx
    obtain ⟨its2, rv2, p2, _⟩ := I.tuple hqy
    obtain ⟨u, hu, ru⟩ := rv.get hx
    obtain ⟨u2, hu2, ru2⟩ := rv2.get hy
    have hzl : z < s.heap.objs.size := Heap.lt_size hz
    have l1 : i < its.toArray.size := by
      rw [List.size_toArray]
      exact (List.getElem?_eq_some_iff.mp hu).1
    have l2 : i < its2.toArray.size := by
      rw [List.size_toArray]
      exact (List.getElem?_eq_some_iff.mp hu2).1
    refine wpAny_pyNext_zipD2_item D (Draws.list (A := X.A.in1) (I.ok.hd hc) i1 a (lst_apart p.isList h1) its.toArray) (Draws.tuple (A := X.A.in1) (I.ok.hd hc) i2 b (tup_apart p2 h2) its2.toArray) hz hTI hTO ⟨h1, p.isList⟩ ⟨h2, p2⟩ l1 l2
      fun v1 v2 h' tk e1 e2 z' TO' s1' s2' hT _ hk => ?_
    have q1 : v1 = u := by
      have q : its.toArray[i]? = some v1 := e1
      rw [List.getElem?_toArray, hu] at q
      exact (Option.some.inj q).symm
    have q2 : v2 = u2 := by
      have q : its2.toArray[i]? = some v2 := e2
      rw [List.getElem?_toArray, hu2] at q
      exact (Option.some.inj q).symm
    subst q1 q2
    refine ⟨_, rfl, wpAny_letOwnedTupleGo_zip (s := { s with heap := h', toks := tk }) z' fun h3 z3 sb => ?_⟩
    have hT2 : h3.get? s.heap.objs.size = some { cls := .type "tuple", data := .seq #[v1, v2] } := (sb.2 _ (Nat.ne_of_gt hzl)).trans hT
    have new : ObjOk X.prog X.w (upd H s.heap.objs.size (.tup [x, y])) h3 s.heap.objs.size (.tup [x, y]) :=
      ⟨by show 2 ≤ sizeLine; decide, [v1, v2], .cons ru (.cons ru2 .nil), ⟨_, hT2, rfl, _, rfl⟩⟩
    have J : Inv X pins σ (upd H s.heap.objs.size (.tup [x, y])) { s with heap := h3, toks := tk } := by
      refine I.turnedNew (ch := [z, TI, TO, i1, i2]) (fun c o hb q => ?_) hf (Nat.le_refl _) new
      simp only [List.mem_cons, List.not_mem_nil, or_false, not_or] at hb
      obtain ⟨n1, n2, n3, n4, n5⟩ := hb
      exact (sb.2 c n1).trans (hk c o n1 n3 n4 n5 q)
    refine ⟨.ref s.heap.objs.size, _, J, rfl, ⟨_, x, y, rfl, I.hok.fresh (Nat.le_refl _), rfl, fun l hl => by rw [I.list_inj hl hqx]; exact hx, fun l hl => by rw [I.tuple_inj hl hqy]; exact hy⟩, ⟨z3, ?_, ⟨v1, v2, ?_⟩, ?_, ?_⟩, fun c hcm => ?_⟩
    · exact (sb.2 _ D.TIz).trans (hk _ _ D.TIz D.TITO D.TIi1 D.TIi2 hTI)
    · exact (sb.2 _ D.TOz).trans TO'
    · exact s1'.1.at fun o q => (sb.2 _ (Ne.symm D.zi1)).trans q
    · exact s2'.1.at fun o q => (sb.2 _ (Ne.symm D.zi2)).trans q
    · have hlt : c < s.heap.objs.size := by
        simp only [List.mem_cons, List.not_mem_nil, or_false] at hcm
        rcases hcm with q | q | q | q | q
        · exact q ▸ hzl
        · exact q ▸ Heap.lt_size hTI
        · exact q ▸ Heap.lt_size hTO
        · obtain ⟨_, e1, _⟩ := id h1
          exact q ▸ Heap.lt_size e1
        · obtain ⟨_, e2, _⟩ := id h2
          exact q ▸ Heap.lt_size e2
      rw [upd_ne (Nat.ne_of_lt hlt)]
      exact (hf c hcm).1
  done := by
    intro X hP hw hK hc i pins s σ H E I hf st hg
    subst hP hw hK
    obtain ⟨hz, hTI, ⟨x0, y0, hTO⟩, h1, h2⟩ := st
    obtain ⟨xs, ys, hqx, hqy, hend⟩ := hg
    obtain ⟨its, rv, p, _⟩ := I.list hqx
    obtain ⟨its2, rv2, p2, _⟩ := I.tuple hqy
    have l1 : its.toArray.size = xs.length := by rw [List.size_toArray, rv.length]
    have l2 : its2.toArray.size = ys.length := by rw [List.size_toArray, rv2.length]
    refine wpAny_pyNext_zipD2_end D (Draws.list (A := X.A.in1) (I.ok.hd hc) i1 a (lst_apart p.isList h1) its.toArray) (Draws.tuple (A := X.A.in1) (I.ok.hd hc) i2 b (tup_apart p2 h2) its2.toArray) hz hTI hTO ⟨h1, p.isList⟩ ⟨h2, p2⟩ (by omega) (by omega) (by omega)
      fun h' tk hk => ⟨rfl, I.turnedL (ch := [z, TI, TO, i1, i2]) (fun c o hb q => ?_) hf⟩
    simp only [List.mem_cons, List.not_mem_nil, or_false, not_or] at hb
    obtain ⟨n1, n2, n3, n4, n5⟩ := hb
    exact hk c o n1 n3 n4 n5 q
  self := fun A i s Q E st h => wpAny_pyIter_zip st.1 h
def iZipM (K : PySem.W.Frag) (ta : TA) : TI := fun σ H R => ta σ H fun vs H1 => ∃ a b xs ys, vs = [.ref a, .ref b] ∧ SqL K H1 a xs ∧ SqT K H1 b ys ∧ R (ItzM K a b) H1
theorem pi_zipM {X : Cx} {e e2 : Expr} {ta : TA} {p pos tpos : Pos} {elts : List Expr} {kk : Nat} (hg : Gl X "zip") (hm : X.mg "zip" = none) (ha : PA X [e, e2] ta)
    (hs : starEach [e, e2] X.env = (false, eval e X.env) :: starEach [e2] X.env := by rfl) (hpl : (backTo pos (starEach [e2] X.env)).any (·.1) = false := by rfl) :
    PI X (.Tuple elts kk tpos) (.Call (.Name "zip" p) [e, e2] [] pos) (iZipM X.K ta) := by
  refine ⟨fun pins s σ H R I h => Call_ (ld_blt I hg hm PyProof.Rows.boot_zip (PyProof.Rows.callWith_type1 (thn (ha.run pos pins s σ H _ I h) fun us s1 hh => ?_) hs hpl))⟩
  obtain ⟨vs, H1, J, r1, a, b, xs, ys, ex, hqx, hqy, q⟩ := hh
  subst ex
  cases r1 with
  | cons r rr =>
    cases rr with
    | cons r' rr =>
      cases rr
      cases r
      cases r'
      obtain ⟨its, rv, p1, _⟩ := J.list hqx
      obtain ⟨its2, rv2, p2, _⟩ := J.tuple hqy
      refine zip_begins2 (begins_list a its.toArray) (begins_tuple b its2.toArray) p1.isList p2 fun h' hz hTI hTO g1 g2 hsz hk => wpAny_pyIter_zip hz ?_
      have J2 : Inv X pins σ H1 { s1 with heap := h' } := J.kept (t' := s1.toks) hk
      have la : a < s1.heap.objs.size := by
        obtain ⟨_, e1, _⟩ := p1.isList
        exact Heap.lt_size e1
      have lb : b < s1.heap.objs.size := by
        obtain ⟨_, e1, _⟩ := id p2
        exact Heap.lt_size e1
      have sep := zip_sep2 (N := s1.heap.objs.size) (fp1 := [a]) (fp2 := [b]) (fun c hc => List.mem_singleton.mp hc ▸ la) fun c hc => List.mem_singleton.mp hc ▸ lb
      refine ⟨s1.heap.objs.size + 4, [s1.heap.objs.size + 4, s1.heap.objs.size + 2, s1.heap.objs.size + 3, s1.heap.objs.size, s1.heap.objs.size + 1], _, _, H1, rfl, J2, turn_zipM sep, ⟨hz, hTI, ⟨_, _, hTO⟩, ⟨_, g1, rfl, rfl⟩, ⟨_, g2, rfl, rfl⟩⟩, fun c hcm => ?_, q⟩
      have hle : s1.heap.objs.size ≤ c := by
        simp only [List.mem_cons, List.not_mem_nil, or_false] at hcm
        rcases hcm with z | z | z | z | z
        · exact z ▸ Nat.le_add_right _ _
        · exact z ▸ Nat.le_add_right _ _
        · exact z ▸ Nat.le_add_right _ _
        · exact z ▸ Nat.le_refl _
        · exact z ▸ Nat.le_add_right _ _
      exact J.fpOk hle (J.hok.fresh hle)
theorem walk_zipM {K : PySem.W.Frag} {a b : Addr} {xs ys : List V} {n : Nat} (hn : n = min xs.length ys.length) : Walk (ItzM K a b) n (fun H => SqL K H a xs ∧ SqT K H b ys) (YPair (fun i => xs[i]?) (fun i => ys[i]?)) := by
  subst hn
  refine ⟨fun i _ hi q => ?_, fun _ q => ⟨xs, ys, q.1, q.2, rfl⟩, fun i H v H' _ q y => ?_⟩
  · have h1 : i < xs.length := by omega
    have h2 : i < ys.length := by omega
    exact ⟨xs, ys, xs[i], ys[i], q.1, q.2, by simp [h1], by simp [h2]⟩
  · obtain ⟨T, x, z, h1, h2, h3, h4, h5⟩ := y
    exact ⟨T, x, z, h1, h2, h3, h4 xs q.1, h5 ys q.2⟩
/-- zip of two tuples -/
theorem walk_zipT {K : PySem.W.Frag} {a b : Addr} {xs ys : List V} {n : Nat} (hn : n = min xs.length ys.length) : Walk (RZ.ItzT K a b) n (fun H => SqT K H a xs ∧ SqT K H b ys) (YPair (fun i => xs[i]?) (fun i => ys[i]?)) := by
  subst hn
  refine ⟨fun i _ hi q => ?_, fun _ q => ⟨xs, ys, q.1, q.2, by omega⟩, fun i H v H' _ q y => ?_⟩
  · have h1 : i < xs.length := by omega
    have h2 : i < ys.length := by omega
    exact ⟨xs, ys, xs[i], ys[i], q.1, q.2, by simp [h1], by simp [h2]⟩
  · obtain ⟨T, x, z, h1, h2, h3, h4, h5⟩ := y
    exact ⟨T, x, z, h1, h2, h3, h4 xs q.1, h5 ys q.2⟩
/-! ### max of a tuple of ints -/
def rMaxT (K : PySem.W.Frag) : List V → Hp → VK → Prop := fun vs H Q => ∃ (a : Addr) (ns : List Int), vs = [V.ref a] ∧ SqT K H a (ns.map V.int) ∧ 0 < ns.length ∧ ∀ m, m ∈ ns → Q (.int m) H
theorem holdAll_ints {h : Heap} : ∀ {ns : List Int} {us : List Value}, Vals (ns.map V.int) us → PySem.W.HoldAll h us ns
  | [], _, .nil => PySem.W.HoldAll.nil
  | n :: ns, _, .cons ⟨t, e⟩ r => by
    subst e
    exact PySem.W.HoldAll.cons ⟨_, Reads.int n t⟩ (holdAll_ints r)
theorem cr_maxT {X : Cx} (hc : X.calm = true) (hu : X.A.units + 64 < cLine) : CallR X (.builtin "max") (rMaxT X.K) := by
  intro pins s σ H vs us Q I r h
  obtain ⟨a, ns, rfl, hs, hne, q⟩ := h
  obtain ⟨its, rv, hl, _⟩ := I.tuple hs
  rw [Vals.ref1 r]
  cases ns with
  | nil => cases hne
  | cons n ns =>
    refine PySem.W.max_tuple_datum (α := Int) (x := n) (xs := ns) (I.ok.hd hc) hl (by rw [List.toList_toArray]; exact holdAll_ints rv) (by show X.A.units + 1 + 0 < cLine; omega) fun i v h' tk hi _ hk => ?_
    rw [List.getElem?_toArray] at hi
    cases e : ((n :: ns).map V.int)[i]? with
    | none =>
      have z := rv.none_of e
      rw [z] at hi
      cases hi
    | some x =>
      obtain ⟨u, hu1, hu2⟩ := rv.get e
      rw [hu1] at hi
      cases hi
      rw [List.getElem?_map] at e
      obtain ⟨m, hm, rfl⟩ := Option.map_eq_some_iff.mp e
      exact ⟨.int m, H, I.kept hk, hu2, q m (List.mem_of_getElem? hm)⟩
/-! ### a walk over what is a list or a tuple -/
def iSeq (K : PySem.W.Frag) (i : Nat) : TI := fun σ H R => ∃ a, σ[i]? = some (some (.ref a)) ∧ (((∃ xs, SqL K H a xs) ∧ R (Itl K a) H) ∨ ((∃ xs, SqT K H a xs) ∧ R (Itt K a) H))
theorem pi_seq {X : Cx} {tg l : Expr} {i : Nat} (h : PE X l (tVar i)) : PI X tg l (iSeq X.K i) := by
  refine ⟨fun pins s σ H R I q => ?_⟩
  obtain ⟨a, e, q⟩ := q
  rcases q with ⟨q1, q2⟩ | ⟨q1, q2⟩
  · exact (pi_list (tg := tg) h).run pins s σ H R I ⟨_, e, a, rfl, q1, q2⟩
  · exact (pi_tup (tg := tg) h).run pins s σ H R I ⟨_, e, a, rfl, q1, q2⟩
end EZ
end TW

set_option Elab.async false
set_option linter.all false
set_option maxRecDepth 100000
set_option maxHeartbeats 4000000
namespace TW
open PySem PySem.Spec PyProof.Rows L2
/-! ### comprehensions and loops -/
/-- pointwise -/
inductive A2 (R : Nat → V → Prop) : List Nat → List V → Prop
  | nil : A2 R [] []
  | cons {i : Nat} {y : V} {is : List Nat} {ys : List V} : R i y → A2 R is ys → A2 R (i :: is) (y :: ys)
theorem A2.imp {R R' : Nat → V → Prop} (h : ∀ i y, R i y → R' i y) : ∀ {is : List Nat} {ys : List V}, A2 R is ys → A2 R' is ys
  | _, _, .nil => .nil
  | _, _, .cons a t => .cons (h _ _ a) (t.imp h)
theorem A2.snoc {R : Nat → V → Prop} {i : Nat} {y : V} (r : R i y) : ∀ {is : List Nat} {ys : List V}, A2 R is ys → A2 R (is ++ [i]) (ys ++ [y])
  | _, _, .nil => .cons r .nil
  | _, _, .cons a t => .cons a (t.snoc r)
theorem A2.len {R : Nat → V → Prop} : ∀ {is : List Nat} {ys : List V}, A2 R is ys → ys.length = is.length
  | _, _, .nil => rfl
  | _, _, .cons _ t => congrArg Nat.succ t.len
theorem A2.rp {H : Hp} {d : Nat → PyData} : ∀ {is : List Nat} {ys : List V}, A2 (fun i y => Rp H y (d i)) is ys → RpA H ys (is.map d)
  | _, _, .nil => .nil
  | _, _, .cons a t => .cons a t.rp
theorem A2.eqs {f : Nat → V} : ∀ {is : List Nat} {ys : List V}, A2 (fun i y => y = f i) is ys → ys = is.map f
  | _, _, .nil => rfl
  | _, _, .cons a t => by
    rw [a, t.eqs]
    rfl
theorem A2.get {R : Nat → V → Prop} : ∀ {is : List Nat} {ys : List V} {k i : Nat}, A2 R is ys → is[k]? = some i → ∃ y, ys[k]? = some y ∧ R i y
  | _, _, k, i, .nil, e => by simp at e
  | _, _, 0, i, .cons a _, e => by
    simp at e
    subst e
    exact ⟨_, rfl, a⟩
  | _, _, k + 1, i, .cons _ t, e => by
    obtain ⟨y, h1, h2⟩ := t.get (k := k) (i := i) (by simpa using e)
    exact ⟨y, by simpa using h1, h2⟩
theorem filt_yes {n : Nat} {b : Nat → Bool} (h : b n = true) : (List.range (n + 1)).filter b = (List.range n).filter b ++ [n] := by
  rw [List.range_succ, List.filter_append, List.filter_cons_of_pos h]
  rfl
theorem filt_no {n : Nat} {b : Nat → Bool} (h : b n = false) : (List.range (n + 1)).filter b = (List.range n).filter b := by
  rw [List.range_succ, List.filter_append, List.filter_cons_of_neg (by rw [h]; exact Bool.false_ne_true)]
  exact List.append_nil _
theorem filt_all (n : Nat) : (List.range n).filter (fun _ => true) = List.range n := List.filter_eq_self.mpr fun _ _ => rfl
theorem filt_len {n : Nat} {b : Nat → Bool} : ((List.range n).filter b).length ≤ n := Nat.le_trans (List.length_filter_le _ _) (by rw [List.length_range]; exact Nat.le_refl _)
section
variable {K : PySem.W.Frag} {σ : L2.St} {H H1 : Hp} {Q : VK} {D : Ends} {te : TE} {tt : TT} {g : TG} {J : It} {n j k : Nat} {G : Hp → Prop} {Y : Nat → Hp → V → Hp → Prop} {vs : List Nat} {wi : TI} {ts : TS}
theorem r_lc (h : wi σ H fun J H1 => ∀ D, H1 D = none → ∃ W : Nat → Nat → Hp → Prop, (∃ m, W 0 m (upd H1 D (.lst []))) ∧ ∀ i m H, W i m H →
  (J.stop i H ∧ Q (.ref D) H) ∨ (J.go i H ∧ ∃ Nx : Hp → Prop, (∀ H', Nx H' → ∃ m', m' < m ∧ W (i + 1) m' H') ∧ ∀ x H', J.yld i H x H' → g x (wipe σ vs) H' fun σ2 H2 => wipe σ2 vs = wipe σ vs ∧ tt σ2 H2 fun b H3 =>
    if b = true then te σ2 H3 fun y H4 => ∃ acc, H4 D = some (.lst acc) ∧ acc.length < sizeLine ∧ Nx (upd H4 D (.lst (acc ++ [y]))) else Nx H3)) : tLc wi g tt te vs σ H Q := h
/-- a comprehension that leaves all as it was: R tells each item -/
theorem lc_gen (w : Walk J n G Y) {Dl : Addr} {Qd : Hp → Prop} (hD : H1 Dl = none) (R : Nat → V → Hp → Prop) (Rm : ∀ i v H H', Same H H' → R i v H → R i v H') (Rl : ∀ i v H p xs ys, H p = some (.lst xs) → R i v H → R i v (upd H p (.lst ys)))
    (b : Nat → Bool) (hn : n ≤ 100000) (hG : ∀ H, Same H1 H → G H)
    (hs : ∀ i x H H' QS, i < n → Same H1 H → Y i H x H' → (∀ σ2 H2, Same H H2 → wipe σ2 vs = wipe σ vs → (∀ QT : Bool → Hp → Prop, (∀ H3, Same H2 H3 → QT (b i) H3) → tt σ2 H2 QT) →
      (b i = true → ∀ H3 (Q3 : VK), Same H2 H3 → (∀ y H4, Same H3 H4 → R i y H4 → Q3 y H4) → te σ2 H3 Q3) → QS σ2 H2) → g x (wipe σ vs) H' QS)
    (hd : ∀ H ys, Same H1 H → H Dl = some (.lst ys) → A2 (fun i y => R i y H) ((List.range n).filter b) ys → Qd H) :
    ∃ W : Nat → Nat → Hp → Prop, (∃ m, W 0 m (upd H1 Dl (.lst []))) ∧ ∀ i m H, W i m H →
      (J.stop i H ∧ Qd H) ∨ (J.go i H ∧ ∃ Nx : Hp → Prop, (∀ H', Nx H' → ∃ m', m' < m ∧ W (i + 1) m' H') ∧ ∀ x H', J.yld i H x H' → g x (wipe σ vs) H' fun σ2 H2 => wipe σ2 vs = wipe σ vs ∧ tt σ2 H2 fun b H3 =>
        if b = true then te σ2 H3 fun y H4 => ∃ acc, H4 Dl = some (.lst acc) ∧ acc.length < sizeLine ∧ Nx (upd H4 Dl (.lst (acc ++ [y]))) else Nx H3) := by
  refine lc_it w (fun i H => Same H1 H ∧ ∃ ys, H Dl = some (.lst ys) ∧ ys.length ≤ i ∧ A2 (fun i y => R i y H) ((List.range i).filter b) ys) ?_ (fun i H _ p => hG H p.1) ?_ ?_
  · exact ⟨Same.new hD, [], upd_same, Nat.le_refl _, .nil⟩
  · intro i x H H' hi ⟨s1, ys, hl, hle, a⟩ hy
    refine hs i x H H' _ hi s1 hy fun σ2 H2 e2 hw ht he => ⟨hw, ht _ fun H3 e3 => ?_⟩
    cases hb : b i with
    | true =>
      refine r_T (he hb H3 _ e3 fun y H4 e4 ry => ?_)
      have e : Same H H4 := (e2.trans e3).trans e4
      have hl4 := e _ _ hl
      refine ⟨ys, hl4, szT (by omega), Same.mut (s1.trans e) hD, ys ++ [y], upd_same, by rw [List.length_append]; simpa using hle, ?_⟩
      rw [filt_yes hb]
      exact (a.imp fun i y r => Rl _ _ _ _ _ _ hl4 (Rm _ _ _ _ e r)).snoc (Rl _ _ _ _ _ _ hl4 ry)
    | false =>
      refine r_F ⟨s1.trans (e2.trans e3), ys, (e2.trans e3) _ _ hl, Nat.le_succ_of_le hle, ?_⟩
      rw [filt_no hb]
      exact a.imp fun i y r => Rm _ _ _ _ (e2.trans e3) r
  · rintro H ⟨s1, ys, hl, _, a⟩
    exact hd H ys s1 hl a
/-- one name, no test -/
theorem lc_1 {Yv : Nat → V → Prop} (w : Walk J n G Y) (hY : ∀ i H x H', Y i H x H' → H' = H ∧ Yv i x) {Dl : Addr} {Qd : Hp → Prop} (hD : H1 Dl = none) (R : Nat → V → Hp → Prop) (Rm : ∀ i v H H', Same H H' → R i v H → R i v H') (Rl : ∀ i v H p xs ys, H p = some (.lst xs) → R i v H → R i v (upd H p (.lst ys)))
    (hn : n ≤ 100000) (hG : ∀ H, Same H1 H → G H) (hw : ∀ x, wipe ((wipe σ vs).set j (some x)) vs = wipe σ vs)
    (hs : ∀ i x H (Q3 : VK), i < n → Same H1 H → Yv i x → (∀ y H4, Same H H4 → R i y H4 → Q3 y H4) → te ((wipe σ vs).set j (some x)) H Q3)
    (hd : ∀ H ys, Same H1 H → H Dl = some (.lst ys) → A2 (fun i y => R i y H) (List.range n) ys → Qd H) :
    ∃ W : Nat → Nat → Hp → Prop, (∃ m, W 0 m (upd H1 Dl (.lst []))) ∧ ∀ i m H, W i m H →
      (J.stop i H ∧ Qd H) ∨ (J.go i H ∧ ∃ Nx : Hp → Prop, (∀ H', Nx H' → ∃ m', m' < m ∧ W (i + 1) m' H') ∧ ∀ x H', J.yld i H x H' → gName j x (wipe σ vs) H' fun σ2 H2 => wipe σ2 vs = wipe σ vs ∧ tYes σ2 H2 fun b H3 =>
        if b = true then te σ2 H3 fun y H4 => ∃ acc, H4 Dl = some (.lst acc) ∧ acc.length < sizeLine ∧ Nx (upd H4 Dl (.lst (acc ++ [y]))) else Nx H3) := by
  refine lc_gen w hD R Rm Rl (fun _ => true) hn hG (fun i x H H' QS hi s1 hy k => ?_) fun H ys s1 hl a => hd H ys s1 hl (by rw [filt_all] at a; exact a)
  obtain ⟨rfl, yv⟩ := hY _ _ _ _ hy
  exact k _ _ (Same.refl _) (hw x) (fun QT q => q _ (Same.refl _)) fun _ H3 Q3 e3 q => hs i x H3 Q3 hi (s1.trans e3) yv q
/-- one name, with a test -/
theorem lc_1f {Yv : Nat → V → Prop} (w : Walk J n G Y) (hY : ∀ i H x H', Y i H x H' → H' = H ∧ Yv i x) {Dl : Addr} {Qd : Hp → Prop} (hD : H1 Dl = none) (R : Nat → V → Hp → Prop) (Rm : ∀ i v H H', Same H H' → R i v H → R i v H') (Rl : ∀ i v H p xs ys, H p = some (.lst xs) → R i v H → R i v (upd H p (.lst ys)))
    (b : Nat → Bool) (hn : n ≤ 100000) (hG : ∀ H, Same H1 H → G H) (hw : ∀ x, wipe ((wipe σ vs).set j (some x)) vs = wipe σ vs)
    (ht : ∀ i x H (QT : Bool → Hp → Prop), i < n → Same H1 H → Yv i x → (∀ H3, Same H H3 → QT (b i) H3) → tt ((wipe σ vs).set j (some x)) H QT)
    (hs : ∀ i x H (Q3 : VK), i < n → b i = true → Same H1 H → Yv i x → (∀ y H4, Same H H4 → R i y H4 → Q3 y H4) → te ((wipe σ vs).set j (some x)) H Q3)
    (hd : ∀ H ys, Same H1 H → H Dl = some (.lst ys) → A2 (fun i y => R i y H) ((List.range n).filter b) ys → Qd H) :
    ∃ W : Nat → Nat → Hp → Prop, (∃ m, W 0 m (upd H1 Dl (.lst []))) ∧ ∀ i m H, W i m H →
      (J.stop i H ∧ Qd H) ∨ (J.go i H ∧ ∃ Nx : Hp → Prop, (∀ H', Nx H' → ∃ m', m' < m ∧ W (i + 1) m' H') ∧ ∀ x H', J.yld i H x H' → gName j x (wipe σ vs) H' fun σ2 H2 => wipe σ2 vs = wipe σ vs ∧ tt σ2 H2 fun b H3 =>
        if b = true then te σ2 H3 fun y H4 => ∃ acc, H4 Dl = some (.lst acc) ∧ acc.length < sizeLine ∧ Nx (upd H4 Dl (.lst (acc ++ [y]))) else Nx H3) := by
  refine lc_gen w hD R Rm Rl b hn hG (fun i x H H' QS hi s1 hy k => ?_) hd
  obtain ⟨rfl, yv⟩ := hY _ _ _ _ hy
  exact k _ _ (Same.refl _) (hw x) (fun QT q => ht i x _ QT hi s1 yv q) fun hb H3 Q3 e3 q => hs i x H3 Q3 hi hb (s1.trans e3) yv q
theorem r_gPair {T : Addr} {x y : V} {QS : L2.St → Hp → Prop} (e : H T = some (.tup [x, y])) (q : QS ((σ.set j (some x)).set k (some y)) H) : gTup K 2 (gCons (gName j) (gCons (gName k) gNil)) (.ref T) σ H QS :=
  ⟨T, _, rfl, SqT.of e, rfl, x, [y], rfl, y, [], rfl, rfl, q⟩
/-- a pair, with a test -/
theorem lc_2f {P1 P2 : Nat → Option V} (w : Walk J n G (YPair P1 P2)) {Dl : Addr} {Qd : Hp → Prop} (hD : H1 Dl = none) (R : Nat → V → Hp → Prop) (Rm : ∀ i v H H', Same H H' → R i v H → R i v H') (Rl : ∀ i v H p xs ys, H p = some (.lst xs) → R i v H → R i v (upd H p (.lst ys)))
    (b : Nat → Bool) (hn : n ≤ 100000) (hG : ∀ H, Same H1 H → G H) (hw : ∀ x y, wipe (((wipe σ vs).set j (some x)).set k (some y)) vs = wipe σ vs)
    (ht : ∀ i x y H (QT : Bool → Hp → Prop), i < n → Same H1 H → P1 i = some x → P2 i = some y → (∀ H3, Same H H3 → QT (b i) H3) → tt (((wipe σ vs).set j (some x)).set k (some y)) H QT)
    (hs : ∀ i x y H (Q3 : VK), i < n → b i = true → Same H1 H → P1 i = some x → P2 i = some y → (∀ y H4, Same H H4 → R i y H4 → Q3 y H4) → te (((wipe σ vs).set j (some x)).set k (some y)) H Q3)
    (hd : ∀ H ys, Same H1 H → H Dl = some (.lst ys) → A2 (fun i y => R i y H) ((List.range n).filter b) ys → Qd H) :
    ∃ W : Nat → Nat → Hp → Prop, (∃ m, W 0 m (upd H1 Dl (.lst []))) ∧ ∀ i m H, W i m H →
      (J.stop i H ∧ Qd H) ∨ (J.go i H ∧ ∃ Nx : Hp → Prop, (∀ H', Nx H' → ∃ m', m' < m ∧ W (i + 1) m' H') ∧ ∀ x H', J.yld i H x H' → gTup K 2 (gCons (gName j) (gCons (gName k) gNil)) x (wipe σ vs) H' fun σ2 H2 => wipe σ2 vs = wipe σ vs ∧ tt σ2 H2 fun b H3 =>
        if b = true then te σ2 H3 fun y H4 => ∃ acc, H4 Dl = some (.lst acc) ∧ acc.length < sizeLine ∧ Nx (upd H4 Dl (.lst (acc ++ [y]))) else Nx H3) := by
  refine lc_gen w hD R Rm Rl b hn hG (fun i v H H' QS hi s1 hy kk => ?_) hd
  obtain ⟨T, x, y, rfl, hT, rfl, e1, e2⟩ := hy
  have sT : Same H (upd H T (.tup [x, y])) := Same.new hT
  exact r_gPair upd_same (kk _ _ sT (hw x y) (fun QT q => ht i x y _ QT hi (s1.trans sT) e1 e2 q) fun hb H3 Q3 e3 q => hs i x y H3 Q3 hi hb ((s1.trans sT).trans e3) e1 e2 q)
/-- a pair, no test -/
theorem lc_2 {P1 P2 : Nat → Option V} (w : Walk J n G (YPair P1 P2)) {Dl : Addr} {Qd : Hp → Prop} (hD : H1 Dl = none) (R : Nat → V → Hp → Prop) (Rm : ∀ i v H H', Same H H' → R i v H → R i v H') (Rl : ∀ i v H p xs ys, H p = some (.lst xs) → R i v H → R i v (upd H p (.lst ys)))
    (hn : n ≤ 100000) (hG : ∀ H, Same H1 H → G H) (hw : ∀ x y, wipe (((wipe σ vs).set j (some x)).set k (some y)) vs = wipe σ vs)
    (hs : ∀ i x y H (Q3 : VK), i < n → Same H1 H → P1 i = some x → P2 i = some y → (∀ y H4, Same H H4 → R i y H4 → Q3 y H4) → te (((wipe σ vs).set j (some x)).set k (some y)) H Q3)
    (hd : ∀ H ys, Same H1 H → H Dl = some (.lst ys) → A2 (fun i y => R i y H) (List.range n) ys → Qd H) :
    ∃ W : Nat → Nat → Hp → Prop, (∃ m, W 0 m (upd H1 Dl (.lst []))) ∧ ∀ i m H, W i m H →
      (J.stop i H ∧ Qd H) ∨ (J.go i H ∧ ∃ Nx : Hp → Prop, (∀ H', Nx H' → ∃ m', m' < m ∧ W (i + 1) m' H') ∧ ∀ x H', J.yld i H x H' → gTup K 2 (gCons (gName j) (gCons (gName k) gNil)) x (wipe σ vs) H' fun σ2 H2 => wipe σ2 vs = wipe σ vs ∧ tYes σ2 H2 fun b H3 =>
        if b = true then te σ2 H3 fun y H4 => ∃ acc, H4 Dl = some (.lst acc) ∧ acc.length < sizeLine ∧ Nx (upd H4 Dl (.lst (acc ++ [y]))) else Nx H3) :=
  lc_2f w hD R Rm Rl (fun _ => true) hn hG hw (fun i x y H QT _ _ _ _ q => q _ (Same.refl _)) (fun i x y H Q3 hi _ s1 e1 e2 q => hs i x y H Q3 hi s1 e1 e2 q) fun H ys s1 hl a => hd H ys s1 hl (by rw [filt_all] at a; exact a)
/-- a loop over one name -/
theorem for_1 {Yv : Nat → V → Prop} {NX : L2.St → Hp → Prop} {RT : VK} (w : Walk J n G Y) (hY : ∀ i H x H', Y i H x H' → H' = H ∧ Yv i x) (Pv : Nat → L2.St → Hp → Prop) (h0 : Pv 0 σ H) (hG : ∀ i σ H, i ≤ n → Pv i σ H → G H)
    (hs : ∀ i x σ H, i < n → Pv i σ H → Yv i x → ts { nx := Pv (i + 1), rt := RT, bk := NX, ct := Pv (i + 1) } (σ.set j (some x)) H) (hd : ∀ σ H, Pv n σ H → NX σ H) :
    ∃ W : Nat → Nat → L2.St → Hp → Prop, (∃ m, W 0 m σ H) ∧ ∀ i m σ H, W i m σ H →
      (J.stop i H ∧ NX σ H) ∨ (J.go i H ∧ ∃ N : L2.St → Hp → Prop, (∀ σ' H', N σ' H' → ∃ m', m' < m ∧ W (i + 1) m' σ' H') ∧ ∀ x H', J.yld i H x H' → gName j x σ H' fun σ2 H2 => ts { nx := N, rt := RT, bk := NX, ct := N } σ2 H2) :=
  for_it (D := { nx := NX, rt := RT }) w Pv h0 hG (fun i x σ H H' hi p hy => by
    obtain ⟨rfl, yv⟩ := hY _ _ _ _ hy
    exact hs i x σ _ hi p yv) hd
/-- over pairs -/
theorem for_2 {P1 P2 : Nat → Option V} {NX : L2.St → Hp → Prop} {RT : VK} (w : Walk J n G (YPair P1 P2)) (Pv : Nat → L2.St → Hp → Prop) (h0 : Pv 0 σ H) (hG : ∀ i σ H, i ≤ n → Pv i σ H → G H)
    (hs : ∀ i x y T σ H, i < n → Pv i σ H → H T = none → P1 i = some x → P2 i = some y → ts { nx := Pv (i + 1), rt := RT, bk := NX, ct := Pv (i + 1) } ((σ.set j (some x)).set k (some y)) (upd H T (.tup [x, y]))) (hd : ∀ σ H, Pv n σ H → NX σ H) :
    ∃ W : Nat → Nat → L2.St → Hp → Prop, (∃ m, W 0 m σ H) ∧ ∀ i m σ H, W i m σ H →
      (J.stop i H ∧ NX σ H) ∨ (J.go i H ∧ ∃ N : L2.St → Hp → Prop, (∀ σ' H', N σ' H' → ∃ m', m' < m ∧ W (i + 1) m' σ' H') ∧ ∀ x H', J.yld i H x H' → gTup K 2 (gCons (gName j) (gCons (gName k) gNil)) x σ H' fun σ2 H2 => ts { nx := N, rt := RT, bk := NX, ct := N } σ2 H2) :=
  for_it (D := { nx := NX, rt := RT }) w Pv h0 hG (fun i v σ H H' hi p hy => by
    obtain ⟨T, x, y, rfl, hT, rfl, e1, e2⟩ := hy
    exact r_gPair upd_same (hs i x y T σ _ hi p hT e1 e2)) hd
theorem r_for (h : wi σ H fun J H1 => ∃ W : Nat → Nat → L2.St → Hp → Prop, (∃ m, W 0 m σ H1) ∧ ∀ i m σ H, W i m σ H →
    (J.stop i H ∧ D.nx σ H) ∨ (J.go i H ∧ ∃ N : L2.St → Hp → Prop, (∀ σ' H', N σ' H' → ∃ m', m' < m ∧ W (i + 1) m' σ' H') ∧ ∀ x H', J.yld i H x H' → g x σ H' fun σ2 H2 => ts { D with nx := N, ct := N, bk := D.nx } σ2 H2)) : tFor wi g ts D σ H := h
theorem yAt {xs : List V} (i : Nat) (H : Hp) (x : V) (H' : Hp) (y : YAt xs i H x H') : H' = H ∧ xs[i]? = some x := y
theorem yFn {f : Nat → V} (i : Nat) (H : Hp) (x : V) (H' : Hp) (y : YFn f i H x H') : H' = H ∧ x = f i := y
/-- an item that does not lean on the heap -/
theorem ri_m {f : Nat → V} : ∀ (i : Nat) (v : V) (H H' : Hp), Same H H' → (fun (i : Nat) (v : V) (_ : Hp) => v = f i) i v H → (fun (i : Nat) (v : V) (_ : Hp) => v = f i) i v H' := fun _ _ _ _ _ h => h
theorem ri_l {f : Nat → V} : ∀ (i : Nat) (v : V) (H : Hp) (p : Addr) (xs ys : List V), H p = some (.lst xs) → (fun (i : Nat) (v : V) (_ : Hp) => v = f i) i v H → (fun (i : Nat) (v : V) (_ : Hp) => v = f i) i v (upd H p (.lst ys)) := fun _ _ _ _ _ _ _ h => h
end
mutual
/-- data without lists -/
def noL : PyData → Bool
  | .list _ => false
  | .tuple ds => noLs ds
  | .dict _ => false
  | .none | .bool _ | .int _ | .str _ => true
def noLs : List PyData → Bool
  | [] => true
  | d :: ds => noL d && noLs ds
end
mutual
theorem rp_keepL {H : Hp} {p : Addr} {xs ys : List V} (e : H p = some (.lst xs)) : ∀ (d : PyData) (v : V), noL d = true → Rp H v d → Rp (upd H p (.lst ys)) v d
  | .none, _, _, h => by
    cases h
    exact .non
  | .bool b, _, _, h => by
    cases h
    exact .bl b
  | .int i, _, _, h => by
    cases h
    exact .int i
  | .str x, _, _, h => by
    cases h
    exact .str x
  | .list ds, _, n, h => by
    rw [noL] at n
    cases n
  | .tuple ds, _, n, h => by
    cases h with
    | @tup a us _ h1 h2 =>
      have hp : a ≠ p := ne_of h1 e (by intro z; cases z)
      rw [noL] at n
      exact .tup (by rw [upd_ne hp]; exact h1) (rpA_keepL e ds us n h2)
  | .dict _, _, _, h => by cases h
theorem rpA_keepL {H : Hp} {p : Addr} {xs ys : List V} (e : H p = some (.lst xs)) : ∀ (ds : List PyData) (vs : List V), noLs ds = true → RpA H vs ds → RpA (upd H p (.lst ys)) vs ds
  | [], _, _, h => by
    cases h
    exact .nil
  | d :: ds, _, n, h => by
    cases h with
    | cons h1 h2 =>
      rw [noLs] at n
      obtain ⟨n1, n2⟩ := Bool.and_eq_true_iff.mp n
      exact .cons (rp_keepL e d _ n1 h1) (rpA_keepL e ds _ n2 h2)
end
theorem rd_m {f : Nat → PyData} : ∀ (i : Nat) (v : V) (H H' : Hp), Same H H' → (fun (i : Nat) (v : V) (H : Hp) => Rp H v (f i)) i v H → (fun (i : Nat) (v : V) (H : Hp) => Rp H v (f i)) i v H' := fun _ _ _ _ e h => Rp.up h e
theorem rd_l {f : Nat → PyData} (hf : ∀ i, noL (f i) = true) : ∀ (i : Nat) (v : V) (H : Hp) (p : Addr) (xs ys : List V), H p = some (.lst xs) → (fun (i : Nat) (v : V) (H : Hp) => Rp H v (f i)) i v H → (fun (i : Nat) (v : V) (H : Hp) => Rp H v (f i)) i v (upd H p (.lst ys)) := fun _ _ _ _ _ _ e h => rp_keepL e _ _ (hf _) h
end TW

set_option Elab.async false
set_option linter.all false
set_option maxRecDepth 100000
set_option maxHeartbeats 4000000
namespace TW
open PySem PySem.Spec PyProof.Rows L2
/-! ### the mirror: a case, plainly -/
/-- None or a number -/
def oN : Option Nat → V
  | none => .non
  | some n => .int (n : Int)
def dO : Option Nat → PyData
  | none => .none
  | some n => .int (n : Int)
def vN (ns : List Nat) : List V := ns.map fun n : Nat => V.int (n : Int)
def dN (ns : List Nat) : List PyData := ns.map fun n : Nat => PyData.int (n : Int)
inductive Wi where
  | cls (cs : List Int)
  | most (m : Nat)
structure Cs where
  things : Nat
  ans : Nat
  heaps : Nat
  qs : List (Nat × List Nat)
  rows : List (List (Option Nat))
  firsts : List Nat
  wish : Wi
/-- where a triple leads -/
def nxt (heaps : Nat) (rows : List (List (Option Nat))) (st who t told : Nat) : Option Nat := ((rows.getD st []).getD ((who * heaps + t) * heaps + told) none)
/-- at each stand, for each who and true heap, something is let -/
def Live (ans heaps : Nat) (rows : List (List (Option Nat))) : Prop := ∀ st who t, st < rows.length → who < ans → t < heaps → ∃ told, told < heaps ∧ nxt heaps rows st who t told ≠ none
structure RowsOk (ans heaps : Nat) (rows : List (List (Option Nat))) : Prop where
  len : 0 < rows.length ∧ rows.length ≤ 3
  each : ∀ r ∈ rows, r.length = ans * heaps * heaps
  ent : ∀ r ∈ rows, ∀ n, some n ∈ r → n < rows.length
  live : Live ans heaps rows
structure QOk (things ans heaps : Nat) (q : Nat × List Nat) : Prop where
  who : q.1 < ans
  len : q.2.length = things
  heap : ∀ h ∈ q.2, h < heaps
def WiOk (things : Nat) : Wi → Prop
  | .cls cs => cs.length = things
  | .most m => 1 ≤ m ∧ m ≤ things
structure Cs.Ok (c : Cs) : Prop where
  things : 1 ≤ c.things ∧ c.things ≤ 4
  ans : 1 ≤ c.ans ∧ c.ans ≤ 2
  heaps : 2 ≤ c.heaps ∧ c.heaps ≤ 3
  qlen : c.qs.length ≤ 3
  qs : ∀ q ∈ c.qs, QOk c.things c.ans c.heaps q
  qnd : c.qs.Nodup
  rows : RowsOk c.ans c.heaps c.rows
  flen : c.firsts.length = c.things
  firsts : ∀ f ∈ c.firsts, f < c.rows.length
  wish : WiOk c.things c.wish
/-! ### what stands in the heap for it -/
theorem RpA.nats (H : Hp) : ∀ (ns : List Nat), RpA H (vN ns) (dN ns)
  | [] => .nil
  | n :: ns => .cons (.int _) (RpA.nats H ns)
theorem RpA.nats_inv {H : Hp} : ∀ {ns : List Nat} {vs : List V}, RpA H vs (dN ns) → vs = vN ns
  | [], _, h => h.nil_inv
  | n :: ns, vs, h => by
    obtain ⟨v, r, rfl, h1, h2⟩ := RpA.cons_inv (d := .int n) (ds := dN ns) h
    rw [h1.int_inv, RpA.nats_inv h2]
    rfl
theorem Rp.o_inv {H : Hp} {v : V} {o : Option Nat} (h : Rp H v (dO o)) : v = oN o := by
  cases o with
  | none => exact h.none_inv
  | some n => exact h.int_inv
theorem Rp.o {H : Hp} (o : Option Nat) : Rp H (oN o) (dO o) := by
  cases o with
  | none => exact .non
  | some n => exact .int _
theorem RpA.os_inv {H : Hp} : ∀ {os : List (Option Nat)} {vs : List V}, RpA H vs (os.map dO) → vs = os.map oN
  | [], _, h => h.nil_inv
  | o :: os, vs, h => by
    obtain ⟨v, r, rfl, h1, h2⟩ := RpA.cons_inv (d := dO o) (ds := os.map dO) h
    rw [h1.o_inv, RpA.os_inv h2]
    rfl
theorem RpA.os {H : Hp} : ∀ (os : List (Option Nat)), RpA H (os.map oN) (os.map dO)
  | [] => .nil
  | o :: os => .cons (Rp.o o) (RpA.os os)
theorem vN_get {ns : List Nat} {i n : Nat} (h : ns[i]? = some n) : (vN ns)[i]? = some (V.int (n : Int)) := by
  unfold vN
  rw [List.getElem?_map, h]
  rfl
theorem vN_len (ns : List Nat) : (vN ns).length = ns.length := List.length_map _
theorem vN_of {ns : List Nat} {i : Nat} {x : V} (h : (vN ns)[i]? = some x) : ∃ n, ns[i]? = some n ∧ x = V.int (n : Int) := by
  unfold vN at h
  rw [List.getElem?_map] at h
  obtain ⟨n, e, rfl⟩ := Option.map_eq_some_iff.mp h
  exact ⟨n, e, rfl⟩
def dRow (r : List (Option Nat)) : PyData := .tuple (r.map dO)
def dRowL (r : List (Option Nat)) : PyData := .list (r.map dO)
abbrev fsRule (a h : Int) (rp : Addr) (ev : Bool) : List (Str × V) := [("answerers", .int a), ("heaps", .int h), ("rows", .ref rp), ("is_even", .bl ev)]
structure RuleAt (B : Adr) (H : Hp) (a : Addr) (ans heaps : Nat) (rows : List (List (Option Nat))) : Prop where
  ex : ∃ dx rp ev, H a = some (.ins B.Rule dx (fsRule ans heaps rp ev)) ∧ Rp H (.ref rp) (.tuple (rows.map dRow))
theorem RuleAt.up {B : Adr} {H H' : Hp} {a : Addr} {ans heaps : Nat} {rows : List (List (Option Nat))} (h : RuleAt B H a ans heaps rows) (e : Same H H') : RuleAt B H' a ans heaps rows := by
  obtain ⟨dx, rp, ev, h1, h2⟩ := h.ex
  exact ⟨dx, rp, ev, e _ _ h1, h2.up e⟩
abbrev fsQ (who : Int) (hp : Addr) (idle : Bool) : List (Str × V) := [("who", .int who), ("heaps", .ref hp), ("is_idle", .bl idle)]
structure QAt (B : Adr) (H : Hp) (a : Addr) (q : Nat × List Nat) : Prop where
  ex : ∃ dx hp idle, H a = some (.ins B.Question dx (fsQ q.1 hp idle)) ∧ H hp = some (.tup (vN q.2))
theorem QAt.up {B : Adr} {H H' : Hp} {a : Addr} {q : Nat × List Nat} (h : QAt B H a q) (e : Same H H') : QAt B H' a q := by
  obtain ⟨dx, hp, idle, h1, h2⟩ := h.ex
  exact ⟨dx, hp, idle, e _ _ h1, e _ _ h2⟩
/-- the questions at some addresses -/
inductive QsAt (B : Adr) (H : Hp) : List V → List (Nat × List Nat) → Prop
  | nil : QsAt B H [] []
  | cons {a : Addr} {q : Nat × List Nat} {vs : List V} {qs : List (Nat × List Nat)} : QAt B H a q → QsAt B H vs qs → QsAt B H (.ref a :: vs) (q :: qs)
theorem QsAt.up {B : Adr} {H H' : Hp} (e : Same H H') : ∀ {vs : List V} {qs : List (Nat × List Nat)}, QsAt B H vs qs → QsAt B H' vs qs
  | _, _, .nil => .nil
  | _, _, .cons h t => .cons (h.up e) (t.up e)
theorem QsAt.len {B : Adr} {H : Hp} : ∀ {vs : List V} {qs : List (Nat × List Nat)}, QsAt B H vs qs → vs.length = qs.length
  | _, _, .nil => rfl
  | _, _, .cons _ t => congrArg Nat.succ t.len
theorem QsAt.get {B : Adr} {H : Hp} : ∀ {vs : List V} {qs : List (Nat × List Nat)} {i : Nat} {q : Nat × List Nat}, QsAt B H vs qs → qs[i]? = some q → ∃ a, vs[i]? = some (.ref a) ∧ QAt B H a q
  | _, _, i, q, .nil, e => by simp at e
  | _, _, 0, q, .cons h _, e => by
    simp at e
    subst e
    exact ⟨_, rfl, h⟩
  | _, _, i + 1, q, .cons _ t, e => by
    obtain ⟨a, h1, h2⟩ := t.get (i := i) (q := q) (by simpa using e)
    exact ⟨a, by simpa using h1, h2⟩
abbrev fsStock (t a h : Int) (qp : Addr) : List (Str × V) := [("things", .int t), ("answerers", .int a), ("heaps", .int h), ("questions", .ref qp)]
structure StockAt (B : Adr) (H : Hp) (a : Addr) (things ans heaps : Nat) (qs : List (Nat × List Nat)) : Prop where
  ex : ∃ dx qp vs, H a = some (.ins B.Stock dx (fsStock things ans heaps qp)) ∧ H qp = some (.tup vs) ∧ QsAt B H vs qs
theorem StockAt.up {B : Adr} {H H' : Hp} {a : Addr} {things ans heaps : Nat} {qs : List (Nat × List Nat)} (h : StockAt B H a things ans heaps qs) (e : Same H H') : StockAt B H' a things ans heaps qs := by
  obtain ⟨dx, qp, vs, h1, h2, h3⟩ := h.ex
  exact ⟨dx, qp, vs, e _ _ h1, e _ _ h2, h3.up e⟩
/-- classes numbered as they come: the table, the numbers -/
def numT : List Int → List (Key × V)
  | cs => cs.foldl (fun kvs c => match valV kvs (Sum.inl c) with | some _ => kvs | none => putK kvs (Sum.inl c) (.int (kvs.length : Int))) []
def numB (cs : List Int) : List V := cs.map fun c => (valV (numT cs) (Sum.inl c)).getD (.int 0)
abbrev fsWish (c m : V) : List (Str × V) := [("classes", c), ("most", m)]
/-- the wish's numbers -/
def Wi.num : Wi → List Int
  | .cls cs => (numB cs).map fun v => match v with | .int i => i | _ => 0
  | .most _ => []
structure WishAt (B : Adr) (H : Hp) (a : Addr) (w : Wi) : Prop where
  ex : (∃ cs dx p, w = .cls cs ∧ H a = some (.ins B.Wish dx (fsWish (.ref p) .non)) ∧ H p = some (.tup (w.num.map V.int)) ∧ w.num.length = cs.length) ∨ ∃ m dx, w = .most m ∧ H a = some (.ins B.Wish dx (fsWish .non (.int (m : Int))))
theorem WishAt.up {B : Adr} {H H' : Hp} {a : Addr} {w : Wi} (h : WishAt B H a w) (e : Same H H') : WishAt B H' a w := by
  rcases h.ex with ⟨cs, dx, p, h1, h2, h3, h4⟩ | ⟨m, dx, h1, h2⟩
  · exact ⟨.inl ⟨cs, dx, p, h1, e _ _ h2, e _ _ h3, h4⟩⟩
  · exact ⟨.inr ⟨m, dx, h1, e _ _ h2⟩⟩
abbrev fsCase (st ru fp wi : Addr) (t a h : Int) : List (Str × V) := [("stock", .ref st), ("rule", .ref ru), ("firsts", .ref fp), ("wish", .ref wi), ("things", .int t), ("answerers", .int a), ("heaps", .int h)]
structure CaseAt (B : Adr) (H : Hp) (a : Addr) (c : Cs) : Prop where
  ex : ∃ dx st ru fp wi, H a = some (.ins B.Case dx (fsCase st ru fp wi c.things c.ans c.heaps)) ∧ StockAt B H st c.things c.ans c.heaps c.qs ∧ RuleAt B H ru c.ans c.heaps c.rows ∧ H fp = some (.tup (vN c.firsts)) ∧ WishAt B H wi c.wish
theorem CaseAt.up {B : Adr} {H H' : Hp} {a : Addr} {c : Cs} (h : CaseAt B H a c) (e : Same H H') : CaseAt B H' a c := by
  obtain ⟨dx, st, ru, fp, wi, h1, h2, h3, h4, h5⟩ := h.ex
  exact ⟨dx, st, ru, fp, wi, e _ _ h1, h2.up e, h3.up e, e _ _ h4, h5.up e⟩
end TW

set_option Elab.async false
set_option linter.all false
set_option maxRecDepth 100000
set_option maxHeartbeats 4000000
namespace TW
open PySem PySem.Spec PyProof.Rows L2
/-! ### a dict with truth values for keys, its values None or numbers -/
namespace DB
def Raw (P : Program) (w : World) (a : Addr) (n : Nat) (h : Heap) : Prop := (a == sysModules) = false ∧ ∃ vs : List (Bool × Value), h.DictOf (PpSet.boolK P w) a vs ∧ vs.length ≤ n ∧ ∀ e ∈ vs, ∃ o : Option Nat, RelV (oN o) e.2
def DBO (P : Program) (w : World) (a : Addr) (n : Nat) : HO := .ext (Raw P w a n)
theorem Raw.ok {P : Program} {w : World} {a : Addr} {n : Nat} {h : Heap} {H : Hp} (R : Raw P w a n h) : ObjOk P w H h a (DBO P w a n) := by
  have ⟨_, _, ⟨o, _, _, ho, _⟩, _⟩ := R
  refine ⟨R, ⟨o, ho⟩, fun h1 h2 p k => ?_⟩
  obtain ⟨hd, vs, ⟨o, es, ep, ho, r⟩, z⟩ := p
  exact ⟨hd, vs, ⟨o, es, ep, k o ho, r⟩, z⟩
def tDNewB (P : Program) (w : World) : TE := fun _ H Q => ∀ p, H p = none → Q (.ref p) (upd H p (DBO P w p 0))
theorem pe_dnewB {X : Cx} {pos : Pos} : PE X (.Dict [] [] pos) (tDNewB X.prog X.w) := ⟨fun pins s σ H Q I h =>
  wpAny_Dict_empty ⟨.ref s.heap.objs.size, _, I.laid (a := s.heap.objs.size) (o := DBO X.prog X.w s.heap.objs.size 0) (t' := s.toks) (fun _ _ q => Heap.get?_push_of_some _ q) (Nat.le_refl _)
    (Raw.ok ⟨beq_eq_false_iff_ne.mpr (Ne.symm (Nat.ne_of_lt I.big)), [], Heap.DictOf.new s.heap, Nat.le_refl _, fun _ z => nomatch z⟩), rfl, h _ (I.hok.fresh (Nat.le_refl _))⟩⟩
theorem stored_len {κ : Type} [DecidableEq κ] (vs : List (κ × Value)) (k : κ) (x : Value) : (stored vs k x).length ≤ vs.length + 1 := by
  unfold stored
  split
  · rw [List.length_map]
    exact Nat.le_succ _
  · rw [List.length_append]
    exact Nat.le_refl _
theorem stored_mem {κ : Type} [DecidableEq κ] {vs : List (κ × Value)} {k : κ} {x : Value} {e : κ × Value} (h : e ∈ stored vs k x) : e ∈ vs ∨ e.2 = x := by
  unfold stored at h
  split at h
  · obtain ⟨y, hy, z⟩ := List.mem_map.mp h
    subst z
    split
    · exact .inr rfl
    · exact .inl hy
  · rcases List.mem_append.mp h with z | z
    · exact .inl z
    · exact .inr (by rw [List.mem_singleton.mp z])
/-- d.setdefault(b, v) -/
def tDSetdB (P : Program) (w : World) (td ty tx : TE) : TE := fun σ H Q => td σ H fun x H1 => ∃ a n, x = .ref a ∧ H1 a = some (DBO P w a n) ∧ ty σ H1 fun y H2 => tx σ H2 fun z H3 => ∃ (n : Nat) (b : Bool) (o : Option Nat), H3 a = some (DBO P w a n) ∧ y = .bl b ∧ z = oN o ∧ n < sizeLine ∧
  ∀ (o' : Option Nat) (H4 : Hp), H4 = H3 ∨ H4 = upd H3 a (DBO P w a (n + 1)) → Q (oN o') H4
theorem pe_dsetdB {X : Cx} {o e f : Expr} {td ty tx : TE} {apos cpos : Pos} (ho : PE X o td) (he : PE X e ty) (hf : PE X f tx) (m : M2 X o "setdefault" apos e f cpos) : PE X (.Call (.Attribute o "setdefault" apos) [e, f] [] cpos) (tDSetdB X.prog X.w td ty tx) := by
  refine ⟨fun pins s σ H Q I h => ?_⟩
  refine wpAny_Call_method m.base m.few m.line PySem.F.plainAttrs_dict PySem.F.slot_dict_setdefault PySem.F.type_dict_setdefault (thn (ho.run pins s σ H _ I h) fun u s1 ⟨x, H1, I1, rx, a, n1, ex, d, q1⟩ => ?_)
  subst ex
  obtain rfl : u = Value.ref a := rx
  have dd : Raw X.prog X.w a n1 s1.heap := (I1.hok a _ d).1
  obtain ⟨hd, vs1, dd1, _⟩ := dd
  refine ⟨dd1.typeIs, fun b q => ?_, ?_⟩
  · cases q
    obtain ⟨ob, _, _, g1, g2, _⟩ := dd1
    exact ⟨ob, g1, g2.2.1⟩
  rw [m.trees]
  refine Calls.callWith_builtin rfl (Calls.evalArgs_plain (Calls.spliced_cons (thn (he.run pins s1 σ H1 _ I1 q1) fun iv s2 ⟨y, H2, I2, ry, q2⟩ =>
    Calls.spliced_cons (thn (hf.run pins s2 σ H2 _ I2 q2) fun fv s3 ⟨z, H3, I3, rz, n, b, oo, ea, ey, ez, hl, q3⟩ => Calls.spliced_nil ?_))))
  subst ey ez
  obtain rfl : iv = Value.bool b := ry
  obtain ⟨_, vs, d3, hn, hv⟩ : Raw X.prog X.w a n s3.heap := (I3.hok a _ ea).1
  refine call_meetsIn PySem.F.slot_dict_setdefault d3.typeIs PySem.F.entry_dict_setdefault (PySem.F.args_dict_setdefault_3 _ _ _) (kt_meets_setdefault (PpSet.boolK X.prog X.w) a (PpSet.boolK_is X.prog X.w b) hd fv) ⟨vs, d3, Nat.le_trans hn (Nat.le_of_lt hl), fun v hv1 => ?_, fun hn1 h' d4 hs => ?_⟩
  · have hm : ∃ e ∈ vs, e.2 = v := by
      unfold valueAt at hv1
      obtain ⟨e, e1, e2⟩ := Option.map_eq_some_iff.mp hv1
      exact ⟨e, List.mem_of_find?_eq_some e1, e2⟩
    obtain ⟨e, he1, rfl⟩ := hm
    obtain ⟨o2, r2⟩ := hv e he1
    exact ⟨oN o2, H3, I3.tok _, r2, q3 _ _ (.inl rfl)⟩
  · have new : Raw X.prog X.w a (n + 1) h' := ⟨hd, _, d4, Nat.le_trans (stored_len _ _ _) (Nat.succ_le_succ hn), fun e he1 => by
      rcases stored_mem he1 with z | z
      · exact hv e z
      · exact ⟨oo, by rw [z]; exact rz⟩⟩
    have he : ∃ q, h'.get? a = some q := let ⟨q, _, _, hq, _⟩ := d4; ⟨q, hq⟩
    exact ⟨oN oo, _, d_write (t' := s3.toks + 1) I3 (by rw [ea]; exact True.intro) hs he new.ok, rz, q3 _ _ (.inr rfl)⟩
end DB
/-! ### a dict with pairs (number, numbers) for keys, all its values True -/
namespace DN
abbrev QK : Type := Nat × List Nat
def key (q : QK) : NestedKey := .tup [.num q.1, .tup (q.2.map fun n : Nat => NestedKey.num n)]
theorem key_inj {q r : QK} (h : key q = key r) : q = r := by
  obtain ⟨a, l⟩ := q
  obtain ⟨b, m⟩ := r
  unfold key at h
  injection h with h
  injection h with h1 h2
  injection h1 with h1
  injection h2 with h2
  injection h2 with h2
  have e1 : a = b := Int.ofNat.inj h1
  have e2 : ∀ (l m : List Nat), (l.map fun n : Nat => NestedKey.num n) = m.map (fun n : Nat => NestedKey.num n) → l = m := by
    intro l
    induction l with
    | nil =>
      intro m h
      cases m with
      | nil => rfl
      | cons => cases h
    | cons x l ih =>
      intro m h
      cases m with
      | nil => cases h
      | cons y m =>
        rw [List.map_cons, List.map_cons] at h
        injection h with g1 g2
        injection g1 with g1
        rw [Int.ofNat.inj g1, ih m g2]
  have e3 : l = m := e2 l m h2
  rw [e1, e3]
/-- the tuple of the key -/
def KeyAt (H : Hp) (q : QK) (b : Addr) : Prop := ∃ p, H b = some (.tup [.int (q.1 : Int), .ref p]) ∧ H p = some (.tup (vN q.2))
theorem KeyAt.up {H H' : Hp} {q : QK} {b : Addr} (h : KeyAt H q b) (e : Same H H') : KeyAt H' q b := by
  obtain ⟨p, h1, h2⟩ := h
  exact ⟨p, e _ _ h1, e _ _ h2⟩
theorem all_nums {h : Heap} : ∀ {ns : List Nat} {us : List Value}, Vals (vN ns) us → NestedAll h (ns.map fun n : Nat => NestedKey.num n) us
  | [], _, r => by
    cases r
    exact .nil
  | n :: ns, _, r => by
    cases r with
    | cons r1 r2 =>
      obtain ⟨t, rfl⟩ := r1
      exact .cons (.int _ t) (all_nums r2)
theorem dep_nums : ∀ ns : List Nat, NestedKey.depthAll (ns.map fun n : Nat => NestedKey.num n) = 0
  | [] => rfl
  | n :: ns => by
    rw [List.map_cons, NestedKey.depthAll, dep_nums ns]
    rfl
theorem dep_key (q : QK) : (key q).depth ≤ 8 := by
  unfold key
  simp only [NestedKey.depth, NestedKey.depthAll, dep_nums]
  decide
theorem KeyAt.is {P : Program} {w : World} {H : Hp} {h : Heap} {q : QK} {b : Addr} (k : KeyAt H q b) (ok : HOk P w H h) : (nestedKind P w).is h (key q) b := by
  obtain ⟨p, h1, h2⟩ := k
  obtain ⟨_, its, r, o, g1, g2, n, g3⟩ := (show ObjOk P w H h b _ from ok b _ h1)
  obtain ⟨_, its', r', o', g1', g2', n', g3'⟩ := (show ObjOk P w H h p _ from ok p _ h2)
  refine ⟨?_, dep_key q⟩
  cases r with
  | cons r1 r2 =>
    cases r2 with
    | cons r2 r3 =>
      cases r3
      obtain ⟨t, rfl⟩ := r1
      cases r2
      exact .tup g1 g2 g3 (.cons (.int _ t) (.cons (.tup g1' g2' g3' (all_nums r')) .nil))
abbrev ent (x : QK × Addr) : NestedKey × Addr × Value := (key x.1, x.2, .bool true)
def Raw (P : Program) (w : World) (a : Addr) (xs : List (QK × Addr)) (h : Heap) : Prop := (a == sysModules) = false ∧ ∃ o es ep, h.get? a = some o ∧ o.ExactDict ∧ o.data = .dict es ep ∧ es.toList = (xs.map ent).map (entryOfKey (nestedKind P w))
def DNO (P : Program) (w : World) (a : Addr) (xs : List (QK × Addr)) : HO := .ext (Raw P w a xs)
theorem Raw.ok {P : Program} {w : World} {a : Addr} {xs : List (QK × Addr)} {h : Heap} {H : Hp} (R : Raw P w a xs h) : ObjOk P w H h a (DNO P w a xs) := by
  have ⟨_, o, _, _, ho, _⟩ := R
  refine ⟨R, ⟨o, ho⟩, fun h1 h2 p k => ?_⟩
  obtain ⟨hd, o, es, ep, ho, r⟩ := p
  exact ⟨hd, o, es, ep, k o ho, r⟩
/-- all of it at the heap H -/
structure At (P : Program) (w : World) (H : Hp) (a : Addr) (xs : List (QK × Addr)) : Prop where
  obj : H a = some (DNO P w a xs)
  keys : ∀ x ∈ xs, KeyAt H x.1 x.2
  nd : (xs.map (·.1)).Nodup
theorem nd_ent {xs : List (QK × Addr)} (h : (xs.map (·.1)).Nodup) : ((xs.map ent).map (·.1)).Nodup := by
  have e : (xs.map ent).map (·.1) = (xs.map (·.1)).map key := by
    rw [List.map_map, List.map_map]
    rfl
  rw [e]
  exact List.Pairwise.map key (fun a b hne z => hne (key_inj z)) h
theorem At.of {P : Program} {w : World} {H : Hp} {h : Heap} {a : Addr} {xs : List (QK × Addr)} (d : At P w H a xs) (ok : HOk P w H h) : (a == sysModules) = false ∧ h.DictOfH (nestedKind P w) a (xs.map ent) := by
  obtain ⟨hd, o, es, ep, h1, h2, h3, h4⟩ : Raw P w a xs h := (ok a _ d.obj).1
  refine ⟨hd, o, es, ep, h1, h2, h3, h4, fun x hx => ?_, nd_ent d.nd⟩
  obtain ⟨y, hy, rfl⟩ := List.mem_map.mp hx
  exact (d.keys y hy).is ok
theorem atKey_ent {q : QK} : ∀ xs : List (QK × Addr), (atKey (xs.map ent) (key q)).isSome = decide (q ∈ xs.map (·.1))
  | [] => rfl
  | x :: xs => by
    have ih := atKey_ent (q := q) xs
    by_cases e : x.1 = q
    · have e2 : decide (key x.1 = key q) = true := decide_eq_true (by rw [e])
      rw [decide_eq_true (by rw [List.map_cons, e]; exact List.mem_cons_self)]
      unfold atKey
      rw [List.map_cons, List.find?_cons]
      simp only [e2]
      rfl
    · have e2 : decide (key x.1 = key q) = false := decide_eq_false fun z => e (key_inj z)
      have e3 : decide (q ∈ (x :: xs).map (·.1)) = decide (q ∈ xs.map (·.1)) := decide_eq_decide.mpr ⟨fun z => (List.mem_cons.mp z).elim (fun z => absurd z.symm e) id, fun z => List.mem_cons_of_mem _ z⟩
      rw [e3, ← ih]
      unfold atKey
      rw [List.map_cons, List.find?_cons]
      simp only [e2]
def tDNewN (P : Program) (w : World) : TE := fun _ H Q => ∀ p, H p = none → Q (.ref p) (upd H p (DNO P w p []))
section
variable {X : Cx} {pos : Pos}
theorem pe_dnewN : PE X (.Dict [] [] pos) (tDNewN X.prog X.w) := ⟨fun pins s σ H Q I h =>
  wpAny_Dict_empty ⟨.ref s.heap.objs.size, _, I.laid (a := s.heap.objs.size) (o := DNO X.prog X.w s.heap.objs.size []) (t' := s.toks) (fun _ _ q => Heap.get?_push_of_some _ q) (Nat.le_refl _)
    (Raw.ok ⟨beq_eq_false_iff_ne.mpr (Ne.symm (Nat.ne_of_lt I.big)), _, #[], 0, Heap.get?_push_size _ rfl, ⟨rfl, rfl, rfl⟩, rfl, rfl⟩), rfl, h _ (I.hok.fresh (Nat.le_refl _))⟩⟩
/-- k in d -/
def rInN (P : Program) (w : World) : R2 := fun x y H Q => ∃ (q : QK) (b a : Addr) (xs : List (QK × Addr)), x = .ref b ∧ y = .ref a ∧ KeyAt H q b ∧ At P w H a xs ∧ Q (.bl (decide (q ∈ xs.map (·.1)))) H
theorem room8 {A : Around} {k : Nat} (hr : Room k A) : (A.in1).units + 8 < cLine := by
  have h := hr.units
  have e : A.in1.units ≤ A.units + 1 := by first | exact Nat.le_refl _ | (unfold Around.in1; simp)
  omega
theorem op_inN {k : Nat} (hr : Room k X.A) : OpR X (compareOp .In) (rInN X.prog X.w) := by
  intro pins s σ H x y v u Q I rx ry h
  obtain ⟨q, b, a, xs, rfl, rfl, hk, d, qq⟩ := h
  cases rx
  cases ry
  obtain ⟨hd, dd⟩ := d.of I.hok
  refine wpAny_in_heap (room8 hr) (hk.is I.hok) hd dd ?_
  rw [atKey_ent]
  exact ⟨.bl _, H, I.tok _, rfl, qq⟩
/-- d[k] = True -/
def rSetN (P : Program) (w : World) : TSet := fun o i v H Q => ∃ (q : QK) (b a : Addr) (xs : List (QK × Addr)), o = .ref a ∧ i = .ref b ∧ v = .bl true ∧ KeyAt H q b ∧ At P w H a xs ∧ q ∉ xs.map (·.1) ∧ xs.length ≤ 1000 ∧ Q (upd H a (DNO P w a (xs ++ [(q, b)])))
theorem set_nest {k : Nat} (hr : Room k X.A) : PSet X (rSetN X.prog X.w) := by
  intro pins s σ H o i v ov iv u Q I ro ri rv h
  obtain ⟨q, b, a, xs, rfl, rfl, rfl, hk, d, nq, hl, qq⟩ := h
  cases ro
  cases ri
  obtain rfl : u = Value.bool true := rv
  obtain ⟨hd, dd⟩ := d.of I.hok
  have hf : (atKey (xs.map ent) (key q)).isSome = false := by
    rw [atKey_ent]
    exact decide_eq_false nq
  refine wpAny_setItem_heap (hsz := by rw [List.length_map]; exact szL (by omega)) (room8 hr) (hk.is I.hok) dd fun h' d' hs => ?_
  have e : storedH (xs.map ent) (key q) b (.bool true) = (xs ++ [(q, b)]).map ent := by
    unfold storedH
    rw [hf, if_neg Bool.false_ne_true, List.map_append]
    rfl
  rw [e] at d'
  obtain ⟨o', es, ep, g1, g2, g3, g4, _⟩ := d'
  exact ⟨_, d_write (t' := s.toks + (nestedKind X.prog X.w).draws (key q)) I (by rw [d.obj]; exact True.intro) hs ⟨_, g1⟩ (Raw.ok ⟨hd, o', es, ep, g1, g2, g3, g4⟩), qq⟩
end
end DN
end TW

set_option Elab.async false
set_option linter.all false
set_option maxRecDepth 100000
set_option maxHeartbeats 4000000
namespace TW
open PySem PySem.Spec PyProof.Rows L2
/-! ### sets of ints: of a list, their length, by a comprehension -/
namespace SI
def eS (w : World) : Obj := { cls := .type "set", dict := none, data := .set #[] 0 (.fresh 0 0 (!w.params.followText "set-order")) }
section
variable {P : Program} {w : World} {A : Around} {E : Value → Shared → Prop} {s : Shared}
set_option maxHeartbeats 8000000 in
theorem set_of_list {l : Addr} {its : Array Value} (ns : List Int) {Q : Value → Shared → Prop} (hA : A.handled = none) (hl : s.heap.IsList l its) (hI : IntsAre its.toList ns) (hz : ns.length + 1 < scanBound)
    (k : ∀ (h' : Heap) (tk c : Nat), SetR w h' s.heap.objs.size (fun j => decide (j ∈ ns)) c → c ≤ ns.length → (∀ b o, s.heap.get? b = some o → h'.get? b = some o) → Q (.ref s.heap.objs.size) { s with heap := h', toks := tk }) :
    wpAny (model P w) A (call (.type "set") [.ref l]) Q E s := by
  have hn : its.size = ns.length := by
    have q := IntsAre.length hI
    rwa [Array.length_toList] at q
  have ⟨mc, mt, hmro⟩ := F.called_set.mro
  have f1 := F.called_set.made
  have f2 := F.called_set.sub
  have f3 := F.called_set.notType
  have f4 := F.called_set.canCreate
  have f5 := F.typeCall_set_1 (.ref l)
  refine wpAny_call (codeAny_of_tree ?_)
  show wpAny _ _ (callAny (.type "set") _) _ _ _
  refine wpAny_pure ⟨Code.quiet_builtin _ (by decide +kernel), codeAny_builtin F.entry_type_call ?_⟩
  rw [Around.under_plain (weight_type_call_type "set" [.ref l] []) rfl]
  repeat (any_goals (first | assumption | wp_step))
  refine codeAny_mono (code_set_led1 (.ref l) (E := E) (Q₁ := fun v t => v = .ref s.heap.objs.size ∧ t = { s with heap := s.heap.push (eS w) }) ⟨rfl, rfl⟩) fun r t hr => ?_
  match r, hr with
  | .error _, hr => exact hr
  | .ok .next, hr => exact hr.elim
  | .ok .brk, hr => exact hr.elim
  | .ok .cont, hr => exact hr.elim
  | .ok (.ret v), hr =>
    obtain ⟨rfl, rfl⟩ := hr
    generalize ha : s.heap.objs.size = a at k ⊢
    have g0 : (s.heap.push (eS w)).get? a = some (eS w) := by
      rw [← ha]
      exact Heap.get?_push_size _ rfl
    have gk : ∀ b o, s.heap.get? b = some o → (s.heap.push (eS w)).get? b = some o := fun b o e => Heap.get?_push_of_some _ e
    have gz : (s.heap.push (eS w)).objs.size = a + 1 := by rw [Heap.size_push, ha]
    have gl : (s.heap.push (eS w)).IsList l its := by
      obtain ⟨o, e, r⟩ := hl
      exact ⟨o, gk _ _ e, r⟩
    have la : l < a := by
      obtain ⟨o, e, _⟩ := hl
      rw [← ha]
      exact Heap.lt_size e
    have lt0 : ∀ b o, s.heap.get? b = some o → b < a := fun b o e => by
      rw [← ha]
      exact Heap.lt_size e
    generalize s.heap.push (eS w) = h0 at g0 gk gz gl ⊢
    have hT : Shared.TypeIs { s with heap := h0 } (.ref a) "set" := ⟨_, g0, rfl⟩
    have f6 := F.called_set.init.lookup
    have f7 := F.called_set.init.bind (.ref a)
    repeat (any_goals (first | assumption | wp_step))
    refine codeAny_mono (codeAny_call_builtin (R := wants (fun v t => v = .none ∧ ∃ h' tk c, t = { s with heap := h', toks := tk } ∧ SetR w h' a (fun j => decide (j ∈ ns)) c ∧ c ≤ ns.length ∧ ∀ b o, s.heap.get? b = some o → h'.get? b = some o) E)
      F.called_set.init.plain F.entry_set_init (check_set_init_1 hT ?_)) fun r t hr => ?_
    · have f8 := F.sub_list_set
      have f9 := F.sub_list_frozenset
      have f10 : (Value.type "list" == Value.type "dict") = false := by decide
      have gl' := gl
      obtain ⟨⟨oc, od, oa, os⟩, g1, g2, m, g3⟩ := gl'
      simp only at g2 g3
      subst g2 g3
      unfold Builtin.«set.__init__» noKeywords Builtin.Frozenset.updateFrom
      generalize hPI : pyIter = PI
      wp_walk
      subst hPI
      refine wpAny_pyIter_list gl (wpAny_bind (wpAny_runValue ?_))
      have hA3 : A.in1.in1.in1.handled = none := by simp [hA]
      have n1 : l ≠ h0.objs.size := by
        rw [gz]
        exact Nat.ne_of_lt (Nat.lt_succ_of_lt la)
      have n2 : a ∉ [h0.objs.size, l] := by
        intro z
        rcases List.mem_cons.mp z with z | z
        · rw [gz] at z
          exact Nat.ne_of_lt (Nat.lt_succ_self a) z
        · exact Nat.ne_of_gt la (List.mem_singleton.mp z)
      have val : ∀ (i : Nat) (v : Value), its[i]? = some v → ∃ j t, ns[i]? = some j ∧ v = .int j t := fun i v hv => by
        have hi : i < ns.length := by
          rw [← hn]
          exact (Array.getElem?_eq_some_iff.mp hv).1
        obtain ⟨t, e⟩ := PyProof.Rows.IntsAre.int_at hI i v (by rw [Array.getElem?_toList]; exact hv)
        refine ⟨ns[i], t, List.getElem?_eq_getElem hi, ?_⟩
        rw [e, List.getD_eq_getElem?_getD, List.getElem?_eq_getElem hi]
        rfl
      refine set_update_ints (Walks.list hA3 _ l n1 its).toS a n2 ns hn hz val (its.size - 0) 0 _ (by omega) (Nat.zero_le _) ⟨⟨_, Heap.get?_push_size _ rfl, rfl, rfl⟩, gl.push _⟩ ⟨0, Nat.le_refl 0, setR_new_at (Heap.get?_push_of_some _ g0)⟩ ?_
      intro t c hm hc hS
      obtain ⟨th, tg, td, tt, to⟩ := t
      have e1 : tg = s.gens := hm.gens
      have e2 : td = s.drawn := hm.drawn
      have e3 : to = s.os := hm.os
      subst e1 e2 e3
      show wpAny _ _ _ _ _ _
      refine wpAny_pure ?_
      show wpAny _ _ (ret Value.none) _ _ _
      refine wpAny_pure ⟨rfl, th, tt, c, rfl, hS, by omega, fun b o e => hm.heap b o (fun z => ?_) (Heap.get?_push_of_some _ (gk _ _ e))⟩
      have lb := lt0 b o e
      rcases List.mem_cons.mp z with z | z
      · exact Nat.ne_of_lt lb z
      · have z := List.mem_singleton.mp z
        rw [gz] at z
        exact Nat.ne_of_lt (Nat.lt_succ_of_lt lb) z
    · match r, hr with
      | .error _, hr => exact hr
      | .ok .next, hr => exact hr.elim
      | .ok .brk, hr => exact hr.elim
      | .ok .cont, hr => exact hr.elim
      | .ok (.ret v), hr =>
        obtain ⟨rfl, h', tk, c, rfl, hS, hc, hk⟩ := hr
        repeat (any_goals (first | assumption | wp_step))
        exact k _ _ _ hS hc hk
end
/-- set(xs), xs a list of ints -/
def rSetL (K : PySem.W.Frag) (w : World) : List V → Hp → VK → Prop := fun vs H Q => ∃ (p : Addr) (ns : List Int), vs = [.ref p] ∧ SqL K H p (ns.map V.int) ∧ ns.length ≤ 1000 ∧
  ∀ (q : Addr) (c : Nat), c ≤ ns.length → H q = none → Q (.ref q) (upd H q (SetO w q (fun j => decide (j ∈ ns)) c))
theorem call_setL {X : Cx} (hc : X.calm = true) : CallR X (.type "set") (rSetL X.K X.w) := by
  intro pins s σ H xs us Q I r h
  obtain ⟨p, ns, rfl, hq, hl, q⟩ := h
  obtain rfl := Vals.ref1 r
  obtain ⟨its, rv, pl, hz⟩ := I.list hq
  refine set_of_list ns (I.ok.hd hc) pl.isList (by simpa using RZ.intsAre_vals rv) (by unfold scanBound; omega) fun h' tk c R hcn kk => ?_
  exact ⟨.ref _, upd H s.heap.objs.size (SetO X.w s.heap.objs.size (fun j => decide (j ∈ ns)) c), I.laid (t' := tk) kk (Nat.le_refl _) (setO_new R), rfl, q _ _ hcn (I.hok.fresh (Nat.le_refl _))⟩
/-- len of one -/
def rLenSet (w : World) : List V → Hp → VK → Prop := fun vs H Q => ∃ (p : Addr) (S : Int → Bool) (n : Nat), vs = [.ref p] ∧ H p = some (SetO w p S n) ∧ ((∃ l : List Int, l.Nodup ∧ l.length = n ∧ ∀ k, S k = true ↔ k ∈ l) → Q (.int (n : Int)) H)
theorem call_lenSet {X : Cx} : CallR X (.builtin "len") (rLenSet X.w) := by
  intro pins s σ H xs us Q I r h
  obtain ⟨p, S, n, rfl, hp, q⟩ := h
  obtain rfl := Vals.ref1 r
  obtain ⟨o, es, ep, t, ho, hex, hd, g, nd, hm, hb, hf, hn, _⟩ := setO_get I hp
  have hb2 : (es.size : Int) < 2 ^ 63 := by
    unfold scanBound at hb
    omega
  refine call_len_set ho hex hd hf hb2 ⟨.int (n : Int), H, I.tok _, ⟨_, by rw [hn]⟩, q ⟨es.toList.map keyOf, nd, by rw [List.length_map, Array.length_toList]; exact hn, hm⟩⟩
end SI
end TW

set_option Elab.async false
set_option linter.all false
set_option maxRecDepth 100000
set_option maxHeartbeats 4000000
namespace TW
open PySem PySem.Spec PyProof.Rows L2
/-! ### a comprehension of a set of ints -/
namespace SI
open PpSet
section
variable {X : Cx}
/-- {elt for target in iter}, elt an int: Dn the new set -/
def tSci (w : World) (wi : TI) (g : TG) (tt : TT) (te : TE) (vs : List Nat) : TE := fun σ H Q => wi σ H fun J Ha => ∀ Dn, Ha Dn = none →
  ∃ Wf : Nat → Nat → Hp → Prop, (∃ m, Wf 0 m (upd Ha Dn (SetO w Dn (fun _ => false) 0))) ∧ ∀ i m Hb, Wf i m Hb →
    (J.stop i Hb ∧ Q (.ref Dn) Hb) ∨ (J.go i Hb ∧ ∃ Nx : Hp → Prop, (∀ Hc, Nx Hc → ∃ m', m' < m ∧ Wf (i + 1) m' Hc) ∧ ∀ x Hc, J.yld i Hb x Hc → g x (wipe σ vs) Hc fun σ2 Hd => wipe σ2 vs = wipe σ vs ∧ tt σ2 Hd fun b He =>
      if b = true then te σ2 He fun y Hf => ∃ (c : Int) (S : Int → Bool) (n : Nat), y = .int c ∧ Hf Dn = some (SetO w Dn S n) ∧ n + 1 < scanBound ∧ Nx (upd Hf Dn (SetO w Dn (fun j => S j || decide (j = c)) (if S c = true then n else n + 1))) else Nx He)
theorem addI {pins : List (Addr × Obj)} {σ : L2.St} {H : Hp} {s : Shared} {E : Value → Shared → Prop} {Dn : Addr} {S : Int → Bool} {n : Nat} {y : Int} {tk : Tok} {Q : Value → Shared → Prop} (I : Inv X pins σ H s) (e : H Dn = some (SetO X.w Dn S n)) (room : n + 1 < scanBound)
    (h : ∀ t, Inv X pins σ (upd H Dn (SetO X.w Dn (fun j => S j || decide (j = y)) (if S y = true then n else n + 1))) t → Q .none t) : wpAny (model X.prog X.w) X.A (call (.builtin "set.add") [.ref Dn, .int y tk]) Q E s :=
  setR_add (setO_get I e) room fun h1 sb new => h _ (I.write (e := Dn) (t' := s.toks + 1) (by rw [e]; trivial) (.inl rfl) (fun b u hb hu => (sb.2 b hb).trans hu) (by have ⟨o, _, _, _, ho, _⟩ := new; exact ⟨o, ho⟩) (setO_new new))
theorem sci_core {pins : List (Addr × Obj)} {s : Shared} {σ : L2.St} {H : Hp} {Q : VK} {el tg iter : Expr} {ifs : List Expr} {sc : Scope} {own : List (PySem.Str × Nat)} {pos pos' : Pos} {wi : TI} {g : TG} {tt : TT} {te : TE} {use : Option (Value → Sem Unit)} {Qf : Value → Shared → Prop}
    (hc : X.calm = true) (hN : X.N.Nodup) (I : Inv X pins σ H s) (hi : PI X tg iter wi) (ok : BlkOk X.N X.env.scope sc own)
    (hg : ∀ (t : Shared) (Ht : Hp) (C : Addr) (cl : List (PySem.Str × Addr)) (fp : List Addr), PG (X.blk t Ht sc (compEnvC sc cl C X.env) fp) tg g)
    (ht : ∀ (t : Shared) (Ht : Hp) (C : Addr) (cl : List (PySem.Str × Addr)) (fp : List Addr), PTs (X.blk t Ht sc (compEnvC sc cl C X.env) fp) ifs tt)
    (he : ∀ (t : Shared) (Ht : Hp) (C : Addr) (cl : List (PySem.Str × Addr)) (fp : List Addr), PE (X.blk t Ht sc (compEnvC sc cl C X.env) fp) el te) (hs : ∀ x, foldedSetIterable iter X.env x = pure x)
    (h : tSci X.w wi g tt te (own.map (·.2)) σ H Q)
    (fin : ∀ Dn C t m Ht, Inv X pins σ Ht t → Q (.ref Dn) Ht → t.heap.Ns C m → FpOk X pins Ht C → compPost (model X.prog X.w) X.A X.xe use Qf (.ref Dn) C (.ok .next) t) :
    wpAny (model X.prog X.w) X.A (comprehension (.SetComp el [⟨tg, iter, ifs, 0⟩] sc pos) sc X.env pos' (newSet (.type "set")) false (eval iter X.env) use) Qf X.xe s := by
  have free : ∀ y ∈ sc.names, y.2 = .free → ∃ c, X.env.cells.lookup y.1 = some c := fun y hy e => (ok.free y hy e).elim (fun k => I.ok.has _ (.inl k)) fun k => I.ok.has _ (.inr k)
  refine wpAny_comprehension_free (use := use) rfl hs (closure_ok free) ok.kind (fun y hy e => by rw [ok.uniq y hy, e]) (thn (hi.run pins s σ H _ I h) fun xv sa hx => thn hx fun iv sb hb => ?_)
  obtain ⟨it, fp, tn, J, Ha, rfl, Ia, T, sta, fa, q⟩ := hb
  refine newSet_ok (newEnv_comp ?_)
  generalize hD : sb.heap.objs.size = Dn
  obtain ⟨Wf, ⟨m0, w0⟩, turn⟩ := q Dn (Ia.hok.fresh (Nat.le_of_eq hD))
  generalize hsn : ({ sb with heap := sb.heap.push { cls := .type "set", dict := none, data := .set #[] 0 (.fresh 0 0 (!X.w.params.followText "set-order")) } } : Shared) = sn
  have In : Inv X pins σ (upd Ha Dn (SetO X.w Dn (fun _ => false) 0)) sn := by
    subst hsn hD
    exact Ia.laid (t' := sb.toks) (fun b o e => Heap.get?_push_of_some _ e) (Nat.le_refl _) (setO_new (setR_fresh X.w))
  have kn : ∀ b o, sb.heap.get? b = some o → sn.heap.get? b = some o := fun b o e => by
    subst hsn
    exact Heap.get?_push_of_some _ e
  have zn : sn.heap.objs.size = Dn + 1 := by
    subst hsn hD
    exact Heap.size_push ..
  have low : ∀ b ∈ fp, b < Dn := fun b hb => by
    obtain ⟨o, e, _⟩ := T.obj _ _ sta b hb
    rw [← hD]
    exact Heap.lt_size e
  have fn : ∀ b ∈ fp, FpOk X pins (upd Ha Dn (SetO X.w Dn (fun _ => false) 0)) b ∧ b < sn.heap.objs.size := fun b hb => by
    refine ⟨⟨?_, (fa b hb).2⟩, by rw [zn]; exact Nat.lt_succ_of_lt (low b hb)⟩
    rw [upd_ne (Nat.ne_of_lt (low b hb))]
    exact (fa b hb).1
  have stn : tn 0 sn.heap := T.keep _ _ _ sta fun b _ o e => kn b o e
  have I0 := block_start In ok hN fn
  generalize hHn : upd Ha Dn (SetO X.w Dn (fun _ => false) 0) = Hn at In I0 w0 fn
  have pg := hg sn Hn sn.heap.objs.size (cellsFrom (sn.heap.objs.size + 1) sc.names (cloFrom X.env.cells sc.names [])) fp
  have pt := ht sn Hn sn.heap.objs.size (cellsFrom (sn.heap.objs.size + 1) sc.names (cloFrom X.env.cells sc.names [])) fp
  have pe := he sn Hn sn.heap.objs.size (cellsFrom (sn.heap.objs.size + 1) sc.names (cloFrom X.env.cells sc.names [])) fp
  show codeAny _ _ (.compStart (.SetComp el [⟨tg, iter, ifs, 0⟩] sc pos) 0 (.ref it) (.ref Dn) (compEnvC sc (cellsFrom (sn.heap.objs.size + 1) sc.names (cloFrom X.env.cells sc.names [])) sn.heap.objs.size X.env)) (compPost (model X.prog X.w) X.A X.xe use Qf (.ref Dn) sn.heap.objs.size) { sn with heap := pushCells (sn.heap.push { cls := .type "dict", data := .dict #[] }) sc.names }
  have none0 : ∀ b ∈ fp, Hn b = none := fun b hb => (fn b hb).1.1
  generalize hce : compEnvC sc (cellsFrom (sn.heap.objs.size + 1) sc.names (cloFrom X.env.cells sc.names [])) sn.heap.objs.size X.env = ce at I0 pg pt pe ⊢
  have cl : ce.locals = sn.heap.objs.size := by
    subst hce
    rfl
  generalize hs0 : ({ sn with heap := pushCells (sn.heap.push { cls := .type "dict", data := .dict #[] }) sc.names } : Shared) = s0 at I0 ⊢
  have st0 : tn 0 s0.heap := T.keep _ _ _ stn fun b _ o e => by
    subst hs0
    exact pushCells_keeps _ _ _ _ (Heap.get?_push_of_some _ e)
  have allOk : ∀ {σt : L2.St} {Ht : Hp} {t : Shared}, Inv (X.blk sn Hn sc ce fp) [] σt Ht t → (∀ b ∈ fp, Ht b = none) → ∀ b ∈ fp, FpOk (X.blk sn Hn sc ce fp) [] Ht b := fun {σt Ht t} It z b hb =>
    ⟨z b hb, (It.ok.exf b hb).1, It.ok.exfs b hb, .inl hb, fun x c e => (It.ok.exf b hb).2 x c e, fun p hp => absurd (show p ∈ ([] : List (Addr × Obj)) ++ [] from hp) (by simp)⟩
  have loop : codeAny (model X.prog X.w) X.A (.compLoop (.SetComp el [⟨tg, iter, ifs, 0⟩] sc pos) 0 (.ref it) (.ref Dn) ce) (compPost (model X.prog X.w) X.A X.xe use Qf (.ref Dn) sn.heap.objs.size) s0 := by
    refine compLoopS_any (fun n t => ∃ i Ht, Inv (X.blk sn Hn sc ce fp) [] (wipe σ (own.map (·.2))) Ht t ∧ tn i t.heap ∧ (∀ b ∈ fp, Ht b = none) ∧ Wf i n Ht) ?_ m0 ⟨0, Hn, I0, st0, none0, w0⟩
    rintro n t1 ⟨i, H1, I1, u1, n1, w1⟩
    rcases turn i n H1 w1 with ⟨stop, qq⟩ | ⟨go, Nx, hNx, step⟩
    · refine thnF (T.done (X.blk sn Hn sc ce fp) rfl rfl rfl hc i [] t1 _ H1 (fun _ _ => False) I1 (allOk I1 n1) u1 stop) fun r t2 ⟨hr, I2⟩ => ?_
      subst hr
      have I3 : Inv X pins σ H1 t2 := In.call' (ch := fp) I2.os I2.base I2.hok I2.bare fun b hb => ⟨(fn b hb).1.2.2.2.1, (fn b hb).1.2.1, (fn b hb).1.2.2.2.2.1, (fn b hb).1.2.2.2.2.2⟩
      have z : H1 ce.locals = none := I2.free
      obtain ⟨m, hn, _⟩ := I2.loc
      have hn : t2.heap.Ns ce.locals m := hn
      rw [cl] at z hn
      exact fin Dn sn.heap.objs.size t2 m H1 I3 qq hn (In.fpOk (Nat.le_refl _) z)
    · refine thnF (T.item (X.blk sn Hn sc ce fp) rfl rfl rfl hc i [] t1 _ H1 (fun _ _ => False) I1 (allOk I1 n1) u1 go) fun r t2 ⟨u, hr, h2⟩ => ?_
      subst hr
      refine thnF h2 fun _ t3 ⟨x, H3, I3, r3, y3, u3, n3⟩ => ?_
      refine thnF (pg.run _ t3 _ H3 x u _ (I3.pinned (allOk I3 n3) (T.obj _ _ u3)) r3 (step x H3 y3)) fun _ t4 ⟨σ4, H4, I4, hw4, q4⟩ => ?_
      refine thnF (pt.run _ t4 σ4 H4 _ I4 q4) fun b t5 ⟨H5, I5, q5⟩ => ?_
      have close : ∀ {t : Shared} {Ht : Hp}, Inv (X.blk sn Hn sc ce fp) ([] ++ pinsAt fp t3.heap) σ4 Ht t → Nx Ht → ∃ m, m < n ∧ ∃ i Ht, Inv (X.blk sn Hn sc ce fp) [] (wipe σ (own.map (·.2))) Ht t ∧ tn i t.heap ∧ (∀ b ∈ fp, Ht b = none) ∧ Wf i m Ht := fun {t Ht} It nx => by
        obtain ⟨m', hm, wn⟩ := hNx Ht nx
        have pin : ∀ b ∈ fp, ∀ o, t3.heap.get? b = some o → t.heap.get? b = some o ∧ Ht b = none := fun b hb o e => by
          have z := It.pin (b, o) (List.mem_append_right _ (List.mem_append_right _ (mem_pinsAt hb e)))
          exact ⟨z.1, z.2.1⟩
        refine ⟨m', hm, i + 1, Ht, (It.unpinned (pins := [])).weak (by rw [← hw4, wipe_length]) (fun j v e => ?_), T.keep _ _ _ u3 fun b hb o e => (pin b hb o e).1, fun b hb => ?_, wn⟩
        · rw [← hw4] at e
          exact (wipe_some e).1
        · obtain ⟨o, e, _⟩ := T.obj _ _ u3 b hb
          exact (pin b hb o e).2
      dsimp only at q5
      by_cases hb : b = true
      · rw [if_pos hb] at q5 ⊢
        refine thnF (pe.run _ t5 σ4 H5 _ I5 q5) fun z t6 ⟨yv, H6, I6, r6, c, S, n6, ey, hS6, z6, nx⟩ => ?_
        subst ey
        obtain ⟨tk, rfl⟩ := r6
        exact addI (X := X.blk sn Hn sc ce fp) I6 hS6 z6 fun t7 I7 => close I7 nx
      · rw [if_neg hb] at q5 ⊢
        exact close I5 q5
  exact codeAny_compStart_set loop (T.self X.A 0 _ _ _ st0 loop)
theorem pe_sci {el tg iter : Expr} {ifs : List Expr} {sc : Scope} {own : List (PySem.Str × Nat)} {pos : Pos} {wi : TI} {g : TG} {tt : TT} {te : TE} (hc : X.calm = true) (hN : X.N.Nodup) (hi : PI X tg iter wi) (ok : BlkOk X.N X.env.scope sc own)
    (hg : ∀ (t : Shared) (Ht : Hp) (C : Addr) (cl : List (PySem.Str × Addr)) (fp : List Addr), PG (X.blk t Ht sc (compEnvC sc cl C X.env) fp) tg g)
    (ht : ∀ (t : Shared) (Ht : Hp) (C : Addr) (cl : List (PySem.Str × Addr)) (fp : List Addr), PTs (X.blk t Ht sc (compEnvC sc cl C X.env) fp) ifs tt)
    (he : ∀ (t : Shared) (Ht : Hp) (C : Addr) (cl : List (PySem.Str × Addr)) (fp : List Addr), PE (X.blk t Ht sc (compEnvC sc cl C X.env) fp) el te) (hs : ∀ x, foldedSetIterable iter X.env x = pure x := by intro _; rfl) :
    PE X (.SetComp el [⟨tg, iter, ifs, 0⟩] sc pos) (tSci X.w wi g tt te (own.map (·.2))) := by
  refine ⟨fun pins s σ H Q I h => ?_⟩
  rw [eval_SetComp]
  refine sci_core hc hN I hi ok hg ht he hs h fun Dn C t m Ht It q hn ⟨f0, f1, f2, f3, f4, f5⟩ => ⟨m, hn, fun h2 sb => ?_⟩
  exact ⟨.ref Dn, Ht, It.turned (t' := t.toks) (fun b o hb e => (sb.2 b hb).trans e) f0 f1 f3 f4 f5, rfl, q⟩
/-- over a list of which each item gives an int -/
theorem sci_lst {w : World} {K : PySem.W.Frag} {a : Addr} {xs : List V} {te : TE} {j : Nat} {vs : List Nat} {σ : L2.St} {Ha : Hp} {Dn : Addr} {Qd : Hp → Prop} (f : Nat → Int) (hD : Ha Dn = none) (hx : SqL K Ha a xs) (hz : xs.length ≤ 1000) (hG : ∀ H, Same Ha H → SqL K H a xs)
    (hw : ∀ x, wipe ((wipe σ vs).set j (some x)) vs = wipe σ vs) (hs : ∀ i x H (Q3 : VK), xs[i]? = some x → Same Ha H → (∀ H2, Same H H2 → H2 = H → Q3 (.int (f i)) H2) → te ((wipe σ vs).set j (some x)) H Q3)
    (hd : ∀ H S n, Same Ha H → H Dn = some (SetO w Dn S n) → (∀ k, S k = true ↔ k ∈ (List.range xs.length).map f) → Qd H) :
    ∃ Wf : Nat → Nat → Hp → Prop, (∃ m, Wf 0 m (upd Ha Dn (SetO w Dn (fun _ => false) 0))) ∧ ∀ i m Hb, Wf i m Hb →
      ((Itl K a).stop i Hb ∧ Qd Hb) ∨ ((Itl K a).go i Hb ∧ ∃ Nx : Hp → Prop, (∀ Hc, Nx Hc → ∃ m', m' < m ∧ Wf (i + 1) m' Hc) ∧ ∀ x Hc, (Itl K a).yld i Hb x Hc → gName j x (wipe σ vs) Hc fun σ2 Hd => wipe σ2 vs = wipe σ vs ∧ tYes σ2 Hd fun b He =>
        if b = true then te σ2 He fun y Hf => ∃ (c : Int) (S : Int → Bool) (n : Nat), y = .int c ∧ Hf Dn = some (SetO w Dn S n) ∧ n + 1 < scanBound ∧ Nx (upd Hf Dn (SetO w Dn (fun j => S j || decide (j = c)) (if S c = true then n else n + 1))) else Nx He) := by
  refine ⟨fun i m H => m = xs.length - i ∧ i ≤ xs.length ∧ Same Ha H ∧ ∃ S n, H Dn = some (SetO w Dn S n) ∧ n ≤ i ∧ ∀ k, S k = true ↔ k ∈ (List.range i).map f, ⟨xs.length, rfl, Nat.zero_le _, Same.new hD, _, 0, upd_same, Nat.le_refl _, fun k => by simp⟩, ?_⟩
  rintro i m H ⟨rfl, hi, sm, S, n, eS, hn, hS⟩
  by_cases hlt : i < xs.length
  · refine .inr ⟨⟨xs, xs[i], hG H sm, by simp [hlt]⟩, fun H' => Same Ha H' ∧ ∃ S n, H' Dn = some (SetO w Dn S n) ∧ n ≤ i + 1 ∧ ∀ k, S k = true ↔ k ∈ (List.range (i + 1)).map f, fun H' p => ⟨xs.length - (i + 1), by omega, rfl, hlt, p⟩, fun x H' y => ?_⟩
    obtain ⟨rfl, y⟩ := y
    have hxi := y xs (hG _ sm)
    refine ⟨hw x, r_yes (r_T (hs i x _ _ hxi sm fun H2 _ e => ?_))⟩
    subst e
    refine ⟨f i, S, n, rfl, eS, by unfold scanBound; omega, Same.mut sm hD, _, _, upd_same, by split <;> omega, fun k => ?_⟩
    rw [List.range_succ, List.map_append, List.mem_append, Bool.or_eq_true, decide_eq_true_eq, hS k]
    simp
  · have e : i = xs.length := by omega
    subst e
    exact .inl ⟨⟨xs, hG H sm, Nat.le_refl _⟩, hd H S n sm eS hS⟩
end
end SI
end TW

set_option Elab.async false
set_option linter.all false
set_option maxRecDepth 100000
set_option maxHeartbeats 4000000
namespace TW
open PySem PySem.Spec PyProof.Rows L2
/-! ### len by an own method -/
namespace RL
section
variable {X : Cx} {pins : List (Addr × Obj)} {σ : L2.St} {H : Hp} {s : Shared}
theorem at_fn {f : Addr} {fd : FuncData} {ps : List Str} {sp : Sp} {k : Nat} {A : Around} {E : XK} {E2 : Value → Shared → Prop} {Q : VK} {us : List Value} {vs : List V} (F : FnOk X.prog X.w X.K X.mg X.base C8.CX0 k f fd ps sp) (hr : Room k A)
    (e0 : Env0 X.prog X.w X.K X.mg X.base A X.stack s H) (hb : Binds X.K fd ps []) (I : Inv X pins σ H s) (r : Vals vs us) (h : sp vs H Q E) : wpAny (model X.prog X.w) A (call (.ref f) us) (EP X pins σ Q) E2 s := by
  have hl : us.length = ps.length := by
    rw [← r.length]
    exact F.len _ _ _ _ h
  have b := hb s us I.kIn (by rw [List.append_nil]; exact hl)
  rw [List.append_nil] at b
  refine wpAny_call (codeAny_mono (F.run A X.stack s H ⟨us, []⟩ us vs Q E hr e0 b r h) fun r t hq => ?_)
  match r, hq with
  | .error _, hq => exact False.elim hq
  | .ok .next, hq => exact False.elim hq
  | .ok .brk, hq => exact False.elim hq
  | .ok .cont, hq => exact False.elim hq
  | .ok (.ret u), hq => exact I.after hq
def rLenOwn (C : Addr) (sp : Sp) : List V → Hp → VK → Prop := fun vs H1 Q => ∃ a dx fs, vs = [V.ref a] ∧ H1 a = some (.ins C dx fs) ∧ sp [.ref a] H1 (fun v H2 => ∃ n : Nat, v = .int (n : Int) ∧ n < 1000000 ∧ Q v H2) C8.E0
theorem lenR {C : Addr} {sp : Sp} {k j : Nat} (c : C8.Met X.prog X.w X.K X.mg X.base k C "__len__" sp []) (hr : Room j X.A) (hk : k + 1 ≤ j) :
    CallR X (.builtin "len") (rLenOwn C sp) := by
  intro pins s σ H xs us Q I r h
  obtain ⟨a, dx, fs, rfl, ha, q⟩ := h
  obtain rfl := Vals.ref1 r
  obtain ⟨f, fd, ps, ds, _, me, F, b, d⟩ := c.ex
  cases d
  obtain ⟨mA, O, _, _, _, _⟩ := ins_get I.hok ha
  obtain ⟨od, J, _⟩ := O.look
  have hr1 : Room k X.A.in1 := Room.in1 (hr.mono hk)
  refine Calls.call_function_entry kind_len plain_len entry_len (args_len1 _) ?_
  unfold Builtin.«len»
  refine wpAny_bind (m := oneArg "len" _) (wpAny_pure ?_)
  refine wpAny_bind (m := callSpecial? (.ref a) (Str.ofString "__len__")) (PySem.W.special_fn I.kIn J me.at_ (beq_iff_eq.mp me.fn) (wpAny_mono (at_fn (us := [.ref a]) (vs := [.ref a]) F hr1 I.env0.in1 b I (.cons rfl .nil) q) (fun r t hq => ?_) fun _ _ z => z))
  obtain ⟨v, H2, I2, rv, n, rfl, hn, q2⟩ := hq
  obtain ⟨u, rfl⟩ := rv
  refine wpAny_bind (wpAny_holding (wpAny_pure ?_))
  refine wpAny_bind (wpAny_letGo ?_)
  show wpAny _ _ (if ((n : Nat) : Int) < 0 then _ else _) _ _ _
  rw [if_neg (by omega)]
  show wpAny _ _ (if ((n : Nat) : Int) ≥ 2 ^ 63 then _ else _) _ _ _
  rw [if_neg (by omega)]
  exact wpAny_bind (wpAny_mkInt (wpAny_pure ⟨_, rfl, ⟨V.int (n : Int), H2, I2.tok _, ⟨_, rfl⟩, q2⟩⟩))
end
end RL
/-! ### a static method off its class -/
namespace ST
structure Sta (P : Program) (w : World) (K : PySem.W.Frag) (mg : Str → Option Value) (base : Heap) (k : Nat) (C : Addr) (m : Str) (sp : Sp) : Prop where
  ex : ∃ f fd ps mc p, ClX.CRead K C mc ∧ PySem.W.findCls K (.ref C) mc m = some (.get (.builtin "staticmethod.__get__") (.ref p) .none (.ref C)) ∧ (∃ rest, PySem.W.recIn K p "staticmethod" = some (.ref f :: rest)) ∧ FnOk P w K mg base C8.CX0 k f fd ps sp ∧ PySem.W.keepIn K (.ref f) = true ∧ Binds K fd ps []
def tStat (C : Addr) (sp : Sp) (ta : TE) (t : TA) : TE := fun σ H Q => ta σ H fun x H1 => x = .ref C ∧ t σ H1 fun vs H2 => sp vs H2 Q C8.E0
section
variable {X : Cx} {k j : Nat} {C : Addr} {sp : Sp} {o e : Expr} {es : List Expr} {m : Str} {pos apos : Pos} {ta : TE} {t : TA} {pl : Sem Bool}
theorem pe_stat (c : Sta X.prog X.w X.K X.mg X.base k C m sp) (hr : Room j X.A) (hk : k ≤ j) (he : PE X o ta) (ha : PA X (e :: es) t)
    (hst : starEach (e :: es) X.env = (false, eval e X.env) :: starEach es X.env := by rfl) (hpl : (backTo pos (starEach es X.env)).any (·.1) = false := by rfl)
    (ht : eval (.Call (.Attribute o m apos) (e :: es) [] pos) X.env = (do
      let ov ← eval o X.env
      standAt apos.atName
      let (f, first) ← holding [ov] (getMethod ov m pl)
      callWith pos f first (backTo pos (starEach (e :: es) X.env)) (backToKw pos (keywordEach [] X.env))) := by rfl) :
    PE X (.Call (.Attribute o m apos) (e :: es) [] pos) (tStat C sp ta t) := by
  refine ⟨fun pins s σ H Q I h => ?_⟩
  refine PySem.W.methodCall_KW (pl := pl) (thn (he.run pins s σ H _ I h) fun u s1 ⟨x, H1, I1, rx, ex, q⟩ => ?_) ht
  subst ex
  obtain rfl : u = Value.ref C := rx
  obtain ⟨f, fd, ps, mc, p, r, fc, ⟨rest, hp⟩, F, hkp, b⟩ := c.ex
  refine PySem.W.method_cls I1.kIn r.ga (PySem.W.cls_bind I1.kIn r.rd fc ?_)
  refine wpAny_call (PySem.W.sm_get (s := { s1 with toks := s1.toks + 1 }) I1.kIn hp (PySem.W.handed_on rfl ?_))
  have I2 : Inv X pins σ H1 { s1 with toks := s1.toks + 1 } := I1.tok _
  refine PySem.W.callWith_K (h₀ := X.base) (first := []) I.ok.mod.kin hkp (thn (ha.run pos pins _ σ H1 _ I2 q) fun us s2 ⟨vs, H2, I3, rv, q2⟩ => ⟨I3.kIn, ?_⟩) hst hpl
  exact run_fn F (hr.mono hk) b .nil C8.pass0 I3 rv (by rw [List.append_nil]; exact q2)
end
/-- its promise, by its body -/
theorem sta_of {P : Program} {w : World} {K : PySem.W.Frag} {mg : Str → Option Value} {base : Heap} {C : Addr} {m q : Str} {st : Stmt} {N ps : List Str} {k : Nat} {sp : Sp} (D : Sm K C m q st) (S : FnScope N ps (defScope st))
    (hb : ∀ (kV doc pm : Value) (an : Option Addr) (cdv ct : Value) (us : List Value), us.length = ps.length → bindArgs (PySem.W.fnOf m q (defArgs st) (defBody st) (defScope st) .none kV doc pm an cdv ct) ⟨us, []⟩ = pure (ps.zip us))
    (len : ∀ vs H Q E, sp vs H Q E → vs.length = ps.length)
    (hbody : ∀ (f : Addr) (cdv : Value) (A : Around) (outer : List Env) (s : Shared) (H : Hp) (vs : List V) (Q : VK) (E : XK), Room k (A.deeper (envOfC q (defScope st) s.heap.objs.size f cdv)) → sp vs H Q E →
      ∃ t, PSs (cxOf C8.CX0 P w K mg base N q (defScope st) f cdv A outer s H E).nox (defBody st) t ∧ t { nx := fun _ H' => Q .non H', rt := Q } (start N vs) H) : Sta P w K mg base (k + 1) C m sp := by
  obtain ⟨f, fd, mc, p, F, r, fc, rc⟩ := D.ex
  refine ⟨f, fd, ps, mc, p, r, fc, rc, F.ok S len (fun cdv A outer s H vs Q E hr h => ?_), F.kp, F.bindsN hb⟩
  obtain ⟨t, h1, h2⟩ := hbody f cdv A outer s H vs Q E hr h
  exact ⟨t, h1.nox, h2⟩
end ST
/-! ### a new instance, its __init__ with defaults for the values behind the first n -/
namespace DF
section
variable {X : Cx} {k j : Nat} {C : Addr} {x : Str} {sp : Sp} {p pos : Pos} {kws : List Keyword} {tk : TA} {ks : List Str} {gV : List V → List V → List V}
/-- a class that is made with keywords alone -/
structure MakW (P : Program) (w : World) (K : PySem.W.Frag) (mg : Str → Option Value) (base : Heap) (k : Nat) (x : Str) (C : Addr) (sp : Sp) (ks : List Str) (gV : List V → List V → List V) : Prop where
  ex : ∃ (f : Addr) (fd : FuncData) (ps : List Str) (g : List Value → List Value → List Value), Mk K C f ∧ FnOk P w K mg base C8.CX0 k f fd ps sp ∧ mg x = some (.ref C) ∧ KBn K fd ps 1 ks g gV
def tMakeW (C : Addr) (m : Nat) (sp : Sp) (gV : List V → List V → List V) (tk : TA) : TE := fun σ H Q => tk σ H fun zs H2 => zs.length = m ∧
  ∀ x dx, H2 x = none → H2 dx = none → dx ≠ x → sp (gV [.ref x] zs) (upd (upd H2 dx (.own x)) x (.ins C dx [])) (fun v H3 => v = .non ∧ Q (.ref x) H3) C8.E0
theorem pe_makeW (c : MakW X.prog X.w X.K X.mg X.base k x C sp ks gV) (hr : Room j X.A) (hk : k + 1 ≤ j) (hg : Gl X x) (hkw : PK X kws tk) (hall : (backToKw pos (keywordEach kws X.env)).all (·.1.isSome) = true := by rfl) (hks : (backToKw pos (keywordEach kws X.env)).filterMap (·.1) = ks := by rfl)
    (hdb : (x == ("__debug__" : Str)) = false := by decide) (hpl : ((backTo pos (starEach [] X.env)).any (·.1) || (backToKw pos (keywordEach kws X.env)).any (·.1.isNone)) = false := by rfl) :
    PE X (.Call (.Name x p) [] kws pos) (tMakeW C ks.length sp gV tk) := by
  refine ⟨fun pins s σ H Q I h => ?_⟩
  obtain ⟨f, fd, ps, g, M, F, hm, hb⟩ := c.ex
  refine wpAny_Call_Name_kw (ld_glob I hg hm ?_ hdb)
  refine PySem.W.callWith_KW0 (h₀ := X.base) (first := []) I.ok.mod.kin M.kp hall (thn (hkw.run pos pins s σ H _ I h) fun ws s2 ⟨zs, H2, I2, rz, l2, q2⟩ => ⟨I2.kIn, ?_⟩) hpl
  rw [hks]
  exact run_makeN (n := 0) (us := []) (vs := []) M F (hr.mono hk) hb C8.pass0 I2 .nil rz rfl l2 q2
end
end DF
/-! ### an __init__ with two defaults -/
namespace DF
theorem ini_of {P : Program} {w : World} {K : PySem.W.Frag} {base : Heap} {C : Addr} {q : Str} {st : Stmt} {dvs : List V} {N ps : List Str} {k : Nat} {sp : Sp} (D : In K C q st dvs) (S : FnScope N ps (defScope st))
    (len : ∀ vs H Q E, sp vs H Q E → vs.length = ps.length) {mg : Str → Option Value}
    (hbody : ∀ (f : Addr) (cdv : Value) (A : Around) (outer : List Env) (s : Shared) (H : Hp) (vs : List V) (Q : VK) (E : XK), Room k (A.deeper (envOfC q (defScope st) s.heap.objs.size f cdv)) → sp vs H Q E →
      ∃ t, PSs (cxOf C8.CX0 P w K mg base N q (defScope st) f cdv A outer s H E).nox (defBody st) t ∧ t { nx := fun _ H' => Q .non H', rt := Q } (start N vs) H) :
    ∃ f fd, FunD K "__init__" q (defArgs st) (defBody st) (defScope st) dvs [] f fd ∧ Mk K C f ∧ FnOk P w K mg base C8.CX0 (k + 1) f fd ps sp := by
  obtain ⟨f, fd, F, mk⟩ := D.ex
  refine ⟨f, fd, F, mk, F.ok S len (fun cdv A outer s H vs Q E hr h => ?_)⟩
  obtain ⟨t, h1, h2⟩ := hbody f cdv A outer s H vs Q E hr h
  exact ⟨t, h1.nox, h2⟩
end DF
theorem noLs_row : ∀ r : List (Option Nat), noLs (r.map dO) = true
  | [] => rfl
  | o :: r => by
    rw [List.map_cons, noLs, noLs_row r, Bool.and_true]
    cases o <;> rfl
theorem noL_row (r : List (Option Nat)) : noL (.tuple (r.map dO)) = true := by
  rw [noL]
  exact noLs_row r
theorem oN_inj {a b : Option Nat} (h : oN a = oN b) : a = b := by
  cases a with
  | none =>
    cases b with
    | none => rfl
    | some n => cases h
  | some m =>
    cases b with
    | none => cases h
    | some n =>
      have e : (m : Int) = (n : Int) := V.int.inj h
      rw [Int.ofNat.inj e]
theorem r_neO {H : Hp} {Q : VK} {a b : Option Nat} (h : Q (.bl (!decide (a = b))) H) : rNe (oN a) (oN b) H Q := by
  have e : decide (oN a = oN b) = decide (a = b) := decide_eq_decide.mpr ⟨oN_inj, fun z => by rw [z]⟩
  cases a with
  | none =>
    cases b with
    | none => exact ⟨rfl, by rw [e]; exact h⟩
    | some n => exact ⟨rfl, by rw [e]; exact h⟩
  | some m =>
    cases b with
    | none => exact ⟨rfl, by rw [e]; exact h⟩
    | some n => exact ⟨rfl, by rw [e]; exact h⟩
theorem r_eqO {H : Hp} {Q : VK} {a b : Option Nat} (h : Q (.bl (decide (a = b))) H) : rEq (oN a) (oN b) H Q := by
  have e : decide (oN a = oN b) = decide (a = b) := decide_eq_decide.mpr ⟨oN_inj, fun z => by rw [z]⟩
  cases a with
  | none =>
    cases b with
    | none => exact ⟨rfl, by rw [e]; exact h⟩
    | some n => exact ⟨rfl, by rw [e]; exact h⟩
  | some m =>
    cases b with
    | none => exact ⟨rfl, by rw [e]; exact h⟩
    | some n => exact ⟨rfl, by rw [e]; exact h⟩
end TW

set_option Elab.async false
set_option linter.all false
set_option maxRecDepth 100000
set_option maxHeartbeats 4000000
namespace TW
open PySem PySem.Spec PyProof.Rows L2
/-! ### methods that may let an exception out; Broken -/
namespace ME
abbrev XW (E : XK) : WX := fun cls d _ H => E cls d H
theorem noPass {X : Cx} {σ : L2.St} : PassesAt (L2.CX X.prog X.w) X σ C8.E0 := fun _ _ _ _ _ _ c => by
  obtain ⟨_, _, _, _, _, _, _, _, _, _, _, _, h⟩ := c
  exact h.elim
theorem noTakes {X : Cx} : Takes X (fun _ _ _ _ => False) := fun _ _ x => by
  obtain ⟨_, _, _, _, _, _, _, _, _, _, _, _, _, _, _, _, h⟩ := x
  exact h.elim
structure MetX (P : Program) (w : World) (K : PySem.W.Frag) (mg : Str → Option Value) (base : Heap) (k : Nat) (C : Addr) (m : Str) (sp : Sp) : Prop where
  ex : ∃ f fd ps, Cls K C ∧ Meth K C m f ∧ FnOk P w K mg base (L2.CX P w) k f fd ps sp ∧ Binds K fd ps []
def tMethS (C : Addr) (m : Str) (sp : Sp) (E : L2.St → XK) (ta : TE) (t : TA) : TE := fun σ H Q => ta σ H fun x H1 => ∃ a dx fs, x = .ref a ∧ H1 a = some (.ins C dx fs) ∧ fs.lookup m = none ∧ t σ H1 fun vs H2 => sp (x :: vs) H2 Q (E σ)
section
variable {X : Cx} {k j : Nat} {C : Addr} {sp : Sp} {o e : Expr} {es : List Expr} {m : Str} {pos apos : Pos} {ta : TE} {t : TA} {pl : Sem Bool} {E : L2.St → XK}
theorem pe_mtS (c : MetX X.prog X.w X.K X.mg X.base k C m sp) (hr : Room j X.A) (hk : k ≤ j) (hx : ∀ σ, PassesAt (L2.CX X.prog X.w) X σ (E σ)) (he : PE X o ta) (ha : PA X (e :: es) t)
    (hst : starEach (e :: es) X.env = (false, eval e X.env) :: starEach es X.env := by rfl) (hpl : (backTo pos (starEach es X.env)).any (·.1) = false := by rfl)
    (ht : eval (.Call (.Attribute o m apos) (e :: es) [] pos) X.env = (do
      let ov ← eval o X.env
      standAt apos.atName
      let (f, first) ← holding [ov] (getMethod ov m pl)
      callWith pos f first (backTo pos (starEach (e :: es) X.env)) (backToKw pos (keywordEach [] X.env))) := by rfl) :
    PE X (.Call (.Attribute o m apos) (e :: es) [] pos) (tMethS C m sp E ta t) := by
  refine ⟨fun pins s σ H Q I h => ?_⟩
  obtain ⟨f, fd, ps, hc, hm, F, b⟩ := c.ex
  refine PySem.W.methodCall_KW (pl := pl) (thn (he.run pins s σ H _ I h) fun u s1 ⟨x, H1, I1, rx, a, dx, fs, ex, ea, l, q⟩ => ?_) ht
  subst ex
  obtain rfl : u = Value.ref a := rx
  refine getmeth_ok I1 ea hc hm l ?_
  refine PySem.W.callWith_K (h₀ := X.base) (first := [.ref a]) I.ok.mod.kin hm.kp (thn (ha.run pos pins s1 σ H1 _ I1 q) fun us s2 ⟨vs, H2, I2, rv, q2⟩ => ⟨I2.kIn, ?_⟩) hst hpl
  exact run_fnSD (us := .ref a :: us) (vs := .ref a :: vs) F (hr.mono hk) b .nil (hx σ) I2 (.cons rfl rv) (by rw [List.append_nil]; exact q2)
end
theorem metx_of {P : Program} {w : World} {K : PySem.W.Frag} {mg : Str → Option Value} {base : Heap} {C : Addr} {m q : Str} {st : Stmt} {N ps : List Str} {k : Nat} {sp : Sp} (D : Mt K C m q st) (c : Cls K C) (S : FnScope N ps (defScope st))
    (hb : ∀ (kV doc pm : Value) (an : Option Addr) (cdv ct : Value) (us : List Value), us.length = ps.length → bindArgs (PySem.W.fnOf m q (defArgs st) (defBody st) (defScope st) .none kV doc pm an cdv ct) ⟨us, []⟩ = pure (ps.zip us))
    (len : ∀ vs H Q E, sp vs H Q E → vs.length = ps.length)
    (hbody : ∀ (f : Addr) (cdv : Value) (A : Around) (outer : List Env) (s : Shared) (H : Hp) (vs : List V) (Q : VK) (E : XK), Room k (A.deeper (envOfC q (defScope st) s.heap.objs.size f cdv)) → sp vs H Q E →
      ∃ t, PSs (cxOf (L2.CX P w) P w K mg base N q (defScope st) f cdv A outer s H E) (defBody st) t ∧ t { nx := fun _ H' => Q .non H', rt := Q } (start N vs) H) : MetX P w K mg base (k + 1) C m sp := by
  obtain ⟨f, fd, F, me⟩ := D.ex
  exact ⟨f, fd, ps, c, me, F.ok S len (fun cdv A outer s H vs Q E hr h => hbody f cdv A outer s H vs Q E hr h), F.bindsN hb⟩
/-- Broken's __init__ -/
structure BrkF (P : Program) (w : World) (K : PySem.W.Frag) (mg : Str → Option Value) (base : Heap) (k : Nat) (C : Addr) (sp : Sp) : Prop where
  ex : ∃ f fd ps, PySem.W.findIn K (.ref C) "__init__" = some (some (.ref f)) ∧ PySem.W.typeIn K (.ref f) = some (.type "function") ∧ FnOk P w K mg base C8.CX0 k f fd ps sp ∧ Binds K fd ps []
theorem brk_of {P : Program} {w : World} {K : PySem.W.Frag} {mg : Str → Option Value} {base : Heap} {C : Addr} {N ps : List Str} {k : Nat} {sp : Sp} (D : Brk K C) (S : FnScope N ps (defScope sBrokenInit))
    (hb : ∀ (kV doc pm : Value) (an : Option Addr) (cdv ct : Value) (us : List Value), us.length = ps.length → bindArgs (PySem.W.fnOf "__init__" "Broken.__init__" (defArgs sBrokenInit) (defBody sBrokenInit) (defScope sBrokenInit) .none kV doc pm an cdv ct) ⟨us, []⟩ = pure (ps.zip us))
    (len : ∀ vs H Q E, sp vs H Q E → vs.length = ps.length)
    (hbody : ∀ (f : Addr) (cdv : Value) (A : Around) (outer : List Env) (s : Shared) (H : Hp) (vs : List V) (Q : VK) (E : XK), Room k (A.deeper (envOfC "Broken.__init__" (defScope sBrokenInit) s.heap.objs.size f cdv)) → sp vs H Q E →
      ∃ t, PSs (cxOf C8.CX0 P w K mg base N "Broken.__init__" (defScope sBrokenInit) f cdv A outer s H E).nox (defBody sBrokenInit) t ∧ t { nx := fun _ H' => Q .non H', rt := Q } (start N vs) H) : BrkF P w K mg base (k + 1) C sp := by
  obtain ⟨f, fd, F, fi, ty⟩ := D.ex
  refine ⟨f, fd, ps, fi, ty, F.ok S len (fun cdv A outer s H vs Q E hr h => ?_), F.bindsN hb⟩
  obtain ⟨t, h1, h2⟩ := hbody f cdv A outer s H vs Q E hr h
  exact ⟨t, h1.nox, h2⟩
def tRaiseB (C : Addr) (sp : Sp) (ta : TA) (W : WX) : TS := fun _ σ H => ta σ H fun vs H1 => vs.length ≤ 1000 ∧ ∀ a, H1 a = none → sp (.ref a :: vs) (upd H1 a (exo a C none))
  (fun v H2 => v = .non ∧ ∃ (d : Addr) (fs : List (Str × V)), H2 a = some (exo a C (some d)) ∧ H2 d = some (exd d fs) ∧ H1 d = none ∧ W (.ref C) (some d) σ (upd (del H2 a) d (.xd fs))) (fun _ _ _ => False)
theorem ps_raiseB {X : Cx} {W : WX} {k j : Nat} {C : Addr} {sp : Sp} {x : Str} {e : Expr} {es : List Expr} {ta : TA} {p cp pos : Pos} (hc : X.calm = true) (tk : Takes X W) (D : Brk X.K C) (c : BrkF X.prog X.w X.K X.mg X.base k C sp) (hr : Room j X.A) (hk : k + 1 ≤ j) (hg : Gl X x) (hm : X.mg x = some (.ref C)) (ha : PA X (e :: es) ta)
    (hdb : (x == ("__debug__" : Str)) = false := by decide) (he : starEach (e :: es) X.env = (false, eval e X.env) :: starEach es X.env := by rfl) (hpl : (backTo cp (starEach es X.env)).any (·.1) = false := by rfl) :
    PS X (.Raise (some (.Call (.Name x p) (e :: es) [] cp)) none pos) (tRaiseB C sp ta W) := by
  obtain ⟨f, fd, ps, fi, ty, F, b⟩ := c.ex
  have h := ps_raise (pos := pos) hc tk (pmk_oex (p := p) (pos := cp) (dvs := []) D.ox fi ty F (hr.mono hk) b .nil C8.pass0 hg hm ha hdb he hpl)
  refine ⟨fun pins s σ H D2 I q => h.run pins s σ H D2 I ?_⟩
  have e2 : tRaiseB C sp ta W D2 σ H = tMkO C sp [] ta σ H fun cls d H' => W cls d σ H' := by
    unfold tRaiseB tMkO
    simp only [List.append_nil]
  rw [e2] at q
  exact q
end ME
end TW

set_option Elab.async false
set_option linter.all false
set_option maxRecDepth 100000
set_option maxHeartbeats 4000000
namespace TW
open PySem PySem.Spec PyProof.Rows L2
local macro_rules | `(tactic| walk_at "st0") => `(tactic| with_reducible (first | refine r_seq ?_ | refine r_next ?_ | refine r_ret ?_ | refine r_retN ?_ | refine r_drop ?_ | refine r_asg ?_ | refine r_if ?_ | refine r_gName ?_ | refine r_par ?_ | refine r_c ?_ | refine r_cons ?_ | refine r_nil ?_ | refine r_op ?_ | refine r_CB ?_ | refine r_andV ?_ | refine r_orV ?_ | refine r_notV ?_ | refine r_tIf ?_ | refine r_B ?_ | refine r_Test ?_ | refine r_and ?_ | refine r_or ?_ | refine r_not ?_ | refine r_yes ?_ | refine r_bl ?_ | refine r_T ?_ | refine r_F ?_ | refine r_nT ?_ | refine r_nF ?_ | refine r_I0 ?_ | refine r_eqI ?_ | refine r_neI ?_ | refine r_eqB ?_ | refine r_neB ?_ | refine r_isN0 ?_ | refine r_isN1 ?_ | refine r_isN2 ?_ | refine r_notN0 ?_ | refine r_notN1 ?_ | refine r_notN2 ?_ | refine r_isNo ?_ | refine r_notNo ?_ | refine r_fld ?_ | refine r_sfld ?_ | refine r_tup ?_ | refine r_lst ?_ | refine r_call ?_ | refine r_make ?_ | refine r_sl ?_ | refine r_part ?_ | refine r_noPart ?_ | refine r_iList ?_ | refine r_iTup ?_ | refine r_iRng1 ?_ | refine r_iEnum ?_ | refine r_int1 ?_ | refine r_intB ?_ | refine r_abs ?_ | refine r_bm ?_ | refine r_lc ?_ | refine r_for ?_))
local macro_rules | `(tactic| walk_at "st") => `(tactic| first | walk_at "st0" | ((with_reducible refine' r_var ?e ?_); (case e => exact rfl)) | ((with_reducible refine' r_fldG ?e1 ?e2 ?e3 ?e4 ?_); (case e1 => assumption); (case e2 => assumption); (case e3 => assumption); (case e4 => exact rfl)) | ((with_reducible refine' r_isC ?e ?_); (case e => assumption)) | dsimp only)
local macro_rules | `(tactic| walk_at "go") => `(tactic| repeat (walk_at "st"))
section
variable {P : Program} {w : World} {K : PySem.W.Frag} {mg : Str → Option Value} {base : Heap} {B : Adr}
def spIsInteger : Sp := fun vs H Q _ => ∃ i : Int, vs = [.int i] ∧ Q (.bl true) H
theorem ok_is_integer (T : Tx K mg B) : C8.Cal P w K mg base 1 "is_integer" spIsInteger [] := by
  refine cal_of T.d_is_integer scIsInteger (fun _ _ _ _ _ _ us hl => match us, hl with | [_], _ => rfl) (fun vs H Q E h => ?_) (fun f cdv AA outer s H vs Q E hr h => ?_)
  · first | (obtain ⟨_, rfl, _⟩ := h; rfl) | (obtain ⟨_, _, rfl, _⟩ := h; rfl) | (obtain ⟨_, _, _, rfl, _⟩ := h; rfl) | (obtain ⟨_, _, _, _, rfl, _⟩ := h; rfl) | (obtain ⟨_, _, _, _, _, rfl, _⟩ := h; rfl) | (obtain ⟨_, _, _, _, _, _, rfl, _⟩ := h; rfl) | (obtain ⟨_, _, _, _, _, _, _, rfl, _⟩ := h; rfl) | (obtain ⟨_, _, _, _, _, _, _, _, rfl, _⟩ := h; rfl) | (obtain ⟨_, _, _, _, _, _, _, _, _, rfl, _⟩ := h; rfl) | (obtain ⟨_, _, _, _, _, _, _, _, _, _, rfl, _⟩ := h; rfl) | (obtain ⟨_, _, _, _, _, _, _, _, _, _, _, rfl, _⟩ := h; rfl) | (obtain ⟨_, _, _, _, _, _, _, _, _, _, _, _, rfl, _⟩ := h; rfl) | (obtain ⟨_, _, _, _, _, _, _, _, _, _, _, _, _, rfl, _⟩ := h; rfl) | (obtain ⟨_, _, _, _, _, _, _, _, _, _, _, _, _, _, rfl, _⟩ := h; rfl) | (obtain ⟨_, _, _, _, _, _, _, _, _, _, _, _, _, _, _, rfl, _⟩ := h; rfl) | (obtain ⟨_, _, _, _, _, _, _, _, _, _, _, _, _, _, _, _, rfl, _⟩ := h; rfl) | (obtain ⟨_, _, _, _, _, _, _, _, _, _, _, _, _, _, _, _, _, rfl, _⟩ := h; rfl) | (obtain ⟨_, _, _, _, _, _, _, _, _, _, _, _, _, _, _, _, _, _, rfl, _⟩ := h; rfl) | (obtain ⟨_, _, _, _, _, _, _, _, _, _, _, _, _, _, _, _, _, _, _, rfl, _⟩ := h; rfl)
  · refine ⟨(tRet (tAndV (tCB (rIsi K) (tCons (tVar 0) (tCons (tC (.ty "int")) tNil))) (tNotV (tCB (rIsi K) (tCons (tVar 0) (tCons (tC (.ty "bool")) tNil)))))),
    (pss_one (ps_ret (pe_and (pe_callB call_isi (by rfl) T.f_isinstance (by decide +kernel) (pa_cons (pv 0) (pa_cons (pe_bltn (v := .ty "int") (by rfl) T.f_int (by decide +kernel) rfl) pa_nil))) (pe_one (pe_not (pe_callB call_isi (by rfl) T.f_isinstance (by decide +kernel) (pa_cons (pv 0) (pa_cons (pe_bltn (v := .ty "bool") (by rfl) T.f_bool (by decide +kernel) rfl) pa_nil)))))))), ?_⟩
    obtain ⟨i, rfl, q⟩ := h
    walk_at "go"
    refine r_isiI (c := "int") (k := true) (by decide +kernel) ?_
    walk_at "go"
    refine r_isiI (c := "bool") (k := false) (by decide +kernel) ?_
    walk_at "go"
    exact q
/-- a bound that may be None -/
def within (i : Int) (lo hi : Option Int) : Bool := (match lo with | none => true | some l => decide (l ≤ i)) && (match hi with | none => true | some m => decide (i ≤ m))
def spIsWithin : Sp := fun vs H Q _ => ∃ (i : Int) (lo hi : Option Int), vs = [.int i, oV lo, oV hi] ∧ Q (.bl (within i lo hi)) H
theorem ok_is_within (T : Tx K mg B) : C8.Cal P w K mg base 2 "is_within" spIsWithin [] := by
  have c_is_integer := ok_is_integer (P := P) (w := w) (base := base) T
  refine cal_of T.d_is_within scIsWithin (fun _ _ _ _ _ _ us hl => match us, hl with | [_, _, _], _ => rfl) (fun vs H Q E h => ?_) (fun f cdv AA outer s H vs Q E hr h => ?_)
  · first | (obtain ⟨_, rfl, _⟩ := h; rfl) | (obtain ⟨_, _, rfl, _⟩ := h; rfl) | (obtain ⟨_, _, _, rfl, _⟩ := h; rfl) | (obtain ⟨_, _, _, _, rfl, _⟩ := h; rfl) | (obtain ⟨_, _, _, _, _, rfl, _⟩ := h; rfl) | (obtain ⟨_, _, _, _, _, _, rfl, _⟩ := h; rfl) | (obtain ⟨_, _, _, _, _, _, _, rfl, _⟩ := h; rfl) | (obtain ⟨_, _, _, _, _, _, _, _, rfl, _⟩ := h; rfl) | (obtain ⟨_, _, _, _, _, _, _, _, _, rfl, _⟩ := h; rfl) | (obtain ⟨_, _, _, _, _, _, _, _, _, _, rfl, _⟩ := h; rfl) | (obtain ⟨_, _, _, _, _, _, _, _, _, _, _, rfl, _⟩ := h; rfl) | (obtain ⟨_, _, _, _, _, _, _, _, _, _, _, _, rfl, _⟩ := h; rfl) | (obtain ⟨_, _, _, _, _, _, _, _, _, _, _, _, _, rfl, _⟩ := h; rfl) | (obtain ⟨_, _, _, _, _, _, _, _, _, _, _, _, _, _, rfl, _⟩ := h; rfl) | (obtain ⟨_, _, _, _, _, _, _, _, _, _, _, _, _, _, _, rfl, _⟩ := h; rfl) | (obtain ⟨_, _, _, _, _, _, _, _, _, _, _, _, _, _, _, _, rfl, _⟩ := h; rfl) | (obtain ⟨_, _, _, _, _, _, _, _, _, _, _, _, _, _, _, _, _, rfl, _⟩ := h; rfl) | (obtain ⟨_, _, _, _, _, _, _, _, _, _, _, _, _, _, _, _, _, _, rfl, _⟩ := h; rfl) | (obtain ⟨_, _, _, _, _, _, _, _, _, _, _, _, _, _, _, _, _, _, _, rfl, _⟩ := h; rfl)
  · refine ⟨(tSeq (tIfS (tNot (tB (tCall spIsInteger [] C8.E0 (tCons (tVar 0) tNil)))) (tRet (tC (.bl false))) tNext)
    (tSeq (tIfS (tAnd (tTest (tOp rNotN (tVar 1) (tC .non))) (tTest (tOp qLt (tVar 0) (tVar 1)))) (tRet (tC (.bl false))) tNext)
    (tRet (tOrV (tOp rIsN (tVar 2) (tC .non)) (tOp qLe (tVar 0) (tVar 2)))))),
    (pss_cons (ps_if (pt_not (pt_val (C8.pe_c c_is_integer hr (by decide) rfl (pa_cons (pv 0) pa_nil)))) (pss_one (ps_ret pe_bl)) pss_nil)
    (pss_cons (ps_if (PW.pt (pw_and (pt_cmpR op_notN1 (pv 1) pe_non (nomark _)) (pw_and1 (pt_cmpR op_lt (pv 0) (pv 1) (nomark _))))) (pss_one (ps_ret pe_bl)) pss_nil)
    (pss_one (ps_ret (pe_or (pe_cmpR op_isN1 (pv 2) pe_non (nomark _)) (pe_one (pe_cmpR op_le (pv 0) (pv 2) (nomark _)))))))), ?_⟩
    obtain ⟨i, lo, hi, rfl, q⟩ := h
    walk_at "go"
    refine ⟨i, rfl, ?_⟩
    cases lo with
    | none =>
      simp only [oV]
      walk_at "go"
      cases hi with
      | none =>
        simp only
        walk_at "go"
        exact q
      | some m =>
        simp only
        walk_at "go"
        exact q
    | some l =>
      simp only [oV]
      walk_at "go"
      refine r_2 (fun e => ?_) (fun e => ?_)
      · walk_at "go"
        have e1 : ¬ l ≤ i := by
          have := of_decide_eq_true e
          omega
        have z : within i (some l) hi = false := by
          show (decide (l ≤ i) && _) = false
          rw [decide_eq_false e1]
          rfl
        rw [z] at q
        exact q
      · have e1 : l ≤ i := by
          have := of_decide_eq_false e
          omega
        walk_at "go"
        cases hi with
        | none =>
          simp only
          walk_at "go"
          have z : within i (some l) none = true := by
            show (decide (l ≤ i) && true) = true
            rw [decide_eq_true e1]
            rfl
          rw [z] at q
          exact q
        | some m =>
          simp only
          walk_at "go"
          have z : within i (some l) (some m) = decide (i ≤ m) := by
            show (decide (l ≤ i) && decide (i ≤ m)) = _
            rw [decide_eq_true e1]
            rfl
          rw [z] at q
          exact q
theorem within_ok {i l m : Int} (h1 : l ≤ i) (h2 : i ≤ m) : within i (some l) (some m) = true := by
  show (decide (l ≤ i) && decide (i ≤ m)) = true
  rw [decide_eq_true h1, decide_eq_true h2]
  rfl
theorem within_no {i : Int} : within i none none = true := rfl
theorem within_lo {i l : Int} (h : l ≤ i) : within i (some l) none = true := by
  show (decide (l ≤ i) && true) = true
  rw [decide_eq_true h]
  rfl
/-- a list or a tuple of some values -/
def SqA (H : Hp) (a : Addr) (xs : List V) : Prop := H a = some (.lst xs) ∨ H a = some (.tup xs)
theorem SqA.up {H H' : Hp} {a : Addr} {xs : List V} (h : SqA H a xs) (e : Same H H') : SqA H' a xs := h.elim (fun h => .inl (e _ _ h)) fun h => .inr (e _ _ h)
def spIsList : Sp := fun vs H Q _ => ∃ (a : Addr) (xs : List V), vs = [.ref a] ∧ SqA H a xs ∧ ∀ H', Same H H' → Q (.bl true) H'
theorem ok_is_list (T : Tx K mg B) : C8.Cal P w K mg base 1 "is_list" spIsList [] := by
  refine cal_of T.d_is_list scIsList (fun _ _ _ _ _ _ us hl => match us, hl with | [_], _ => rfl) (fun vs H Q E h => ?_) (fun f cdv AA outer s H vs Q E hr h => ?_)
  · first | (obtain ⟨_, rfl, _⟩ := h; rfl) | (obtain ⟨_, _, rfl, _⟩ := h; rfl) | (obtain ⟨_, _, _, rfl, _⟩ := h; rfl) | (obtain ⟨_, _, _, _, rfl, _⟩ := h; rfl) | (obtain ⟨_, _, _, _, _, rfl, _⟩ := h; rfl) | (obtain ⟨_, _, _, _, _, _, rfl, _⟩ := h; rfl) | (obtain ⟨_, _, _, _, _, _, _, rfl, _⟩ := h; rfl) | (obtain ⟨_, _, _, _, _, _, _, _, rfl, _⟩ := h; rfl) | (obtain ⟨_, _, _, _, _, _, _, _, _, rfl, _⟩ := h; rfl) | (obtain ⟨_, _, _, _, _, _, _, _, _, _, rfl, _⟩ := h; rfl) | (obtain ⟨_, _, _, _, _, _, _, _, _, _, _, rfl, _⟩ := h; rfl) | (obtain ⟨_, _, _, _, _, _, _, _, _, _, _, _, rfl, _⟩ := h; rfl) | (obtain ⟨_, _, _, _, _, _, _, _, _, _, _, _, _, rfl, _⟩ := h; rfl) | (obtain ⟨_, _, _, _, _, _, _, _, _, _, _, _, _, _, rfl, _⟩ := h; rfl) | (obtain ⟨_, _, _, _, _, _, _, _, _, _, _, _, _, _, _, rfl, _⟩ := h; rfl) | (obtain ⟨_, _, _, _, _, _, _, _, _, _, _, _, _, _, _, _, rfl, _⟩ := h; rfl) | (obtain ⟨_, _, _, _, _, _, _, _, _, _, _, _, _, _, _, _, _, rfl, _⟩ := h; rfl) | (obtain ⟨_, _, _, _, _, _, _, _, _, _, _, _, _, _, _, _, _, _, rfl, _⟩ := h; rfl) | (obtain ⟨_, _, _, _, _, _, _, _, _, _, _, _, _, _, _, _, _, _, _, rfl, _⟩ := h; rfl)
  · refine ⟨(tRet (tCB (rIsiT K) (tCons (tVar 0) (tCons (tTup (tCons (tC (.ty "list")) (tCons (tC (.ty "tuple")) tNil))) tNil)))),
    (pss_one (ps_ret (pe_callB call_isiT (by rfl) T.f_isinstance (by decide +kernel) (pa_cons (pv 0) (pa_cons (pe_tup (pa_cons (pe_bltn (v := .ty "list") (by rfl) T.f_list (by decide +kernel) rfl) (pa_cons (pe_bltn (v := .ty "tuple") (by rfl) T.f_tuple (by decide +kernel) rfl) pa_nil))) pa_nil))))), ?_⟩
    obtain ⟨a, xs, rfl, hs, q⟩ := h
    walk_at "go"
    refine ⟨by decide, fun p hp => ?_⟩
    walk_at "go"
    have s1 := Same.new (o := .tup [V.ty "list", V.ty "tuple"]) hp
    rcases hs with hs | hs
    · refine ⟨_, p, _, _, _, true, rfl, upd_same, .cons (.ty _) (.cons (.ty _) .nil), .base (.lst (s1 _ _ hs)), ?_, ?_⟩
      · exact kitAny_cons (b := true) (kit_ty (by decide +kernel)) (fun z => absurd z (by decide)) (fun _ => rfl)
      · exact q _ s1
    · refine ⟨_, p, _, _, _, true, rfl, upd_same, .cons (.ty _) (.cons (.ty _) .nil), .base (.tup (s1 _ _ hs)), ?_, ?_⟩
      · refine kitAny_cons (b := false) (kit_ty (by decide +kernel)) (fun _ => kitAny_cons (b := true) (kit_ty (by decide +kernel)) (fun z => absurd z (by decide)) (fun _ => rfl)) (fun z => absurd z (by decide))
      · exact q _ s1
end

end TW

set_option Elab.async false
set_option linter.all false
set_option maxRecDepth 100000
set_option maxHeartbeats 4000000
namespace TW
open PySem PySem.Spec PyProof.Rows L2
local macro_rules | `(tactic| walk_at "st0") => `(tactic| with_reducible (first | refine r_seq ?_ | refine r_next ?_ | refine r_ret ?_ | refine r_retN ?_ | refine r_drop ?_ | refine r_asg ?_ | refine r_if ?_ | refine r_gName ?_ | refine r_par ?_ | refine r_c ?_ | refine r_cons ?_ | refine r_nil ?_ | refine r_op ?_ | refine r_CB ?_ | refine r_andV ?_ | refine r_orV ?_ | refine r_notV ?_ | refine r_tIf ?_ | refine r_B ?_ | refine r_Test ?_ | refine r_and ?_ | refine r_or ?_ | refine r_not ?_ | refine r_yes ?_ | refine r_bl ?_ | refine r_T ?_ | refine r_F ?_ | refine r_nT ?_ | refine r_nF ?_ | refine r_I0 ?_ | refine r_eqI ?_ | refine r_neI ?_ | refine r_eqB ?_ | refine r_neB ?_ | refine r_isN0 ?_ | refine r_isN1 ?_ | refine r_isN2 ?_ | refine r_notN0 ?_ | refine r_notN1 ?_ | refine r_notN2 ?_ | refine r_isNo ?_ | refine r_notNo ?_ | refine r_fld ?_ | refine r_sfld ?_ | refine r_tup ?_ | refine r_lst ?_ | refine r_call ?_ | refine r_make ?_ | refine r_sl ?_ | refine r_part ?_ | refine r_noPart ?_ | refine r_iList ?_ | refine r_iTup ?_ | refine r_iRng1 ?_ | refine r_iEnum ?_ | refine r_int1 ?_ | refine r_intB ?_ | refine r_abs ?_ | refine r_bm ?_ | refine r_lc ?_ | refine r_for ?_))
local macro_rules | `(tactic| walk_at "st") => `(tactic| first | walk_at "st0" | ((with_reducible refine' r_var ?e ?_); (case e => exact rfl)) | ((with_reducible refine' r_fldG ?e1 ?e2 ?e3 ?e4 ?_); (case e1 => assumption); (case e2 => assumption); (case e3 => assumption); (case e4 => exact rfl)) | ((with_reducible refine' r_isC ?e ?_); (case e => assumption)) | dsimp only)
local macro_rules | `(tactic| walk_at "go") => `(tactic| repeat (walk_at "st"))
section
variable {P : Program} {w : World} {K : PySem.W.Frag} {mg : Str → Option Value} {base : Heap} {B : Adr}
theorem range_map {α β : Type} {l : List α} {g : α → β} {f : Nat → β} (h : ∀ i x, l[i]? = some x → f i = g x) : (List.range l.length).map f = l.map g := by
  apply List.ext_getElem?
  intro i
  rw [List.getElem?_map, List.getElem?_map]
  by_cases hi : i < l.length
  · rw [List.getElem?_range hi, List.getElem?_eq_getElem hi]
    exact congrArg some (h i _ (List.getElem?_eq_getElem hi))
  · rw [List.getElem?_eq_none_iff.mpr (by rw [List.length_range]; omega), List.getElem?_eq_none_iff.mpr (by omega)]
    rfl
theorem all_trues {n : Nat} {f : Nat → V} (h : ∀ i, i < n → f i = .bl true) : (List.range n).map f = ((List.range n).map fun _ => true).map V.bl := by
  rw [List.map_map]
  exact List.map_congr_left fun i hi => h i (List.mem_range.mp hi)
theorem all_true (n : Nat) : ((List.range n).map fun _ => true).all id = true := by
  rw [List.all_map]
  exact List.all_eq_true.mpr fun _ _ => rfl
def spAreWithin : Sp := fun vs H Q _ => ∃ (a : Addr) (ns : List Int) (lo hi : Option Int), vs = [.ref a, oV lo, oV hi] ∧ SqA H a (ns.map V.int) ∧ ns.length ≤ 1000 ∧ (∀ n ∈ ns, within n lo hi = true) ∧ ∀ H', Same H H' → Q (.bl true) H'
theorem ok_are_within (T : Tx K mg B) : C8.Cal P w K mg base 3 "are_within" spAreWithin [] := by
  have c_is_list := ok_is_list (P := P) (w := w) (base := base) T
  have c_is_within := ok_is_within (P := P) (w := w) (base := base) T
  refine cal_of T.d_are_within scAreWithin (fun _ _ _ _ _ _ us hl => match us, hl with | [_, _, _], _ => rfl) (fun vs H Q E h => ?_) (fun f cdv AA outer s H vs Q E hr h => ?_)
  · first | (obtain ⟨_, rfl, _⟩ := h; rfl) | (obtain ⟨_, _, rfl, _⟩ := h; rfl) | (obtain ⟨_, _, _, rfl, _⟩ := h; rfl) | (obtain ⟨_, _, _, _, rfl, _⟩ := h; rfl) | (obtain ⟨_, _, _, _, _, rfl, _⟩ := h; rfl) | (obtain ⟨_, _, _, _, _, _, rfl, _⟩ := h; rfl) | (obtain ⟨_, _, _, _, _, _, _, rfl, _⟩ := h; rfl) | (obtain ⟨_, _, _, _, _, _, _, _, rfl, _⟩ := h; rfl) | (obtain ⟨_, _, _, _, _, _, _, _, _, rfl, _⟩ := h; rfl) | (obtain ⟨_, _, _, _, _, _, _, _, _, _, rfl, _⟩ := h; rfl) | (obtain ⟨_, _, _, _, _, _, _, _, _, _, _, rfl, _⟩ := h; rfl) | (obtain ⟨_, _, _, _, _, _, _, _, _, _, _, _, rfl, _⟩ := h; rfl) | (obtain ⟨_, _, _, _, _, _, _, _, _, _, _, _, _, rfl, _⟩ := h; rfl) | (obtain ⟨_, _, _, _, _, _, _, _, _, _, _, _, _, _, rfl, _⟩ := h; rfl) | (obtain ⟨_, _, _, _, _, _, _, _, _, _, _, _, _, _, _, rfl, _⟩ := h; rfl) | (obtain ⟨_, _, _, _, _, _, _, _, _, _, _, _, _, _, _, _, rfl, _⟩ := h; rfl) | (obtain ⟨_, _, _, _, _, _, _, _, _, _, _, _, _, _, _, _, _, rfl, _⟩ := h; rfl) | (obtain ⟨_, _, _, _, _, _, _, _, _, _, _, _, _, _, _, _, _, _, rfl, _⟩ := h; rfl) | (obtain ⟨_, _, _, _, _, _, _, _, _, _, _, _, _, _, _, _, _, _, _, rfl, _⟩ := h; rfl)
  · refine ⟨(tRet (tAndV (tCall spIsList [] C8.E0 (tCons (tVar 0) tNil)) (tCB (rAll K) (tCons (tLc (EZ.iSeq K 0) (gName 3) tYes (tCall spIsWithin [] C8.E0 (tCons (tVar 3) (tCons (tVar 1) (tCons (tVar 2) tNil)))) [3]) tNil)))),
    (pss_one (ps_ret (pe_and (C8.pe_c c_is_list hr (by decide) rfl (pa_cons (pv 0) pa_nil)) (pe_one (pe_callB (cr_all rfl) (by rfl) T.f_all (by decide +kernel) (pa_cons (pe_lc (own := [("one", 3)]) (g := (gName 3)) (tt := tYes) (te := (tCall spIsWithin [] C8.E0 (tCons (tVar 3) (tCons (tVar 1) (tCons (tVar 2) tNil))))) rfl scAreWithin.nd (EZ.pi_seq (pv 0)) (blkOk_by (own := [("one", 3)]) (N := nAreWithin) (sc := defScope sAreWithin) (by decide +kernel)) (fun _ _ _ _ _ => (pg_name (i := 3) scAreWithin.nd rfl (Or.inl rfl))) (fun _ _ _ _ _ => pts_nil) (fun _ _ _ _ _ => (C8.pe_c c_is_within hr (by decide) rfl (pa_cons (pv 3) (pa_cons (pv 1) (pa_cons (pv 2) pa_nil)))))) pa_nil)))))), ?_⟩
    obtain ⟨a, ns, lo, hi, rfl, hs, hl, hw, q⟩ := h
    walk_at "go"
    refine ⟨a, _, rfl, hs, fun H1 s1 => ?_⟩
    walk_at "go"
    have hs1 := hs.up s1
    have main : ∀ (J : It) (G : Hp → Prop) (wk : Walk J (ns.map V.int).length G (YAt (ns.map V.int))) (hG : ∀ H, Same H1 H → G H), ∀ D, H1 D = none → ∃ W : Nat → Nat → Hp → Prop, (∃ m, W 0 m (upd H1 D (.lst []))) ∧ ∀ i m H, W i m H →
        (J.stop i H ∧ rAll K [.ref D] H Q) ∨ (J.go i H ∧ ∃ Nx : Hp → Prop, (∀ H', Nx H' → ∃ m', m' < m ∧ W (i + 1) m' H') ∧ ∀ x H', J.yld i H x H' → gName 3 x (wipe (L2.start nAreWithin [V.ref a, oV lo, oV hi]) [3]) H' fun σ2 H2 => wipe σ2 [3] = wipe (L2.start nAreWithin [V.ref a, oV lo, oV hi]) [3] ∧ tYes σ2 H2 fun b H3 =>
          if b = true then (tCall spIsWithin [] C8.E0 (tCons (tVar 3) (tCons (tVar 1) (tCons (tVar 2) tNil)))) σ2 H3 fun y H4 => ∃ acc, H4 D = some (.lst acc) ∧ acc.length < sizeLine ∧ Nx (upd H4 D (.lst (acc ++ [y]))) else Nx H3) := by
      intro J G wk hG Dl hD
      refine lc_1 wk yAt hD (fun i v _ => v = .bl true) ri_m ri_l (by rw [List.length_map]; omega) hG (fun x => rfl) (fun i x H Q3 hi s2 hx q3 => ?_) fun H2 ys s2 hl2 aa => ?_
      · walk_at "go"
        obtain ⟨n, hn, rfl⟩ : ∃ n, n ∈ ns ∧ x = V.int n := by
          rw [List.getElem?_map] at hx
          obtain ⟨n, e, rfl⟩ := Option.map_eq_some_iff.mp hx
          exact ⟨n, List.mem_of_getElem? e, rfl⟩
        refine ⟨n, lo, _, rfl, ?_⟩
        rw [hw n hn]
        exact q3 _ _ (Same.refl _) rfl
      · have e := aa.eqs (f := fun _ => .bl true)
        rw [e, all_trues fun _ _ => rfl] at hl2
        refine r_all hl2 ?_
        rw [all_true]
        exact q _ (s1.trans s2)
    rcases hs1 with hs1 | hs1
    · exact ⟨a, rfl, .inl ⟨⟨_, SqL.of hs1⟩, main _ _ walk_list fun H s2 => SqL.of (s2 _ _ hs1)⟩⟩
    · exact ⟨a, rfl, .inr ⟨⟨_, SqT.of hs1⟩, main _ _ walk_tup fun H s2 => SqT.of (s2 _ _ hs1)⟩⟩
end

end TW

set_option Elab.async false
set_option linter.all false
set_option maxRecDepth 100000
set_option maxHeartbeats 4000000
namespace TW
open PySem PySem.Spec PyProof.Rows L2
local macro_rules | `(tactic| walk_at "st0") => `(tactic| with_reducible (first | refine r_seq ?_ | refine r_next ?_ | refine r_ret ?_ | refine r_retN ?_ | refine r_drop ?_ | refine r_asg ?_ | refine r_if ?_ | refine r_gName ?_ | refine r_par ?_ | refine r_c ?_ | refine r_cons ?_ | refine r_nil ?_ | refine r_op ?_ | refine r_CB ?_ | refine r_andV ?_ | refine r_orV ?_ | refine r_notV ?_ | refine r_tIf ?_ | refine r_B ?_ | refine r_Test ?_ | refine r_and ?_ | refine r_or ?_ | refine r_not ?_ | refine r_yes ?_ | refine r_bl ?_ | refine r_T ?_ | refine r_F ?_ | refine r_nT ?_ | refine r_nF ?_ | refine r_I0 ?_ | refine r_eqI ?_ | refine r_neI ?_ | refine r_eqB ?_ | refine r_neB ?_ | refine r_isN0 ?_ | refine r_isN1 ?_ | refine r_isN2 ?_ | refine r_notN0 ?_ | refine r_notN1 ?_ | refine r_notN2 ?_ | refine r_isNo ?_ | refine r_notNo ?_ | refine r_fld ?_ | refine r_sfld ?_ | refine r_tup ?_ | refine r_lst ?_ | refine r_call ?_ | refine r_make ?_ | refine r_sl ?_ | refine r_part ?_ | refine r_noPart ?_ | refine r_iList ?_ | refine r_iTup ?_ | refine r_iRng1 ?_ | refine r_iEnum ?_ | refine r_int1 ?_ | refine r_intB ?_ | refine r_abs ?_ | refine r_bm ?_ | refine r_lc ?_ | refine r_for ?_))
local macro_rules | `(tactic| walk_at "st") => `(tactic| first | walk_at "st0" | ((with_reducible refine' r_var ?e ?_); (case e => exact rfl)) | ((with_reducible refine' r_fldG ?e1 ?e2 ?e3 ?e4 ?_); (case e1 => assumption); (case e2 => assumption); (case e3 => assumption); (case e4 => exact rfl)) | ((with_reducible refine' r_isC ?e ?_); (case e => assumption)) | dsimp only)
local macro_rules | `(tactic| walk_at "go") => `(tactic| repeat (walk_at "st"))
section
variable {P : Program} {w : World} {K : PySem.W.Frag} {mg : Str → Option Value} {base : Heap} {B : Adr}
theorem idx_cast (a b c d : Nat) : ((a : Int) * (b : Int) + (c : Int)) * (b : Int) + (d : Int) = (((a * b + c) * b + d : Nat) : Int) := by
  simp only [Int.natCast_add, Int.natCast_mul]
theorem idx_lt {a h w t k : Nat} (h1 : w < a) (h2 : t < h) (h3 : k < h) : (w * h + t) * h + k < a * h * h := by
  have e1 : w * h + t + 1 ≤ a * h := by
    have : (w + 1) * h ≤ a * h := Nat.mul_le_mul_right h h1
    rw [Nat.succ_mul] at this
    omega
  have e2 : (w * h + t + 1) * h ≤ a * h * h := Nat.mul_le_mul_right h e1
  rw [Nat.succ_mul] at e2
  omega
theorem rows_get {a h : Nat} {rows : List (List (Option Nat))} (ok : RowsOk a h rows) {st who t told : Nat} (h0 : st < rows.length) (h1 : who < a) (h2 : t < h) (h3 : told < h) : ∃ r, rows[st]? = some r ∧ r[(who * h + t) * h + told]? = some (nxt h rows st who t told) := by
  refine ⟨rows[st], List.getElem?_eq_getElem h0, ?_⟩
  have hl := ok.each _ (List.getElem_mem h0)
  have hi : (who * h + t) * h + told < rows[st].length := by
    rw [hl]
    exact idx_lt h1 h2 h3
  unfold nxt
  rw [List.getD_eq_getElem?_getD (l := rows), List.getElem?_eq_getElem h0, List.getD_eq_getElem?_getD, Option.getD_some, List.getElem?_eq_getElem hi]
  rfl
def spNextOf (B : Adr) : Sp := fun vs H Q _ => ∃ (a ans heaps st who t told : Nat) (rows : List (List (Option Nat))), vs = [.ref a, .int (st : Int), .int (who : Int), .int (t : Int), .int (told : Int)] ∧ RuleAt B H a ans heaps rows ∧ RowsOk ans heaps rows ∧ heaps ≤ 3 ∧ ans ≤ 4 ∧
  st < rows.length ∧ who < ans ∧ t < heaps ∧ told < heaps ∧ Q (oN (nxt heaps rows st who t told)) H
theorem ok_next_of (T : Tx K mg B) : C8.Cal P w K mg base 1 "next_of" (spNextOf B) [] := by
  refine cal_of T.d_next_of scNextOf (fun _ _ _ _ _ _ us hl => match us, hl with | [_, _, _, _, _], _ => rfl) (fun vs H Q E h => ?_) (fun f cdv AA outer s H vs Q E hr h => ?_)
  · first | (obtain ⟨_, rfl, _⟩ := h; rfl) | (obtain ⟨_, _, rfl, _⟩ := h; rfl) | (obtain ⟨_, _, _, rfl, _⟩ := h; rfl) | (obtain ⟨_, _, _, _, rfl, _⟩ := h; rfl) | (obtain ⟨_, _, _, _, _, rfl, _⟩ := h; rfl) | (obtain ⟨_, _, _, _, _, _, rfl, _⟩ := h; rfl) | (obtain ⟨_, _, _, _, _, _, _, rfl, _⟩ := h; rfl) | (obtain ⟨_, _, _, _, _, _, _, _, rfl, _⟩ := h; rfl) | (obtain ⟨_, _, _, _, _, _, _, _, _, rfl, _⟩ := h; rfl) | (obtain ⟨_, _, _, _, _, _, _, _, _, _, rfl, _⟩ := h; rfl) | (obtain ⟨_, _, _, _, _, _, _, _, _, _, _, rfl, _⟩ := h; rfl) | (obtain ⟨_, _, _, _, _, _, _, _, _, _, _, _, rfl, _⟩ := h; rfl) | (obtain ⟨_, _, _, _, _, _, _, _, _, _, _, _, _, rfl, _⟩ := h; rfl) | (obtain ⟨_, _, _, _, _, _, _, _, _, _, _, _, _, _, rfl, _⟩ := h; rfl) | (obtain ⟨_, _, _, _, _, _, _, _, _, _, _, _, _, _, _, rfl, _⟩ := h; rfl) | (obtain ⟨_, _, _, _, _, _, _, _, _, _, _, _, _, _, _, _, rfl, _⟩ := h; rfl) | (obtain ⟨_, _, _, _, _, _, _, _, _, _, _, _, _, _, _, _, _, rfl, _⟩ := h; rfl) | (obtain ⟨_, _, _, _, _, _, _, _, _, _, _, _, _, _, _, _, _, _, rfl, _⟩ := h; rfl) | (obtain ⟨_, _, _, _, _, _, _, _, _, _, _, _, _, _, _, _, _, _, _, rfl, _⟩ := h; rfl)
  · refine ⟨(tRet (tOp (rIxT K) (tOp (rIxT K) (tFld K (tVar 0) "rows") (tVar 1)) (tOp qAdd (tOp qMul (tOp qAdd (tOp qMul (tVar 2) (tFld K (tVar 0) "heaps")) (tVar 3)) (tFld K (tVar 0) "heaps")) (tVar 4)))),
    (pss_one (ps_ret (pe_ix ix_tup (pe_ix ix_tup (pe_fld (pv 0) rfl) (pv 1) (fun _ _ => rfl)) (pe_op op_add (pe_op op_mul (pe_op op_add (pe_op op_mul (pv 2) (pe_fld (pv 0) rfl)) (pv 3)) (pe_fld (pv 0) rfl)) (pv 4)) (fun _ _ => rfl)))), ?_⟩
    have hCRule := T.c_Rule
    have hARule_rows := T.a_Rule_rows
    have hARule_heaps := T.a_Rule_heaps
    obtain ⟨a, ans, heaps, st, who, t, told, rows, rfl, ⟨dx, rp, ev, h1, h2⟩, ok, l1, l2, k1, k2, k3, k4, q⟩ := h
    obtain ⟨r, e1, e2⟩ := rows_get ok k1 k2 k3 k4
    obtain ⟨_, rs, hrp, g1, g2⟩ := h2.tup_inv
    cases hrp
    obtain ⟨v, g3, g4⟩ := g2.get (i := st) (d := dRow r) (by rw [List.getElem?_map, e1]; rfl)
    obtain ⟨p, xs, rfl, g5, g6⟩ := Rp.tup_inv g4
    have e3 := RpA.os_inv g6
    subst e3
    walk_at "go"
    refine r_ixT g1 g3 ?_
    walk_at "go"
    refine r_I ?_ (.inl ⟨by omega, by omega⟩)
    walk_at "go"
    refine r_I ?_ (.inr ⟨by omega, by omega⟩)
    walk_at "go"
    rw [idx_cast]
    refine r_ixT g5 (by rw [List.getElem?_map, e2]; rfl) ?_
    exact q
def spNeedSizes : Sp := fun vs H Q _ => ∃ (a h : Nat), vs = [.int (a : Int), .int (h : Int)] ∧ 1 ≤ a ∧ a ≤ 4 ∧ 2 ≤ h ∧ h ≤ 3 ∧ Q .non H
theorem ok_need_sizes (T : Tx K mg B) : C8.Cal P w K mg base 3 "need_sizes" spNeedSizes [] := by
  have c_is_within := ok_is_within (P := P) (w := w) (base := base) T
  refine cal_of T.d_need_sizes scNeedSizes (fun _ _ _ _ _ _ us hl => match us, hl with | [_, _], _ => rfl) (fun vs H Q E h => ?_) (fun f cdv AA outer s H vs Q E hr h => ?_)
  · first | (obtain ⟨_, rfl, _⟩ := h; rfl) | (obtain ⟨_, _, rfl, _⟩ := h; rfl) | (obtain ⟨_, _, _, rfl, _⟩ := h; rfl) | (obtain ⟨_, _, _, _, rfl, _⟩ := h; rfl) | (obtain ⟨_, _, _, _, _, rfl, _⟩ := h; rfl) | (obtain ⟨_, _, _, _, _, _, rfl, _⟩ := h; rfl) | (obtain ⟨_, _, _, _, _, _, _, rfl, _⟩ := h; rfl) | (obtain ⟨_, _, _, _, _, _, _, _, rfl, _⟩ := h; rfl) | (obtain ⟨_, _, _, _, _, _, _, _, _, rfl, _⟩ := h; rfl) | (obtain ⟨_, _, _, _, _, _, _, _, _, _, rfl, _⟩ := h; rfl) | (obtain ⟨_, _, _, _, _, _, _, _, _, _, _, rfl, _⟩ := h; rfl) | (obtain ⟨_, _, _, _, _, _, _, _, _, _, _, _, rfl, _⟩ := h; rfl) | (obtain ⟨_, _, _, _, _, _, _, _, _, _, _, _, _, rfl, _⟩ := h; rfl) | (obtain ⟨_, _, _, _, _, _, _, _, _, _, _, _, _, _, rfl, _⟩ := h; rfl) | (obtain ⟨_, _, _, _, _, _, _, _, _, _, _, _, _, _, _, rfl, _⟩ := h; rfl) | (obtain ⟨_, _, _, _, _, _, _, _, _, _, _, _, _, _, _, _, rfl, _⟩ := h; rfl) | (obtain ⟨_, _, _, _, _, _, _, _, _, _, _, _, _, _, _, _, _, rfl, _⟩ := h; rfl) | (obtain ⟨_, _, _, _, _, _, _, _, _, _, _, _, _, _, _, _, _, _, rfl, _⟩ := h; rfl) | (obtain ⟨_, _, _, _, _, _, _, _, _, _, _, _, _, _, _, _, _, _, _, rfl, _⟩ := h; rfl)
  · refine ⟨(tSeq (tIfS (tNot (tB (tCall spIsWithin [] C8.E0 (tCons (tVar 0) (tCons (tC (.int 1)) (tCons (tC (.int 4)) tNil)))))) tNever tNext)
    (tIfS (tNot (tB (tCall spIsWithin [] C8.E0 (tCons (tVar 1) (tCons (tC (.int 2)) (tCons (tC (.int 3)) tNil)))))) tNever tNext)),
    (pss_cons (ps_if (pt_not (pt_val (C8.pe_c c_is_within hr (by decide) rfl (pa_cons (pv 0) (pa_cons pe_int (pa_cons (C8.pe_gc rfl T.k_MOST_ANSWERERS_rules) pa_nil)))))) (pss_one ps_never) pss_nil)
    (pss_one (ps_if (pt_not (pt_val (C8.pe_c c_is_within hr (by decide) rfl (pa_cons (pv 1) (pa_cons pe_int (pa_cons pe_int pa_nil)))))) (pss_one ps_never) pss_nil))), ?_⟩
    obtain ⟨a, hh, rfl, h1, h2, h3, h4, q⟩ := h
    walk_at "go"
    refine ⟨_, some 1, some 4, rfl, ?_⟩
    rw [within_ok (by omega) (by omega)]
    walk_at "go"
    refine ⟨_, some 2, some 3, rfl, ?_⟩
    rw [within_ok (by omega) (by omega)]
    walk_at "go"
    exact q
def spNeedNumber : Sp := fun vs H Q _ => ∃ (i l m : Int) (x : Str), vs = [.int i, .int l, .int m, .str x] ∧ l ≤ i ∧ i ≤ m ∧ Q .non H
theorem ok_need_number (T : Tx K mg B) : C8.Cal P w K mg base 3 "need_number" spNeedNumber [] := by
  have c_is_within := ok_is_within (P := P) (w := w) (base := base) T
  refine cal_of T.d_need_number scNeedNumber (fun _ _ _ _ _ _ us hl => match us, hl with | [_, _, _, _], _ => rfl) (fun vs H Q E h => ?_) (fun f cdv AA outer s H vs Q E hr h => ?_)
  · first | (obtain ⟨_, rfl, _⟩ := h; rfl) | (obtain ⟨_, _, rfl, _⟩ := h; rfl) | (obtain ⟨_, _, _, rfl, _⟩ := h; rfl) | (obtain ⟨_, _, _, _, rfl, _⟩ := h; rfl) | (obtain ⟨_, _, _, _, _, rfl, _⟩ := h; rfl) | (obtain ⟨_, _, _, _, _, _, rfl, _⟩ := h; rfl) | (obtain ⟨_, _, _, _, _, _, _, rfl, _⟩ := h; rfl) | (obtain ⟨_, _, _, _, _, _, _, _, rfl, _⟩ := h; rfl) | (obtain ⟨_, _, _, _, _, _, _, _, _, rfl, _⟩ := h; rfl) | (obtain ⟨_, _, _, _, _, _, _, _, _, _, rfl, _⟩ := h; rfl) | (obtain ⟨_, _, _, _, _, _, _, _, _, _, _, rfl, _⟩ := h; rfl) | (obtain ⟨_, _, _, _, _, _, _, _, _, _, _, _, rfl, _⟩ := h; rfl) | (obtain ⟨_, _, _, _, _, _, _, _, _, _, _, _, _, rfl, _⟩ := h; rfl) | (obtain ⟨_, _, _, _, _, _, _, _, _, _, _, _, _, _, rfl, _⟩ := h; rfl) | (obtain ⟨_, _, _, _, _, _, _, _, _, _, _, _, _, _, _, rfl, _⟩ := h; rfl) | (obtain ⟨_, _, _, _, _, _, _, _, _, _, _, _, _, _, _, _, rfl, _⟩ := h; rfl) | (obtain ⟨_, _, _, _, _, _, _, _, _, _, _, _, _, _, _, _, _, rfl, _⟩ := h; rfl) | (obtain ⟨_, _, _, _, _, _, _, _, _, _, _, _, _, _, _, _, _, _, rfl, _⟩ := h; rfl) | (obtain ⟨_, _, _, _, _, _, _, _, _, _, _, _, _, _, _, _, _, _, _, rfl, _⟩ := h; rfl)
  · refine ⟨(tIfS (tNot (tB (tCall spIsWithin [] C8.E0 (tCons (tVar 0) (tCons (tVar 1) (tCons (tVar 2) tNil)))))) tNever tNext),
    (pss_one (ps_if (pt_not (pt_val (C8.pe_c c_is_within hr (by decide) rfl (pa_cons (pv 0) (pa_cons (pv 1) (pa_cons (pv 2) pa_nil)))))) (pss_one ps_never) pss_nil)), ?_⟩
    obtain ⟨i, l, m, x, rfl, h1, h2, q⟩ := h
    walk_at "go"
    refine ⟨i, some l, some m, rfl, ?_⟩
    rw [within_ok h1 h2]
    walk_at "go"
    exact q
def spRuleLen (B : Adr) : Sp := fun vs H Q _ => ∃ (a ans heaps : Nat) (rows : List (List (Option Nat))), vs = [.ref a] ∧ RuleAt B H a ans heaps rows ∧ Q (.int (rows.length : Int)) H
theorem ok_Rule_len (T : Tx K mg B) : C8.Met P w K mg base 1 B.Rule "__len__" (spRuleLen B) [] := by
  refine met_of T.m_Rule_len T.c_Rule scRuleLen (fun _ _ _ _ _ _ us hl => match us, hl with | [_], _ => rfl) (fun vs H Q E h => ?_) (fun f cdv AA outer s H vs Q E hr h => ?_)
  · first | (obtain ⟨_, rfl, _⟩ := h; rfl) | (obtain ⟨_, _, rfl, _⟩ := h; rfl) | (obtain ⟨_, _, _, rfl, _⟩ := h; rfl) | (obtain ⟨_, _, _, _, rfl, _⟩ := h; rfl) | (obtain ⟨_, _, _, _, _, rfl, _⟩ := h; rfl) | (obtain ⟨_, _, _, _, _, _, rfl, _⟩ := h; rfl) | (obtain ⟨_, _, _, _, _, _, _, rfl, _⟩ := h; rfl) | (obtain ⟨_, _, _, _, _, _, _, _, rfl, _⟩ := h; rfl) | (obtain ⟨_, _, _, _, _, _, _, _, _, rfl, _⟩ := h; rfl) | (obtain ⟨_, _, _, _, _, _, _, _, _, _, rfl, _⟩ := h; rfl) | (obtain ⟨_, _, _, _, _, _, _, _, _, _, _, rfl, _⟩ := h; rfl) | (obtain ⟨_, _, _, _, _, _, _, _, _, _, _, _, rfl, _⟩ := h; rfl) | (obtain ⟨_, _, _, _, _, _, _, _, _, _, _, _, _, rfl, _⟩ := h; rfl) | (obtain ⟨_, _, _, _, _, _, _, _, _, _, _, _, _, _, rfl, _⟩ := h; rfl) | (obtain ⟨_, _, _, _, _, _, _, _, _, _, _, _, _, _, _, rfl, _⟩ := h; rfl) | (obtain ⟨_, _, _, _, _, _, _, _, _, _, _, _, _, _, _, _, rfl, _⟩ := h; rfl) | (obtain ⟨_, _, _, _, _, _, _, _, _, _, _, _, _, _, _, _, _, rfl, _⟩ := h; rfl) | (obtain ⟨_, _, _, _, _, _, _, _, _, _, _, _, _, _, _, _, _, _, rfl, _⟩ := h; rfl) | (obtain ⟨_, _, _, _, _, _, _, _, _, _, _, _, _, _, _, _, _, _, _, rfl, _⟩ := h; rfl)
  · refine ⟨(tRet (tCB (Evl.rLenS K) (tCons (tFld K (tVar 0) "rows") tNil))),
    (pss_one (ps_ret (pe_callB call_len_seq (by rfl) T.f_len (by decide +kernel) (pa_cons (pe_fld (pv 0) rfl) pa_nil)))), ?_⟩
    have hCRule := T.c_Rule
    have hARule_rows := T.a_Rule_rows
    obtain ⟨a, ans, heaps, rows, rfl, ⟨dx, rp, ev, h1, h2⟩, q⟩ := h
    obtain ⟨_, rs, hrp, g1, g2⟩ := h2.tup_inv
    cases hrp
    walk_at "go"
    refine r_lenT g1 ?_
    rw [g2.len, List.length_map]
    exact q
end

end TW

set_option Elab.async false
set_option linter.all false
set_option maxRecDepth 100000
set_option maxHeartbeats 4000000
namespace TW
open PySem PySem.Spec PyProof.Rows L2
local macro_rules | `(tactic| walk_at "st0") => `(tactic| with_reducible (first | refine r_seq ?_ | refine r_next ?_ | refine r_ret ?_ | refine r_retN ?_ | refine r_drop ?_ | refine r_asg ?_ | refine r_if ?_ | refine r_gName ?_ | refine r_par ?_ | refine r_c ?_ | refine r_cons ?_ | refine r_nil ?_ | refine r_op ?_ | refine r_CB ?_ | refine r_andV ?_ | refine r_orV ?_ | refine r_notV ?_ | refine r_tIf ?_ | refine r_B ?_ | refine r_Test ?_ | refine r_and ?_ | refine r_or ?_ | refine r_not ?_ | refine r_yes ?_ | refine r_bl ?_ | refine r_T ?_ | refine r_F ?_ | refine r_nT ?_ | refine r_nF ?_ | refine r_I0 ?_ | refine r_eqI ?_ | refine r_neI ?_ | refine r_eqB ?_ | refine r_neB ?_ | refine r_isN0 ?_ | refine r_isN1 ?_ | refine r_isN2 ?_ | refine r_notN0 ?_ | refine r_notN1 ?_ | refine r_notN2 ?_ | refine r_isNo ?_ | refine r_notNo ?_ | refine r_fld ?_ | refine r_sfld ?_ | refine r_tup ?_ | refine r_lst ?_ | refine r_call ?_ | refine r_make ?_ | refine r_sl ?_ | refine r_part ?_ | refine r_noPart ?_ | refine r_iList ?_ | refine r_iTup ?_ | refine r_iRng1 ?_ | refine r_iEnum ?_ | refine r_int1 ?_ | refine r_intB ?_ | refine r_abs ?_ | refine r_bm ?_ | refine r_lc ?_ | refine r_for ?_))
local macro_rules | `(tactic| walk_at "st") => `(tactic| first | walk_at "st0" | ((with_reducible refine' r_var ?e ?_); (case e => exact rfl)) | ((with_reducible refine' r_fldG ?e1 ?e2 ?e3 ?e4 ?_); (case e1 => assumption); (case e2 => assumption); (case e3 => assumption); (case e4 => exact rfl)) | ((with_reducible refine' r_isC ?e ?_); (case e => assumption)) | dsimp only)
local macro_rules | `(tactic| walk_at "go") => `(tactic| repeat (walk_at "st"))
section
variable {P : Program} {w : World} {K : PySem.W.Frag} {mg : Str → Option Value} {base : Heap} {B : Adr}
theorem cutV_nat {xs : List V} {b e : Nat} (h1 : b ≤ e) (h2 : e ≤ xs.length) : cutV xs (some (b : Int)) (some (e : Int)) = (xs.drop b).take (e - b) := by
  unfold cutV
  rw [HT.sIx_nat, HT.sIx_nat, Nat.min_eq_left (Nat.le_trans h1 h2), Nat.min_eq_left h2]
theorem cutV_to {xs : List V} {e : Nat} (h2 : e ≤ xs.length) : cutV xs none (some (e : Int)) = xs.take e := by
  unfold cutV
  rw [HT.sIx_nat, HT.sIx_none, Nat.min_eq_left h2]
  rfl
theorem cutV_from {xs : List V} {b : Nat} (h2 : b ≤ xs.length) : cutV xs (some (b : Int)) none = xs.drop b := by
  unfold cutV
  rw [HT.sIx_nat, HT.sIx_none, Nat.min_eq_left h2]
  exact List.take_of_length_le (by rw [List.length_drop]; exact Nat.le_refl _)
theorem rows_inv {H : Hp} : ∀ {rows : List (List (Option Nat))} {vs : List V} {i : Nat} {x : V}, RpA H vs (rows.map dRowL) → vs[i]? = some x → ∃ r p, rows[i]? = some r ∧ x = .ref p ∧ H p = some (.lst (r.map oN)) := by
  intro rows vs i x h e
  obtain ⟨d, h1, h2⟩ := h.get' e
  rw [List.getElem?_map] at h1
  obtain ⟨r, hr, rfl⟩ := Option.map_eq_some_iff.mp h1
  obtain ⟨p, xs, rfl, h3, h4⟩ := Rp.lst_inv h2
  rw [RpA.os_inv h4] at h3
  exact ⟨r, p, hr, rfl, h3⟩
theorem map_get {α β : Type} {l : List α} {f : α → β} {i : Nat} {x : β} (h : (l.map f)[i]? = some x) : ∃ a, l[i]? = some a ∧ x = f a := by
  rw [List.getElem?_map] at h
  obtain ⟨a, e, rfl⟩ := Option.map_eq_some_iff.mp h
  exact ⟨a, e, rfl⟩
def spAreRows : Sp := fun vs H Q _ => ∃ (a ans heaps : Nat) (rows : List (List (Option Nat))), vs = [.ref a, .int ((ans * heaps * heaps : Nat) : Int)] ∧ Rp H (.ref a) (.list (rows.map dRowL)) ∧ RowsOk ans heaps rows ∧ ans ≤ 4 ∧ heaps ≤ 3 ∧ ∀ H', Same H H' → Q (.bl true) H'
theorem ok_are_rows (T : Tx K mg B) : C8.Cal P w K mg base 3 "are_rows" spAreRows [] := by
  have c_is_list := ok_is_list (P := P) (w := w) (base := base) T
  have c_is_within := ok_is_within (P := P) (w := w) (base := base) T
  refine cal_of T.d_are_rows scAreRows (fun _ _ _ _ _ _ us hl => match us, hl with | [_, _], _ => rfl) (fun vs H Q E h => ?_) (fun f cdv AA outer s H vs Q E hr h => ?_)
  · first | (obtain ⟨_, rfl, _⟩ := h; rfl) | (obtain ⟨_, _, rfl, _⟩ := h; rfl) | (obtain ⟨_, _, _, rfl, _⟩ := h; rfl) | (obtain ⟨_, _, _, _, rfl, _⟩ := h; rfl) | (obtain ⟨_, _, _, _, _, rfl, _⟩ := h; rfl) | (obtain ⟨_, _, _, _, _, _, rfl, _⟩ := h; rfl) | (obtain ⟨_, _, _, _, _, _, _, rfl, _⟩ := h; rfl) | (obtain ⟨_, _, _, _, _, _, _, _, rfl, _⟩ := h; rfl) | (obtain ⟨_, _, _, _, _, _, _, _, _, rfl, _⟩ := h; rfl) | (obtain ⟨_, _, _, _, _, _, _, _, _, _, rfl, _⟩ := h; rfl) | (obtain ⟨_, _, _, _, _, _, _, _, _, _, _, rfl, _⟩ := h; rfl) | (obtain ⟨_, _, _, _, _, _, _, _, _, _, _, _, rfl, _⟩ := h; rfl) | (obtain ⟨_, _, _, _, _, _, _, _, _, _, _, _, _, rfl, _⟩ := h; rfl) | (obtain ⟨_, _, _, _, _, _, _, _, _, _, _, _, _, _, rfl, _⟩ := h; rfl) | (obtain ⟨_, _, _, _, _, _, _, _, _, _, _, _, _, _, _, rfl, _⟩ := h; rfl) | (obtain ⟨_, _, _, _, _, _, _, _, _, _, _, _, _, _, _, _, rfl, _⟩ := h; rfl) | (obtain ⟨_, _, _, _, _, _, _, _, _, _, _, _, _, _, _, _, _, rfl, _⟩ := h; rfl) | (obtain ⟨_, _, _, _, _, _, _, _, _, _, _, _, _, _, _, _, _, _, rfl, _⟩ := h; rfl) | (obtain ⟨_, _, _, _, _, _, _, _, _, _, _, _, _, _, _, _, _, _, _, rfl, _⟩ := h; rfl)
  · refine ⟨(tSeq (tIfS (tOr (tNot (tB (tCall spIsList [] C8.E0 (tCons (tVar 0) tNil)))) (tTest (tOp rEq (tCB (Evl.rLenS K) (tCons (tVar 0) tNil)) (tC (.int 0))))) (tRet (tC (.bl false))) tNext)
    (tSeq (tFor (iList K (tVar 0)) (gName 2) (tSeq (tIfS (tOr (tNot (tB (tCall spIsList [] C8.E0 (tCons (tVar 2) tNil)))) (tTest (tOp rNe (tCB (Evl.rLenS K) (tCons (tVar 2) tNil)) (tVar 1)))) (tRet (tC (.bl false))) tNext)
    (tIfS (tNot (tB (tCB (rAll K) (tCons (tLc (iList K (tVar 2)) (gName 3) tYes (tOrV (tOp rIsN (tVar 3) (tC .non)) (tCall spIsWithin [] C8.E0 (tCons (tVar 3) (tCons (tC (.int 0)) (tCons (tOp qSub (tCB (Evl.rLenS K) (tCons (tVar 0) tNil)) (tC (.int 1))) tNil))))) [3]) tNil)))) (tRet (tC (.bl false))) tNext)))
    (tRet (tC (.bl true))))),
    (pss_cons (ps_if (PW.pt (pw_or (pt_not (pt_val (C8.pe_c c_is_list hr (by decide) rfl (pa_cons (pv 0) pa_nil)))) (pw_or1 (pt_cmpR op_eq (pe_callB call_len_seq (by rfl) T.f_len (by decide +kernel) (pa_cons (pv 0) pa_nil)) pe_int (nomark _))))) (pss_one (ps_ret pe_bl)) pss_nil)
    (pss_cons (ps_for PassesOwn.never rfl (pi_list (pv 0)) (pg_name (i := 2) scAreRows.nd rfl (Or.inl rfl)) (pss_cons (ps_if (PW.pt (pw_or (pt_not (pt_val (C8.pe_c c_is_list hr (by decide) rfl (pa_cons (pv 2) pa_nil)))) (pw_or1 (pt_cmpR op_ne (pe_callB call_len_seq (by rfl) T.f_len (by decide +kernel) (pa_cons (pv 2) pa_nil)) (pv 1) (nomark _))))) (pss_one (ps_ret pe_bl)) pss_nil)
    (pss_one (ps_if (pt_not (pt_val (pe_callB (cr_all rfl) (by rfl) T.f_all (by decide +kernel) (pa_cons (pe_lc (own := [("entry", 3)]) (g := (gName 3)) (tt := tYes) (te := (tOrV (tOp rIsN (tVar 3) (tC .non)) (tCall spIsWithin [] C8.E0 (tCons (tVar 3) (tCons (tC (.int 0)) (tCons (tOp qSub (tCB (Evl.rLenS K) (tCons (tVar 0) tNil)) (tC (.int 1))) tNil)))))) rfl scAreRows.nd (pi_list (pv 2)) (blkOk_by (own := [("entry", 3)]) (N := nAreRows) (sc := defScope sAreRows) (by decide +kernel)) (fun _ _ _ _ _ => (pg_name (i := 3) scAreRows.nd rfl (Or.inl rfl))) (fun _ _ _ _ _ => pts_nil) (fun _ _ _ _ _ => (pe_or (pe_cmpR op_isN1 (pv 3) pe_non (nomark _)) (pe_one (C8.pe_c c_is_within hr (by decide) rfl (pa_cons (pv 3) (pa_cons pe_int (pa_cons (pe_op op_sub (pe_callB call_len_seq (by rfl) T.f_len (by decide +kernel) (pa_cons (pv 0) pa_nil)) pe_int) pa_nil)))))))) pa_nil)))) (pss_one (ps_ret pe_bl)) pss_nil))))
    (pss_one (ps_ret pe_bl)))), ?_⟩
    obtain ⟨a, ans, heaps, rows, rfl, hr, ok, l1, l2, q⟩ := h
    obtain ⟨_, rs, hra, g1, g2⟩ := hr.lst_inv
    cases hra
    have hlen : rs.length = rows.length := by rw [g2.len, List.length_map]
    have hpos := ok.len
    have hsz : ans * heaps * heaps ≤ 36 := by
      have e1 : ans * heaps ≤ 4 * 3 := Nat.mul_le_mul l1 l2
      have e2 : ans * heaps * heaps ≤ 12 * 3 := Nat.mul_le_mul e1 l2
      omega
    walk_at "go"
    refine ⟨a, rs, rfl, .inl g1, fun H1 s1 => ?_⟩
    walk_at "go"
    refine r_lenL (s1 _ _ g1) ?_
    walk_at "go"
    refine r_dF (by omega) ?_
    walk_at "go"
    refine ⟨a, rfl, ⟨rs, SqL.of (s1 _ _ g1)⟩, for_1 (walk_list (xs := rs)) yAt (fun i σ H' => Same H1 H' ∧ ∃ v, σ = [some (.ref a), some (.int ((ans * heaps * heaps : Nat) : Int)), v, none]) ⟨Same.refl _, none, rfl⟩ (fun i σ H' _ p => SqL.of (p.1 _ _ (s1 _ _ g1))) ?_ ?_⟩
    · rintro i x σ H2 hi ⟨s2, v, rfl⟩ hx
      have s02 := s1.trans s2
      obtain ⟨r, p, hr, rfl, hp⟩ := rows_inv (g2.up s02) hx
      have hrm : r ∈ rows := List.mem_of_getElem? hr
      have hrl := ok.each r hrm
      walk_at "go"
      refine ⟨p, _, rfl, .inl hp, fun H3 s3 => ?_⟩
      walk_at "go"
      refine r_lenL (s3 _ _ hp) ?_
      rw [List.length_map, hrl]
      walk_at "go"
      have s03 := s02.trans s3
      have e1 : (!decide (((ans * heaps * heaps : Nat) : Int) = ((ans * heaps * heaps : Nat) : Int))) = false := by
        rw [decide_eq_true rfl]
        rfl
      refine r_bF e1 ?_
      walk_at "go"
      refine ⟨p, rfl, ⟨_, SqL.of (s3 _ _ hp)⟩, fun Dl hD => lc_1 walk_list yAt hD (fun i v _ => v = .bl true) ri_m ri_l (by rw [List.length_map]; omega) (fun H s4 => SqL.of (s4 _ _ (s3 _ _ hp))) (fun x => rfl) (fun j x H4 Q4 hj s4 hx4 q4 => ?_) fun H4 ys s4 hl4 aa => ?_⟩
      · obtain ⟨o, ho, rfl⟩ := map_get hx4
        cases o with
        | none =>
          simp only [oN]
          walk_at "go"
          exact q4 _ _ (Same.refl _) rfl
        | some n =>
          simp only [oN]
          walk_at "go"
          refine r_lenL (s4 _ _ (s03 _ _ g1)) ?_
          walk_at "go"
          refine ⟨_, some 0, some ((rs.length : Int) - 1), rfl, ?_⟩
          have hn := ok.ent r hrm n (List.mem_of_getElem? ho)
          rw [within_ok (by omega) (by omega)]
          exact q4 _ _ (Same.refl _) rfl
      · have e := aa.eqs (f := fun _ => .bl true)
        rw [e, all_trues fun _ _ => rfl] at hl4
        walk_at "go"
        refine r_all hl4 ?_
        rw [all_true]
        walk_at "go"
        exact ⟨s2.trans (s3.trans s4), _, rfl⟩
    · rintro σ H2 ⟨s2, v, rfl⟩
      walk_at "go"
      exact q _ (s1.trans s2)
def spNeedLive : Sp := fun vs H Q _ => ∃ (ans heaps a : Nat) (rows : List (List (Option Nat))), vs = [.int (ans : Int), .int (heaps : Int), .ref a] ∧ Rp H (.ref a) (.list (rows.map dRowL)) ∧ RowsOk ans heaps rows ∧ ans ≤ 4 ∧ heaps ≤ 3 ∧ ∀ H', Same H H' → Q .non H'
theorem ok_need_live (T : Tx K mg B) : C8.Cal P w K mg base 1 "need_live" spNeedLive [] := by
  refine cal_of T.d_need_live scNeedLive (fun _ _ _ _ _ _ us hl => match us, hl with | [_, _, _], _ => rfl) (fun vs H Q E h => ?_) (fun f cdv AA outer s H vs Q E hr h => ?_)
  · first | (obtain ⟨_, rfl, _⟩ := h; rfl) | (obtain ⟨_, _, rfl, _⟩ := h; rfl) | (obtain ⟨_, _, _, rfl, _⟩ := h; rfl) | (obtain ⟨_, _, _, _, rfl, _⟩ := h; rfl) | (obtain ⟨_, _, _, _, _, rfl, _⟩ := h; rfl) | (obtain ⟨_, _, _, _, _, _, rfl, _⟩ := h; rfl) | (obtain ⟨_, _, _, _, _, _, _, rfl, _⟩ := h; rfl) | (obtain ⟨_, _, _, _, _, _, _, _, rfl, _⟩ := h; rfl) | (obtain ⟨_, _, _, _, _, _, _, _, _, rfl, _⟩ := h; rfl) | (obtain ⟨_, _, _, _, _, _, _, _, _, _, rfl, _⟩ := h; rfl) | (obtain ⟨_, _, _, _, _, _, _, _, _, _, _, rfl, _⟩ := h; rfl) | (obtain ⟨_, _, _, _, _, _, _, _, _, _, _, _, rfl, _⟩ := h; rfl) | (obtain ⟨_, _, _, _, _, _, _, _, _, _, _, _, _, rfl, _⟩ := h; rfl) | (obtain ⟨_, _, _, _, _, _, _, _, _, _, _, _, _, _, rfl, _⟩ := h; rfl) | (obtain ⟨_, _, _, _, _, _, _, _, _, _, _, _, _, _, _, rfl, _⟩ := h; rfl) | (obtain ⟨_, _, _, _, _, _, _, _, _, _, _, _, _, _, _, _, rfl, _⟩ := h; rfl) | (obtain ⟨_, _, _, _, _, _, _, _, _, _, _, _, _, _, _, _, _, rfl, _⟩ := h; rfl) | (obtain ⟨_, _, _, _, _, _, _, _, _, _, _, _, _, _, _, _, _, _, rfl, _⟩ := h; rfl) | (obtain ⟨_, _, _, _, _, _, _, _, _, _, _, _, _, _, _, _, _, _, _, rfl, _⟩ := h; rfl)
  · refine ⟨(tFor (iEnum K (tCons (tVar 2) tNil)) (gTup K 2 (gCons (gName 3) (gCons (gName 4) gNil))) (tFor (iRng1 (tCons (tVar 0) tNil)) (gName 5) (tFor (iRng1 (tCons (tVar 1) tNil)) (gName 6) (tSeq (tAsg (tOp qMul (tOp qAdd (tOp qMul (tVar 5) (tVar 1)) (tVar 6)) (tVar 1)) (gName 7))
    (tIfS (tB (tCB (rAll K) (tCons (tLc (iList K (tSl (rSlL K) (tVar 4) (tPart (tVar 7)) (tPart (tOp qAdd (tVar 7) (tVar 1))))) (gName 8) tYes (tOp rIsN (tVar 8) (tC .non)) [8]) tNil))) tNever tNext))))),
    (pss_one (ps_for PassesOwn.never rfl (pi_enum (by rfl) T.f_enumerate (pa_cons (pv 2) pa_nil)) (pg_tup (by rfl) (pgs_cons (pg_name (i := 3) scNeedLive.nd rfl (Or.inl rfl)) (pgs_cons (pg_name (i := 4) scNeedLive.nd rfl (Or.inl rfl)) pgs_nil))) (pss_one (ps_for PassesOwn.never rfl (pi_range1 (by rfl) T.f_range (pa_cons (pv 0) pa_nil)) (pg_name (i := 5) scNeedLive.nd rfl (Or.inl rfl)) (pss_one (ps_for PassesOwn.never rfl (pi_range1 (by rfl) T.f_range (pa_cons (pv 1) pa_nil)) (pg_name (i := 6) scNeedLive.nd rfl (Or.inl rfl)) (pss_cons (ps_set (i := 7) scNeedLive.nd rfl (Or.inl rfl) (pe_op op_mul (pe_op op_add (pe_op op_mul (pv 5) (pv 1)) (pv 6)) (pv 1)))
    (pss_one (ps_if (pt_val (pe_callB (cr_all rfl) (by rfl) T.f_all (by decide +kernel) (pa_cons (pe_lc (own := [("entry", 8)]) (g := (gName 8)) (tt := tYes) (te := (tOp rIsN (tVar 8) (tC .non))) rfl scNeedLive.nd (pi_list (pe_slice sl_list (pv 4) (po_some (pv 7)) (po_some (pe_op op_add (pv 7) (pv 1))))) (blkOk_by (own := [("entry", 8)]) (N := nNeedLive) (sc := defScope sNeedLive) (by decide +kernel)) (fun _ _ _ _ _ => (pg_name (i := 8) scNeedLive.nd rfl (Or.inl rfl))) (fun _ _ _ _ _ => pts_nil) (fun _ _ _ _ _ => (pe_cmpR op_isN1 (pv 8) pe_non (nomark _)))) pa_nil))) (pss_one ps_never) pss_nil))))))))), ?_⟩
    obtain ⟨ans, heaps, a, rows, rfl, hr, ok, l1, l2, q⟩ := h
    obtain ⟨_, rs, hra, g1, g2⟩ := hr.lst_inv
    cases hra
    have hlen : rs.length = rows.length := by rw [g2.len, List.length_map]
    walk_at "go"
    refine ⟨a, rs, rfl, SqL.of g1, for_2 (walk_enum (xs := rs)) (fun i σ H' => Same H H' ∧ ∃ v1 v2 v3 v4 v5, σ = [some (.int (ans : Int)), some (.int (heaps : Int)), some (.ref a), v1, v2, v3, v4, v5, none]) ⟨Same.refl _, _, _, _, _, _, rfl⟩ (fun i σ H' _ p => SqL.of (p.1 _ _ g1)) ?_ ?_⟩
    · rintro i x y TT σ H1 hi ⟨s1, v1, v2, v3, v4, v5, rfl⟩ hT hx hy
      cases hx
      have sT : Same H1 (upd H1 TT (.tup [.int ((i : Nat) : Int), y])) := Same.new hT
      have s2 := s1.trans sT
      generalize upd H1 TT (.tup [.int ((i : Nat) : Int), y]) = H2 at s2 sT
      obtain ⟨r, p, hr, rfl, hp⟩ := rows_inv (g2.up s2) hy
      have hrm : r ∈ rows := List.mem_of_getElem? hr
      have hrl := ok.each r hrm
      have hi' : i < rows.length := by omega
      walk_at "go"
      refine ⟨_, rfl, by omega, by omega, for_1 (walk_range (lo := 0)) yFn (fun j σ H' => Same H2 H' ∧ ∃ v3 v4 v5, σ = [some (.int (ans : Int)), some (.int (heaps : Int)), some (.ref a), some (.int ((i : Nat) : Int)), some (.ref p), v3, v4, v5, none]) ⟨Same.refl _, _, _, _, rfl⟩ (fun _ _ _ _ _ => trivial) ?_ ?_⟩
      · rintro j x σ H3 hj ⟨s3, v3, v4, v5, rfl⟩ rfl
        have hj' : j < ans := by simpa using hj
        rw [Int.zero_add]
        walk_at "go"
        refine ⟨_, rfl, by omega, by omega, for_1 (walk_range (lo := 0)) yFn (fun k σ H' => Same H3 H' ∧ ∃ v4 v5, σ = [some (.int (ans : Int)), some (.int (heaps : Int)), some (.ref a), some (.int ((i : Nat) : Int)), some (.ref p), some (.int ((j : Nat) : Int)), v4, v5, none]) ⟨Same.refl _, _, _, rfl⟩ (fun _ _ _ _ _ => trivial) ?_ ?_⟩
        · rintro k x σ H4 hk ⟨s4, v4, v5, rfl⟩ rfl
          have hk' : k < heaps := by simpa using hk
          rw [Int.zero_add]
          walk_at "go"
          refine r_I ?_ (.inl ⟨by omega, by omega⟩)
          walk_at "go"
          refine r_I ?_ (.inr ⟨by omega, by omega⟩)
          walk_at "go"
          refine ⟨_, rfl, ?_⟩
          walk_at "go"
          refine ⟨_, rfl, ?_⟩
          have hp4 := s4 _ _ (s3 _ _ hp)
          refine ⟨p, _, rfl, SqL.of hp4, fun c hc => ?_⟩
          have eb : ((j : Int) * (heaps : Int) + (k : Int)) * (heaps : Int) = (((j * heaps + k) * heaps : Nat) : Int) := by simp only [Int.natCast_add, Int.natCast_mul]
          have hb : (j * heaps + k) * heaps + heaps ≤ r.length := by
            rw [hrl]
            have := idx_lt (k := heaps - 1) hj' hk' (by omega)
            omega
          rw [eb, show (((j * heaps + k) * heaps : Nat) : Int) + (heaps : Int) = (((j * heaps + k) * heaps + heaps : Nat) : Int) from rfl, cutV_nat (Nat.le_add_right _ _) (by rw [List.length_map]; exact hb), Nat.add_sub_cancel_left]
          generalize hcut : ((r.map oN).drop ((j * heaps + k) * heaps)).take heaps = cut
          have hcl : cut.length = heaps := by
            rw [← hcut, List.length_take, List.length_drop, List.length_map]
            omega
          have hcg : ∀ t, t < heaps → cut[t]? = some (oN (nxt heaps rows i j k t)) := by
            intro t ht
            obtain ⟨r', e1, e2⟩ := rows_get ok hi' hj' hk' ht
            rw [hr] at e1
            cases e1
            rw [← hcut, List.getElem?_take_of_lt ht, List.getElem?_drop, List.getElem?_map, e2]
            rfl
          refine ⟨c, rfl, ⟨_, SqL.of upd_same⟩, fun Dl hD => lc_1 walk_list yAt hD (fun t v _ => v = .bl (nxt heaps rows i j k t).isNone) ri_m ri_l (by omega) (fun H s5 => SqL.of (s5 _ _ upd_same)) (fun x => rfl) (fun t x H5 Q5 ht s5 hx5 q5 => ?_) fun H5 ys s5 hl5 aa => ?_⟩
          · rw [hcg t (by omega)] at hx5
            cases hx5
            cases ho : nxt heaps rows i j k t with
            | none =>
              simp only [oN]
              walk_at "go"
              exact q5 _ _ (Same.refl _) (by rw [ho]; rfl)
            | some n =>
              simp only [oN]
              walk_at "go"
              exact q5 _ _ (Same.refl _) (by rw [ho]; rfl)
          · have e := aa.eqs (f := fun t => .bl (nxt heaps rows i j k t).isNone)
            have e2 : (List.range cut.length).map (fun t => V.bl (nxt heaps rows i j k t).isNone) = ((List.range cut.length).map fun t => (nxt heaps rows i j k t).isNone).map V.bl := by
              rw [List.map_map]
              rfl
            rw [e, e2] at hl5
            walk_at "go"
            refine r_all hl5 ?_
            obtain ⟨t, ht, hn⟩ := ok.live i j k hi' hj' hk'
            have ef : ((List.range cut.length).map fun t => (nxt heaps rows i j k t).isNone).all id = false := by
              rw [List.all_map]
              apply Bool.eq_false_iff.mpr
              intro z
              have := List.all_eq_true.mp z t (List.mem_range.mpr (by omega))
              cases e : nxt heaps rows i j k t with
              | none => exact hn e
              | some n =>
                have this : (nxt heaps rows i j k t).isNone = true := this
                rw [e] at this
                cases this
            rw [ef]
            walk_at "go"
            exact ⟨s4.trans ((Same.new hc).trans s5), _, _, rfl⟩
        · rintro σ H4 ⟨s4, v4, v5, rfl⟩
          exact ⟨s3.trans s4, _, _, _, rfl⟩
      · rintro σ H3 ⟨s3, v3, v4, v5, rfl⟩
        exact ⟨s2.trans s3, _, _, _, _, _, rfl⟩
    · rintro σ H1 ⟨s1, v1, v2, v3, v4, v5, rfl⟩
      exact q _ s1
end

end TW

set_option Elab.async false
set_option linter.all false
set_option maxRecDepth 100000
set_option maxHeartbeats 4000000
namespace TW
open PySem PySem.Spec PyProof.Rows L2
local macro_rules | `(tactic| walk_at "st0") => `(tactic| with_reducible (first | refine r_seq ?_ | refine r_next ?_ | refine r_ret ?_ | refine r_retN ?_ | refine r_drop ?_ | refine r_asg ?_ | refine r_if ?_ | refine r_gName ?_ | refine r_par ?_ | refine r_c ?_ | refine r_cons ?_ | refine r_nil ?_ | refine r_op ?_ | refine r_CB ?_ | refine r_andV ?_ | refine r_orV ?_ | refine r_notV ?_ | refine r_tIf ?_ | refine r_B ?_ | refine r_Test ?_ | refine r_and ?_ | refine r_or ?_ | refine r_not ?_ | refine r_yes ?_ | refine r_bl ?_ | refine r_T ?_ | refine r_F ?_ | refine r_nT ?_ | refine r_nF ?_ | refine r_I0 ?_ | refine r_eqI ?_ | refine r_neI ?_ | refine r_eqB ?_ | refine r_neB ?_ | refine r_isN0 ?_ | refine r_isN1 ?_ | refine r_isN2 ?_ | refine r_notN0 ?_ | refine r_notN1 ?_ | refine r_notN2 ?_ | refine r_isNo ?_ | refine r_notNo ?_ | refine r_fld ?_ | refine r_sfld ?_ | refine r_tup ?_ | refine r_lst ?_ | refine r_call ?_ | refine r_make ?_ | refine r_sl ?_ | refine r_part ?_ | refine r_noPart ?_ | refine r_iList ?_ | refine r_iTup ?_ | refine r_iRng1 ?_ | refine r_iEnum ?_ | refine r_int1 ?_ | refine r_intB ?_ | refine r_abs ?_ | refine r_bm ?_ | refine r_lc ?_ | refine r_for ?_))
local macro_rules | `(tactic| walk_at "st") => `(tactic| first | walk_at "st0" | ((with_reducible refine' r_var ?e ?_); (case e => exact rfl)) | ((with_reducible refine' r_fldG ?e1 ?e2 ?e3 ?e4 ?_); (case e1 => assumption); (case e2 => assumption); (case e3 => assumption); (case e4 => exact rfl)) | ((with_reducible refine' r_isC ?e ?_); (case e => assumption)) | dsimp only)
local macro_rules | `(tactic| walk_at "go") => `(tactic| repeat (walk_at "st"))
section
variable {P : Program} {w : World} {K : PySem.W.Frag} {mg : Str → Option Value} {base : Heap} {B : Adr}
theorem Rp.row {H : Hp} {a : Addr} {r : List (Option Nat)} (h : H a = some (.lst (r.map oN))) : Rp H (.ref a) (dRowL r) := .lst h (RpA.os r)
theorem rp_del {H : Hp} {p C dx : Addr} {fs : List (Str × V)} {o : HO} (e : H p = some (.ins C dx fs)) : ∀ (d : PyData) (v : V), Rp H v d → Rp (upd H p o) v d := by
  have key : ∀ H2 : Hp, (∀ (a : Addr) (xs : List V), H a = some (.lst xs) → H2 a = some (.lst xs)) → (∀ (a : Addr) (xs : List V), H a = some (.tup xs) → H2 a = some (.tup xs)) → ∀ (d : PyData) (v : V), Rp H v d → Rp H2 v d := by
    intro H2 k1 k2 d v h
    exact Rp.rec (motive_1 := fun v d _ => Rp H2 v d) (motive_2 := fun vs ds _ => RpA H2 vs ds) .non .bl .int .str (fun h1 _ ih => .lst (k1 _ _ h1) ih) (fun h1 _ ih => .tup (k2 _ _ h1) ih) .nil (fun _ _ i1 i2 => .cons i1 i2) h
  exact key _ (fun a xs h => by rw [upd_ne (ne_of h e (by intro z; cases z))]; exact h) (fun a xs h => by rw [upd_ne (ne_of h e (by intro z; cases z))]; exact h)
theorem A2.bools {is : List Nat} {ys : List V} (h : A2 (fun _ y => ∃ b, y = .bl b) is ys) : ∃ bs : List Bool, ys = bs.map V.bl := by
  induction h with
  | nil => exact ⟨[], rfl⟩
  | cons r _ ih =>
    obtain ⟨b, rfl⟩ := r
    obtain ⟨bs, rfl⟩ := ih
    exact ⟨b :: bs, rfl⟩
theorem map_range_get {α β : Type} {l : List α} {f : α → β} (d : α) {n : Nat} (e : l.length = n) : (List.range n).map (fun i => f (l.getD i d)) = l.map f := by
  subst e
  refine List.ext_getElem (by simp) fun i h1 h2 => ?_
  have hi : i < l.length := by simpa using h1
  rw [List.getElem_map, List.getElem_map, List.getElem_range, List.getD_eq_getElem?_getD, List.getElem?_eq_getElem hi]
  rfl
theorem getD_of {α : Type} {l : List α} {i : Nat} {x d : α} (h : l[i]? = some x) : l.getD i d = x := by
  rw [List.getD_eq_getElem?_getD, h]
  rfl
theorem cdiv {i j : Int} (h : 0 < j) (h2 : j < 1073741824) : CDiv i j := ⟨h, h2⟩
theorem r_dsetdB {td ty tx : TE} {σ : L2.St} {H : Hp} {Q : VK} (h : td σ H fun x H1 => ∃ a n, x = .ref a ∧ H1 a = some (DB.DBO P w a n) ∧ ty σ H1 fun y H2 => tx σ H2 fun z H3 => ∃ (n : Nat) (b : Bool) (o : Option Nat), H3 a = some (DB.DBO P w a n) ∧ y = .bl b ∧ z = oN o ∧ n < sizeLine ∧
  ∀ (o' : Option Nat) (H4 : Hp), H4 = H3 ∨ H4 = upd H3 a (DB.DBO P w a (n + 1)) → Q (oN o') H4) : DB.tDSetdB P w td ty tx σ H Q := h
def spIsEvenLine : Sp := fun vs H Q _ => ∃ (a ans heaps : Nat) (r : List (Option Nat)), vs = [.ref a, .int (ans : Int), .int (heaps : Int)] ∧ H a = some (.lst (r.map oN)) ∧ r.length ≤ 36 ∧ 2 ≤ heaps ∧ heaps ≤ 3 ∧ ∀ b H', Same H H' → Q (.bl b) H'
theorem ok_is_even_line (T : Tx K mg B) : C8.Cal P w K mg base 1 "is_even_line" spIsEvenLine [] := by
  refine cal_of T.d_is_even_line scIsEvenLine (fun _ _ _ _ _ _ us hl => match us, hl with | [_, _, _], _ => rfl) (fun vs H Q E h => ?_) (fun f cdv AA outer s H vs Q E hr h => ?_)
  · first | (obtain ⟨_, rfl, _⟩ := h; rfl) | (obtain ⟨_, _, rfl, _⟩ := h; rfl) | (obtain ⟨_, _, _, rfl, _⟩ := h; rfl) | (obtain ⟨_, _, _, _, rfl, _⟩ := h; rfl) | (obtain ⟨_, _, _, _, _, rfl, _⟩ := h; rfl) | (obtain ⟨_, _, _, _, _, _, rfl, _⟩ := h; rfl) | (obtain ⟨_, _, _, _, _, _, _, rfl, _⟩ := h; rfl) | (obtain ⟨_, _, _, _, _, _, _, _, rfl, _⟩ := h; rfl) | (obtain ⟨_, _, _, _, _, _, _, _, _, rfl, _⟩ := h; rfl) | (obtain ⟨_, _, _, _, _, _, _, _, _, _, rfl, _⟩ := h; rfl) | (obtain ⟨_, _, _, _, _, _, _, _, _, _, _, rfl, _⟩ := h; rfl) | (obtain ⟨_, _, _, _, _, _, _, _, _, _, _, _, rfl, _⟩ := h; rfl) | (obtain ⟨_, _, _, _, _, _, _, _, _, _, _, _, _, rfl, _⟩ := h; rfl) | (obtain ⟨_, _, _, _, _, _, _, _, _, _, _, _, _, _, rfl, _⟩ := h; rfl) | (obtain ⟨_, _, _, _, _, _, _, _, _, _, _, _, _, _, _, rfl, _⟩ := h; rfl) | (obtain ⟨_, _, _, _, _, _, _, _, _, _, _, _, _, _, _, _, rfl, _⟩ := h; rfl) | (obtain ⟨_, _, _, _, _, _, _, _, _, _, _, _, _, _, _, _, _, rfl, _⟩ := h; rfl) | (obtain ⟨_, _, _, _, _, _, _, _, _, _, _, _, _, _, _, _, _, _, rfl, _⟩ := h; rfl) | (obtain ⟨_, _, _, _, _, _, _, _, _, _, _, _, _, _, _, _, _, _, _, rfl, _⟩ := h; rfl)
  · refine ⟨(tSeq (tAsg (DB.tDNewB P w) (gName 3))
    (tSeq (tFor (iEnum K (tCons (tVar 0) tNil)) (gTup K 2 (gCons (gName 4) (gCons (gName 5) gNil))) (tSeq (tAsg (tOp rEq (tOp qMod (tCB qInt1 (tCons (tOp qDiv (tVar 4) (tVar 2)) tNil)) (tVar 2)) (tOp qMod (tCB qInt1 (tCons (tVar 4) tNil)) (tVar 2))) (gName 6))
    (tIfS (tTest (tOp rNe (DB.tDSetdB P w (tVar 3) (tVar 6) (tVar 5)) (tVar 5))) (tRet (tC (.bl false))) tNext)))
    (tRet (tC (.bl true))))),
    (pss_cons (ps_set (i := 3) scIsEvenLine.nd rfl (Or.inl rfl) DB.pe_dnewB)
    (pss_cons (ps_for PassesOwn.never rfl (pi_enum (by rfl) T.f_enumerate (pa_cons (pv 0) pa_nil)) (pg_tup (by rfl) (pgs_cons (pg_name (i := 4) scIsEvenLine.nd rfl (Or.inl rfl)) (pgs_cons (pg_name (i := 5) scIsEvenLine.nd rfl (Or.inl rfl)) pgs_nil))) (pss_cons (ps_set (i := 6) scIsEvenLine.nd rfl (Or.inl rfl) (pe_cmpR op_eq (pe_op op_mod (pe_callTy call_int1 (by rfl) T.f_int (by decide +kernel) (pa_cons (pe_op op_fdiv (pv 4) (pv 2)) pa_nil)) (pv 2)) (pe_op op_mod (pe_callTy call_int1 (by rfl) T.f_int (by decide +kernel) (pa_cons (pv 4) pa_nil)) (pv 2)) (nomark _)))
    (pss_one (ps_if (pt_cmpR op_ne (DB.pe_dsetdB (pv 3) (pv 6) (pv 5) ⟨by rfl, by rfl, by rfl, by rfl⟩) (pv 5) (nomark _)) (pss_one (ps_ret pe_bl)) pss_nil))))
    (pss_one (ps_ret pe_bl)))), ?_⟩
    obtain ⟨a, ans, heaps, r, rfl, ha, hl, h2, h3, q⟩ := h
    walk_at "go"
    intro D hD
    walk_at "go"
    have s0 : Same H (upd H D (DB.DBO P w D 0)) := Same.new hD
    refine ⟨a, _, rfl, SqL.of (s0 _ _ ha), for_2 walk_enum (fun i σ H' => Same H H' ∧ (∃ n, n ≤ i ∧ H' D = some (DB.DBO P w D n)) ∧ ∃ v1 v2 v3, σ = [some (.ref a), some (.int (ans : Int)), some (.int (heaps : Int)), some (.ref D), v1, v2, v3]) ⟨s0, ⟨0, Nat.le_refl _, upd_same⟩, _, _, _, rfl⟩ (fun i σ H' _ p => SqL.of (p.1 _ _ ha)) ?_ ?_⟩
    · rintro i x y TT σ H1 hi ⟨s1, ⟨n, hn, eD⟩, v1, v2, v3, rfl⟩ hT hx hy
      cases hx
      obtain ⟨o, ho, rfl⟩ := map_get hy
      have sT := Same.newT (o := .tup [.int ((i : Nat) : Int), oN o]) s1 hT
      have eD2 : upd H1 TT (.tup [.int ((i : Nat) : Int), oN o]) D = some (DB.DBO P w D n) := by
        rw [upd_ne (ne_of_none eD hT)]
        exact eD
      generalize upd H1 TT (.tup [.int ((i : Nat) : Int), oN o]) = H2 at sT eD2 ⊢
      rw [List.length_map] at hi
      walk_at "go"
      refine r_I ?_ (cdiv (by omega) (by omega))
      walk_at "go"
      refine r_I ?_ (by omega)
      walk_at "go"
      refine r_I ?_ (by omega)
      walk_at "go"
      refine r_dsetdB ?_
      walk_at "go"
      refine ⟨D, n, rfl, eD2, ?_⟩
      walk_at "go"
      refine ⟨n, _, o, eD2, rfl, rfl, szT (by omega), fun o' H3 e3 => ?_⟩
      walk_at "go"
      have sm : Same H H3 ∧ ∃ n, n ≤ i + 1 ∧ H3 D = some (DB.DBO P w D n) := by
        rcases e3 with rfl | rfl
        · exact ⟨sT, n, by omega, eD2⟩
        · exact ⟨Same.mut sT hD, n + 1, by omega, upd_same⟩
      refine r_neO ?_
      walk_at "go"
      refine r_2 (fun _ => ?_) (fun _ => ?_)
      · walk_at "go"
        exact q _ _ sm.1
      · walk_at "go"
        exact ⟨sm.1, sm.2, _, _, _, rfl⟩
    · rintro σ H1 ⟨s1, _, v1, v2, v3, rfl⟩
      walk_at "go"
      exact q _ _ s1
def spIRule (B : Adr) : Sp := fun vs H Q _ => ∃ (G : Hp) (x dx a ans heaps : Nat) (rows : List (List (Option Nat))), vs = [.ref x, .int (ans : Int), .int (heaps : Int), .ref a] ∧ Same G H ∧ G x = none ∧ H x = some (.ins B.Rule dx []) ∧ Rp G (.ref a) (.list (rows.map dRowL)) ∧ RowsOk ans heaps rows ∧
  1 ≤ ans ∧ ans ≤ 4 ∧ 2 ≤ heaps ∧ heaps ≤ 3 ∧ ∀ H', Same G H' → RuleAt B H' x ans heaps rows → Q .non H'
theorem ok_Rule (T : Tx K mg B) : C8.Mak P w K mg base 4 "Rule" B.Rule (spIRule B) [] := by
  have c_need_sizes := ok_need_sizes (P := P) (w := w) (base := base) T
  have c_are_rows := ok_are_rows (P := P) (w := w) (base := base) T
  have c_need_live := ok_need_live (P := P) (w := w) (base := base) T
  have c_is_even_line := ok_is_even_line (P := P) (w := w) (base := base) T
  refine mak_of T.n_Rule T.g_Rule scRuleInit (fun _ _ _ _ _ _ us hl => match us, hl with | [_, _, _, _], _ => rfl) (fun vs H Q E h => ?_) (fun f cdv AA outer s H vs Q E hr h => ?_)
  · first | (obtain ⟨_, rfl, _⟩ := h; rfl) | (obtain ⟨_, _, rfl, _⟩ := h; rfl) | (obtain ⟨_, _, _, rfl, _⟩ := h; rfl) | (obtain ⟨_, _, _, _, rfl, _⟩ := h; rfl) | (obtain ⟨_, _, _, _, _, rfl, _⟩ := h; rfl) | (obtain ⟨_, _, _, _, _, _, rfl, _⟩ := h; rfl) | (obtain ⟨_, _, _, _, _, _, _, rfl, _⟩ := h; rfl) | (obtain ⟨_, _, _, _, _, _, _, _, rfl, _⟩ := h; rfl) | (obtain ⟨_, _, _, _, _, _, _, _, _, rfl, _⟩ := h; rfl) | (obtain ⟨_, _, _, _, _, _, _, _, _, _, rfl, _⟩ := h; rfl) | (obtain ⟨_, _, _, _, _, _, _, _, _, _, _, rfl, _⟩ := h; rfl) | (obtain ⟨_, _, _, _, _, _, _, _, _, _, _, _, rfl, _⟩ := h; rfl) | (obtain ⟨_, _, _, _, _, _, _, _, _, _, _, _, _, rfl, _⟩ := h; rfl) | (obtain ⟨_, _, _, _, _, _, _, _, _, _, _, _, _, _, rfl, _⟩ := h; rfl) | (obtain ⟨_, _, _, _, _, _, _, _, _, _, _, _, _, _, _, rfl, _⟩ := h; rfl) | (obtain ⟨_, _, _, _, _, _, _, _, _, _, _, _, _, _, _, _, rfl, _⟩ := h; rfl) | (obtain ⟨_, _, _, _, _, _, _, _, _, _, _, _, _, _, _, _, _, rfl, _⟩ := h; rfl) | (obtain ⟨_, _, _, _, _, _, _, _, _, _, _, _, _, _, _, _, _, _, rfl, _⟩ := h; rfl) | (obtain ⟨_, _, _, _, _, _, _, _, _, _, _, _, _, _, _, _, _, _, _, rfl, _⟩ := h; rfl)
  · refine ⟨(tSeq (tDrop (tCall spNeedSizes [] C8.E0 (tCons (tVar 1) (tCons (tVar 2) tNil))))
    (tSeq (tIfS (tNot (tB (tCall spAreRows [] C8.E0 (tCons (tVar 3) (tCons (tOp qMul (tOp qMul (tVar 1) (tVar 2)) (tVar 2)) tNil))))) tNever tNext)
    (tSeq (tDrop (tCall spNeedLive [] C8.E0 (tCons (tVar 1) (tCons (tVar 2) (tCons (tVar 3) tNil)))))
    (tSeq (tIfS (tTest (tOp qGt (tCB (Evl.rLenS K) (tCons (tVar 3) tNil)) (ClX.tCVal K (tC (.ref B.Rule)) "MOST"))) tNever tNext)
    (tSeq (sFld K (tVar 0) (tVar 1) "answerers")
    (tSeq (sFld K (tVar 0) (tVar 2) "heaps")
    (tSeq (sFld K (tVar 0) (tCB (qTupS K) (tCons (tLc (iList K (tVar 3)) (gName 4) tYes (tCB (qTupS K) (tCons (tCB (Evl.rListS K) (tCons (tVar 4) tNil)) tNil)) [4]) tNil)) "rows")
    (sFld K (tVar 0) (tCB (rAll K) (tCons (tLc (iList K (tVar 3)) (gName 4) tYes (tCall spIsEvenLine [] C8.E0 (tCons (tVar 4) (tCons (tVar 1) (tCons (tVar 2) tNil)))) [4]) tNil)) "is_even")))))))),
    (pss_cons (ps_expr (C8.pe_c c_need_sizes hr (by decide) rfl (pa_cons (pv 1) (pa_cons (pv 2) pa_nil))))
    (pss_cons (ps_if (pt_not (pt_val (C8.pe_c c_are_rows hr (by decide) rfl (pa_cons (pv 3) (pa_cons (pe_op op_mul (pe_op op_mul (pv 1) (pv 2)) (pv 2)) pa_nil))))) (pss_one ps_never) pss_nil)
    (pss_cons (ps_expr (C8.pe_c c_need_live hr (by decide) rfl (pa_cons (pv 1) (pa_cons (pv 2) (pa_cons (pv 3) pa_nil)))))
    (pss_cons (ps_if (pt_cmpR op_gt (pe_callB call_len_seq (by rfl) T.f_len (by decide +kernel) (pa_cons (pv 3) pa_nil)) (ClX.pe_cval (pe_glob rfl T.g_Rule rfl)) (nomark _)) (pss_one ps_never) pss_nil)
    (pss_cons (ps_fld (pv 0) (pv 1) rfl)
    (pss_cons (ps_fld (pv 0) (pv 2) rfl)
    (pss_cons (ps_fld (pv 0) (pe_callTy call_tuple_of (by rfl) T.f_tuple (by decide +kernel) (pa_cons (pe_lc (own := [("line", 4)]) (g := (gName 4)) (tt := tYes) (te := (tCB (qTupS K) (tCons (tCB (Evl.rListS K) (tCons (tVar 4) tNil)) tNil))) rfl scRuleInit.nd (pi_list (pv 3)) (blkOk_by (own := [("line", 4)]) (N := nRuleInit) (sc := defScope sRuleInit) (by decide +kernel)) (fun _ _ _ _ _ => (pg_name (i := 4) scRuleInit.nd rfl (Or.inl rfl))) (fun _ _ _ _ _ => pts_nil) (fun _ _ _ _ _ => (pe_callTy call_tuple_of (by rfl) T.f_tuple (by decide +kernel) (pa_cons (pe_callTy call_list_of (by rfl) T.f_list (by decide +kernel) (pa_cons (pv 4) pa_nil)) pa_nil)))) pa_nil)) rfl)
    (pss_one (ps_fld (pv 0) (pe_callB (cr_all rfl) (by rfl) T.f_all (by decide +kernel) (pa_cons (pe_lc (own := [("line", 4)]) (g := (gName 4)) (tt := tYes) (te := (tCall spIsEvenLine [] C8.E0 (tCons (tVar 4) (tCons (tVar 1) (tCons (tVar 2) tNil))))) rfl scRuleInit.nd (pi_list (pv 3)) (blkOk_by (own := [("line", 4)]) (N := nRuleInit) (sc := defScope sRuleInit) (by decide +kernel)) (fun _ _ _ _ _ => (pg_name (i := 4) scRuleInit.nd rfl (Or.inl rfl))) (fun _ _ _ _ _ => pts_nil) (fun _ _ _ _ _ => (C8.pe_c c_is_even_line hr (by decide) rfl (pa_cons (pv 4) (pa_cons (pv 1) (pa_cons (pv 2) pa_nil)))))) pa_nil)) rfl))))))))), ?_⟩
    have hCRule := T.c_Rule
    have hARule_answerers := T.a_Rule_answerers
    have hARule_heaps := T.a_Rule_heaps
    have hARule_rows := T.a_Rule_rows
    have hARule_is_even := T.a_Rule_is_even
    obtain ⟨G, x, dx, a, ans, heaps, rows, rfl, sG, hx, ex, hr, ok, l1, l2, l3, l4, q⟩ := h
    have hlen := ok.len
    obtain ⟨mc, mu, cr, cv⟩ := T.v_Rule_MOST
    obtain ⟨_, rs, hra, g1, g2⟩ := hr.lst_inv
    cases hra
    have hrs : rs.length = rows.length := by rw [g2.len, List.length_map]
    walk_at "go"
    refine ⟨ans, heaps, rfl, l1, l2, l3, l4, ?_⟩
    walk_at "go"
    refine r_I ?_ (.inl ⟨by omega, by omega⟩)
    walk_at "go"
    refine r_I ?_ (.inr ⟨by omega, by omega⟩)
    walk_at "go"
    refine ⟨a, ans, heaps, rows, rfl, hr.up sG, ok, l2, l4, fun H1 s1 => ?_⟩
    walk_at "go"
    have sG1 := sG.trans s1
    have ex1 := s1 _ _ ex
    refine ⟨ans, heaps, a, rows, rfl, hr.up sG1, ok, l2, l4, fun H2 s2 => ?_⟩
    have sG2 := sG1.trans s2
    have ex2 := s2 _ _ ex1
    walk_at "go"
    refine r_lenL (sG2 _ _ g1) ?_
    walk_at "go"
    refine ⟨_, mc, _, mu, rfl, cr, cv, ?_⟩
    walk_at "go"
    refine r_dF (by omega) ?_
    walk_at "go"
    refine r_stG ex2 hCRule hARule_answerers (by decide) ?_
    walk_at "go"
    refine r_stG upd_same hCRule hARule_heaps (by show 1 < 1000; omega) ?_
    rw [upd_upd]
    have sG3 : Same G (upd H2 x (.ins B.Rule dx (putF "heaps" (.int (heaps : Int)) (putF "answerers" (.int (ans : Int)) [])))) := Same.mut sG2 hx
    have ex3 : (upd H2 x (.ins B.Rule dx (putF "heaps" (.int (heaps : Int)) (putF "answerers" (.int (ans : Int)) [])))) x = some (.ins B.Rule dx (putF "heaps" (.int (heaps : Int)) (putF "answerers" (.int (ans : Int)) []))) := upd_same
    generalize upd H2 x (.ins B.Rule dx (putF "heaps" (.int (heaps : Int)) (putF "answerers" (.int (ans : Int)) []))) = H3 at sG3 ex3 ⊢
    walk_at "go"
    refine ⟨a, rfl, ⟨rs, SqL.of (sG3 _ _ g1)⟩, fun Dl hD => lc_1 walk_list yAt hD (fun i v H => Rp H v (dRow (rows.getD i []))) rd_m (rd_l fun i => by unfold dRow; exact noL_row _) (by omega) (fun H s4 => SqL.of (s4 _ _ (sG3 _ _ g1))) (fun x => rfl) (fun i x H4 Q4 hi s4 hx4 q4 => ?_) fun H4 ys s4 hl4 aa => ?_⟩
    · obtain ⟨r, p, hr4, rfl, hp⟩ := rows_inv (g2.up (sG3.trans s4)) hx4
      walk_at "go"
      refine r_listL hp fun l hl => ?_
      walk_at "go"
      refine r_tupL upd_same fun t ht => ?_
      refine q4 _ _ ((Same.new hl).trans (Same.new ht)) ?_
      rw [getD_of hr4]
      exact .tup upd_same (RpA.os r)
    · have aa' := aa.rp
      rw [map_range_get [] hrs.symm] at aa'
      walk_at "go"
      refine r_tupL hl4 fun t ht => ?_
      have hrp : Rp (upd H4 t (.tup ys)) (.ref t) (.tuple (rows.map dRow)) := .tup upd_same (aa'.up (Same.new ht))
      have sG5 := sG3.trans (s4.trans (Same.new (o := .tup ys) ht))
      have ex5 := Same.new (o := .tup ys) ht _ _ (s4 _ _ ex3)
      generalize upd H4 t (.tup ys) = H5 at hrp sG5 ex5 ⊢
      walk_at "go"
      refine r_stG ex5 hCRule hARule_rows (by show 2 < 1000; omega) ?_
      have hrp6 := rp_del (o := .ins B.Rule dx (putF "rows" (.ref t) (putF "heaps" (.int (heaps : Int)) (putF "answerers" (.int (ans : Int)) [])))) ex5 _ _ hrp
      have sG6 := Same.mut (o := .ins B.Rule dx (putF "rows" (.ref t) (putF "heaps" (.int (heaps : Int)) (putF "answerers" (.int (ans : Int)) [])))) sG5 hx
      have ex6 : upd H5 x (.ins B.Rule dx (putF "rows" (.ref t) (putF "heaps" (.int (heaps : Int)) (putF "answerers" (.int (ans : Int)) [])))) x = some (.ins B.Rule dx (putF "rows" (.ref t) (putF "heaps" (.int (heaps : Int)) (putF "answerers" (.int (ans : Int)) [])))) := upd_same
      generalize upd H5 x (.ins B.Rule dx (putF "rows" (.ref t) (putF "heaps" (.int (heaps : Int)) (putF "answerers" (.int (ans : Int)) [])))) = H6 at hrp6 sG6 ex6 ⊢
      walk_at "go"
      refine ⟨a, rfl, ⟨rs, SqL.of (sG6 _ _ g1)⟩, fun De hE => lc_1 walk_list yAt hE (fun _ v _ => ∃ b, v = .bl b) (fun _ _ _ _ _ h => h) (fun _ _ _ _ _ _ _ h => h) (by omega) (fun H s4 => SqL.of (s4 _ _ (sG6 _ _ g1))) (fun x => rfl) (fun i x H7 Q7 hi s7 hx7 q7 => ?_) fun H7 zs s7 hl7 bb => ?_⟩
      · obtain ⟨r, p, hr7, rfl, hp⟩ := rows_inv (g2.up (sG6.trans s7)) hx7
        have hsz : r.length ≤ 36 := by
          rw [ok.each r (List.mem_of_getElem? hr7)]
          have e1 : ans * heaps ≤ 4 * 3 := Nat.mul_le_mul l2 l4
          have e2 : ans * heaps * heaps ≤ 12 * 3 := Nat.mul_le_mul e1 l4
          omega
        walk_at "go"
        refine ⟨p, ans, heaps, r, rfl, hp, hsz, l3, l4, fun b H8 s8 => ?_⟩
        exact q7 _ _ s8 ⟨b, rfl⟩
      · obtain ⟨bs, rfl⟩ := bb.bools
        walk_at "go"
        refine r_all hl7 ?_
        walk_at "go"
        refine r_stG (s7 _ _ ex6) hCRule hARule_is_even (by show 3 < 1000; omega) ?_
        walk_at "go"
        exact q _ (Same.mut (sG6.trans s7) hx) ⟨dx, t, _, upd_same, rp_del (s7 _ _ ex6) _ _ (hrp6.up s7)⟩
end

end TW

set_option Elab.async false
set_option linter.all false
set_option maxRecDepth 100000
set_option maxHeartbeats 4000000
namespace TW
open PySem PySem.Spec PyProof.Rows L2
local macro_rules | `(tactic| walk_at "st0") => `(tactic| with_reducible (first | refine r_seq ?_ | refine r_next ?_ | refine r_ret ?_ | refine r_retN ?_ | refine r_drop ?_ | refine r_asg ?_ | refine r_if ?_ | refine r_gName ?_ | refine r_par ?_ | refine r_c ?_ | refine r_cons ?_ | refine r_nil ?_ | refine r_op ?_ | refine r_CB ?_ | refine r_andV ?_ | refine r_orV ?_ | refine r_notV ?_ | refine r_tIf ?_ | refine r_B ?_ | refine r_Test ?_ | refine r_and ?_ | refine r_or ?_ | refine r_not ?_ | refine r_yes ?_ | refine r_bl ?_ | refine r_T ?_ | refine r_F ?_ | refine r_nT ?_ | refine r_nF ?_ | refine r_I0 ?_ | refine r_eqI ?_ | refine r_neI ?_ | refine r_eqB ?_ | refine r_neB ?_ | refine r_isN0 ?_ | refine r_isN1 ?_ | refine r_isN2 ?_ | refine r_notN0 ?_ | refine r_notN1 ?_ | refine r_notN2 ?_ | refine r_isNo ?_ | refine r_notNo ?_ | refine r_fld ?_ | refine r_sfld ?_ | refine r_tup ?_ | refine r_lst ?_ | refine r_call ?_ | refine r_make ?_ | refine r_sl ?_ | refine r_part ?_ | refine r_noPart ?_ | refine r_iList ?_ | refine r_iTup ?_ | refine r_iRng1 ?_ | refine r_iEnum ?_ | refine r_int1 ?_ | refine r_intB ?_ | refine r_abs ?_ | refine r_bm ?_ | refine r_lc ?_ | refine r_for ?_))
local macro_rules | `(tactic| walk_at "st") => `(tactic| first | walk_at "st0" | ((with_reducible refine' r_var ?e ?_); (case e => exact rfl)) | ((with_reducible refine' r_fldG ?e1 ?e2 ?e3 ?e4 ?_); (case e1 => assumption); (case e2 => assumption); (case e3 => assumption); (case e4 => exact rfl)) | ((with_reducible refine' r_isC ?e ?_); (case e => assumption)) | dsimp only)
local macro_rules | `(tactic| walk_at "go") => `(tactic| repeat (walk_at "st"))
section
variable {P : Program} {w : World} {K : PySem.W.Frag} {mg : Str → Option Value} {base : Heap} {B : Adr}
theorem r_gSub {to ti : TE} {t : TSet} {v : V} {σ : L2.St} {H : Hp} {QS : L2.St → Hp → Prop} (h : to σ H fun o H1 => ti σ H1 fun i H2 => t o i v H2 fun H3 => QS σ H3) : gSub to ti t v σ H QS := h
theorem vN_ints (ns : List Nat) : vN ns = (ns.map fun n : Nat => (n : Int)).map V.int := by
  unfold vN
  rw [List.map_map]
  rfl
def spIQuestion (B : Adr) : Sp := fun vs H Q _ => ∃ (G : Hp) (x dx hp who : Nat) (hs : List Nat), vs = [.ref x, .int (who : Int), .ref hp] ∧ Same G H ∧ G x = none ∧ H x = some (.ins B.Question dx []) ∧ G hp = some (.tup (vN hs)) ∧ who ≤ 3 ∧ (∀ h ∈ hs, h ≤ 2) ∧ 1 ≤ hs.length ∧ hs.length ≤ 4 ∧
  ∀ H', Same G H' → QAt B H' x (who, hs) → Q .non H'
theorem ok_Question (T : Tx K mg B) : C8.Mak P w K mg base 4 "Question" B.Question (spIQuestion B) [] := by
  have c_is_within := ok_is_within (P := P) (w := w) (base := base) T
  have c_are_within := ok_are_within (P := P) (w := w) (base := base) T
  refine mak_of T.n_Question T.g_Question scQuestionInit (fun _ _ _ _ _ _ us hl => match us, hl with | [_, _, _], _ => rfl) (fun vs H Q E h => ?_) (fun f cdv AA outer s H vs Q E hr h => ?_)
  · first | (obtain ⟨_, rfl, _⟩ := h; rfl) | (obtain ⟨_, _, rfl, _⟩ := h; rfl) | (obtain ⟨_, _, _, rfl, _⟩ := h; rfl) | (obtain ⟨_, _, _, _, rfl, _⟩ := h; rfl) | (obtain ⟨_, _, _, _, _, rfl, _⟩ := h; rfl) | (obtain ⟨_, _, _, _, _, _, rfl, _⟩ := h; rfl) | (obtain ⟨_, _, _, _, _, _, _, rfl, _⟩ := h; rfl) | (obtain ⟨_, _, _, _, _, _, _, _, rfl, _⟩ := h; rfl) | (obtain ⟨_, _, _, _, _, _, _, _, _, rfl, _⟩ := h; rfl) | (obtain ⟨_, _, _, _, _, _, _, _, _, _, rfl, _⟩ := h; rfl) | (obtain ⟨_, _, _, _, _, _, _, _, _, _, _, rfl, _⟩ := h; rfl) | (obtain ⟨_, _, _, _, _, _, _, _, _, _, _, _, rfl, _⟩ := h; rfl) | (obtain ⟨_, _, _, _, _, _, _, _, _, _, _, _, _, rfl, _⟩ := h; rfl) | (obtain ⟨_, _, _, _, _, _, _, _, _, _, _, _, _, _, rfl, _⟩ := h; rfl) | (obtain ⟨_, _, _, _, _, _, _, _, _, _, _, _, _, _, _, rfl, _⟩ := h; rfl) | (obtain ⟨_, _, _, _, _, _, _, _, _, _, _, _, _, _, _, _, rfl, _⟩ := h; rfl) | (obtain ⟨_, _, _, _, _, _, _, _, _, _, _, _, _, _, _, _, _, rfl, _⟩ := h; rfl) | (obtain ⟨_, _, _, _, _, _, _, _, _, _, _, _, _, _, _, _, _, _, rfl, _⟩ := h; rfl) | (obtain ⟨_, _, _, _, _, _, _, _, _, _, _, _, _, _, _, _, _, _, _, rfl, _⟩ := h; rfl)
  · refine ⟨(tSeq (tIfS (tNot (tB (tCall spIsWithin [] C8.E0 (tCons (tVar 1) (tCons (tC (.int 0)) (tCons (tC (.int 3)) tNil)))))) tNever tNext)
    (tSeq (tIfS (tOr (tNot (tB (tCall spAreWithin [] C8.E0 (tCons (tVar 2) (tCons (tC (.int 0)) (tCons (tC (.int 2)) tNil)))))) (tTest (tOp rEq (tCB (Evl.rLenS K) (tCons (tVar 2) tNil)) (tC (.int 0))))) tNever tNext)
    (tSeq (tIfS (tTest (tOp qGt (tCB (Evl.rLenS K) (tCons (tVar 2) tNil)) (tC (.int 16)))) tNever tNext)
    (tSeq (sFld K (tVar 0) (tVar 1) "who")
    (tSeq (sFld K (tVar 0) (tCB (qTupS K) (tCons (tCB (Evl.rListS K) (tCons (tVar 2) tNil)) tNil)) "heaps")
    (sFld K (tVar 0) (tCB (rAll K) (tCons (tLc (iTup K (tFld K (tVar 0) "heaps")) (gName 3) tYes (tOp rEq (tVar 3) (tOp (rIxT K) (tFld K (tVar 0) "heaps") (tC (.int 0)))) [3]) tNil)) "is_idle")))))),
    (pss_cons (ps_if (pt_not (pt_val (C8.pe_c c_is_within hr (by decide) rfl (pa_cons (pv 1) (pa_cons pe_int (pa_cons (C8.pe_gc rfl T.k_MOST_WHO) pa_nil)))))) (pss_one ps_never) pss_nil)
    (pss_cons (ps_if (PW.pt (pw_or (pt_not (pt_val (C8.pe_c c_are_within hr (by decide) rfl (pa_cons (pv 2) (pa_cons pe_int (pa_cons (C8.pe_gc rfl T.k_MOST_HEAP) pa_nil)))))) (pw_or1 (pt_cmpR op_eq (pe_callB call_len_seq (by rfl) T.f_len (by decide +kernel) (pa_cons (pv 2) pa_nil)) pe_int (nomark _))))) (pss_one ps_never) pss_nil)
    (pss_cons (ps_if (pt_cmpR op_gt (pe_callB call_len_seq (by rfl) T.f_len (by decide +kernel) (pa_cons (pv 2) pa_nil)) (C8.pe_gc rfl T.k_MOST_THINGS) (nomark _)) (pss_one ps_never) pss_nil)
    (pss_cons (ps_fld (pv 0) (pv 1) rfl)
    (pss_cons (ps_fld (pv 0) (pe_callTy call_tuple_of (by rfl) T.f_tuple (by decide +kernel) (pa_cons (pe_callTy call_list_of (by rfl) T.f_list (by decide +kernel) (pa_cons (pv 2) pa_nil)) pa_nil)) rfl)
    (pss_one (ps_fld (pv 0) (pe_callB (cr_all rfl) (by rfl) T.f_all (by decide +kernel) (pa_cons (pe_lc (own := [("heap", 3)]) (g := (gName 3)) (tt := tYes) (te := (tOp rEq (tVar 3) (tOp (rIxT K) (tFld K (tVar 0) "heaps") (tC (.int 0))))) rfl scQuestionInit.nd (pi_tup (pe_fld (pv 0) rfl)) (blkOk_by (own := [("heap", 3)]) (N := nQuestionInit) (sc := defScope sQuestionInit) (by decide +kernel)) (fun _ _ _ _ _ => (pg_name (i := 3) scQuestionInit.nd rfl (Or.inl rfl))) (fun _ _ _ _ _ => pts_nil) (fun _ _ _ _ _ => (pe_cmpR op_eq (pv 3) (pe_ix ix_tup (pe_fld (pv 0) rfl) pe_int (fun _ _ => rfl)) (nomark _)))) pa_nil)) rfl))))))), ?_⟩
    have hCQuestion := T.c_Question
    have hAQuestion_who := T.a_Question_who
    have hAQuestion_heaps := T.a_Question_heaps
    have hAQuestion_is_idle := T.a_Question_is_idle
    obtain ⟨G, x, dx, hp, who, hs, rfl, sG, hx, ex, ehp, hw, hh, l1, l2, q⟩ := h
    walk_at "go"
    refine ⟨(who : Int), some 0, some 3, rfl, ?_⟩
    rw [within_ok (by omega) (by omega)]
    walk_at "go"
    have e0 := sG _ _ ehp
    refine ⟨hp, hs.map fun n : Nat => (n : Int), some 0, some 2, rfl, .inr (by rw [← vN_ints]; exact e0), by rw [List.length_map]; omega, fun n hn => ?_, fun H1 s1 => ?_⟩
    · obtain ⟨m, hm, rfl⟩ := List.mem_map.mp hn
      have := hh m hm
      exact within_ok (by omega) (by omega)
    have sG1 := sG.trans s1
    have ex1 := s1 _ _ ex
    have e1 := s1 _ _ e0
    walk_at "go"
    refine r_lenT e1 ?_
    walk_at "go"
    rw [vN_len]
    refine r_dF (by omega) ?_
    walk_at "go"
    refine r_lenT e1 ?_
    walk_at "go"
    rw [vN_len]
    refine r_dF (by omega) ?_
    walk_at "go"
    refine r_stG ex1 hCQuestion hAQuestion_who (by decide) ?_
    have sG2 := Same.mut (o := .ins B.Question dx (putF "who" (.int (who : Int)) [])) sG1 hx
    have ex2 : upd H1 x (.ins B.Question dx (putF "who" (.int (who : Int)) [])) x = some (.ins B.Question dx (putF "who" (.int (who : Int)) [])) := upd_same
    generalize upd H1 x (.ins B.Question dx (putF "who" (.int (who : Int)) [])) = H2 at sG2 ex2 ⊢
    walk_at "go"
    refine r_listT (sG2 _ _ ehp) fun l hl => ?_
    walk_at "go"
    refine r_tupL upd_same fun t ht => ?_
    have sn : Same H2 (upd (upd H2 l (.lst (vN hs))) t (.tup (vN hs))) := (Same.new hl).trans (Same.new ht)
    have et : upd (upd H2 l (.lst (vN hs))) t (.tup (vN hs)) t = some (.tup (vN hs)) := upd_same
    have sG3 := sG2.trans sn
    have ex3 := sn _ _ ex2
    generalize upd (upd H2 l (.lst (vN hs))) t (.tup (vN hs)) = H3 at sn et sG3 ex3 ⊢
    walk_at "go"
    refine r_stG ex3 hCQuestion hAQuestion_heaps (by show 1 < 1000; omega) ?_
    have htx : t ≠ x := ne_of et ex3 (by intro z; cases z)
    have sG4 := Same.mut (o := .ins B.Question dx (putF "heaps" (.ref t) (putF "who" (.int (who : Int)) []))) sG3 hx
    have ex4 : upd H3 x (.ins B.Question dx (putF "heaps" (.ref t) (putF "who" (.int (who : Int)) []))) x = some (.ins B.Question dx [("who", .int (who : Int)), ("heaps", .ref t)]) := upd_same
    have et4 : upd H3 x (.ins B.Question dx (putF "heaps" (.ref t) (putF "who" (.int (who : Int)) []))) t = some (.tup (vN hs)) := by
      rw [upd_ne htx]
      exact et
    generalize upd H3 x (.ins B.Question dx (putF "heaps" (.ref t) (putF "who" (.int (who : Int)) []))) = H4 at sG4 ex4 et4 ⊢
    obtain ⟨h0, hs', rfl⟩ : ∃ h0 hs', hs = h0 :: hs' := by
      cases hs with
      | nil => exact absurd l1 (by decide)
      | cons a b => exact ⟨a, b, rfl⟩
    walk_at "go"
    refine ⟨t, rfl, ⟨_, SqT.of et4⟩, fun Dl hD => lc_1 walk_tup yAt hD (fun _ v _ => ∃ b, v = .bl b) (fun _ _ _ _ _ h => h) (fun _ _ _ _ _ _ _ h => h) (by rw [vN_len]; omega) (fun H s4 => SqT.of (s4 _ _ et4)) (fun x => rfl) (fun i y H5 Q5 hi s5 hy q5 => ?_) fun H5 ys s5 hl5 aa => ?_⟩
    · obtain ⟨n, hn, rfl⟩ := vN_of hy
      have ex5 := s5 _ _ ex4
      walk_at "go"
      refine r_ixT (k := 0) (s5 _ _ et4) rfl ?_
      walk_at "go"
      exact q5 _ _ (Same.refl _) ⟨_, rfl⟩
    · obtain ⟨bs, rfl⟩ := aa.bools
      walk_at "go"
      refine r_all hl5 ?_
      walk_at "go"
      refine r_stG (s5 _ _ ex4) hCQuestion hAQuestion_is_idle (by show 2 < 1000; omega) ?_
      walk_at "go"
      refine q _ (Same.mut (sG4.trans s5) hx) ⟨dx, t, _, upd_same, ?_⟩
      rw [upd_ne htx]
      exact s5 _ _ et4
def spIsFitting (B : Adr) : Sp := fun vs H Q _ => ∃ (a things ans heaps : Nat) (q : Nat × List Nat), vs = [.ref a, .int (things : Int), .int (ans : Int), .int (heaps : Int)] ∧ QAt B H a q ∧ QOk things ans heaps q ∧ 1 ≤ things ∧ things ≤ 4 ∧ Q (.bl true) H
theorem ok_is_fitting (T : Tx K mg B) : C8.Cal P w K mg base 1 "is_fitting" (spIsFitting B) [] := by
  refine cal_of T.d_is_fitting scIsFitting (fun _ _ _ _ _ _ us hl => match us, hl with | [_, _, _, _], _ => rfl) (fun vs H Q E h => ?_) (fun f cdv AA outer s H vs Q E hr h => ?_)
  · first | (obtain ⟨_, rfl, _⟩ := h; rfl) | (obtain ⟨_, _, rfl, _⟩ := h; rfl) | (obtain ⟨_, _, _, rfl, _⟩ := h; rfl) | (obtain ⟨_, _, _, _, rfl, _⟩ := h; rfl) | (obtain ⟨_, _, _, _, _, rfl, _⟩ := h; rfl) | (obtain ⟨_, _, _, _, _, _, rfl, _⟩ := h; rfl) | (obtain ⟨_, _, _, _, _, _, _, rfl, _⟩ := h; rfl) | (obtain ⟨_, _, _, _, _, _, _, _, rfl, _⟩ := h; rfl) | (obtain ⟨_, _, _, _, _, _, _, _, _, rfl, _⟩ := h; rfl) | (obtain ⟨_, _, _, _, _, _, _, _, _, _, rfl, _⟩ := h; rfl) | (obtain ⟨_, _, _, _, _, _, _, _, _, _, _, rfl, _⟩ := h; rfl) | (obtain ⟨_, _, _, _, _, _, _, _, _, _, _, _, rfl, _⟩ := h; rfl) | (obtain ⟨_, _, _, _, _, _, _, _, _, _, _, _, _, rfl, _⟩ := h; rfl) | (obtain ⟨_, _, _, _, _, _, _, _, _, _, _, _, _, _, rfl, _⟩ := h; rfl) | (obtain ⟨_, _, _, _, _, _, _, _, _, _, _, _, _, _, _, rfl, _⟩ := h; rfl) | (obtain ⟨_, _, _, _, _, _, _, _, _, _, _, _, _, _, _, _, rfl, _⟩ := h; rfl) | (obtain ⟨_, _, _, _, _, _, _, _, _, _, _, _, _, _, _, _, _, rfl, _⟩ := h; rfl) | (obtain ⟨_, _, _, _, _, _, _, _, _, _, _, _, _, _, _, _, _, _, rfl, _⟩ := h; rfl) | (obtain ⟨_, _, _, _, _, _, _, _, _, _, _, _, _, _, _, _, _, _, _, rfl, _⟩ := h; rfl)
  · refine ⟨(tSeq (tIfS (tOr (tNot (tB (tCB (rIsC B.Question) (tCons (tVar 0) (tCons (tC (.ref B.Question)) tNil))))) (tTest (tOp rNe (tCB (Evl.rLenS K) (tCons (tFld K (tVar 0) "heaps") tNil)) (tVar 1)))) (tRet (tC (.bl false))) tNext)
    (tRet (tAndV (tOp qLt (tFld K (tVar 0) "who") (tVar 2)) (tOp qLt (tCB (EZ.rMaxT K) (tCons (tFld K (tVar 0) "heaps") tNil)) (tVar 3))))),
    (pss_cons (ps_if (PW.pt (pw_or (pt_not (pt_val (pe_callB (C8.call_isC T.i_Question) (by rfl) T.f_isinstance (by decide +kernel) (pa_cons (pv 0) (pa_cons (pe_glob rfl T.g_Question rfl) pa_nil))))) (pw_or1 (pt_cmpR op_ne (pe_callB call_len_seq (by rfl) T.f_len (by decide +kernel) (pa_cons (pe_fld (pv 0) rfl) pa_nil)) (pv 1) (nomark _))))) (pss_one (ps_ret pe_bl)) pss_nil)
    (pss_one (ps_ret (pe_and (pe_cmpR op_lt (pe_fld (pv 0) rfl) (pv 2) (nomark _)) (pe_one (pe_cmpR op_lt (pe_callB (EZ.cr_maxT rfl hr.units) (by rfl) T.f_max (by decide +kernel) (pa_cons (pe_fld (pv 0) rfl) pa_nil)) (pv 3) (nomark _))))))), ?_⟩
    have hCQuestion := T.c_Question
    have hAQuestion_heaps := T.a_Question_heaps
    have hAQuestion_who := T.a_Question_who
    obtain ⟨a, things, ans, heaps, qq, rfl, ⟨dx, hp, idle, e1, e2⟩, ⟨o1, o2, o3⟩, l1, l2, q⟩ := h
    walk_at "go"
    refine r_lenT e2 ?_
    walk_at "go"
    rw [vN_len, o2, decide_eq_true rfl]
    walk_at "go"
    refine r_dT (by omega) ?_
    walk_at "go"
    refine ⟨hp, qq.2.map fun n : Nat => (n : Int), rfl, by rw [← vN_ints]; exact SqT.of e2, by rw [List.length_map]; omega, fun m hm => ?_⟩
    obtain ⟨n, hn, rfl⟩ := List.mem_map.mp hm
    walk_at "go"
    have := o3 n hn
    rw [decide_eq_true (by omega)]
    exact q
def spFirstAgain (B : Adr) : Sp := fun vs H Q _ => ∃ (a : Nat) (ws : List V) (qs : List (Nat × List Nat)), vs = [.ref a] ∧ H a = some (.lst ws) ∧ QsAt B H ws qs ∧ qs.Nodup ∧ qs.length ≤ 64 ∧ ∀ H', Same H H' → Q .non H'
theorem key_upd {H : Hp} {q : Nat × List Nat} {b D : Addr} {xs : List (DN.QK × Addr)} {o : HO} (h : DN.KeyAt H q b) (e : H D = some (DN.DNO P w D xs)) : DN.KeyAt (upd H D o) q b := by
  obtain ⟨p, h1, h2⟩ := h
  refine ⟨p, ?_, ?_⟩
  · rw [upd_ne (ne_of h1 e (by intro z; cases z))]
    exact h1
  · rw [upd_ne (ne_of h2 e (by intro z; cases z))]
    exact h2
theorem ok_first_again (T : Tx K mg B) : C8.Cal P w K mg base 1 "first_again" (spFirstAgain B) [] := by
  refine cal_of T.d_first_again scFirstAgain (fun _ _ _ _ _ _ us hl => match us, hl with | [_], _ => rfl) (fun vs H Q E h => ?_) (fun f cdv AA outer s H vs Q E hr h => ?_)
  · first | (obtain ⟨_, rfl, _⟩ := h; rfl) | (obtain ⟨_, _, rfl, _⟩ := h; rfl) | (obtain ⟨_, _, _, rfl, _⟩ := h; rfl) | (obtain ⟨_, _, _, _, rfl, _⟩ := h; rfl) | (obtain ⟨_, _, _, _, _, rfl, _⟩ := h; rfl) | (obtain ⟨_, _, _, _, _, _, rfl, _⟩ := h; rfl) | (obtain ⟨_, _, _, _, _, _, _, rfl, _⟩ := h; rfl) | (obtain ⟨_, _, _, _, _, _, _, _, rfl, _⟩ := h; rfl) | (obtain ⟨_, _, _, _, _, _, _, _, _, rfl, _⟩ := h; rfl) | (obtain ⟨_, _, _, _, _, _, _, _, _, _, rfl, _⟩ := h; rfl) | (obtain ⟨_, _, _, _, _, _, _, _, _, _, _, rfl, _⟩ := h; rfl) | (obtain ⟨_, _, _, _, _, _, _, _, _, _, _, _, rfl, _⟩ := h; rfl) | (obtain ⟨_, _, _, _, _, _, _, _, _, _, _, _, _, rfl, _⟩ := h; rfl) | (obtain ⟨_, _, _, _, _, _, _, _, _, _, _, _, _, _, rfl, _⟩ := h; rfl) | (obtain ⟨_, _, _, _, _, _, _, _, _, _, _, _, _, _, _, rfl, _⟩ := h; rfl) | (obtain ⟨_, _, _, _, _, _, _, _, _, _, _, _, _, _, _, _, rfl, _⟩ := h; rfl) | (obtain ⟨_, _, _, _, _, _, _, _, _, _, _, _, _, _, _, _, _, rfl, _⟩ := h; rfl) | (obtain ⟨_, _, _, _, _, _, _, _, _, _, _, _, _, _, _, _, _, _, rfl, _⟩ := h; rfl) | (obtain ⟨_, _, _, _, _, _, _, _, _, _, _, _, _, _, _, _, _, _, _, rfl, _⟩ := h; rfl)
  · refine ⟨(tSeq (tAsg (DN.tDNewN P w) (gName 1))
    (tSeq (tFor (iEnum K (tCons (tVar 0) tNil)) (gTup K 2 (gCons (gName 2) (gCons (gName 3) gNil))) (tSeq (tIfS (tTest (tOp (DN.rInN P w) (tTup (tCons (tFld K (tVar 3) "who") (tCons (tFld K (tVar 3) "heaps") tNil))) (tVar 1))) (tRet (tVar 2)) tNext)
    (tAsg (tC (.bl true)) (gSub (tVar 1) (tTup (tCons (tFld K (tVar 3) "who") (tCons (tFld K (tVar 3) "heaps") tNil))) (DN.rSetN P w)))))
    (tRet (tC .non)))),
    (pss_cons (ps_set (i := 1) scFirstAgain.nd rfl (Or.inl rfl) DN.pe_dnewN)
    (pss_cons (ps_for PassesOwn.never rfl (pi_enum (by rfl) T.f_enumerate (pa_cons (pv 0) pa_nil)) (pg_tup (by rfl) (pgs_cons (pg_name (i := 2) scFirstAgain.nd rfl (Or.inl rfl)) (pgs_cons (pg_name (i := 3) scFirstAgain.nd rfl (Or.inl rfl)) pgs_nil))) (pss_cons (ps_if (pt_cmpR (DN.op_inN hr) (pe_tup (pa_cons (pe_fld (pv 3) rfl) (pa_cons (pe_fld (pv 3) rfl) pa_nil))) (pv 1) (by rfl)) (pss_one (ps_ret (pv 2))) pss_nil)
    (pss_one (ps_asg pe_bl (pg_sub (pv 1) (pe_tup (pa_cons (pe_fld (pv 3) rfl) (pa_cons (pe_fld (pv 3) rfl) pa_nil))) (DN.set_nest hr))))))
    (pss_one (ps_ret pe_non)))), ?_⟩
    have hCQuestion := T.c_Question
    have hAQuestion_heaps := T.a_Question_heaps
    have hAQuestion_who := T.a_Question_who
    obtain ⟨a, ws, qs, rfl, ha, hq, nd, hl, q⟩ := h
    have hlen := hq.len
    walk_at "go"
    intro D hD
    walk_at "go"
    have s0 : Same H (upd H D (DN.DNO P w D [])) := Same.new hD
    refine ⟨a, ws, rfl, SqL.of (s0 _ _ ha), for_2 walk_enum (fun i σ H' => Same H H' ∧ (∃ xs, DN.At P w H' D xs ∧ xs.map (·.1) = qs.take i) ∧ ∃ v1 v2, σ = [some (.ref a), some (.ref D), v1, v2]) ⟨s0, ⟨[], ⟨upd_same, fun _ z => (nomatch z), List.nodup_nil⟩, rfl⟩, _, _, rfl⟩ (fun i σ H' _ p => SqL.of (p.1 _ _ ha)) ?_ ?_⟩
    · rintro i x y TT σ H1 hi ⟨s1, ⟨xs, d1, ex1⟩, v1, v2, rfl⟩ hT hx hy
      cases hx
      have hi' : i < qs.length := by omega
      obtain ⟨b, hb, hqa⟩ := hq.get (List.getElem?_eq_getElem hi')
      rw [hb] at hy
      cases hy
      have sT : Same H1 (upd H1 TT (.tup [.int ((i : Nat) : Int), .ref b])) := Same.new hT
      have s2 := s1.trans sT
      have d2 : DN.At P w (upd H1 TT (.tup [.int ((i : Nat) : Int), .ref b])) D xs := ⟨sT _ _ d1.obj, fun x hx => (d1.keys x hx).up sT, d1.nd⟩
      generalize upd H1 TT (.tup [.int ((i : Nat) : Int), .ref b]) = H2 at sT s2 d2 ⊢
      obtain ⟨dx, hp, idle, e1, e2⟩ := (hqa.up s2).ex
      have hni : qs[i] ∉ xs.map (·.1) := by
        rw [ex1]
        intro z
        obtain ⟨j, hj, ej⟩ := List.mem_take_iff_getElem.mp z
        exact absurd ej (List.pairwise_iff_getElem.mp nd j i (by omega) hi' (by omega))
      walk_at "go"
      refine ⟨by simp [sizeLine_eq], fun t ht => ?_⟩
      have s3 : Same H2 (upd H2 t (.tup [.int (qs[i].1 : Int), .ref hp])) := Same.new ht
      have k3 : DN.KeyAt (upd H2 t (.tup [.int (qs[i].1 : Int), .ref hp])) qs[i] t := ⟨hp, upd_same, s3 _ _ e2⟩
      have d3 : DN.At P w (upd H2 t (.tup [.int (qs[i].1 : Int), .ref hp])) D xs := ⟨s3 _ _ d2.obj, fun x hx => (d2.keys x hx).up s3, d2.nd⟩
      have e13 := s3 _ _ e1
      have e23 := s3 _ _ e2
      generalize upd H2 t (.tup [.int (qs[i].1 : Int), .ref hp]) = H3 at s3 k3 d3 e13 e23 ⊢
      walk_at "go"
      refine ⟨qs[i], t, D, xs, rfl, rfl, k3, d3, ?_⟩
      rw [decide_eq_false hni]
      walk_at "go"
      refine r_gSub ?_
      walk_at "go"
      refine ⟨by simp [sizeLine_eq], fun u hu => ?_⟩
      have s4 : Same H3 (upd H3 u (.tup [.int (qs[i].1 : Int), .ref hp])) := Same.new hu
      have k4 : DN.KeyAt (upd H3 u (.tup [.int (qs[i].1 : Int), .ref hp])) qs[i] u := ⟨hp, upd_same, s4 _ _ e23⟩
      have d4 : DN.At P w (upd H3 u (.tup [.int (qs[i].1 : Int), .ref hp])) D xs := ⟨s4 _ _ d3.obj, fun x hx => (d3.keys x hx).up s4, d3.nd⟩
      generalize upd H3 u (.tup [.int (qs[i].1 : Int), .ref hp]) = H4 at s4 k4 d4 ⊢
      have hxl : xs.length ≤ i := by
        have := congrArg List.length ex1
        rw [List.length_map, List.length_take] at this
        omega
      have et : (xs ++ [(qs[i], u)]).map (·.1) = qs.take (i + 1) := by
        rw [List.map_append, ex1, List.take_add_one, List.getElem?_eq_getElem hi']
        rfl
      refine ⟨qs[i], u, D, xs, rfl, rfl, rfl, k4, d4, hni, by omega, Same.mut (s2.trans (s3.trans s4)) hD, ⟨_, ⟨upd_same, fun x hx => ?_, ?_⟩, et⟩, _, _, rfl⟩
      · rcases List.mem_append.mp hx with z | z
        · exact key_upd (d4.keys x z) d4.obj
        · rw [List.mem_singleton.mp z]
          exact key_upd k4 d4.obj
      · rw [et]
        exact nd.sublist (List.take_sublist _ _)
    · rintro σ H1 ⟨s1, _, v1, v2, rfl⟩
      walk_at "go"
      exact q _ s1
end

end TW

set_option Elab.async false
set_option linter.all false
set_option maxRecDepth 100000
set_option maxHeartbeats 4000000
namespace TW
open PySem PySem.Spec PyProof.Rows L2
local macro_rules | `(tactic| walk_at "st0") => `(tactic| with_reducible (first | refine r_seq ?_ | refine r_next ?_ | refine r_ret ?_ | refine r_retN ?_ | refine r_drop ?_ | refine r_asg ?_ | refine r_if ?_ | refine r_gName ?_ | refine r_par ?_ | refine r_c ?_ | refine r_cons ?_ | refine r_nil ?_ | refine r_op ?_ | refine r_CB ?_ | refine r_andV ?_ | refine r_orV ?_ | refine r_notV ?_ | refine r_tIf ?_ | refine r_B ?_ | refine r_Test ?_ | refine r_and ?_ | refine r_or ?_ | refine r_not ?_ | refine r_yes ?_ | refine r_bl ?_ | refine r_T ?_ | refine r_F ?_ | refine r_nT ?_ | refine r_nF ?_ | refine r_I0 ?_ | refine r_eqI ?_ | refine r_neI ?_ | refine r_eqB ?_ | refine r_neB ?_ | refine r_isN0 ?_ | refine r_isN1 ?_ | refine r_isN2 ?_ | refine r_notN0 ?_ | refine r_notN1 ?_ | refine r_notN2 ?_ | refine r_isNo ?_ | refine r_notNo ?_ | refine r_fld ?_ | refine r_sfld ?_ | refine r_tup ?_ | refine r_lst ?_ | refine r_call ?_ | refine r_make ?_ | refine r_sl ?_ | refine r_part ?_ | refine r_noPart ?_ | refine r_iList ?_ | refine r_iTup ?_ | refine r_iRng1 ?_ | refine r_iEnum ?_ | refine r_int1 ?_ | refine r_intB ?_ | refine r_abs ?_ | refine r_bm ?_ | refine r_lc ?_ | refine r_for ?_))
local macro_rules | `(tactic| walk_at "st") => `(tactic| first | walk_at "st0" | ((with_reducible refine' r_var ?e ?_); (case e => exact rfl)) | ((with_reducible refine' r_fldG ?e1 ?e2 ?e3 ?e4 ?_); (case e1 => assumption); (case e2 => assumption); (case e3 => assumption); (case e4 => exact rfl)) | ((with_reducible refine' r_isC ?e ?_); (case e => assumption)) | dsimp only)
local macro_rules | `(tactic| walk_at "go") => `(tactic| repeat (walk_at "st"))
section
variable {P : Program} {w : World} {K : PySem.W.Frag} {mg : Str → Option Value} {base : Heap} {B : Adr}
abbrev rLenD : List V → Hp → VK → Prop := fun xs H Q => ∃ (a : Addr) (kvs : List (Key × V)), xs = [V.ref a] ∧ H a = some (.dK kvs) ∧ Q (.int kvs.length) H
/-! the numbers of the classes -/
def numS (kvs : List (Key × V)) (c : Int) : List (Key × V) := match valV kvs (Sum.inl c) with
  | some _ => kvs
  | none => putK kvs (Sum.inl c) (.int (kvs.length : Int))
theorem numT_snoc (cs : List Int) (c : Int) : numT (cs ++ [c]) = numS (numT cs) c := by
  unfold numT
  rw [List.foldl_append]
  rfl
theorem put_new {kvs : List (Key × V)} {k : Key} {v : V} (h : valV kvs k = none) : putK kvs k v = kvs ++ [(k, v)] := by
  unfold putK
  rw [valV_any, h]
  rfl
theorem numS_some {kvs : List (Key × V)} {c : Int} {v : V} (h : valV kvs (Sum.inl c) = some v) : numS kvs c = kvs := by
  unfold numS
  rw [h]
theorem numS_none {kvs : List (Key × V)} {c : Int} (h : valV kvs (Sum.inl c) = none) : numS kvs c = kvs ++ [(Sum.inl c, .int (kvs.length : Int))] := by
  unfold numS
  rw [h]
  exact put_new h
structure NumOk (cs : List Int) (kvs : List (Key × V)) : Prop where
  len : kvs.length ≤ cs.length
  has : ∀ c ∈ cs, ∃ i : Int, valV kvs (Sum.inl c) = some (.int i)
  isI : ∀ k v, valV kvs k = some v → ∃ i : Int, v = .int i
theorem NumOk.step {cs : List Int} {kvs : List (Key × V)} (h : NumOk cs kvs) (c : Int) : NumOk (cs ++ [c]) (numS kvs c) := by
  cases e : valV kvs (Sum.inl c) with
  | some v =>
    rw [numS_some e]
    refine ⟨by rw [List.length_append]; exact Nat.le_succ_of_le h.len, fun d hd => ?_, h.isI⟩
    rcases List.mem_append.mp hd with z | z
    · exact h.has d z
    · rw [List.mem_singleton.mp z]
      obtain ⟨i, rfl⟩ := h.isI _ _ e
      exact ⟨i, e⟩
  | none =>
    rw [numS_none e]
    refine ⟨by rw [List.length_append, List.length_append]; exact Nat.succ_le_succ h.len, fun d hd => ?_, fun k v hv => ?_⟩
    · rw [valV_snoc _ _ _ _ e]
      by_cases q : (Sum.inl d : Key) = Sum.inl c
      · rw [if_pos q]
        exact ⟨_, rfl⟩
      · rw [if_neg q]
        rcases List.mem_append.mp hd with z | z
        · exact h.has d z
        · exact absurd (by rw [List.mem_singleton.mp z]) q
    · rw [valV_snoc _ _ _ _ e] at hv
      by_cases q : k = Sum.inl c
      · rw [if_pos q] at hv
        exact ⟨_, (Option.some.inj hv).symm⟩
      · rw [if_neg q] at hv
        exact h.isI _ _ hv
theorem numOk_take (cs : List Int) : ∀ i, i ≤ cs.length → NumOk (cs.take i) (numT (cs.take i))
  | 0, _ => ⟨by simp [numT], fun _ h => by simp at h, fun k v h => by simp [numT, valV_nil] at h⟩
  | i + 1, h => by
    have e : cs.take (i + 1) = cs.take i ++ [cs[i]] := by
      rw [List.take_add_one, List.getElem?_eq_getElem h]
      rfl
    rw [e, numT_snoc]
    exact (numOk_take cs i (Nat.le_of_succ_le h)).step _
theorem numOk (cs : List Int) : NumOk cs (numT cs) := by
  have h := numOk_take cs cs.length (Nat.le_refl _)
  rw [List.take_length] at h
  exact h
theorem num_ints (cs : List Int) : numB cs = (Wi.num (.cls cs)).map V.int := by
  unfold Wi.num
  rw [List.map_map]
  have key : ∀ l : List V, (∀ v ∈ l, ∃ i : Int, v = .int i) → l = l.map (V.int ∘ fun v => match v with | .int i => i | _ => 0) := by
    intro l
    induction l with
    | nil => intro _; rfl
    | cons v l ih =>
      intro h
      obtain ⟨i, rfl⟩ := h v List.mem_cons_self
      rw [List.map_cons, ← ih fun v hv => h v (List.mem_cons_of_mem _ hv)]
      rfl
  refine key _ fun v hv => ?_
  unfold numB at hv
  obtain ⟨c, hc, rfl⟩ := List.mem_map.mp hv
  obtain ⟨i, e⟩ := (numOk cs).has c hc
  rw [e]
  exact ⟨i, rfl⟩
theorem num_len (cs : List Int) : (Wi.num (.cls cs)).length = cs.length := by
  unfold Wi.num numB
  rw [List.length_map, List.length_map]
theorem r_dget {td ty : TE} {σ : L2.St} {H : Hp} {Q : VK} (h : td σ H fun x H1 => ty σ H1 fun y H2 => ∃ a v, x = .ref a ∧ DGet H2 a y (some v) ∧ Q v H2) : tDGet td ty σ H Q := h
theorem r_dsetd {td ty tx : TE} {σ : L2.St} {H : Hp} {Q : VK} (h : td σ H fun x H1 => ∃ a, x = .ref a ∧ IsD H1 a ∧ ty σ H1 fun y H2 => tx σ H2 fun z H3 => ∃ (kvs : List (Key × V)) (k : Key), H3 a = some (.dK kvs) ∧ y = kV k ∧ kvs.length < sizeLine ∧
  (∀ v, valV kvs k = some v → Q v H3) ∧ (valV kvs k = none → Q z (upd H3 a (.dK (putK kvs k z))))) : tDSetd td ty tx σ H Q := h
def spNumbered : Sp := fun vs H Q _ => ∃ (a : Nat) (cs : List Int), vs = [.ref a] ∧ H a = some (.lst (cs.map V.int)) ∧ cs.length ≤ 16 ∧ ∀ p H', Same H H' → H' p = some (.tup ((Wi.num (.cls cs)).map V.int)) → Q (.ref p) H'
theorem ok_numbered (T : Tx K mg B) : C8.Cal P w K mg base 1 "numbered" spNumbered [] := by
  refine cal_of T.d_numbered scNumbered (fun _ _ _ _ _ _ us hl => match us, hl with | [_], _ => rfl) (fun vs H Q E h => ?_) (fun f cdv AA outer s H vs Q E hr h => ?_)
  · first | (obtain ⟨_, rfl, _⟩ := h; rfl) | (obtain ⟨_, _, rfl, _⟩ := h; rfl) | (obtain ⟨_, _, _, rfl, _⟩ := h; rfl) | (obtain ⟨_, _, _, _, rfl, _⟩ := h; rfl) | (obtain ⟨_, _, _, _, _, rfl, _⟩ := h; rfl) | (obtain ⟨_, _, _, _, _, _, rfl, _⟩ := h; rfl) | (obtain ⟨_, _, _, _, _, _, _, rfl, _⟩ := h; rfl) | (obtain ⟨_, _, _, _, _, _, _, _, rfl, _⟩ := h; rfl) | (obtain ⟨_, _, _, _, _, _, _, _, _, rfl, _⟩ := h; rfl) | (obtain ⟨_, _, _, _, _, _, _, _, _, _, rfl, _⟩ := h; rfl) | (obtain ⟨_, _, _, _, _, _, _, _, _, _, _, rfl, _⟩ := h; rfl) | (obtain ⟨_, _, _, _, _, _, _, _, _, _, _, _, rfl, _⟩ := h; rfl) | (obtain ⟨_, _, _, _, _, _, _, _, _, _, _, _, _, rfl, _⟩ := h; rfl) | (obtain ⟨_, _, _, _, _, _, _, _, _, _, _, _, _, _, rfl, _⟩ := h; rfl) | (obtain ⟨_, _, _, _, _, _, _, _, _, _, _, _, _, _, _, rfl, _⟩ := h; rfl) | (obtain ⟨_, _, _, _, _, _, _, _, _, _, _, _, _, _, _, _, rfl, _⟩ := h; rfl) | (obtain ⟨_, _, _, _, _, _, _, _, _, _, _, _, _, _, _, _, _, rfl, _⟩ := h; rfl) | (obtain ⟨_, _, _, _, _, _, _, _, _, _, _, _, _, _, _, _, _, _, rfl, _⟩ := h; rfl) | (obtain ⟨_, _, _, _, _, _, _, _, _, _, _, _, _, _, _, _, _, _, _, rfl, _⟩ := h; rfl)
  · refine ⟨(tSeq (tAsg tDNewK (gName 1))
    (tSeq (tFor (iList K (tVar 0)) (gName 2) (tDrop (tDSetd (tVar 1) (tVar 2) (tCB rLenD (tCons (tVar 1) tNil)))))
    (tRet (tCB (qTupS K) (tCons (tLc (iList K (tVar 0)) (gName 2) tYes (tDGet (tVar 1) (tVar 2)) [2]) tNil))))),
    (pss_cons (ps_set (i := 1) scNumbered.nd rfl (Or.inr rfl) pe_dnewK)
    (pss_cons (ps_for PassesOwn.never rfl (pi_list (pv 0)) (pg_name (i := 2) scNumbered.nd rfl (Or.inl rfl)) (pss_one (ps_expr (pe_dsetd (pv 1) (pv 2) (pe_callB call_lenD (by rfl) T.f_len (by decide +kernel) (pa_cons (pv 1) pa_nil)) ⟨by rfl, by rfl, by rfl, by rfl⟩))))
    (pss_one (ps_ret (pe_callTy call_tuple_of (by rfl) T.f_tuple (by decide +kernel) (pa_cons (pe_lc (own := [("one", 2)]) (g := (gName 2)) (tt := tYes) (te := (tDGet (tVar 1) (tVar 2))) rfl scNumbered.nd (pi_list (pv 0)) (blkOk_by (own := [("one", 2)]) (N := nNumbered) (sc := defScope sNumbered) (by decide +kernel)) (fun _ _ _ _ _ => (pg_name (i := 2) scNumbered.nd rfl (Or.inl rfl))) (fun _ _ _ _ _ => pts_nil) (fun _ _ _ _ _ => (pe_dget (hu_of hr) (pv 1) (pv 2) (fun _ _ => rfl)))) pa_nil)))))), ?_⟩
    obtain ⟨a, cs, rfl, ha, hl, q⟩ := h
    walk_at "go"
    refine fun D hD => ?_
    walk_at "go"
    have s0 : Same H (upd H D (.dK [])) := Same.new hD
    refine ⟨a, rfl, ⟨_, SqL.of (s0 _ _ ha)⟩, for_1 walk_list yAt (fun i σ H' => Same H H' ∧ H' D = some (.dK (numT (cs.take i))) ∧ ∃ v, σ = [some (.ref a), some (.ref D), v]) ⟨s0, upd_same, _, rfl⟩ (fun i σ H' _ p => SqL.of (p.1 _ _ ha)) ?_ ?_⟩
    · rintro i x σ H1 hi ⟨s1, e1, v, rfl⟩ hx
      obtain ⟨c, hc, rfl⟩ := map_get hx
      rw [List.length_map] at hi
      have no := numOk_take cs i (Nat.le_of_lt hi)
      have nl : (numT (cs.take i)).length ≤ i := Nat.le_trans no.len (by rw [List.length_take]; exact Nat.min_le_left _ _)
      have et : cs.take (i + 1) = cs.take i ++ [c] := by
        rw [List.take_add_one, hc]
        rfl
      walk_at "go"
      refine r_dsetd ?_
      walk_at "go"
      refine ⟨D, rfl, .inl ⟨_, Rd.of e1⟩, ?_⟩
      walk_at "go"
      refine ⟨D, _, rfl, e1, ?_⟩
      walk_at "go"
      refine ⟨_, Sum.inl c, e1, rfl, szT (by omega), fun v hv => ?_, fun hv => ?_⟩
      · walk_at "go"
        refine ⟨s1, ?_, _, rfl⟩
        rw [et, numT_snoc, numS_some hv]
        exact e1
      · walk_at "go"
        refine ⟨Same.mut s1 hD, ?_, _, rfl⟩
        rw [et, numT_snoc, numS_none hv, put_new hv]
        exact upd_same
    · rintro σ H1 ⟨s1, e1, v, rfl⟩
      rw [List.length_map, List.take_length] at e1
      walk_at "go"
      refine ⟨a, rfl, ⟨_, SqL.of (s1 _ _ ha)⟩, fun De hE => lc_1 walk_list yAt hE (fun i v _ => v = (numB cs).getD i .non) ri_m ri_l (by rw [List.length_map]; omega) (fun H s4 => SqL.of (s4 _ _ (s1 _ _ ha))) (fun x => rfl) (fun i x H7 Q7 hi s7 hx7 q7 => ?_) fun H7 zs s7 hl7 bb => ?_⟩
      · obtain ⟨c, hc, rfl⟩ := map_get hx7
        obtain ⟨j, ej⟩ := (numOk cs).has c (List.mem_of_getElem? hc)
        refine r_dget ?_
        walk_at "go"
        refine ⟨D, _, rfl, .inl ⟨_, Sum.inl c, Rd.of (s7 _ _ e1), rfl, ej.symm⟩, q7 _ _ (Same.refl _) ?_⟩
        refine (getD_of ?_).symm
        unfold numB
        rw [List.getElem?_map, hc, Option.map_some, ej]
        rfl
      · have e := bb.eqs (f := fun i => (numB cs).getD i .non)
        have e2 := map_range_get (l := numB cs) (f := id) (n := (cs.map V.int).length) .non (by unfold numB; rw [List.length_map, List.length_map])
        rw [List.map_id] at e2
        have e3 : zs = (Wi.num (.cls cs)).map V.int := by
          rw [e, ← num_ints]
          exact e2
        rw [e3] at hl7
        walk_at "go"
        refine r_tupL hl7 fun t ht => ?_
        exact q _ _ ((s1.trans s7).trans (Same.new ht)) upd_same
def metB : Wi → List Nat → Bool
  | .most m, os => decide (os.length ≤ m)
  | .cls cs, os => decide (∀ x ∈ os, ∀ y ∈ os, (Wi.num (.cls cs)).getD x 0 = (Wi.num (.cls cs)).getD y 0)
/-- things that a wish may ask for -/
def WiFit : Wi → List Nat → Prop
  | .most _, _ => True
  | .cls cs, os => ∀ o ∈ os, o < cs.length
def spMetBy (B : Adr) : Sp := fun vs H Q _ => ∃ (a p : Nat) (wi : Wi) (os : List Nat), vs = [.ref a, .ref p] ∧ WishAt B H a wi ∧ H p = some (.lst (vN os)) ∧ os.Nodup ∧ os.length ≤ 16 ∧ WiFit wi os ∧ ∀ H', Same H H' → Q (.bl (metB wi os)) H'
theorem one_all {l : List Int} {f : Nat → Int} {os : List Nat} (nd : l.Nodup) (h : ∀ k, k ∈ l ↔ k ∈ os.map f) : decide ((l.length : Int) ≤ 1) = decide (∀ x ∈ os, ∀ y ∈ os, f x = f y) := by
  refine decide_eq_decide.mpr ⟨fun hl x hx y hy => ?_, fun ha => ?_⟩
  · have h1 := (h (f x)).mpr (List.mem_map_of_mem hx)
    have h2 := (h (f y)).mpr (List.mem_map_of_mem hy)
    match l, hl with
    | [], _ => cases h1
    | [a], _ => rw [List.mem_singleton.mp h1, List.mem_singleton.mp h2]
    | _ :: _ :: _, hl => simp at hl; omega
  · match l, nd, h with
    | [], _, _ => simp
    | [a], _, _ => simp
    | a :: b :: r, nd, h =>
      obtain ⟨x, hx, ex⟩ := List.mem_map.mp ((h a).mp List.mem_cons_self)
      obtain ⟨y, hy, ey⟩ := List.mem_map.mp ((h b).mp (List.mem_cons_of_mem _ List.mem_cons_self))
      have e : a = b := by rw [← ex, ← ey, ha x hx y hy]
      subst e
      exact absurd List.mem_cons_self (List.nodup_cons.mp nd).1
theorem nodup_ints {os : List Nat} (h : os.Nodup) : (os.map fun n : Nat => (n : Int)).Nodup := List.Pairwise.map _ (fun a b hne z => hne (Int.ofNat.inj z)) h
theorem r_lenSetI {K : PySem.W.Frag} {ta : TE} {σ : L2.St} {H : Hp} {Q : VK} (h : ta σ H fun x H1 => ∃ (l : Addr) (ns : List Int), x = .ref l ∧ SqL K H1 l (ns.map V.int) ∧ ns.Nodup ∧ ns.length ≤ 4000 ∧ Q (.int (ns.length : Nat)) H1) : RZ.tLenSetI K ta σ H Q := h
theorem r_sci {w : World} {wi : TI} {g : TG} {tt : TT} {te : TE} {vs : List Nat} {σ : L2.St} {H : Hp} {Q : VK} (h : wi σ H fun J Ha => ∀ Dn, Ha Dn = none →
  ∃ Wf : Nat → Nat → Hp → Prop, (∃ m, Wf 0 m (upd Ha Dn (SetO w Dn (fun _ => false) 0))) ∧ ∀ i m Hb, Wf i m Hb →
    (J.stop i Hb ∧ Q (.ref Dn) Hb) ∨ (J.go i Hb ∧ ∃ Nx : Hp → Prop, (∀ Hc, Nx Hc → ∃ m', m' < m ∧ Wf (i + 1) m' Hc) ∧ ∀ x Hc, J.yld i Hb x Hc → g x (wipe σ vs) Hc fun σ2 Hd => wipe σ2 vs = wipe σ vs ∧ tt σ2 Hd fun b He =>
      if b = true then te σ2 He fun y Hf => ∃ (c : Int) (S : Int → Bool) (n : Nat), y = .int c ∧ Hf Dn = some (SetO w Dn S n) ∧ n + 1 < scanBound ∧ Nx (upd Hf Dn (SetO w Dn (fun j => S j || decide (j = c)) (if S c = true then n else n + 1))) else Nx He)) : SI.tSci w wi g tt te vs σ H Q := h
theorem ok_met_by (T : Tx K mg B) : C8.Cal P w K mg base 1 "met_by" (spMetBy B) [] := by
  refine cal_of T.d_met_by scMetBy (fun _ _ _ _ _ _ us hl => match us, hl with | [_, _], _ => rfl) (fun vs H Q E h => ?_) (fun f cdv AA outer s H vs Q E hr h => ?_)
  · first | (obtain ⟨_, rfl, _⟩ := h; rfl) | (obtain ⟨_, _, rfl, _⟩ := h; rfl) | (obtain ⟨_, _, _, rfl, _⟩ := h; rfl) | (obtain ⟨_, _, _, _, rfl, _⟩ := h; rfl) | (obtain ⟨_, _, _, _, _, rfl, _⟩ := h; rfl) | (obtain ⟨_, _, _, _, _, _, rfl, _⟩ := h; rfl) | (obtain ⟨_, _, _, _, _, _, _, rfl, _⟩ := h; rfl) | (obtain ⟨_, _, _, _, _, _, _, _, rfl, _⟩ := h; rfl) | (obtain ⟨_, _, _, _, _, _, _, _, _, rfl, _⟩ := h; rfl) | (obtain ⟨_, _, _, _, _, _, _, _, _, _, rfl, _⟩ := h; rfl) | (obtain ⟨_, _, _, _, _, _, _, _, _, _, _, rfl, _⟩ := h; rfl) | (obtain ⟨_, _, _, _, _, _, _, _, _, _, _, _, rfl, _⟩ := h; rfl) | (obtain ⟨_, _, _, _, _, _, _, _, _, _, _, _, _, rfl, _⟩ := h; rfl) | (obtain ⟨_, _, _, _, _, _, _, _, _, _, _, _, _, _, rfl, _⟩ := h; rfl) | (obtain ⟨_, _, _, _, _, _, _, _, _, _, _, _, _, _, _, rfl, _⟩ := h; rfl) | (obtain ⟨_, _, _, _, _, _, _, _, _, _, _, _, _, _, _, _, rfl, _⟩ := h; rfl) | (obtain ⟨_, _, _, _, _, _, _, _, _, _, _, _, _, _, _, _, _, rfl, _⟩ := h; rfl) | (obtain ⟨_, _, _, _, _, _, _, _, _, _, _, _, _, _, _, _, _, _, rfl, _⟩ := h; rfl) | (obtain ⟨_, _, _, _, _, _, _, _, _, _, _, _, _, _, _, _, _, _, _, rfl, _⟩ := h; rfl)
  · refine ⟨(tSeq (tIfS (tTest (tOp rIsN (tFld K (tVar 0) "classes") (tC .non))) (tRet (tOp qLe (RZ.tLenSetI K (tCB (Evl.rListS K) (tCons (tVar 1) tNil))) (tFld K (tVar 0) "most"))) tNext)
    (tRet (tOp qLe (tCB (SI.rLenSet w) (tCons (SI.tSci w (iList K (tVar 1)) (gName 2) tYes (tOp (rIxT K) (tFld K (tVar 0) "classes") (tVar 2)) [2]) tNil)) (tC (.int 1))))),
    (pss_cons (ps_if (pt_cmpR op_isN1 (pe_fld (pv 0) rfl) pe_non (nomark _)) (pss_one (ps_ret (pe_cmpR op_le (RZ.pe_lenSetI (by rfl) T.f_len (by rfl) T.f_set (pe_callTy call_list_of (by rfl) T.f_list (by decide +kernel) (pa_cons (pv 1) pa_nil))) (pe_fld (pv 0) rfl) (nomark _)))) pss_nil)
    (pss_one (ps_ret (pe_cmpR op_le (pe_callB SI.call_lenSet (by rfl) T.f_len (by decide +kernel) (pa_cons (SI.pe_sci (own := [("thing", 2)]) (g := (gName 2)) (tt := tYes) (te := (tOp (rIxT K) (tFld K (tVar 0) "classes") (tVar 2))) rfl scMetBy.nd (pi_list (pv 1)) (blkOk_by (own := [("thing", 2)]) (N := nMetBy) (sc := defScope sMetBy) (by decide +kernel)) (fun _ _ _ _ _ => (pg_name (i := 2) scMetBy.nd rfl (Or.inl rfl))) (fun _ _ _ _ _ => pts_nil) (fun _ _ _ _ _ => (pe_ix ix_tup (pe_fld (pv 0) rfl) (pv 2) (fun _ _ => rfl)))) pa_nil)) pe_int (nomark _))))), ?_⟩
    have hCWish := T.c_Wish
    have hAWish_classes := T.a_Wish_classes
    have hAWish_most := T.a_Wish_most
    obtain ⟨a, p, wi, os, rfl, ⟨hw⟩, hp, nd, hl, fit, q⟩ := h
    rcases hw with ⟨cs, dx, c, rfl, e1, e2, e3⟩ | ⟨m, dx, rfl, e1⟩
    · walk_at "go"
      refine r_sci ?_
      walk_at "go"
      refine ⟨p, rfl, ⟨_, SqL.of hp⟩, fun Dn hD => SI.sci_lst (fun i => (Wi.num (.cls cs)).getD (os.getD i 0) 0) hD (SqL.of hp) (by rw [vN_len]; omega) (fun H2 s2 => SqL.of (s2 _ _ hp)) (fun x => rfl) (fun i x H2 Q3 hx s2 q3 => ?_) fun H2 S n s2 eS hS => ?_⟩
      · obtain ⟨o, ho, rfl⟩ := vN_of hx
        have hlt : o < (Wi.num (.cls cs)).length := by
          rw [e3]
          exact fit o (List.mem_of_getElem? ho)
        have e12 := s2 _ _ e1
        walk_at "go"
        refine r_ixT (s2 _ _ e2) (v := .int ((Wi.num (.cls cs)).getD o 0)) (by rw [List.getElem?_map, List.getElem?_eq_getElem hlt, List.getD_eq_getElem?_getD, List.getElem?_eq_getElem hlt]; rfl) ?_
        have hq := q3 H2 (Same.refl _) rfl
        rw [getD_of ho] at hq
        exact hq
      · rw [vN_len] at hS
        have e4 : (List.range os.length).map (fun i => (Wi.num (.cls cs)).getD (os.getD i 0) 0) = os.map fun o => (Wi.num (.cls cs)).getD o 0 := map_range_get (f := fun o => (Wi.num (.cls cs)).getD o 0) 0 rfl
        rw [e4] at hS
        walk_at "go"
        refine ⟨Dn, S, n, rfl, eS, fun ⟨l, ndl, hll, hSl⟩ => ?_⟩
        walk_at "go"
        have e5 := one_all (f := fun o => (Wi.num (.cls cs)).getD o 0) (os := os) ndl fun k => (hSl k).symm.trans (hS k)
        rw [hll] at e5
        rw [e5]
        exact q _ s2
    · walk_at "go"
      refine r_lenSetI ?_
      walk_at "go"
      refine r_listL hp fun l hl2 => ?_
      refine ⟨l, os.map fun n : Nat => (n : Int), rfl, by rw [← vN_ints]; exact SqL.of upd_same, nodup_ints nd, by rw [List.length_map]; omega, ?_⟩
      have e12 := Same.new (o := .lst (vN os)) hl2 _ _ e1
      walk_at "go"
      have e5 : decide (((os.map fun n : Nat => (n : Int)).length : Int) ≤ (m : Int)) = metB (.most m) os := by
        rw [List.length_map]
        exact decide_eq_decide.mpr Int.ofNat_le
      rw [e5]
      exact q _ (Same.new hl2)
end

end TW

set_option Elab.async false
set_option linter.all false
set_option maxRecDepth 100000
set_option maxHeartbeats 4000000
namespace TW
open PySem PySem.Spec PyProof.Rows L2
local macro_rules | `(tactic| walk_at "st0") => `(tactic| with_reducible (first | refine r_seq ?_ | refine r_next ?_ | refine r_ret ?_ | refine r_retN ?_ | refine r_drop ?_ | refine r_asg ?_ | refine r_if ?_ | refine r_gName ?_ | refine r_par ?_ | refine r_c ?_ | refine r_cons ?_ | refine r_nil ?_ | refine r_op ?_ | refine r_CB ?_ | refine r_andV ?_ | refine r_orV ?_ | refine r_notV ?_ | refine r_tIf ?_ | refine r_B ?_ | refine r_Test ?_ | refine r_and ?_ | refine r_or ?_ | refine r_not ?_ | refine r_yes ?_ | refine r_bl ?_ | refine r_T ?_ | refine r_F ?_ | refine r_nT ?_ | refine r_nF ?_ | refine r_I0 ?_ | refine r_eqI ?_ | refine r_neI ?_ | refine r_eqB ?_ | refine r_neB ?_ | refine r_isN0 ?_ | refine r_isN1 ?_ | refine r_isN2 ?_ | refine r_notN0 ?_ | refine r_notN1 ?_ | refine r_notN2 ?_ | refine r_isNo ?_ | refine r_notNo ?_ | refine r_fld ?_ | refine r_sfld ?_ | refine r_tup ?_ | refine r_lst ?_ | refine r_call ?_ | refine r_make ?_ | refine r_sl ?_ | refine r_part ?_ | refine r_noPart ?_ | refine r_iList ?_ | refine r_iTup ?_ | refine r_iRng1 ?_ | refine r_iEnum ?_ | refine r_int1 ?_ | refine r_intB ?_ | refine r_abs ?_ | refine r_bm ?_ | refine r_lc ?_ | refine r_for ?_))
local macro_rules | `(tactic| walk_at "st") => `(tactic| first | walk_at "st0" | ((with_reducible refine' r_var ?e ?_); (case e => exact rfl)) | ((with_reducible refine' r_fldG ?e1 ?e2 ?e3 ?e4 ?_); (case e1 => assumption); (case e2 => assumption); (case e3 => assumption); (case e4 => exact rfl)) | ((with_reducible refine' r_isC ?e ?_); (case e => assumption)) | dsimp only)
local macro_rules | `(tactic| walk_at "go") => `(tactic| repeat (walk_at "st"))
section
variable {P : Program} {w : World} {K : PySem.W.Frag} {mg : Str → Option Value} {base : Heap} {B : Adr}
def spIStock (B : Adr) : Sp := fun vs H Q _ => ∃ (G : Hp) (x dx things ans heaps a : Nat) (ws : List V) (qs : List (Nat × List Nat)), vs = [.ref x, .int (things : Int), .int (ans : Int), .int (heaps : Int), .ref a] ∧ Same G H ∧ G x = none ∧ H x = some (.ins B.Stock dx []) ∧ G a = some (.lst ws) ∧ QsAt B G ws qs ∧ qs.length ≤ 3 ∧ (∀ q ∈ qs, QOk things ans heaps q) ∧ qs.Nodup ∧
  1 ≤ things ∧ things ≤ 4 ∧ 1 ≤ ans ∧ ans ≤ 4 ∧ 2 ≤ heaps ∧ heaps ≤ 3 ∧ ∀ H', Same G H' → StockAt B H' x things ans heaps qs → Q .non H'
theorem ok_Stock (T : Tx K mg B) : C8.Mak P w K mg base 4 "Stock" B.Stock (spIStock B) [] := by
  have c_need_number := ok_need_number (P := P) (w := w) (base := base) T
  have c_is_list := ok_is_list (P := P) (w := w) (base := base) T
  have c_is_fitting := ok_is_fitting (P := P) (w := w) (base := base) T
  have c_first_again := ok_first_again (P := P) (w := w) (base := base) T
  refine mak_of T.n_Stock T.g_Stock scStockInit (fun _ _ _ _ _ _ us hl => match us, hl with | [_, _, _, _, _], _ => rfl) (fun vs H Q E h => ?_) (fun f cdv AA outer s H vs Q E hr h => ?_)
  · first | (obtain ⟨_, rfl, _⟩ := h; rfl) | (obtain ⟨_, _, rfl, _⟩ := h; rfl) | (obtain ⟨_, _, _, rfl, _⟩ := h; rfl) | (obtain ⟨_, _, _, _, rfl, _⟩ := h; rfl) | (obtain ⟨_, _, _, _, _, rfl, _⟩ := h; rfl) | (obtain ⟨_, _, _, _, _, _, rfl, _⟩ := h; rfl) | (obtain ⟨_, _, _, _, _, _, _, rfl, _⟩ := h; rfl) | (obtain ⟨_, _, _, _, _, _, _, _, rfl, _⟩ := h; rfl) | (obtain ⟨_, _, _, _, _, _, _, _, _, rfl, _⟩ := h; rfl) | (obtain ⟨_, _, _, _, _, _, _, _, _, _, rfl, _⟩ := h; rfl) | (obtain ⟨_, _, _, _, _, _, _, _, _, _, _, rfl, _⟩ := h; rfl) | (obtain ⟨_, _, _, _, _, _, _, _, _, _, _, _, rfl, _⟩ := h; rfl) | (obtain ⟨_, _, _, _, _, _, _, _, _, _, _, _, _, rfl, _⟩ := h; rfl) | (obtain ⟨_, _, _, _, _, _, _, _, _, _, _, _, _, _, rfl, _⟩ := h; rfl) | (obtain ⟨_, _, _, _, _, _, _, _, _, _, _, _, _, _, _, rfl, _⟩ := h; rfl) | (obtain ⟨_, _, _, _, _, _, _, _, _, _, _, _, _, _, _, _, rfl, _⟩ := h; rfl) | (obtain ⟨_, _, _, _, _, _, _, _, _, _, _, _, _, _, _, _, _, rfl, _⟩ := h; rfl) | (obtain ⟨_, _, _, _, _, _, _, _, _, _, _, _, _, _, _, _, _, _, rfl, _⟩ := h; rfl) | (obtain ⟨_, _, _, _, _, _, _, _, _, _, _, _, _, _, _, _, _, _, _, rfl, _⟩ := h; rfl)
  · refine ⟨(tSeq (tDrop (tCall spNeedNumber [] C8.E0 (tCons (tVar 1) (tCons (tC (.int 1)) (tCons (tC (.int 16)) (tCons (tC (.str "things")) tNil))))))
    (tSeq (tDrop (tCall spNeedNumber [] C8.E0 (tCons (tVar 2) (tCons (tC (.int 1)) (tCons (tC (.int 4)) (tCons (tC (.str "answerers")) tNil))))))
    (tSeq (tDrop (tCall spNeedNumber [] C8.E0 (tCons (tVar 3) (tCons (tC (.int 2)) (tCons (tC (.int 3)) (tCons (tC (.str "heaps")) tNil))))))
    (tSeq (tIfS (tOr (tNot (tB (tCall spIsList [] C8.E0 (tCons (tVar 4) tNil)))) (tNot (tB (tCB (rAll K) (tCons (tLc (iList K (tVar 4)) (gName 6) tYes (tCall (spIsFitting B) [] C8.E0 (tCons (tVar 6) (tCons (tVar 1) (tCons (tVar 2) (tCons (tVar 3) tNil))))) [6]) tNil))))) tNever tNext)
    (tSeq (tAsg (tCall (spFirstAgain B) [] C8.E0 (tCons (tVar 4) tNil)) (gName 5))
    (tSeq (tIfS (tTest (tOp rNotN (tVar 5) (tC .non))) tNever tNext)
    (tSeq (tIfS (tTest (tOp qGt (tCB (Evl.rLenS K) (tCons (tVar 4) tNil)) (ClX.tCVal K (tC (.ref B.Stock)) "MOST"))) tNever tNext)
    (tSeq (sFld K (tVar 0) (tVar 1) "things")
    (tSeq (sFld K (tVar 0) (tVar 2) "answerers")
    (tSeq (sFld K (tVar 0) (tVar 3) "heaps")
    (sFld K (tVar 0) (tCB (qTupS K) (tCons (tCB (Evl.rListS K) (tCons (tVar 4) tNil)) tNil)) "questions"))))))))))),
    (pss_cons (ps_expr (C8.pe_c c_need_number hr (by decide) rfl (pa_cons (pv 1) (pa_cons pe_int (pa_cons (C8.pe_gc rfl T.k_MOST_THINGS) (pa_cons pe_str pa_nil))))))
    (pss_cons (ps_expr (C8.pe_c c_need_number hr (by decide) rfl (pa_cons (pv 2) (pa_cons pe_int (pa_cons (C8.pe_gc rfl T.k_MOST_ANSWERERS_stocks) (pa_cons pe_str pa_nil))))))
    (pss_cons (ps_expr (C8.pe_c c_need_number hr (by decide) rfl (pa_cons (pv 3) (pa_cons (C8.pe_gc rfl T.k_LEAST_HEAPS) (pa_cons (C8.pe_gc rfl T.k_MOST_HEAPS) (pa_cons pe_str pa_nil))))))
    (pss_cons (ps_if (PW.pt (pw_or (pt_not (pt_val (C8.pe_c c_is_list hr (by decide) rfl (pa_cons (pv 4) pa_nil)))) (pw_or1 (pt_not (pt_val (pe_callB (cr_all rfl) (by rfl) T.f_all (by decide +kernel) (pa_cons (pe_lc (own := [("one", 6)]) (g := (gName 6)) (tt := tYes) (te := (tCall (spIsFitting B) [] C8.E0 (tCons (tVar 6) (tCons (tVar 1) (tCons (tVar 2) (tCons (tVar 3) tNil)))))) rfl scStockInit.nd (pi_list (pv 4)) (blkOk_by (own := [("one", 6)]) (N := nStockInit) (sc := defScope sStockInit) (by decide +kernel)) (fun _ _ _ _ _ => (pg_name (i := 6) scStockInit.nd rfl (Or.inl rfl))) (fun _ _ _ _ _ => pts_nil) (fun _ _ _ _ _ => (C8.pe_c c_is_fitting hr (by decide) rfl (pa_cons (pv 6) (pa_cons (pv 1) (pa_cons (pv 2) (pa_cons (pv 3) pa_nil))))))) pa_nil))))))) (pss_one ps_never) pss_nil)
    (pss_cons (ps_set (i := 5) scStockInit.nd rfl (Or.inl rfl) (C8.pe_c c_first_again hr (by decide) rfl (pa_cons (pv 4) pa_nil)))
    (pss_cons (ps_if (pt_cmpR op_notN1 (pv 5) pe_non (nomark _)) (pss_one ps_never) pss_nil)
    (pss_cons (ps_if (pt_cmpR op_gt (pe_callB call_len_seq (by rfl) T.f_len (by decide +kernel) (pa_cons (pv 4) pa_nil)) (ClX.pe_cval (pe_glob rfl T.g_Stock rfl)) (nomark _)) (pss_one ps_never) pss_nil)
    (pss_cons (ps_fld (pv 0) (pv 1) rfl)
    (pss_cons (ps_fld (pv 0) (pv 2) rfl)
    (pss_cons (ps_fld (pv 0) (pv 3) rfl)
    (pss_one (ps_fld (pv 0) (pe_callTy call_tuple_of (by rfl) T.f_tuple (by decide +kernel) (pa_cons (pe_callTy call_list_of (by rfl) T.f_list (by decide +kernel) (pa_cons (pv 4) pa_nil)) pa_nil)) rfl)))))))))))), ?_⟩
    have hCStock := T.c_Stock
    have hAStock_things := T.a_Stock_things
    have hAStock_answerers := T.a_Stock_answerers
    have hAStock_heaps := T.a_Stock_heaps
    have hAStock_questions := T.a_Stock_questions
    obtain ⟨G, x, dx, things, ans, heaps, a, ws, qs, rfl, sG, hx, ex, ea, hq, ql, hok, nd, l1, l2, l3, l4, l5, l6, q⟩ := h
    have hlen := hq.len
    obtain ⟨mc, mu, cr, cv⟩ := T.v_Stock_MOST
    walk_at "go"
    refine ⟨_, _, _, _, rfl, by omega, by omega, ?_⟩
    walk_at "go"
    refine ⟨_, _, _, _, rfl, by omega, by omega, ?_⟩
    walk_at "go"
    refine ⟨_, _, _, _, rfl, by omega, by omega, ?_⟩
    walk_at "go"
    refine ⟨a, ws, rfl, .inl (sG _ _ ea), fun H1 s1 => ?_⟩
    have sG1 := sG.trans s1
    have ex1 := s1 _ _ ex
    walk_at "go"
    refine ⟨a, rfl, ⟨ws, SqL.of (sG1 _ _ ea)⟩, fun Dl hD => lc_1 walk_list yAt hD (fun _ v _ => v = .bl true) ri_m ri_l (by omega) (fun H s4 => SqL.of (s4 _ _ (sG1 _ _ ea))) (fun x => rfl) (fun i y H5 Q5 hi s5 hy q5 => ?_) fun H5 ys s5 hl5 aa => ?_⟩
    · have hi' : i < qs.length := by omega
      obtain ⟨b, hb, hqa⟩ := hq.get (List.getElem?_eq_getElem hi')
      rw [hb] at hy
      cases hy
      walk_at "go"
      exact ⟨b, things, ans, heaps, qs[i], rfl, hqa.up (sG1.trans s5), hok _ (List.getElem_mem hi'), l1, l2, q5 _ _ (Same.refl _) rfl⟩
    · have e := aa.eqs (f := fun _ => .bl true)
      rw [e, all_trues fun _ _ => rfl] at hl5
      walk_at "go"
      refine r_all hl5 ?_
      rw [all_true]
      have sG5 := sG1.trans s5
      have ex5 := s5 _ _ ex1
      walk_at "go"
      refine ⟨a, ws, qs, rfl, sG5 _ _ ea, hq.up sG5, nd, by omega, fun H6 s6 => ?_⟩
      have sG6 := sG5.trans s6
      have ex6 := s6 _ _ ex5
      walk_at "go"
      refine r_lenL (sG6 _ _ ea) ?_
      walk_at "go"
      refine ⟨_, mc, _, mu, rfl, cr, cv, ?_⟩
      walk_at "go"
      refine r_dF (by omega) ?_
      walk_at "go"
      refine r_stG ex6 hCStock hAStock_things (by decide) ?_
      walk_at "go"
      refine r_stG upd_same hCStock hAStock_answerers (by show 1 < 1000; omega) ?_
      rw [upd_upd]
      walk_at "go"
      refine r_stG upd_same hCStock hAStock_heaps (by show 2 < 1000; omega) ?_
      rw [upd_upd]
      have key : ∀ fs, Same G (upd H6 x (.ins B.Stock dx fs)) := fun fs => Same.mut sG6 hx
      walk_at "go"
      refine r_listL (key _ _ _ ea) fun l hl => ?_
      walk_at "go"
      refine r_tupL upd_same fun t ht => ?_
      walk_at "go"
      have hs : ∀ H : Hp, H l = none → (upd H l (.lst ws)) t = none → Same H (upd (upd H l (.lst ws)) t (.tup ws)) := fun H hl ht => (Same.new hl).trans (Same.new ht)
      have s7 := hs _ hl ht
      have ex7 := s7 _ _ upd_same
      refine r_stG ex7 hCStock hAStock_questions (by show 3 < 1000; omega) ?_
      walk_at "go"
      have htx : t ≠ x := ne_of upd_same ex7 (by intro z; cases z)
      refine q _ (Same.mut ((key _).trans s7) hx) ⟨dx, t, ws, upd_same, ?_, hq.up (Same.mut ((key _).trans s7) hx)⟩
      rw [upd_ne htx]
      exact upd_same
end

end TW

set_option Elab.async false
set_option linter.all false
set_option maxRecDepth 100000
set_option maxHeartbeats 4000000
namespace TW
open PySem PySem.Spec PyProof.Rows L2
local macro_rules | `(tactic| walk_at "st0") => `(tactic| with_reducible (first | refine r_seq ?_ | refine r_next ?_ | refine r_ret ?_ | refine r_retN ?_ | refine r_drop ?_ | refine r_asg ?_ | refine r_if ?_ | refine r_gName ?_ | refine r_par ?_ | refine r_c ?_ | refine r_cons ?_ | refine r_nil ?_ | refine r_op ?_ | refine r_CB ?_ | refine r_andV ?_ | refine r_orV ?_ | refine r_notV ?_ | refine r_tIf ?_ | refine r_B ?_ | refine r_Test ?_ | refine r_and ?_ | refine r_or ?_ | refine r_not ?_ | refine r_yes ?_ | refine r_bl ?_ | refine r_T ?_ | refine r_F ?_ | refine r_nT ?_ | refine r_nF ?_ | refine r_I0 ?_ | refine r_eqI ?_ | refine r_neI ?_ | refine r_eqB ?_ | refine r_neB ?_ | refine r_isN0 ?_ | refine r_isN1 ?_ | refine r_isN2 ?_ | refine r_notN0 ?_ | refine r_notN1 ?_ | refine r_notN2 ?_ | refine r_isNo ?_ | refine r_notNo ?_ | refine r_fld ?_ | refine r_sfld ?_ | refine r_tup ?_ | refine r_lst ?_ | refine r_call ?_ | refine r_make ?_ | refine r_sl ?_ | refine r_part ?_ | refine r_noPart ?_ | refine r_iList ?_ | refine r_iTup ?_ | refine r_iRng1 ?_ | refine r_iEnum ?_ | refine r_int1 ?_ | refine r_intB ?_ | refine r_abs ?_ | refine r_bm ?_ | refine r_lc ?_ | refine r_for ?_))
local macro_rules | `(tactic| walk_at "st") => `(tactic| first | walk_at "st0" | ((with_reducible refine' r_var ?e ?_); (case e => exact rfl)) | ((with_reducible refine' r_fldG ?e1 ?e2 ?e3 ?e4 ?_); (case e1 => assumption); (case e2 => assumption); (case e3 => assumption); (case e4 => exact rfl)) | ((with_reducible refine' r_isC ?e ?_); (case e => assumption)) | dsimp only)
local macro_rules | `(tactic| walk_at "go") => `(tactic| repeat (walk_at "st"))
section
variable {P : Program} {w : World} {K : PySem.W.Frag} {mg : Str → Option Value} {base : Heap} {B : Adr}
def spIWish (B : Adr) : Sp := fun vs H Q _ => ∃ (G : Hp) (x dx : Nat) (wi : Wi) (c m : V), vs = [.ref x, c, m] ∧ Same G H ∧ G x = none ∧ H x = some (.ins B.Wish dx []) ∧
  ((∃ (a : Nat) (cs : List Int), wi = .cls cs ∧ c = .ref a ∧ m = .non ∧ G a = some (.lst (cs.map V.int)) ∧ 1 ≤ cs.length ∧ cs.length ≤ 4) ∨ ∃ k : Nat, wi = .most k ∧ c = .non ∧ m = .int (k : Int) ∧ 1 ≤ k ∧ k ≤ 4) ∧
  ∀ H', Same G H' → WishAt B H' x wi → Q .non H'
theorem ini_Wish (T : Tx K mg B) : ∃ f fd, FunD K "__init__" "Wish.__init__" (defArgs sWishInit) (defBody sWishInit) (defScope sWishInit) [.non, .non] [] f fd ∧ Mk K B.Wish f ∧ FnOk P w K mg base C8.CX0 4 f fd ["self", "classes", "most"] (spIWish B) := by
  have c_are_within := ok_are_within (P := P) (w := w) (base := base) T
  have c_is_within := ok_is_within (P := P) (w := w) (base := base) T
  have c_numbered := ok_numbered (P := P) (w := w) (base := base) T
  refine DF.ini_of T.n_Wish scWishInit  (fun vs H Q E h => ?_) (fun f cdv AA outer s H vs Q E hr h => ?_)
  · first | (obtain ⟨_, rfl, _⟩ := h; rfl) | (obtain ⟨_, _, rfl, _⟩ := h; rfl) | (obtain ⟨_, _, _, rfl, _⟩ := h; rfl) | (obtain ⟨_, _, _, _, rfl, _⟩ := h; rfl) | (obtain ⟨_, _, _, _, _, rfl, _⟩ := h; rfl) | (obtain ⟨_, _, _, _, _, _, rfl, _⟩ := h; rfl) | (obtain ⟨_, _, _, _, _, _, _, rfl, _⟩ := h; rfl) | (obtain ⟨_, _, _, _, _, _, _, _, rfl, _⟩ := h; rfl) | (obtain ⟨_, _, _, _, _, _, _, _, _, rfl, _⟩ := h; rfl) | (obtain ⟨_, _, _, _, _, _, _, _, _, _, rfl, _⟩ := h; rfl) | (obtain ⟨_, _, _, _, _, _, _, _, _, _, _, rfl, _⟩ := h; rfl) | (obtain ⟨_, _, _, _, _, _, _, _, _, _, _, _, rfl, _⟩ := h; rfl) | (obtain ⟨_, _, _, _, _, _, _, _, _, _, _, _, _, rfl, _⟩ := h; rfl) | (obtain ⟨_, _, _, _, _, _, _, _, _, _, _, _, _, _, rfl, _⟩ := h; rfl) | (obtain ⟨_, _, _, _, _, _, _, _, _, _, _, _, _, _, _, rfl, _⟩ := h; rfl) | (obtain ⟨_, _, _, _, _, _, _, _, _, _, _, _, _, _, _, _, rfl, _⟩ := h; rfl) | (obtain ⟨_, _, _, _, _, _, _, _, _, _, _, _, _, _, _, _, _, rfl, _⟩ := h; rfl) | (obtain ⟨_, _, _, _, _, _, _, _, _, _, _, _, _, _, _, _, _, _, rfl, _⟩ := h; rfl) | (obtain ⟨_, _, _, _, _, _, _, _, _, _, _, _, _, _, _, _, _, _, _, rfl, _⟩ := h; rfl)
  · refine ⟨(tSeq (tIfS (tAnd (tTest (tOp rNotN (tVar 1) (tC .non))) (tOr (tNot (tB (tCall spAreWithin [] C8.E0 (tCons (tVar 1) (tCons (tC .non) (tCons (tC .non) tNil)))))) (tTest (tOp rEq (tCB (Evl.rLenS K) (tCons (tVar 1) tNil)) (tC (.int 0)))))) tNever tNext)
    (tSeq (tIfS (tAnd (tTest (tOp rNotN (tVar 2) (tC .non))) (tNot (tB (tCall spIsWithin [] C8.E0 (tCons (tVar 2) (tCons (tC (.int 1)) (tCons (tC (.int 16)) tNil))))))) tNever tNext)
    (tSeq (tIfS (tTest (tOp rEq (tOp rIsN (tVar 1) (tC .non)) (tOp rIsN (tVar 2) (tC .non)))) tNever tNext)
    (tSeq (tIfS (tAnd (tTest (tOp rNotN (tVar 1) (tC .non))) (tTest (tOp qGt (tCB (Evl.rLenS K) (tCons (tVar 1) tNil)) (tC (.int 16))))) tNever tNext)
    (tSeq (sFld K (tVar 0) (tIf (tTest (tOp rIsN (tVar 1) (tC .non))) (tC .non) (tCall spNumbered [] C8.E0 (tCons (tVar 1) tNil))) "classes")
    (sFld K (tVar 0) (tVar 2) "most")))))),
    (pss_cons (ps_if (PW.pt (pw_and (pt_cmpR op_notN1 (pv 1) pe_non (nomark _)) (pw_and1 (PW.pt (pw_or (pt_not (pt_val (C8.pe_c c_are_within hr (by decide) rfl (pa_cons (pv 1) (pa_cons pe_non (pa_cons pe_non pa_nil)))))) (pw_or1 (pt_cmpR op_eq (pe_callB call_len_seq (by rfl) T.f_len (by decide +kernel) (pa_cons (pv 1) pa_nil)) pe_int (nomark _)))))))) (pss_one ps_never) pss_nil)
    (pss_cons (ps_if (PW.pt (pw_and (pt_cmpR op_notN1 (pv 2) pe_non (nomark _)) (pw_and1 (pt_not (pt_val (C8.pe_c c_is_within hr (by decide) rfl (pa_cons (pv 2) (pa_cons pe_int (pa_cons (C8.pe_gc rfl T.k_MOST_THINGS) pa_nil))))))))) (pss_one ps_never) pss_nil)
    (pss_cons (ps_if (pt_cmpR op_eq (pe_cmpR op_isN1 (pv 1) pe_non (nomark _)) (pe_cmpR op_isN1 (pv 2) pe_non (nomark _)) (nomark _)) (pss_one ps_never) pss_nil)
    (pss_cons (ps_if (PW.pt (pw_and (pt_cmpR op_notN1 (pv 1) pe_non (nomark _)) (pw_and1 (pt_cmpR op_gt (pe_callB call_len_seq (by rfl) T.f_len (by decide +kernel) (pa_cons (pv 1) pa_nil)) (C8.pe_gc rfl T.k_MOST_THINGS) (nomark _))))) (pss_one ps_never) pss_nil)
    (pss_cons (ps_fld (pv 0) (pe_ifExp (pt_cmpR op_isN1 (pv 1) pe_non (nomark _)) pe_non (C8.pe_c c_numbered hr (by decide) rfl (pa_cons (pv 1) pa_nil))) rfl)
    (pss_one (ps_fld (pv 0) (pv 2) rfl))))))), ?_⟩
    have hCWish := T.c_Wish
    have hAWish_classes := T.a_Wish_classes
    have hAWish_most := T.a_Wish_most
    obtain ⟨G, x, dx, wi, c, m, rfl, sG, hx, ex, (⟨a, cs, rfl, rfl, rfl, ea, l1, l2⟩ | ⟨k, rfl, rfl, rfl, l1, l2⟩), q⟩ := h
    · walk_at "go"
      refine ⟨a, cs, none, none, rfl, .inl (sG _ _ ea), by omega, fun _ _ => rfl, fun H1 s1 => ?_⟩
      have sG1 := sG.trans s1
      have ex1 := s1 _ _ ex
      walk_at "go"
      refine r_lenL (sG1 _ _ ea) ?_
      walk_at "go"
      rw [List.length_map]
      refine r_dF (by omega) ?_
      walk_at "go"
      refine r_dF (by decide) ?_
      walk_at "go"
      refine r_lenL (sG1 _ _ ea) ?_
      walk_at "go"
      rw [List.length_map]
      refine r_dF (by omega) ?_
      walk_at "go"
      refine ⟨a, cs, rfl, sG1 _ _ ea, by omega, fun p H2 s2 ep => ?_⟩
      have sG2 := sG1.trans s2
      have ex2 := s2 _ _ ex1
      walk_at "go"
      refine r_stG ex2 hCWish hAWish_classes (by decide) ?_
      have hpx : p ≠ x := ne_of ep ex2 (by intro z; cases z)
      walk_at "go"
      refine r_stG upd_same hCWish hAWish_most (by show 1 < 1000; omega) ?_
      walk_at "go"
      rw [upd_upd]
      refine q _ (Same.mut sG2 hx) ⟨.inl ⟨cs, dx, p, rfl, upd_same, ?_, num_len cs⟩⟩
      rw [upd_ne hpx]
      exact ep
    · walk_at "go"
      refine ⟨(k : Int), some 1, some 16, rfl, ?_⟩
      rw [within_ok (by omega) (by omega)]
      walk_at "go"
      refine r_dF (by decide) ?_
      walk_at "go"
      refine r_stG ex hCWish hAWish_classes (by decide) ?_
      walk_at "go"
      refine r_stG upd_same hCWish hAWish_most (by show 1 < 1000; omega) ?_
      walk_at "go"
      rw [upd_upd]
      exact q _ (Same.mut sG hx) ⟨.inr ⟨k, dx, rfl, upd_same⟩⟩
theorem ok_Wish (T : Tx K mg B) : C8.Mak P w K mg base 4 "Wish" B.Wish (spIWish B) [.non] := by
  obtain ⟨f, fd, F, M, O⟩ := ini_Wish (P := P) (w := w) (base := base) T
  obtain ⟨ds, d, b⟩ := F.binds1 (ps := ["self", "classes", "most"]) 2 1 (by intro z; cases z) rfl fun TT kV doc pm an cdv ct us its h1 h2 => match us, h1, its, h2 with | [_, _], _, [_, _], _ => ⟨_, rfl, rfl⟩
  exact ⟨f, fd, _, ds, M, O, T.g_Wish, b, d⟩
abbrev gvMost : List V → List V → List V := fun vs zs => vs ++ [.non] ++ zs
theorem ok_WishW (T : Tx K mg B) : DF.MakW P w K mg base 4 "Wish" B.Wish (spIWish B) ["most"] gvMost := by
  obtain ⟨f, fd, F, M, O⟩ := ini_Wish (P := P) (w := w) (base := base) T
  obtain ⟨its, b⟩ := F.kbindsD (ps := ["self", "classes", "most"]) 1 ["most"] (fun vs ds zs => vs ++ ds.take 1 ++ zs) (by intro z; cases z) (fun r1 r2 r3 => (r1.append (Vals.take 1 r2)).append r3) fun TT kV doc pm an cdv ct us its ws h1 h2 h3 => match us, h1, its, h2, ws, h3 with | [_], _, [_, _], _, [_], _ => ⟨_, rfl, rfl⟩
  exact ⟨f, fd, _, _, M, O, T.g_Wish, b⟩
def spWishOf (B : Adr) : Sp := fun vs H Q _ => ∃ (a : Nat) (cs : List Int), vs = [.ref a] ∧ H a = some (.lst (cs.map V.int)) ∧ 1 ≤ cs.length ∧ cs.length ≤ 4 ∧ ∀ x H', Same H H' → WishAt B H' x (.cls cs) → Q (.ref x) H'
theorem ok_Wish_of (T : Tx K mg B) : ST.Sta P w K mg base 6 B.Wish "of" (spWishOf B) := by
  have c_Wish := ok_Wish (P := P) (w := w) (base := base) T
  refine ST.sta_of T.s_Wish_of scWishOf (fun _ _ _ _ _ _ us hl => match us, hl with | [_], _ => rfl) (fun vs H Q E h => ?_) (fun f cdv AA outer s H vs Q E hr h => ?_)
  · first | (obtain ⟨_, rfl, _⟩ := h; rfl) | (obtain ⟨_, _, rfl, _⟩ := h; rfl) | (obtain ⟨_, _, _, rfl, _⟩ := h; rfl) | (obtain ⟨_, _, _, _, rfl, _⟩ := h; rfl) | (obtain ⟨_, _, _, _, _, rfl, _⟩ := h; rfl) | (obtain ⟨_, _, _, _, _, _, rfl, _⟩ := h; rfl) | (obtain ⟨_, _, _, _, _, _, _, rfl, _⟩ := h; rfl) | (obtain ⟨_, _, _, _, _, _, _, _, rfl, _⟩ := h; rfl) | (obtain ⟨_, _, _, _, _, _, _, _, _, rfl, _⟩ := h; rfl) | (obtain ⟨_, _, _, _, _, _, _, _, _, _, rfl, _⟩ := h; rfl) | (obtain ⟨_, _, _, _, _, _, _, _, _, _, _, rfl, _⟩ := h; rfl) | (obtain ⟨_, _, _, _, _, _, _, _, _, _, _, _, rfl, _⟩ := h; rfl) | (obtain ⟨_, _, _, _, _, _, _, _, _, _, _, _, _, rfl, _⟩ := h; rfl) | (obtain ⟨_, _, _, _, _, _, _, _, _, _, _, _, _, _, rfl, _⟩ := h; rfl) | (obtain ⟨_, _, _, _, _, _, _, _, _, _, _, _, _, _, _, rfl, _⟩ := h; rfl) | (obtain ⟨_, _, _, _, _, _, _, _, _, _, _, _, _, _, _, _, rfl, _⟩ := h; rfl) | (obtain ⟨_, _, _, _, _, _, _, _, _, _, _, _, _, _, _, _, _, rfl, _⟩ := h; rfl) | (obtain ⟨_, _, _, _, _, _, _, _, _, _, _, _, _, _, _, _, _, _, rfl, _⟩ := h; rfl) | (obtain ⟨_, _, _, _, _, _, _, _, _, _, _, _, _, _, _, _, _, _, _, rfl, _⟩ := h; rfl)
  · refine ⟨(tSeq (tIfS (tTest (tOp rIsN (tVar 0) (tC .non))) tNever tNext)
    (tRet (tMake B.Wish (spIWish B) [.non] C8.E0 (tCons (tVar 0) tNil)))),
    (pss_cons (ps_if (pt_cmpR op_isN1 (pv 0) pe_non (nomark _)) (pss_one ps_never) pss_nil)
    (pss_one (ps_ret (C8.pe_mk c_Wish hr (by decide) rfl (pa_cons (pv 0) pa_nil))))), ?_⟩
    obtain ⟨a, cs, rfl, ea, l1, l2, q⟩ := h
    walk_at "go"
    intro x dx hx hd hne
    exact ⟨H, x, dx, .cls cs, _, _, rfl, Same.mut (Same.new hd) hx, hx, upd_same, .inl ⟨a, cs, rfl, rfl, rfl, ea, l1, l2⟩, fun H' s hw => ⟨rfl, q _ _ s hw⟩⟩
def spWishLeft (B : Adr) : Sp := fun vs H Q _ => ∃ (k : Nat), vs = [.int (k : Int)] ∧ 1 ≤ k ∧ k ≤ 4 ∧ ∀ x H', Same H H' → WishAt B H' x (.most k) → Q (.ref x) H'
theorem r_makeW {C : Addr} {m : Nat} {sp : Sp} {gV : List V → List V → List V} {tk : TA} {σ : L2.St} {H : Hp} {Q : VK} (h : tk σ H fun zs H2 => zs.length = m ∧
  ∀ x dx, H2 x = none → H2 dx = none → dx ≠ x → sp (gV [.ref x] zs) (upd (upd H2 dx (.own x)) x (.ins C dx [])) (fun v H3 => v = .non ∧ Q (.ref x) H3) C8.E0) : DF.tMakeW C m sp gV tk σ H Q := h
theorem ok_Wish_left (T : Tx K mg B) : ST.Sta P w K mg base 6 B.Wish "left" (spWishLeft B) := by
  have c_WishW := ok_WishW (P := P) (w := w) (base := base) T
  refine ST.sta_of T.s_Wish_left scWishLeft (fun _ _ _ _ _ _ us hl => match us, hl with | [_], _ => rfl) (fun vs H Q E h => ?_) (fun f cdv AA outer s H vs Q E hr h => ?_)
  · first | (obtain ⟨_, rfl, _⟩ := h; rfl) | (obtain ⟨_, _, rfl, _⟩ := h; rfl) | (obtain ⟨_, _, _, rfl, _⟩ := h; rfl) | (obtain ⟨_, _, _, _, rfl, _⟩ := h; rfl) | (obtain ⟨_, _, _, _, _, rfl, _⟩ := h; rfl) | (obtain ⟨_, _, _, _, _, _, rfl, _⟩ := h; rfl) | (obtain ⟨_, _, _, _, _, _, _, rfl, _⟩ := h; rfl) | (obtain ⟨_, _, _, _, _, _, _, _, rfl, _⟩ := h; rfl) | (obtain ⟨_, _, _, _, _, _, _, _, _, rfl, _⟩ := h; rfl) | (obtain ⟨_, _, _, _, _, _, _, _, _, _, rfl, _⟩ := h; rfl) | (obtain ⟨_, _, _, _, _, _, _, _, _, _, _, rfl, _⟩ := h; rfl) | (obtain ⟨_, _, _, _, _, _, _, _, _, _, _, _, rfl, _⟩ := h; rfl) | (obtain ⟨_, _, _, _, _, _, _, _, _, _, _, _, _, rfl, _⟩ := h; rfl) | (obtain ⟨_, _, _, _, _, _, _, _, _, _, _, _, _, _, rfl, _⟩ := h; rfl) | (obtain ⟨_, _, _, _, _, _, _, _, _, _, _, _, _, _, _, rfl, _⟩ := h; rfl) | (obtain ⟨_, _, _, _, _, _, _, _, _, _, _, _, _, _, _, _, rfl, _⟩ := h; rfl) | (obtain ⟨_, _, _, _, _, _, _, _, _, _, _, _, _, _, _, _, _, rfl, _⟩ := h; rfl) | (obtain ⟨_, _, _, _, _, _, _, _, _, _, _, _, _, _, _, _, _, _, rfl, _⟩ := h; rfl) | (obtain ⟨_, _, _, _, _, _, _, _, _, _, _, _, _, _, _, _, _, _, _, rfl, _⟩ := h; rfl)
  · refine ⟨(tSeq (tIfS (tTest (tOp rIsN (tVar 0) (tC .non))) tNever tNext)
    (tRet (DF.tMakeW B.Wish [("most" : Str)].length (spIWish B) gvMost (tCons (tVar 0) tNil)))),
    (pss_cons (ps_if (pt_cmpR op_isN1 (pv 0) pe_non (nomark _)) (pss_one ps_never) pss_nil)
    (pss_one (ps_ret (DF.pe_makeW c_WishW hr (by decide) (by rfl) (pk_cons (pv 0) pk_nil))))), ?_⟩
    obtain ⟨k, rfl, l1, l2, q⟩ := h
    walk_at "go"
    refine r_makeW ?_
    walk_at "go"
    refine ⟨rfl, fun x dx hx hd hne => ?_⟩
    exact ⟨H, x, dx, .most k, _, _, rfl, Same.mut (Same.new hd) hx, hx, upd_same, .inr ⟨k, rfl, rfl, rfl, l1, l2⟩, fun H' s hw => ⟨rfl, q _ _ s hw⟩⟩
def spNeedLike (B : Adr) : Sp := fun vs H Q _ => ∃ (st ru wi : Nat) (things ans heaps : Nat) (qs : List (Nat × List Nat)) (rows : List (List (Option Nat))) (wv : Wi), vs = [.ref st, .ref ru, .ref wi] ∧ StockAt B H st things ans heaps qs ∧ RuleAt B H ru ans heaps rows ∧ WishAt B H wi wv ∧ (∀ cs, wv = .cls cs → cs.length = things) ∧ Q .non H
theorem ok_need_like (T : Tx K mg B) : C8.Cal P w K mg base 1 "need_like" (spNeedLike B) [] := by
  refine cal_of T.d_need_like scNeedLike (fun _ _ _ _ _ _ us hl => match us, hl with | [_, _, _], _ => rfl) (fun vs H Q E h => ?_) (fun f cdv AA outer s H vs Q E hr h => ?_)
  · first | (obtain ⟨_, rfl, _⟩ := h; rfl) | (obtain ⟨_, _, rfl, _⟩ := h; rfl) | (obtain ⟨_, _, _, rfl, _⟩ := h; rfl) | (obtain ⟨_, _, _, _, rfl, _⟩ := h; rfl) | (obtain ⟨_, _, _, _, _, rfl, _⟩ := h; rfl) | (obtain ⟨_, _, _, _, _, _, rfl, _⟩ := h; rfl) | (obtain ⟨_, _, _, _, _, _, _, rfl, _⟩ := h; rfl) | (obtain ⟨_, _, _, _, _, _, _, _, rfl, _⟩ := h; rfl) | (obtain ⟨_, _, _, _, _, _, _, _, _, rfl, _⟩ := h; rfl) | (obtain ⟨_, _, _, _, _, _, _, _, _, _, rfl, _⟩ := h; rfl) | (obtain ⟨_, _, _, _, _, _, _, _, _, _, _, rfl, _⟩ := h; rfl) | (obtain ⟨_, _, _, _, _, _, _, _, _, _, _, _, rfl, _⟩ := h; rfl) | (obtain ⟨_, _, _, _, _, _, _, _, _, _, _, _, _, rfl, _⟩ := h; rfl) | (obtain ⟨_, _, _, _, _, _, _, _, _, _, _, _, _, _, rfl, _⟩ := h; rfl) | (obtain ⟨_, _, _, _, _, _, _, _, _, _, _, _, _, _, _, rfl, _⟩ := h; rfl) | (obtain ⟨_, _, _, _, _, _, _, _, _, _, _, _, _, _, _, _, rfl, _⟩ := h; rfl) | (obtain ⟨_, _, _, _, _, _, _, _, _, _, _, _, _, _, _, _, _, rfl, _⟩ := h; rfl) | (obtain ⟨_, _, _, _, _, _, _, _, _, _, _, _, _, _, _, _, _, _, rfl, _⟩ := h; rfl) | (obtain ⟨_, _, _, _, _, _, _, _, _, _, _, _, _, _, _, _, _, _, _, rfl, _⟩ := h; rfl)
  · refine ⟨(tSeq (tIfS (tTest (tOp rNe (tFld K (tVar 1) "answerers") (tFld K (tVar 0) "answerers"))) tNever tNext)
    (tSeq (tIfS (tTest (tOp rNe (tFld K (tVar 1) "heaps") (tFld K (tVar 0) "heaps"))) tNever tNext)
    (tIfS (tAnd (tTest (tOp rNotN (tFld K (tVar 2) "classes") (tC .non))) (tTest (tOp rNe (tCB (Evl.rLenS K) (tCons (tFld K (tVar 2) "classes") tNil)) (tFld K (tVar 0) "things")))) tNever tNext))),
    (pss_cons (ps_if (pt_cmpR op_ne (pe_fld (pv 1) rfl) (pe_fld (pv 0) rfl) (nomark _)) (pss_one ps_never) pss_nil)
    (pss_cons (ps_if (pt_cmpR op_ne (pe_fld (pv 1) rfl) (pe_fld (pv 0) rfl) (nomark _)) (pss_one ps_never) pss_nil)
    (pss_one (ps_if (PW.pt (pw_and (pt_cmpR op_notN1 (pe_fld (pv 2) rfl) pe_non (nomark _)) (pw_and1 (pt_cmpR op_ne (pe_callB call_len_seq (by rfl) T.f_len (by decide +kernel) (pa_cons (pe_fld (pv 2) rfl) pa_nil)) (pe_fld (pv 0) rfl) (nomark _))))) (pss_one ps_never) pss_nil)))), ?_⟩
    have hCRule := T.c_Rule
    have hCStock := T.c_Stock
    have hCWish := T.c_Wish
    have hARule_answerers := T.a_Rule_answerers
    have hAStock_answerers := T.a_Stock_answerers
    have hARule_heaps := T.a_Rule_heaps
    have hAStock_heaps := T.a_Stock_heaps
    have hAWish_classes := T.a_Wish_classes
    have hAStock_things := T.a_Stock_things
    obtain ⟨st, ru, wi, things, ans, heaps, qs, rows, wv, rfl, ⟨dx1, qp, ws, e1, e2, e3⟩, ⟨dx2, rp, ev, e4, e5⟩, ⟨hw⟩, hl, q⟩ := h
    walk_at "go"
    rw [decide_eq_true rfl]
    walk_at "go"
    rw [decide_eq_true rfl]
    walk_at "go"
    rcases hw with ⟨cs, dx, c, rfl, e6, e7, e8⟩ | ⟨m, dx, rfl, e6⟩
    · walk_at "go"
      refine r_lenT e7 ?_
      walk_at "go"
      rw [List.length_map, e8, hl cs rfl, decide_eq_true rfl]
      walk_at "go"
      exact q
    · walk_at "go"
      exact q
def spICase (B : Adr) : Sp := fun vs H Q _ => ∃ (G : Hp) (x dx st ru fp wi : Nat) (c : Cs), vs = [.ref x, .ref st, .ref ru, .ref fp, .ref wi] ∧ Same G H ∧ G x = none ∧ H x = some (.ins B.Case dx []) ∧ StockAt B G st c.things c.ans c.heaps c.qs ∧ RuleAt B G ru c.ans c.heaps c.rows ∧ G fp = some (.lst (vN c.firsts)) ∧ WishAt B G wi c.wish ∧ c.Ok ∧
  ∀ H', Same G H' → CaseAt B H' x c → Q .non H'
theorem ok_Case (T : Tx K mg B) : C8.Mak P w K mg base 4 "Case" B.Case (spICase B) [] := by
  have c_are_within := ok_are_within (P := P) (w := w) (base := base) T
  have c_is_within := ok_is_within (P := P) (w := w) (base := base) T
  have c_Rule_len := ok_Rule_len (P := P) (w := w) (base := base) T
  have c_need_like := ok_need_like (P := P) (w := w) (base := base) T
  refine mak_of T.n_Case T.g_Case scCaseInit (fun _ _ _ _ _ _ us hl => match us, hl with | [_, _, _, _, _], _ => rfl) (fun vs H Q E h => ?_) (fun f cdv AA outer s H vs Q E hr h => ?_)
  · first | (obtain ⟨_, rfl, _⟩ := h; rfl) | (obtain ⟨_, _, rfl, _⟩ := h; rfl) | (obtain ⟨_, _, _, rfl, _⟩ := h; rfl) | (obtain ⟨_, _, _, _, rfl, _⟩ := h; rfl) | (obtain ⟨_, _, _, _, _, rfl, _⟩ := h; rfl) | (obtain ⟨_, _, _, _, _, _, rfl, _⟩ := h; rfl) | (obtain ⟨_, _, _, _, _, _, _, rfl, _⟩ := h; rfl) | (obtain ⟨_, _, _, _, _, _, _, _, rfl, _⟩ := h; rfl) | (obtain ⟨_, _, _, _, _, _, _, _, _, rfl, _⟩ := h; rfl) | (obtain ⟨_, _, _, _, _, _, _, _, _, _, rfl, _⟩ := h; rfl) | (obtain ⟨_, _, _, _, _, _, _, _, _, _, _, rfl, _⟩ := h; rfl) | (obtain ⟨_, _, _, _, _, _, _, _, _, _, _, _, rfl, _⟩ := h; rfl) | (obtain ⟨_, _, _, _, _, _, _, _, _, _, _, _, _, rfl, _⟩ := h; rfl) | (obtain ⟨_, _, _, _, _, _, _, _, _, _, _, _, _, _, rfl, _⟩ := h; rfl) | (obtain ⟨_, _, _, _, _, _, _, _, _, _, _, _, _, _, _, rfl, _⟩ := h; rfl) | (obtain ⟨_, _, _, _, _, _, _, _, _, _, _, _, _, _, _, _, rfl, _⟩ := h; rfl) | (obtain ⟨_, _, _, _, _, _, _, _, _, _, _, _, _, _, _, _, _, rfl, _⟩ := h; rfl) | (obtain ⟨_, _, _, _, _, _, _, _, _, _, _, _, _, _, _, _, _, _, rfl, _⟩ := h; rfl) | (obtain ⟨_, _, _, _, _, _, _, _, _, _, _, _, _, _, _, _, _, _, _, rfl, _⟩ := h; rfl)
  · refine ⟨(tSeq (tIfS (tNot (tB (tCB (rIsC B.Stock) (tCons (tVar 1) (tCons (tC (.ref B.Stock)) tNil))))) tNever tNext)
    (tSeq (tIfS (tNot (tB (tCB (rIsC B.Rule) (tCons (tVar 2) (tCons (tC (.ref B.Rule)) tNil))))) tNever tNext)
    (tSeq (tIfS (tOr (tNot (tB (tCall spAreWithin [] C8.E0 (tCons (tVar 3) (tCons (tC .non) (tCons (tC .non) tNil)))))) (tTest (tOp rNe (tCB (Evl.rLenS K) (tCons (tVar 3) tNil)) (tFld K (tVar 1) "things")))) tNever tNext)
    (tSeq (tIfS (tNot (tB (tCB (rIsC B.Wish) (tCons (tVar 4) (tCons (tC (.ref B.Wish)) tNil))))) tNever tNext)
    (tSeq (tFor (iList K (tVar 3)) (gName 5) (tIfS (tNot (tB (tCall spIsWithin [] C8.E0 (tCons (tVar 5) (tCons (tC (.int 0)) (tCons (tOp qSub (tCB (RL.rLenOwn B.Rule (spRuleLen B)) (tCons (tVar 2) tNil)) (tC (.int 1))) tNil)))))) tNever tNext))
    (tSeq (tDrop (tCall (spNeedLike B) [] C8.E0 (tCons (tVar 1) (tCons (tVar 2) (tCons (tVar 4) tNil)))))
    (tSeq (sFld K (tVar 0) (tVar 1) "stock")
    (tSeq (sFld K (tVar 0) (tVar 2) "rule")
    (tSeq (sFld K (tVar 0) (tCB (qTupS K) (tCons (tCB (Evl.rListS K) (tCons (tVar 3) tNil)) tNil)) "firsts")
    (tSeq (sFld K (tVar 0) (tVar 4) "wish")
    (tSeq (sFld K (tVar 0) (tFld K (tVar 1) "things") "things")
    (tSeq (sFld K (tVar 0) (tFld K (tVar 1) "answerers") "answerers")
    (sFld K (tVar 0) (tFld K (tVar 1) "heaps") "heaps"))))))))))))),
    (pss_cons (ps_if (pt_not (pt_val (pe_callB (C8.call_isC T.i_Stock) (by rfl) T.f_isinstance (by decide +kernel) (pa_cons (pv 1) (pa_cons (pe_glob rfl T.g_Stock rfl) pa_nil))))) (pss_one ps_never) pss_nil)
    (pss_cons (ps_if (pt_not (pt_val (pe_callB (C8.call_isC T.i_Rule) (by rfl) T.f_isinstance (by decide +kernel) (pa_cons (pv 2) (pa_cons (pe_glob rfl T.g_Rule rfl) pa_nil))))) (pss_one ps_never) pss_nil)
    (pss_cons (ps_if (PW.pt (pw_or (pt_not (pt_val (C8.pe_c c_are_within hr (by decide) rfl (pa_cons (pv 3) (pa_cons pe_non (pa_cons pe_non pa_nil)))))) (pw_or1 (pt_cmpR op_ne (pe_callB call_len_seq (by rfl) T.f_len (by decide +kernel) (pa_cons (pv 3) pa_nil)) (pe_fld (pv 1) rfl) (nomark _))))) (pss_one ps_never) pss_nil)
    (pss_cons (ps_if (pt_not (pt_val (pe_callB (C8.call_isC T.i_Wish) (by rfl) T.f_isinstance (by decide +kernel) (pa_cons (pv 4) (pa_cons (pe_glob rfl T.g_Wish rfl) pa_nil))))) (pss_one ps_never) pss_nil)
    (pss_cons (ps_for PassesOwn.never rfl (pi_list (pv 3)) (pg_name (i := 5) scCaseInit.nd rfl (Or.inl rfl)) (pss_one (ps_if (pt_not (pt_val (C8.pe_c c_is_within hr (by decide) rfl (pa_cons (pv 5) (pa_cons pe_int (pa_cons (pe_op op_sub (pe_callB (RL.lenR c_Rule_len hr (by decide)) (by rfl) T.f_len (by decide +kernel) (pa_cons (pv 2) pa_nil)) pe_int) pa_nil)))))) (pss_one ps_never) pss_nil)))
    (pss_cons (ps_expr (C8.pe_c c_need_like hr (by decide) rfl (pa_cons (pv 1) (pa_cons (pv 2) (pa_cons (pv 4) pa_nil)))))
    (pss_cons (ps_fld (pv 0) (pv 1) rfl)
    (pss_cons (ps_fld (pv 0) (pv 2) rfl)
    (pss_cons (ps_fld (pv 0) (pe_callTy call_tuple_of (by rfl) T.f_tuple (by decide +kernel) (pa_cons (pe_callTy call_list_of (by rfl) T.f_list (by decide +kernel) (pa_cons (pv 3) pa_nil)) pa_nil)) rfl)
    (pss_cons (ps_fld (pv 0) (pv 4) rfl)
    (pss_cons (ps_fld (pv 0) (pe_fld (pv 1) rfl) rfl)
    (pss_cons (ps_fld (pv 0) (pe_fld (pv 1) rfl) rfl)
    (pss_one (ps_fld (pv 0) (pe_fld (pv 1) rfl) rfl)))))))))))))), ?_⟩
    have hCStock := T.c_Stock
    have hCCase := T.c_Case
    have hAStock_things := T.a_Stock_things
    have hACase_stock := T.a_Case_stock
    have hACase_rule := T.a_Case_rule
    have hACase_firsts := T.a_Case_firsts
    have hACase_wish := T.a_Case_wish
    have hACase_things := T.a_Case_things
    have hAStock_answerers := T.a_Stock_answerers
    have hACase_answerers := T.a_Case_answerers
    have hAStock_heaps := T.a_Stock_heaps
    have hACase_heaps := T.a_Case_heaps
    obtain ⟨G, x, dx, st, ru, fp, wi, c, rfl, sG, hx, ex, hst, hru, hfp, hwi, ok, q⟩ := h
    have hlen := ok.rows.len
    have hth := ok.things
    obtain ⟨dx1, qp, ws, e1, e2, e3⟩ := (hst.up sG).ex
    obtain ⟨dx2, rp, ev, e4, e5⟩ := (hru.up sG).ex
    walk_at "go"
    refine ⟨fp, c.firsts.map fun n : Nat => (n : Int), none, none, rfl, .inl (by rw [← vN_ints]; exact sG _ _ hfp), by rw [List.length_map, ok.flen]; omega, fun _ _ => rfl, fun H1 s1 => ?_⟩
    have sG1 := sG.trans s1
    have ex1 := s1 _ _ ex
    have e11 := s1 _ _ e1
    walk_at "go"
    refine r_lenL (sG1 _ _ hfp) ?_
    walk_at "go"
    rw [vN_len, ok.flen, decide_eq_true rfl]
    walk_at "go"
    obtain ⟨dx3, fs3, e6⟩ : ∃ dx fs, G wi = some (.ins B.Wish dx fs) := by
      rcases hwi.ex with ⟨cs, dx, p, h1, h2, h3, h4⟩ | ⟨m, dx, h1, h2⟩
      · exact ⟨_, _, h2⟩
      · exact ⟨_, _, h2⟩
    have e61 := sG1 _ _ e6
    refine r_isC e61 ?_
    walk_at "go"
    refine ⟨fp, rfl, ⟨_, SqL.of (sG1 _ _ hfp)⟩, for_1 walk_list yAt (fun i σ H' => Same H1 H' ∧ ∃ v, σ = [some (.ref x), some (.ref st), some (.ref ru), some (.ref fp), some (.ref wi), v]) ⟨Same.refl _, _, rfl⟩ (fun i σ H' _ p => SqL.of (p.1 _ _ (sG1 _ _ hfp))) ?_ ?_⟩
    · rintro i y σ H2 hi ⟨s2, v, rfl⟩ hy
      obtain ⟨n, hn, rfl⟩ := vN_of hy
      have sG2 := sG1.trans s2
      obtain ⟨dx4, rp4, ev4, e42, _⟩ := (hru.up sG2).ex
      walk_at "go"
      refine ⟨ru, dx4, _, rfl, e42, ⟨ru, c.ans, c.heaps, c.rows, rfl, hru.up sG2, c.rows.length, rfl, by omega, ?_⟩⟩
      walk_at "go"
      refine ⟨(n : Int), some 0, some ((c.rows.length : Int) - 1), rfl, ?_⟩
      have := ok.firsts n (List.mem_of_getElem? hn)
      rw [within_ok (by omega) (by omega)]
      walk_at "go"
      exact ⟨s2, _, rfl⟩
    · rintro σ H2 ⟨s2, v, rfl⟩
      have sG2 := sG1.trans s2
      have ex2 := s2 _ _ ex1
      walk_at "go"
      refine ⟨st, ru, wi, c.things, c.ans, c.heaps, c.qs, c.rows, c.wish, rfl, hst.up sG2, hru.up sG2, hwi.up sG2, fun cs hcs => ?_, ?_⟩
      · have hw := ok.wish
        rw [hcs] at hw
        exact hw
      walk_at "go"
      refine r_stG ex2 hCCase hACase_stock (by decide) ?_
      walk_at "go"
      refine r_stG upd_same hCCase hACase_rule (by show 1 < 1000; omega) ?_
      rw [upd_upd]
      have sG3 := Same.mut (o := .ins B.Case dx (putF "rule" (.ref ru) (putF "stock" (.ref st) []))) sG2 hx
      have ex3 : upd H2 x (.ins B.Case dx (putF "rule" (.ref ru) (putF "stock" (.ref st) []))) x = some (.ins B.Case dx (putF "rule" (.ref ru) (putF "stock" (.ref st) []))) := upd_same
      generalize upd H2 x (.ins B.Case dx (putF "rule" (.ref ru) (putF "stock" (.ref st) []))) = H3 at sG3 ex3 ⊢
      walk_at "go"
      refine r_listL (sG3 _ _ hfp) fun l hl => ?_
      walk_at "go"
      refine r_tupL upd_same fun t ht => ?_
      have sn : Same H3 (upd (upd H3 l (.lst (vN c.firsts))) t (.tup (vN c.firsts))) := (Same.new hl).trans (Same.new ht)
      have et : upd (upd H3 l (.lst (vN c.firsts))) t (.tup (vN c.firsts)) t = some (.tup (vN c.firsts)) := upd_same
      have sG4 := sG3.trans sn
      have ex4 := sn _ _ ex3
      generalize upd (upd H3 l (.lst (vN c.firsts))) t (.tup (vN c.firsts)) = H4 at sn et sG4 ex4 ⊢
      have htx : t ≠ x := ne_of et ex4 (by intro z; cases z)
      walk_at "go"
      refine r_stG ex4 hCCase hACase_firsts (by show 2 < 1000; omega) ?_
      walk_at "go"
      refine r_stG upd_same hCCase hACase_wish (by show 3 < 1000; omega) ?_
      rw [upd_upd]
      obtain ⟨dx5, qp5, ws5, e15, e25, e35⟩ := hst.ex
      have key : ∀ fs, Same G (upd H4 x (.ins B.Case dx fs)) := fun fs => Same.mut sG4 hx
      walk_at "go"
      refine r_fldG (key _ _ _ e15) hCStock hAStock_things rfl ?_
      walk_at "go"
      refine r_stG upd_same hCCase hACase_things (by show 4 < 1000; omega) ?_
      rw [upd_upd]
      walk_at "go"
      refine r_fldG (key _ _ _ e15) hCStock hAStock_answerers rfl ?_
      walk_at "go"
      refine r_stG upd_same hCCase hACase_answerers (by show 5 < 1000; omega) ?_
      rw [upd_upd]
      walk_at "go"
      refine r_fldG (key _ _ _ e15) hCStock hAStock_heaps rfl ?_
      walk_at "go"
      refine r_stG upd_same hCCase hACase_heaps (by show 6 < 1000; omega) ?_
      rw [upd_upd]
      walk_at "go"
      refine q _ (key _) ⟨dx, st, ru, t, wi, upd_same, hst.up (key _), hru.up (key _), ?_, hwi.up (key _)⟩
      rw [upd_ne htx]
      exact et
end

end TW

set_option Elab.async false
set_option linter.all false
set_option maxRecDepth 100000
set_option maxHeartbeats 4000000
namespace TW
open PySem PySem.Spec PyProof.Rows L2
local macro_rules | `(tactic| walk_at "st0") => `(tactic| with_reducible (first | refine r_seq ?_ | refine r_next ?_ | refine r_ret ?_ | refine r_retN ?_ | refine r_drop ?_ | refine r_asg ?_ | refine r_if ?_ | refine r_gName ?_ | refine r_par ?_ | refine r_c ?_ | refine r_cons ?_ | refine r_nil ?_ | refine r_op ?_ | refine r_CB ?_ | refine r_andV ?_ | refine r_orV ?_ | refine r_notV ?_ | refine r_tIf ?_ | refine r_B ?_ | refine r_Test ?_ | refine r_and ?_ | refine r_or ?_ | refine r_not ?_ | refine r_yes ?_ | refine r_bl ?_ | refine r_T ?_ | refine r_F ?_ | refine r_nT ?_ | refine r_nF ?_ | refine r_I0 ?_ | refine r_eqI ?_ | refine r_neI ?_ | refine r_eqB ?_ | refine r_neB ?_ | refine r_isN0 ?_ | refine r_isN1 ?_ | refine r_isN2 ?_ | refine r_notN0 ?_ | refine r_notN1 ?_ | refine r_notN2 ?_ | refine r_isNo ?_ | refine r_notNo ?_ | refine r_fld ?_ | refine r_sfld ?_ | refine r_tup ?_ | refine r_lst ?_ | refine r_call ?_ | refine r_make ?_ | refine r_sl ?_ | refine r_part ?_ | refine r_noPart ?_ | refine r_iList ?_ | refine r_iTup ?_ | refine r_iRng1 ?_ | refine r_iEnum ?_ | refine r_int1 ?_ | refine r_intB ?_ | refine r_abs ?_ | refine r_bm ?_ | refine r_lc ?_ | refine r_for ?_))
local macro_rules | `(tactic| walk_at "st") => `(tactic| first | walk_at "st0" | ((with_reducible refine' r_var ?e ?_); (case e => exact rfl)) | ((with_reducible refine' r_fldG ?e1 ?e2 ?e3 ?e4 ?_); (case e1 => assumption); (case e2 => assumption); (case e3 => assumption); (case e4 => exact rfl)) | ((with_reducible refine' r_isC ?e ?_); (case e => assumption)) | dsimp only)
local macro_rules | `(tactic| walk_at "go") => `(tactic| repeat (walk_at "st"))
section
variable {P : Program} {w : World} {K : PySem.W.Frag} {mg : Str → Option Value} {base : Heap} {B : Adr}
/-! data that may be compared -/
structure Shp (d : PyData) (n : Nat) : Prop where
  lay : d.canLay0 = true
  dep : d.depth ≤ n
theorem Shp.sh {d : PyData} {n : Nat} (h : Shp d n) (hn : n ≤ 64) : SeqAt.shaped d = true := by
  unfold SeqAt.shaped
  rw [h.lay, decide_eq_true (Nat.le_trans h.dep hn)]
  rfl
theorem shp_int (i : Int) : Shp (.int i) 0 := ⟨by rw [PyData.canLay0], by rw [PyData.depth]; exact Nat.le_refl _⟩
theorem shp_none : Shp .none 0 := ⟨by rw [PyData.canLay0], by rw [PyData.depth]; exact Nat.le_refl _⟩
theorem shp_bool (b : Bool) : Shp (.bool b) 0 := ⟨by rw [PyData.canLay0], by rw [PyData.depth]; exact Nat.le_refl _⟩
theorem shp_all : ∀ {ds : List PyData} {n : Nat}, (∀ d ∈ ds, Shp d n) → PyData.canLayAll0 ds = true ∧ PyData.depthAll ds ≤ n
  | [], _, _ => ⟨by rw [PyData.canLayAll0], by rw [PyData.depthAll]; exact Nat.zero_le _⟩
  | d :: ds, n, h => by
    obtain ⟨h1, h2⟩ := shp_all fun e he => h e (List.mem_cons_of_mem _ he)
    have h3 := h d List.mem_cons_self
    refine ⟨by rw [PyData.canLayAll0, h3.lay, h1]; rfl, ?_⟩
    rw [PyData.depthAll]
    exact Nat.max_le.mpr ⟨h3.dep, h2⟩
theorem shp_tup {ds : List PyData} {n : Nat} (h : ∀ d ∈ ds, Shp d n) : Shp (.tuple ds) (n + 1) := by
  obtain ⟨h1, h2⟩ := shp_all h
  exact ⟨by rw [PyData.canLay0]; exact h1, by rw [PyData.depth]; exact Nat.succ_le_succ h2⟩
theorem shp_lst {ds : List PyData} {n : Nat} (h : ∀ d ∈ ds, Shp d n) : Shp (.list ds) (n + 1) := by
  obtain ⟨h1, h2⟩ := shp_all h
  exact ⟨by rw [PyData.canLay0]; exact h1, by rw [PyData.depth]; exact Nat.succ_le_succ h2⟩
theorem shp_up {d : PyData} {n m : Nat} (h : Shp d n) (hm : n ≤ m) : Shp d m := ⟨h.lay, Nat.le_trans h.dep hm⟩
theorem shp_map {α : Type} {f : α → PyData} {n : Nat} (h : ∀ a, Shp (f a) n) (l : List α) : ∀ d ∈ l.map f, Shp d n := fun d hd => by
  obtain ⟨a, _, rfl⟩ := List.mem_map.mp hd
  exact h a
theorem shp_dN (ns : List Nat) : Shp (.tuple (dN ns)) 1 := shp_tup (shp_map (fun n : Nat => shp_int (n : Int)) ns)
theorem eqv_map {α : Type} [DecidableEq α] {f : α → PyData} (h : ∀ a b, PyData.eqv (f a) (f b) = decide (a = b)) : ∀ l m : List α, PyData.eqvAll (l.map f) (m.map f) = decide (l = m)
  | [], [] => by
    rw [List.map_nil, PyData.eqvAll, decide_eq_true rfl]
  | [], b :: m => by
    rw [List.map_nil, List.map_cons, PyData.eqvAll, decide_eq_false (by intro z; cases z)]
  | a :: l, [] => by
    rw [List.map_nil, List.map_cons, PyData.eqvAll, decide_eq_false (by intro z; cases z)]
  | a :: l, b :: m => by
    rw [List.map_cons, List.map_cons, PyData.eqvAll, h a b, eqv_map h l m, ← Bool.decide_and]
    exact decide_eq_decide.mpr ⟨fun ⟨x, y⟩ => by rw [x, y], fun z => by injection z with x y; exact ⟨x, y⟩⟩
theorem eqv_nat (a b : Nat) : PyData.eqv (.int (a : Int)) (.int (b : Int)) = decide (a = b) := by
  rw [PyData.eqv]
  by_cases e : a = b
  · subst e
    rw [decide_eq_true rfl]
    exact beq_self_eq_true _
  · rw [decide_eq_false e]
    exact beq_eq_false_iff_ne.mpr fun z => e (Int.ofNat.inj z)
theorem eqv_dN (l m : List Nat) : PyData.eqv (.tuple (dN l)) (.tuple (dN m)) = decide (l = m) := by
  rw [PyData.eqv]
  exact eqv_map eqv_nat l m
/-! the stands, thing by thing -/
def dS (S : List (List Nat)) : PyData := .tuple (S.map fun s => .tuple (dN s))
theorem eqv_dS (S T : List (List Nat)) : PyData.eqv (dS S) (dS T) = decide (S = T) := by
  unfold dS
  rw [PyData.eqv]
  exact eqv_map eqv_dN S T
theorem shp_dS (S : List (List Nat)) : Shp (dS S) 2 := shp_tup (shp_map shp_dN S)
/-- the heaps that an answer lets -/
def lets (heaps : Nat) : Option Nat → List Nat
  | none => List.range heaps
  | some h => [h]
def outs (c : Cs) (q : Nat × List Nat) (t : Option Nat) (th : Nat) (S : List Nat) : List Nat := S.flatMap fun st => (lets c.heaps t).filterMap fun h => nxt c.heaps c.rows st q.1 (q.2.getD th 0) h
def stA (c : Cs) (q : Nat × List Nat) (t : Option Nat) (th : Nat) (S : List Nat) : List Nat := (List.range c.rows.length).filter fun s => decide (s ∈ outs c q t th S)
def stage (c : Cs) (F : List (List Nat)) (nt : Nat × Option Nat) : List (List Nat) := (List.range F.length).map fun i => stA c (c.qs.getD nt.1 (0, [])) nt.2 i (F.getD i [])
def standsOf (c : Cs) (log : List (Nat × Option Nat)) : List (List Nat) := log.foldl (stage c) (c.firsts.map fun f => [f])
def opens (S : List (List Nat)) : List Nat := (List.range S.length).filter fun i => !decide (S.getD i [] = [])
theorem nxt_lt {c : Cs} (ok : c.Ok) {st who t h n : Nat} (e : nxt c.heaps c.rows st who t h = some n) : n < c.rows.length := by
  unfold nxt at e
  have h1 : c.rows.getD st [] ∈ c.rows ∨ c.rows.getD st [] = [] := by
    rw [List.getD_eq_getElem?_getD]
    cases q : c.rows[st]? with
    | none => exact .inr rfl
    | some r => exact .inl (List.mem_of_getElem? q)
  rcases h1 with h1 | h1
  · rw [List.getD_eq_getElem?_getD] at e
    cases q : (c.rows.getD st [])[(who * c.heaps + t) * c.heaps + h]? with
    | none =>
      rw [q] at e
      cases e
    | some o =>
      rw [q] at e
      have e2 : o = some n := e
      rw [e2] at q
      exact ok.rows.ent _ h1 _ (List.mem_of_getElem? q)
  · rw [h1] at e
    cases e
theorem outs_lt {c : Cs} (ok : c.Ok) {q : Nat × List Nat} {t : Option Nat} {th : Nat} {S : List Nat} {n : Nat} (h : n ∈ outs c q t th S) : n < c.rows.length := by
  obtain ⟨st, _, h1⟩ := List.mem_flatMap.mp h
  obtain ⟨x, _, h2⟩ := List.mem_filterMap.mp h1
  exact nxt_lt ok h2
theorem stA_lt {c : Cs} {q : Nat × List Nat} {t : Option Nat} {th : Nat} {S : List Nat} {n : Nat} (h : n ∈ stA c q t th S) : n < c.rows.length := List.mem_range.mp (List.mem_filter.mp h).1
theorem stA_len {c : Cs} {q : Nat × List Nat} {t : Option Nat} {th : Nat} {S : List Nat} : (stA c q t th S).length ≤ c.rows.length := filt_len
theorem range_sorted (n : Nat) : (List.range n).Pairwise (· < ·) := List.pairwise_lt_range
/-- two rising lists with the same members -/
theorem rise_ext : ∀ {l m : List Nat}, l.Pairwise (· < ·) → m.Pairwise (· < ·) → (∀ x, x ∈ l ↔ x ∈ m) → l = m
  | [], [], _, _, _ => rfl
  | [], b :: m, _, _, h => absurd ((h b).mpr List.mem_cons_self) List.not_mem_nil
  | a :: l, [], _, _, h => absurd ((h a).mp List.mem_cons_self) List.not_mem_nil
  | a :: l, b :: m, hl, hm, h => by
    obtain ⟨h1, h2⟩ := List.pairwise_cons.mp hl
    obtain ⟨h3, h4⟩ := List.pairwise_cons.mp hm
    have e : a = b := by
      rcases List.mem_cons.mp ((h a).mp List.mem_cons_self) with z | z
      · exact z
      · rcases List.mem_cons.mp ((h b).mpr List.mem_cons_self) with y | y
        · exact y.symm
        · have x1 := h3 a z
          have x2 := h1 b y
          omega
    subst e
    have e2 : l = m := rise_ext h2 h4 fun x => by
      constructor
      · intro hx
        rcases List.mem_cons.mp ((h x).mp (List.mem_cons_of_mem _ hx)) with z | z
        · have := h1 x hx
          omega
        · exact z
      · intro hx
        rcases List.mem_cons.mp ((h x).mpr (List.mem_cons_of_mem _ hx)) with z | z
        · have := h3 x hx
          omega
        · exact z
    rw [e2]
def natI (n : Nat) : Int := (n : Int)
theorem map_natI {ks : List Nat} {ns : List Int} (h : ns.Perm (ks.map natI)) : ∃ ms : List Nat, ns = ms.map natI ∧ ms.Perm ks := by
  refine ⟨ns.map Int.toNat, ?_, ?_⟩
  · rw [List.map_map]
    have : ∀ x ∈ ns, (natI ∘ Int.toNat) x = x := fun x hx => by
      obtain ⟨n, _, rfl⟩ := List.mem_map.mp (h.mem_iff.mp hx)
      rfl
    conv => lhs; rw [← List.map_id ns]
    exact (List.map_congr_left fun x hx => (this x hx).symm)
  · have e : (ks.map natI).map Int.toNat = ks := by
      rw [List.map_map]
      conv => rhs; rw [← List.map_id ks]
      exact List.map_congr_left fun x _ => rfl
    rw [← e]
    exact h.map _
/-- ks sorted -/
theorem sorted_to {ks : List Nat} {ns : List Int} {R : Nat} {p : Nat → Bool} (nd : ks.Nodup) (h1 : ns.Perm (ks.map natI)) (h2 : ns.Pairwise (· ≤ ·)) (hk : ∀ n, n ∈ ks ↔ n < R ∧ p n = true) : ns.map V.int = vN ((List.range R).filter p) := by
  obtain ⟨ms, rfl, hp⟩ := map_natI h1
  have h3 : ms.Pairwise (· ≤ ·) := by
    have := List.pairwise_map.mp h2
    exact this.imp fun h => Int.ofNat_le.mp h
  have h4 : ms.Nodup := hp.nodup_iff.mpr nd
  have h5 : ms.Pairwise (· < ·) := by
    have := List.pairwise_and_iff.mpr ⟨h3, h4⟩
    exact this.imp fun h => Nat.lt_of_le_of_ne h.1 h.2
  have e : ms = (List.range R).filter p := rise_ext h5 ((range_sorted R).filter p) fun x => by
    rw [hp.mem_iff, hk, List.mem_filter, List.mem_range]
  rw [e]
  unfold vN
  rw [List.map_map]
  rfl
theorem r_notO {H : Hp} {Q : VK} {o : Option Nat} (h : Q (.bl o.isSome) H) : rNotN (oN o) .non H Q := ⟨rfl, by cases o <;> exact h⟩
theorem r_isO {H : Hp} {Q : VK} {o : Option Nat} (h : Q (.bl o.isNone) H) : rIsN (oN o) .non H Q := ⟨rfl, by cases o <;> exact h⟩
theorem r_lstRg {te : TE} {σ : L2.St} {H : Hp} {Q : VK} (h : te σ H fun x H1 => ∃ n, x = .int n ∧ RgOk 0 n ∧ ∀ q, H1 q = none → Q (.ref q) (upd H1 q (.lst (rgV 0 n)))) : tLstRg (tRg1 te) σ H Q := h
theorem rgV_nat (n : Nat) : rgV 0 (n : Int) = vN (List.range n) := by
  unfold rgV vN
  have e : ((n : Int) - 0).toNat = n := by omega
  rw [e]
  exact List.map_congr_left fun i _ => by rw [Int.zero_add]
def spHeapsFor (B : Adr) : Sp := fun vs H Q _ => ∃ (a : Nat) (c : Cs) (t : Option Nat), vs = [.ref a, oN t] ∧ CaseAt B H a c ∧ c.heaps ≤ 3 ∧ ∀ p H', Same H H' → H' p = some (.lst (vN (lets c.heaps t))) → Q (.ref p) H'
theorem ok_heaps_for (T : Tx K mg B) : C8.Cal P w K mg base 1 "heaps_for" (spHeapsFor B) [] := by
  refine cal_of T.d_heaps_for scHeapsFor (fun _ _ _ _ _ _ us hl => match us, hl with | [_, _], _ => rfl) (fun vs H Q E h => ?_) (fun f cdv AA outer s H vs Q E hr h => ?_)
  · first | (obtain ⟨_, rfl, _⟩ := h; rfl) | (obtain ⟨_, _, rfl, _⟩ := h; rfl) | (obtain ⟨_, _, _, rfl, _⟩ := h; rfl) | (obtain ⟨_, _, _, _, rfl, _⟩ := h; rfl) | (obtain ⟨_, _, _, _, _, rfl, _⟩ := h; rfl) | (obtain ⟨_, _, _, _, _, _, rfl, _⟩ := h; rfl) | (obtain ⟨_, _, _, _, _, _, _, rfl, _⟩ := h; rfl) | (obtain ⟨_, _, _, _, _, _, _, _, rfl, _⟩ := h; rfl) | (obtain ⟨_, _, _, _, _, _, _, _, _, rfl, _⟩ := h; rfl) | (obtain ⟨_, _, _, _, _, _, _, _, _, _, rfl, _⟩ := h; rfl) | (obtain ⟨_, _, _, _, _, _, _, _, _, _, _, rfl, _⟩ := h; rfl) | (obtain ⟨_, _, _, _, _, _, _, _, _, _, _, _, rfl, _⟩ := h; rfl) | (obtain ⟨_, _, _, _, _, _, _, _, _, _, _, _, _, rfl, _⟩ := h; rfl) | (obtain ⟨_, _, _, _, _, _, _, _, _, _, _, _, _, _, rfl, _⟩ := h; rfl) | (obtain ⟨_, _, _, _, _, _, _, _, _, _, _, _, _, _, _, rfl, _⟩ := h; rfl) | (obtain ⟨_, _, _, _, _, _, _, _, _, _, _, _, _, _, _, _, rfl, _⟩ := h; rfl) | (obtain ⟨_, _, _, _, _, _, _, _, _, _, _, _, _, _, _, _, _, rfl, _⟩ := h; rfl) | (obtain ⟨_, _, _, _, _, _, _, _, _, _, _, _, _, _, _, _, _, _, rfl, _⟩ := h; rfl) | (obtain ⟨_, _, _, _, _, _, _, _, _, _, _, _, _, _, _, _, _, _, _, rfl, _⟩ := h; rfl)
  · refine ⟨(tRet (tIf (tTest (tOp rIsN (tVar 1) (tC .non))) (tLstRg (tRg1 (tFld K (tVar 0) "heaps"))) (tLst (tCons (tVar 1) tNil)))),
    (pss_one (ps_ret (pe_ifExp (pt_cmpR op_isN1 (pv 1) pe_non (nomark _)) (pe_listRg (by rfl) (by rfl) T.f_list (prg_1 (by rfl) T.f_range (pe_fld (pv 0) rfl))) (pe_lst (pa_cons (pv 1) pa_nil))))), ?_⟩
    have hCCase := T.c_Case
    have hACase_heaps := T.a_Case_heaps
    obtain ⟨a, c, t, rfl, ⟨dx, st, ru, fp, wi, e1, _⟩, hh, q⟩ := h
    cases t with
    | none =>
      simp only [oN]
      walk_at "go"
      refine r_lstRg ?_
      walk_at "go"
      refine ⟨_, rfl, RgOk.of_le (by omega) (by omega) (by omega) (by omega), fun p hp => ?_⟩
      rw [rgV_nat]
      exact q _ _ (Same.new hp) upd_same
    | some n =>
      simp only [oN]
      walk_at "go"
      exact ⟨by simp [sizeLine_eq], fun p hp => q _ _ (Same.new hp) upd_same⟩
/-- the dict of what was found -/
def Fnd (H : Hp) (D : Addr) (L : List Nat) : Prop := ∃ (kvs : List (Key × V)) (ks : List Nat), H D = some (.dK kvs) ∧ kvs.map (·.1) = ks.map (fun n => Sum.inl (natI n)) ∧ ks.Nodup ∧ (∀ n, n ∈ ks ↔ n ∈ L) ∧ ks.length ≤ L.length
theorem fnd_put {H : Hp} {D : Addr} {L : List Nat} {n : Nat} (h : Fnd H D L) : ∃ kvs, H D = some (.dK kvs) ∧ kvs.length ≤ L.length ∧ Fnd (upd H D (.dK (putK kvs (Sum.inl (natI n)) (.bl true)))) D (L ++ [n]) := by
  obtain ⟨kvs, ks, h1, h2, h3, h4, h5⟩ := h
  have hl : kvs.length = ks.length := by
    have := congrArg List.length h2
    rwa [List.length_map, List.length_map] at this
  refine ⟨kvs, h1, by omega, ?_⟩
  by_cases hn : n ∈ ks
  · refine ⟨_, ks, upd_same, ?_, h3, fun m => ?_, by rw [List.length_append]; omega⟩
    · unfold putK
      have e : (kvs.any fun kv => decide (kv.1 = (Sum.inl (natI n) : Key))) = true := by
        have hm : (Sum.inl (natI n) : Key) ∈ kvs.map (·.1) := by
          rw [h2]
          exact List.mem_map_of_mem hn
        obtain ⟨kv, hkv, ekv⟩ := List.mem_map.mp hm
        exact List.any_eq_true.mpr ⟨kv, hkv, decide_eq_true ekv⟩
      rw [if_pos e, List.map_map, ← h2]
      refine List.map_congr_left fun kv _ => ?_
      show (if kv.1 = (Sum.inl (natI n) : Key) then (kv.1, V.bl true) else kv).1 = kv.1
      split <;> rfl
    · rw [h4 m, List.mem_append, List.mem_singleton]
      refine ⟨.inl, fun z => z.elim id fun z => ?_⟩
      rw [z]
      exact (h4 n).mp hn
  · refine ⟨_, ks ++ [n], upd_same, ?_, ?_, fun m => ?_, by rw [List.length_append, List.length_append]; simp; omega⟩
    · unfold putK
      have e : ¬ (kvs.any fun kv => decide (kv.1 = (Sum.inl (natI n) : Key))) = true := by
        intro z
        obtain ⟨kv, hkv, ekv⟩ := List.any_eq_true.mp z
        have hm : (Sum.inl (natI n) : Key) ∈ kvs.map (·.1) := by
          rw [← of_decide_eq_true ekv]
          exact List.mem_map_of_mem hkv
        rw [h2] at hm
        obtain ⟨m, hm1, em⟩ := List.mem_map.mp hm
        have e2 : natI m = natI n := Sum.inl.inj em
        rw [Int.ofNat.inj e2] at hm1
        exact hn hm1
      rw [if_neg e, List.map_append, h2, List.map_append]
      rfl
    · exact List.nodup_append.mpr ⟨h3, List.nodup_cons.mpr ⟨List.not_mem_nil, List.nodup_nil⟩, fun x hx y hy e => hn (by rw [← List.mem_singleton.mp hy, ← e]; exact hx)⟩
    · rw [List.mem_append, List.mem_append, h4 m]
theorem Fnd.up {H H' : Hp} {D : Addr} {L : List Nat} (h : Fnd H D L) (e : Same H H') : Fnd H' D L := by
  obtain ⟨kvs, ks, h1, r⟩ := h
  exact ⟨kvs, ks, e _ _ h1, r⟩
theorem r_dput {td ty tv : TE} {D : Ends} {σ : L2.St} {H : Hp} (h : tv σ H fun v H1 => td σ H1 fun x H2 => ty σ H2 fun y H3 => ∃ a H4, x = .ref a ∧ DPut H3 a y v H4 ∧ D.nx σ H4) : sDPut td ty tv D σ H := h
def spStandsBehind (B : Adr) : Sp := fun vs H Q _ => ∃ (a n th p : Nat) (c : Cs) (qq : Nat × List Nat) (t : Option Nat) (S : List Nat), vs = [.ref a, .int (n : Int), oN t, .int (th : Int), .ref p] ∧ CaseAt B H a c ∧ c.Ok ∧ c.qs[n]? = some qq ∧ (∀ h, t = some h → h < c.heaps) ∧ th < c.things ∧ H p = some (.tup (vN S)) ∧
  (∀ s ∈ S, s < c.rows.length) ∧ S.length ≤ 3 ∧ ∀ r H', Same H H' → H' r = some (.tup (vN (stA c qq t th S))) → Q (.ref r) H'
theorem ok_stands_behind (T : Tx K mg B) : C8.Cal P w K mg base 2 "stands_behind" (spStandsBehind B) [] := by
  have c_heaps_for := ok_heaps_for (P := P) (w := w) (base := base) T
  have c_next_of := ok_next_of (P := P) (w := w) (base := base) T
  refine cal_of T.d_stands_behind scStandsBehind (fun _ _ _ _ _ _ us hl => match us, hl with | [_, _, _, _, _], _ => rfl) (fun vs H Q E h => ?_) (fun f cdv AA outer s H vs Q E hr h => ?_)
  · first | (obtain ⟨_, rfl, _⟩ := h; rfl) | (obtain ⟨_, _, rfl, _⟩ := h; rfl) | (obtain ⟨_, _, _, rfl, _⟩ := h; rfl) | (obtain ⟨_, _, _, _, rfl, _⟩ := h; rfl) | (obtain ⟨_, _, _, _, _, rfl, _⟩ := h; rfl) | (obtain ⟨_, _, _, _, _, _, rfl, _⟩ := h; rfl) | (obtain ⟨_, _, _, _, _, _, _, rfl, _⟩ := h; rfl) | (obtain ⟨_, _, _, _, _, _, _, _, rfl, _⟩ := h; rfl) | (obtain ⟨_, _, _, _, _, _, _, _, _, rfl, _⟩ := h; rfl) | (obtain ⟨_, _, _, _, _, _, _, _, _, _, rfl, _⟩ := h; rfl) | (obtain ⟨_, _, _, _, _, _, _, _, _, _, _, rfl, _⟩ := h; rfl) | (obtain ⟨_, _, _, _, _, _, _, _, _, _, _, _, rfl, _⟩ := h; rfl) | (obtain ⟨_, _, _, _, _, _, _, _, _, _, _, _, _, rfl, _⟩ := h; rfl) | (obtain ⟨_, _, _, _, _, _, _, _, _, _, _, _, _, _, rfl, _⟩ := h; rfl) | (obtain ⟨_, _, _, _, _, _, _, _, _, _, _, _, _, _, _, rfl, _⟩ := h; rfl) | (obtain ⟨_, _, _, _, _, _, _, _, _, _, _, _, _, _, _, _, rfl, _⟩ := h; rfl) | (obtain ⟨_, _, _, _, _, _, _, _, _, _, _, _, _, _, _, _, _, rfl, _⟩ := h; rfl) | (obtain ⟨_, _, _, _, _, _, _, _, _, _, _, _, _, _, _, _, _, _, rfl, _⟩ := h; rfl) | (obtain ⟨_, _, _, _, _, _, _, _, _, _, _, _, _, _, _, _, _, _, _, rfl, _⟩ := h; rfl)
  · refine ⟨(tSeq (tPar 5 6 (tCons (tOp (rIxT K) (tFld K (tFld K (tVar 0) "stock") "questions") (tVar 1)) (tCons tDNewK tNil)))
    (tSeq (tFor (iTup K (tVar 4)) (gName 7) (tFor (iList K (tCall (spHeapsFor B) [] C8.E0 (tCons (tVar 0) (tCons (tVar 2) tNil)))) (gName 8) (tSeq (tAsg (tCall (spNextOf B) [] C8.E0 (tCons (tFld K (tVar 0) "rule") (tCons (tVar 7) (tCons (tFld K (tVar 5) "who") (tCons (tOp (rIxT K) (tFld K (tVar 5) "heaps") (tVar 3)) (tCons (tVar 8) tNil)))))) (gName 9))
    (tIfS (tTest (tOp rNotN (tVar 9) (tC .non))) (sDPut (tVar 6) (tVar 9) (tC (.bl true))) tNext))))
    (tRet (tCB (qTupS K) (tCons (tCB (rSorted K) (tCons (tCB rListD (tCons (tVar 6) tNil)) tNil)) tNil))))),
    (pss_cons (ps_par (i := 5) (j := 6) rfl scStandsBehind.nd rfl rfl (by decide) rfl rfl (pa_cons (pe_ix ix_tup (pe_fld (pe_fld (pv 0) rfl) rfl) (pv 1) (fun _ _ => rfl)) (pa_cons pe_dnewK pa_nil)) (by rfl))
    (pss_cons (ps_for PassesOwn.never rfl (pi_tup (pv 4)) (pg_name (i := 7) scStandsBehind.nd rfl (Or.inl rfl)) (pss_one (ps_for PassesOwn.never rfl (pi_list (C8.pe_c c_heaps_for hr (by decide) rfl (pa_cons (pv 0) (pa_cons (pv 2) pa_nil)))) (pg_name (i := 8) scStandsBehind.nd rfl (Or.inl rfl)) (pss_cons (ps_set (i := 9) scStandsBehind.nd rfl (Or.inl rfl) (C8.pe_c c_next_of hr (by decide) rfl (pa_cons (pe_fld (pv 0) rfl) (pa_cons (pv 7) (pa_cons (pe_fld (pv 5) rfl) (pa_cons (pe_ix ix_tup (pe_fld (pv 5) rfl) (pv 3) (fun _ _ => rfl)) (pa_cons (pv 8) pa_nil)))))))
    (pss_one (ps_if (pt_cmpR op_notN1 (pv 9) pe_non (nomark _)) (pss_one (ps_dput (hu_of hr) (pv 6) (pv 9) pe_bl rfl)) pss_nil))))))
    (pss_one (ps_ret (pe_callTy call_tuple_of (by rfl) T.f_tuple (by decide +kernel) (pa_cons (pe_callB cr_sorted (by rfl) T.f_sorted (by decide +kernel) (pa_cons (pe_callTy (call_list_dK rfl) (by rfl) T.f_list (by decide +kernel) (pa_cons (pv 6) pa_nil)) pa_nil)) pa_nil)))))), ?_⟩
    have hCCase := T.c_Case
    have hCStock := T.c_Stock
    have hCQuestion := T.c_Question
    have hACase_stock := T.a_Case_stock
    have hAStock_questions := T.a_Stock_questions
    have hAQuestion_heaps := T.a_Question_heaps
    have hAQuestion_who := T.a_Question_who
    have hACase_rule := T.a_Case_rule
    obtain ⟨a, n, th, p, c, qq, t, S, rfl, hc, ok, hq, ht, hth, hp, hS, hl, q⟩ := h
    obtain ⟨dx, st, ru, fp, wi, e1, hst, hru, hfp, hwi⟩ := hc.ex
    obtain ⟨dx2, qp, ws, e2, e3, hqs⟩ := hst.ex
    obtain ⟨b, hb, hqa⟩ := hqs.get hq
    obtain ⟨dx3, hp3, idle, e4, e5⟩ := hqa.ex
    obtain ⟨dx5, rp, ev, e6, e7⟩ := hru.ex
    have qok := ok.qs qq (List.mem_of_getElem? hq)
    have h1 := ok.heaps
    have h2 := ok.ans
    have hlen := ok.rows.len
    have hg : qq.2[th]? = some (qq.2.getD th 0) := by
      have : th < qq.2.length := by rw [qok.len]; exact hth
      rw [List.getD_eq_getElem?_getD, List.getElem?_eq_getElem this]
      rfl
    have hgt : qq.2.getD th 0 < c.heaps := qok.heap _ (List.mem_of_getElem? hg)
    walk_at "go"
    refine r_ixT e3 hb ?_
    walk_at "go"
    refine fun D hD => ?_
    walk_at "go"
    refine ⟨_, _, rfl, ?_⟩
    walk_at "go"
    have s0 : Same H (upd H D (.dK [])) := Same.new hD
    refine ⟨p, rfl, ⟨_, SqT.of (s0 _ _ hp)⟩, for_1 walk_tup yAt (fun i σ H' => Same H H' ∧ Fnd H' D (outs c qq t th (S.take i)) ∧ ∃ v1 v2 v3, σ = [some (.ref a), some (.int (n : Int)), some (oN t), some (.int (th : Int)), some (.ref p), some (.ref b), some (.ref D), v1, v2, v3]) ⟨s0, ⟨[], [], upd_same, rfl, List.nodup_nil, fun _ => Iff.rfl, Nat.le_refl _⟩, _, _, _, rfl⟩ (fun i σ H' _ p => SqT.of (p.1 _ _ hp)) ?_ ?_⟩
    · rintro i y σ H1 hi ⟨s1, f1, v1, v2, v3, rfl⟩ hy
      obtain ⟨s, hs, rfl⟩ := vN_of hy
      rw [vN_len] at hi
      have et : S.take (i + 1) = S.take i ++ [s] := by
        rw [List.take_add_one, hs]
        rfl
      have hsl := hS s (List.mem_of_getElem? hs)
      walk_at "go"
      refine ⟨a, c, t, rfl, hc.up s1, by omega, fun g H2 s2 eg => ?_⟩
      have sm := s1.trans s2
      refine ⟨g, rfl, ⟨_, SqL.of eg⟩, for_1 walk_list yAt (fun j σ H' => Same H H' ∧ H' g = some (.lst (vN (lets c.heaps t))) ∧ Fnd H' D (outs c qq t th (S.take i) ++ ((lets c.heaps t).take j).filterMap fun h => nxt c.heaps c.rows s qq.1 (qq.2.getD th 0) h) ∧ ∃ v2 v3, σ = [some (.ref a), some (.int (n : Int)), some (oN t), some (.int (th : Int)), some (.ref p), some (.ref b), some (.ref D), some (.int (s : Int)), v2, v3]) ⟨sm, eg, by rw [List.take_zero, List.filterMap_nil, List.append_nil]; exact f1.up s2, _, _, rfl⟩ (fun i σ H' _ p => SqL.of p.2.1) ?_ ?_⟩
      · rintro j y σ H3 hj ⟨s3, eg3, f3, v2, v3, rfl⟩ hy
        obtain ⟨hh, hhj, rfl⟩ := vN_of hy
        have hhl : hh < c.heaps := by
          have hm := List.mem_of_getElem? hhj
          cases t with
          | none => exact List.mem_range.mp hm
          | some k =>
            rw [List.mem_singleton.mp hm]
            exact ht k rfl
        have et2 : (lets c.heaps t).take (j + 1) = (lets c.heaps t).take j ++ [hh] := by
          rw [List.take_add_one, hhj]
          rfl
        have e13 := s3 _ _ e1
        have e43 := s3 _ _ e4
        walk_at "go"
        refine r_ixT (s3 _ _ e5) (vN_get hg) ?_
        walk_at "go"
        refine ⟨ru, c.ans, c.heaps, s, qq.1, qq.2.getD th 0, hh, c.rows, rfl, hru.up s3, ok.rows, by omega, by omega, hsl, qok.who, hgt, hhl, ?_⟩
        walk_at "go"
        refine r_notO ?_
        cases ho : nxt c.heaps c.rows s qq.1 (qq.2.getD th 0) hh with
        | none =>
          walk_at "go"
          refine r_F ?_
          walk_at "go"
          refine ⟨s3, eg3, ?_, _, _, rfl⟩
          rw [et2, List.filterMap_append, List.filterMap_cons_none (h := ho), List.filterMap_nil, List.append_nil]
          exact f3
        | some m =>
          walk_at "go"
          refine r_T ?_
          walk_at "go"
          refine r_dput ?_
          walk_at "go"
          obtain ⟨kvs, ek, hkl, f4⟩ := fnd_put (n := m) f3
          have hkl2 : kvs.length ≤ 100000 := by
            have o1 : (outs c qq t th (S.take i)).length ≤ 9 := by
              unfold outs
              have hll : (lets c.heaps t).length ≤ 3 := by
                cases t with
                | none =>
                  show (List.range c.heaps).length ≤ 3
                  rw [List.length_range]
                  omega
                | some k =>
                  show 1 ≤ 3
                  omega
              have gen : ∀ T : List Nat, (T.flatMap fun st => (lets c.heaps t).filterMap fun h => nxt c.heaps c.rows st qq.1 (qq.2.getD th 0) h).length ≤ T.length * 3 := by
                intro T
                induction T with
                | nil => exact Nat.le_refl _
                | cons x T ih =>
                  rw [List.flatMap_cons, List.length_append, List.length_cons]
                  have := List.length_filterMap_le (fun h => nxt c.heaps c.rows x qq.1 (qq.2.getD th 0) h) (lets c.heaps t)
                  omega
              have := gen (S.take i)
              have hti : (S.take i).length ≤ S.length := by
                rw [List.length_take]
                exact Nat.min_le_right _ _
              omega
            have o2 := List.length_filterMap_le (fun h => nxt c.heaps c.rows s qq.1 (qq.2.getD th 0) h) ((lets c.heaps t).take j)
            have o3 : ((lets c.heaps t).take j).length ≤ 3 := by
              rw [List.length_take]
              refine Nat.le_trans (Nat.min_le_right _ _) ?_
              cases t with
              | none =>
                show (List.range c.heaps).length ≤ 3
                rw [List.length_range]
                omega
              | some k =>
                  show 1 ≤ 3
                  omega
            rw [List.length_append] at hkl
            omega
          refine ⟨D, _, rfl, DPut.k (k := Sum.inl (natI m)) ek (szT hkl2), ?_⟩
          refine ⟨Same.mut s3 hD, ?_, ?_, _, _, rfl⟩
          · rw [upd_ne (ne_of eg3 ek (by intro z; cases z))]
            exact eg3
          · rw [et2, List.filterMap_append, List.filterMap_cons_some (h := ho), List.filterMap_nil, ← List.append_assoc]
            exact f4
      · rintro σ H3 ⟨s3, eg3, f3, v2, v3, rfl⟩
        rw [vN_len, List.take_length] at f3
        refine ⟨s3, ?_, _, _, _, rfl⟩
        rw [et]
        unfold outs at f3 ⊢
        rw [List.flatMap_append, List.flatMap_cons, List.flatMap_nil, List.append_nil]
        exact f3
    · rintro σ H1 ⟨s1, f1, v1, v2, v3, rfl⟩
      rw [vN_len, List.take_length] at f1
      obtain ⟨kvs, ks, k1, k2, k3, k4, k5⟩ := f1
      have hlt : ∀ n ∈ ks, n < c.rows.length := fun m hm => outs_lt ok ((k4 m).mp hm)
      have hkl : ks.length ≤ c.rows.length := by
        have := List.Nodup.length_le_of_subset (l₁ := ks) (l₂ := List.range c.rows.length) k3 fun x hx => List.mem_range.mpr (hlt x hx)
        rwa [List.length_range] at this
      have ekv : kvs.map (fun kv => kV kv.1) = (ks.map natI).map V.int := by
        have e := congrArg (List.map kV) k2
        rw [List.map_map, List.map_map] at e
        rw [List.map_map]
        exact e
      walk_at "go"
      refine ⟨D, kvs, rfl, k1, fun l hl2 => ?_⟩
      walk_at "go"
      rw [ekv]
      refine ⟨l, ks.map natI, rfl, SqL.of upd_same, by rw [List.length_map]; omega, fun ns r h1 h2 hr => ?_⟩
      walk_at "go"
      refine r_tupL upd_same fun tp htp => ?_
      refine q _ _ (((s1.trans (Same.new hl2)).trans (Same.new hr)).trans (Same.new htp)) ?_
      rw [sorted_to (R := c.rows.length) (p := fun s => decide (s ∈ outs c qq t th S)) k3 h1 h2 fun m => ?_]
      · exact upd_same
      · rw [k4, decide_eq_true_eq]
        exact ⟨fun z => ⟨outs_lt ok z, z⟩, fun z => z.2⟩
end

end TW

set_option Elab.async false
set_option linter.all false
set_option maxRecDepth 100000
set_option maxHeartbeats 4000000
namespace TW
open PySem PySem.Spec PyProof.Rows L2
local macro_rules | `(tactic| walk_at "st0") => `(tactic| with_reducible (first | refine r_seq ?_ | refine r_next ?_ | refine r_ret ?_ | refine r_retN ?_ | refine r_drop ?_ | refine r_asg ?_ | refine r_if ?_ | refine r_gName ?_ | refine r_par ?_ | refine r_c ?_ | refine r_cons ?_ | refine r_nil ?_ | refine r_op ?_ | refine r_CB ?_ | refine r_andV ?_ | refine r_orV ?_ | refine r_notV ?_ | refine r_tIf ?_ | refine r_B ?_ | refine r_Test ?_ | refine r_and ?_ | refine r_or ?_ | refine r_not ?_ | refine r_yes ?_ | refine r_bl ?_ | refine r_T ?_ | refine r_F ?_ | refine r_nT ?_ | refine r_nF ?_ | refine r_I0 ?_ | refine r_eqI ?_ | refine r_neI ?_ | refine r_eqB ?_ | refine r_neB ?_ | refine r_isN0 ?_ | refine r_isN1 ?_ | refine r_isN2 ?_ | refine r_notN0 ?_ | refine r_notN1 ?_ | refine r_notN2 ?_ | refine r_isNo ?_ | refine r_notNo ?_ | refine r_fld ?_ | refine r_sfld ?_ | refine r_tup ?_ | refine r_lst ?_ | refine r_call ?_ | refine r_make ?_ | refine r_sl ?_ | refine r_part ?_ | refine r_noPart ?_ | refine r_iList ?_ | refine r_iTup ?_ | refine r_iRng1 ?_ | refine r_iEnum ?_ | refine r_int1 ?_ | refine r_intB ?_ | refine r_abs ?_ | refine r_bm ?_ | refine r_lc ?_ | refine r_for ?_))
local macro_rules | `(tactic| walk_at "st") => `(tactic| first | walk_at "st0" | ((with_reducible refine' r_var ?e ?_); (case e => exact rfl)) | ((with_reducible refine' r_fldG ?e1 ?e2 ?e3 ?e4 ?_); (case e1 => assumption); (case e2 => assumption); (case e3 => assumption); (case e4 => exact rfl)) | ((with_reducible refine' r_isC ?e ?_); (case e => assumption)) | dsimp only)
local macro_rules | `(tactic| walk_at "go") => `(tactic| repeat (walk_at "st"))
section
variable {P : Program} {w : World} {K : PySem.W.Frag} {mg : Str → Option Value} {base : Heap} {B : Adr}
/-- a log of a case -/
structure LogOk (c : Cs) (ns : List Nat) (ts : List (Option Nat)) : Prop where
  len : ns.length = ts.length
  le : ns.length ≤ 8
  num : ∀ n ∈ ns, n < c.qs.length
  told : ∀ h, some h ∈ ts → h < c.heaps
theorem r_iZipA {K : PySem.W.Frag} {ta : TA} {σ : L2.St} {H : Hp} {R : It → Hp → Prop} (h : ta σ H fun vs H1 => ∃ a b xs ys, vs = [.ref a, .ref b] ∧ ((SqL K H1 a xs ∧ SqL K H1 b ys ∧ R (Itz K a b) H1) ∨ (SqT K H1 a xs ∧ SqT K H1 b ys ∧ R (RZ.ItzT K a b) H1))) : RZ.iZipA K ta σ H R := h
theorem r_iEnumT {K : PySem.W.Frag} {ta : TA} {σ : L2.St} {H : Hp} {R : It → Hp → Prop} (h : ta σ H fun vs H1 => ∃ a xs, vs = [.ref a] ∧ SqT K H1 a xs ∧ R (EZ.IteT K a) H1) : EZ.iEnumT K ta σ H R := h
theorem r_iZipM {K : PySem.W.Frag} {ta : TA} {σ : L2.St} {H : Hp} {R : It → Hp → Prop} (h : ta σ H fun vs H1 => ∃ a b xs ys, vs = [.ref a, .ref b] ∧ SqL K H1 a xs ∧ SqT K H1 b ys ∧ R (EZ.ItzM K a b) H1) : EZ.iZipM K ta σ H R := h
def spNeedLog (B : Adr) : Sp := fun vs H Q _ => ∃ (a p q : Nat) (c : Cs) (ns : List Nat) (ts : List (Option Nat)), vs = [.ref a, .ref p, .ref q] ∧ CaseAt B H a c ∧ H p = some (.lst (vN ns)) ∧ H q = some (.lst (ts.map oN)) ∧ LogOk c ns ts ∧ ∀ H', Same H H' → Q .non H'
theorem ok_need_log (T : Tx K mg B) : C8.Cal P w K mg base 3 "need_log" (spNeedLog B) [] := by
  have c_is_list := ok_is_list (P := P) (w := w) (base := base) T
  have c_is_within := ok_is_within (P := P) (w := w) (base := base) T
  refine cal_of T.d_need_log scNeedLog (fun _ _ _ _ _ _ us hl => match us, hl with | [_, _, _], _ => rfl) (fun vs H Q E h => ?_) (fun f cdv AA outer s H vs Q E hr h => ?_)
  · first | (obtain ⟨_, rfl, _⟩ := h; rfl) | (obtain ⟨_, _, rfl, _⟩ := h; rfl) | (obtain ⟨_, _, _, rfl, _⟩ := h; rfl) | (obtain ⟨_, _, _, _, rfl, _⟩ := h; rfl) | (obtain ⟨_, _, _, _, _, rfl, _⟩ := h; rfl) | (obtain ⟨_, _, _, _, _, _, rfl, _⟩ := h; rfl) | (obtain ⟨_, _, _, _, _, _, _, rfl, _⟩ := h; rfl) | (obtain ⟨_, _, _, _, _, _, _, _, rfl, _⟩ := h; rfl) | (obtain ⟨_, _, _, _, _, _, _, _, _, rfl, _⟩ := h; rfl) | (obtain ⟨_, _, _, _, _, _, _, _, _, _, rfl, _⟩ := h; rfl) | (obtain ⟨_, _, _, _, _, _, _, _, _, _, _, rfl, _⟩ := h; rfl) | (obtain ⟨_, _, _, _, _, _, _, _, _, _, _, _, rfl, _⟩ := h; rfl) | (obtain ⟨_, _, _, _, _, _, _, _, _, _, _, _, _, rfl, _⟩ := h; rfl) | (obtain ⟨_, _, _, _, _, _, _, _, _, _, _, _, _, _, rfl, _⟩ := h; rfl) | (obtain ⟨_, _, _, _, _, _, _, _, _, _, _, _, _, _, _, rfl, _⟩ := h; rfl) | (obtain ⟨_, _, _, _, _, _, _, _, _, _, _, _, _, _, _, _, rfl, _⟩ := h; rfl) | (obtain ⟨_, _, _, _, _, _, _, _, _, _, _, _, _, _, _, _, _, rfl, _⟩ := h; rfl) | (obtain ⟨_, _, _, _, _, _, _, _, _, _, _, _, _, _, _, _, _, _, rfl, _⟩ := h; rfl) | (obtain ⟨_, _, _, _, _, _, _, _, _, _, _, _, _, _, _, _, _, _, _, rfl, _⟩ := h; rfl)
  · refine ⟨(tSeq (tIfS (tNot (tB (tCB (rIsC B.Case) (tCons (tVar 0) (tCons (tC (.ref B.Case)) tNil))))) tNever tNext)
    (tSeq (tIfS (tNot (tB (tCall spIsList [] C8.E0 (tCons (tVar 1) tNil)))) tNever tNext)
    (tSeq (tFor (iList K (tVar 1)) (gName 3) (tIfS (tNot (tB (tCall spIsWithin [] C8.E0 (tCons (tVar 3) (tCons (tC (.int 0)) (tCons (tOp qSub (tCB (Evl.rLenS K) (tCons (tFld K (tFld K (tVar 0) "stock") "questions") tNil)) (tC (.int 1))) tNil)))))) tNever tNext))
    (tSeq (tIfS (tOr (tNot (tB (tCall spIsList [] C8.E0 (tCons (tVar 2) tNil)))) (tTest (tOp rNe (tCB (Evl.rLenS K) (tCons (tVar 2) tNil)) (tCB (Evl.rLenS K) (tCons (tVar 1) tNil))))) tNever tNext)
    (tFor (iList K (tVar 2)) (gName 4) (tIfS (tAnd (tTest (tOp rNotN (tVar 4) (tC .non))) (tNot (tB (tCall spIsWithin [] C8.E0 (tCons (tVar 4) (tCons (tC (.int 0)) (tCons (tOp qSub (tFld K (tVar 0) "heaps") (tC (.int 1))) tNil))))))) tNever tNext)))))),
    (pss_cons (ps_if (pt_not (pt_val (pe_callB (C8.call_isC T.i_Case) (by rfl) T.f_isinstance (by decide +kernel) (pa_cons (pv 0) (pa_cons (pe_glob rfl T.g_Case rfl) pa_nil))))) (pss_one ps_never) pss_nil)
    (pss_cons (ps_if (pt_not (pt_val (C8.pe_c c_is_list hr (by decide) rfl (pa_cons (pv 1) pa_nil)))) (pss_one ps_never) pss_nil)
    (pss_cons (ps_for PassesOwn.never rfl (pi_list (pv 1)) (pg_name (i := 3) scNeedLog.nd rfl (Or.inl rfl)) (pss_one (ps_if (pt_not (pt_val (C8.pe_c c_is_within hr (by decide) rfl (pa_cons (pv 3) (pa_cons pe_int (pa_cons (pe_op op_sub (pe_callB call_len_seq (by rfl) T.f_len (by decide +kernel) (pa_cons (pe_fld (pe_fld (pv 0) rfl) rfl) pa_nil)) pe_int) pa_nil)))))) (pss_one ps_never) pss_nil)))
    (pss_cons (ps_if (PW.pt (pw_or (pt_not (pt_val (C8.pe_c c_is_list hr (by decide) rfl (pa_cons (pv 2) pa_nil)))) (pw_or1 (pt_cmpR op_ne (pe_callB call_len_seq (by rfl) T.f_len (by decide +kernel) (pa_cons (pv 2) pa_nil)) (pe_callB call_len_seq (by rfl) T.f_len (by decide +kernel) (pa_cons (pv 1) pa_nil)) (nomark _))))) (pss_one ps_never) pss_nil)
    (pss_one (ps_for PassesOwn.never rfl (pi_list (pv 2)) (pg_name (i := 4) scNeedLog.nd rfl (Or.inl rfl)) (pss_one (ps_if (PW.pt (pw_and (pt_cmpR op_notN1 (pv 4) pe_non (nomark _)) (pw_and1 (pt_not (pt_val (C8.pe_c c_is_within hr (by decide) rfl (pa_cons (pv 4) (pa_cons pe_int (pa_cons (pe_op op_sub (pe_fld (pv 0) rfl) pe_int) pa_nil))))))))) (pss_one ps_never) pss_nil)))))))), ?_⟩
    have hCCase := T.c_Case
    have hCStock := T.c_Stock
    have hACase_stock := T.a_Case_stock
    have hAStock_questions := T.a_Stock_questions
    have hACase_heaps := T.a_Case_heaps
    obtain ⟨a, p, qq, c, ns, ts, rfl, hc, hp, hq, lo, q⟩ := h
    have hlen := lo.len
    have hle := lo.le
    obtain ⟨dx, st, ru, fp, wi, e1, hst, hru, hfp, hwi⟩ := hc.ex
    obtain ⟨dx2, qp, ws, e2, e3, hqs⟩ := hst.ex
    walk_at "go"
    refine ⟨p, _, rfl, .inl hp, fun H1 s1 => ?_⟩
    walk_at "go"
    refine ⟨p, rfl, ⟨_, SqL.of (s1 _ _ hp)⟩, for_1 walk_list yAt (fun i σ H' => Same H H' ∧ ∃ v1, σ = [some (.ref a), some (.ref p), some (.ref qq), v1, none]) ⟨s1, _, rfl⟩ (fun i σ H' _ z => SqL.of (z.1 _ _ hp)) ?_ ?_⟩
    · rintro i y σ H2 hi ⟨s2, v1, rfl⟩ hy
      obtain ⟨n, hn, rfl⟩ := vN_of hy
      have e12 := s2 _ _ e1
      have e22 := s2 _ _ e2
      walk_at "go"
      refine r_lenT (s2 _ _ e3) ?_
      walk_at "go"
      rw [hqs.len]
      refine ⟨(n : Int), some 0, some ((c.qs.length : Int) - 1), rfl, ?_⟩
      have := lo.num n (List.mem_of_getElem? hn)
      rw [within_ok (by omega) (by omega)]
      walk_at "go"
      exact ⟨s2, _, rfl⟩
    · rintro σ H2 ⟨s2, v1, rfl⟩
      walk_at "go"
      refine ⟨qq, _, rfl, .inl (s2 _ _ hq), fun H3 s3 => ?_⟩
      have sm := s2.trans s3
      walk_at "go"
      refine r_lenL (sm _ _ hq) ?_
      walk_at "go"
      refine r_lenL (sm _ _ hp) ?_
      walk_at "go"
      rw [List.length_map, vN_len, hlen, decide_eq_true rfl]
      walk_at "go"
      refine ⟨qq, rfl, ⟨_, SqL.of (sm _ _ hq)⟩, for_1 walk_list yAt (fun i σ H' => Same H H' ∧ ∃ v1 v2, σ = [some (.ref a), some (.ref p), some (.ref qq), v1, v2]) ⟨sm, _, _, rfl⟩ (fun i σ H' _ z => SqL.of (z.1 _ _ hq)) ?_ ?_⟩
      · rintro i y σ H4 hi ⟨s4, v1, v2, rfl⟩ hy
        obtain ⟨o, ho, rfl⟩ := map_get hy
        have e14 := s4 _ _ e1
        walk_at "go"
        refine r_notO ?_
        cases o with
        | none =>
          walk_at "go"
          refine r_F ?_
          walk_at "go"
          exact ⟨s4, _, _, rfl⟩
        | some h =>
          walk_at "go"
          refine r_T ?_
          walk_at "go"
          refine ⟨(h : Int), some 0, some ((c.heaps : Int) - 1), rfl, ?_⟩
          have := lo.told h (List.mem_of_getElem? ho)
          rw [within_ok (by omega) (by omega)]
          walk_at "go"
          exact ⟨s4, _, _, rfl⟩
      · rintro σ H4 ⟨s4, v1, v2, rfl⟩
        exact q _ s4
/-- zip of two names, lists both or tuples both -/
def iZipB (i j : Nat) : TI := fun σ H R => ∃ a b xs ys, σ[i]? = some (some (.ref a)) ∧ σ[j]? = some (some (.ref b)) ∧ ((H a = some (.lst xs) ∧ H b = some (.lst ys)) ∨ (H a = some (.tup xs) ∧ H b = some (.tup ys))) ∧
  ∀ (J : It) (G : Hp → Prop), Walk J (min xs.length ys.length) G (YPair (fun i => xs[i]?) (fun i => ys[i]?)) → (∀ H', Same H H' → G H') → R J H
theorem pi_zipB {X : Cx} {tg e : Expr} {i j : Nat} (h : PI X tg e (RZ.iZipA X.K (tCons (tVar i) (tCons (tVar j) tNil)))) : PI X tg e (iZipB i j) := ⟨fun pins s σ H R I q => h.run pins s σ H R I (by
  obtain ⟨a, b, xs, ys, e1, e2, hq, w⟩ := q
  refine ⟨_, e1, _, e2, a, b, xs, ys, rfl, ?_⟩
  rcases hq with ⟨h1, h2⟩ | ⟨h1, h2⟩
  · exact .inl ⟨SqL.of h1, SqL.of h2, w _ _ (walk_zip rfl) fun H' s => ⟨SqL.of (s _ _ h1), SqL.of (s _ _ h2)⟩⟩
  · exact .inr ⟨SqT.of h1, SqT.of h2, w _ _ (EZ.walk_zipT rfl) fun H' s => ⟨SqT.of (s _ _ h1), SqT.of (s _ _ h2)⟩⟩)⟩
/-- what the stands keep -/
structure FOk (c : Cs) (F : List (List Nat)) : Prop where
  len : F.length = c.things
  each : ∀ S ∈ F, S.length ≤ 3 ∧ ∀ s ∈ S, s < c.rows.length
theorem stage_ok {c : Cs} (ok : c.Ok) {F : List (List Nat)} (f : FOk c F) (nt : Nat × Option Nat) : FOk c (stage c F nt) := by
  have hlen := ok.rows.len
  refine ⟨by unfold stage; rw [List.length_map, List.length_range]; exact f.len, fun S hS => ?_⟩
  unfold stage at hS
  obtain ⟨i, _, rfl⟩ := List.mem_map.mp hS
  exact ⟨Nat.le_trans stA_len hlen.2, fun s hs => stA_lt hs⟩
theorem standsOf_ok {c : Cs} (ok : c.Ok) (log : List (Nat × Option Nat)) : FOk c (standsOf c log) := by
  unfold standsOf
  have h0 : FOk c (c.firsts.map fun f => [f]) := ⟨by rw [List.length_map]; exact ok.flen, fun S hS => by
    obtain ⟨f, hf, rfl⟩ := List.mem_map.mp hS
    exact ⟨by show 1 ≤ 3; omega, fun s hs => by rw [List.mem_singleton.mp hs]; exact ok.firsts f hf⟩⟩
  generalize (c.firsts.map fun f => [f]) = F at h0
  induction log generalizing F with
  | nil => exact h0
  | cons x l ih => exact ih _ (stage_ok ok h0 x)
theorem standsOf_snoc (c : Cs) (log : List (Nat × Option Nat)) (x : Nat × Option Nat) : standsOf c (log ++ [x]) = stage c (standsOf c log) x := by
  unfold standsOf
  rw [List.foldl_append]
  rfl
abbrev dT (S : List Nat) : PyData := .tuple (dN S)
theorem noL_dN : ∀ ns : List Nat, noLs (dN ns) = true
  | [] => rfl
  | n :: ns => by
    show (noL (.int (n : Int)) && noLs (dN ns)) = true
    rw [noL_dN ns]
    rfl
theorem noL_dT (S : List Nat) : noL (dT S) = true := by
  rw [noL]
  exact noL_dN S
theorem Rp.nats {H : Hp} {p : Addr} {S : List Nat} (h : H p = some (.tup (vN S))) : Rp H (.ref p) (dT S) := .tup h (RpA.nats H S)
theorem Rp.nats_inv {H : Hp} {v : V} {S : List Nat} (h : Rp H v (dT S)) : ∃ p, v = .ref p ∧ H p = some (.tup (vN S)) := by
  obtain ⟨p, xs, rfl, h1, h2⟩ := Rp.tup_inv h
  rw [RpA.nats_inv h2] at h1
  exact ⟨p, rfl, h1⟩
theorem zip_get {ns : List Nat} {ts : List (Option Nat)} {i n : Nat} {t : Option Nat} (h1 : ns[i]? = some n) (h2 : ts[i]? = some t) : (ns.zip ts)[i]? = some (n, t) := by
  rw [List.getElem?_zip_eq_some]
  exact ⟨h1, h2⟩
def spStandsOf (B : Adr) : Sp := fun vs H Q _ => ∃ (a p q : Nat) (c : Cs) (ns : List Nat) (ts : List (Option Nat)), vs = [.ref a, .ref p, .ref q] ∧ CaseAt B H a c ∧ c.Ok ∧ ((H p = some (.lst (vN ns)) ∧ H q = some (.lst (ts.map oN))) ∨ (H p = some (.tup (vN ns)) ∧ H q = some (.tup (ts.map oN)))) ∧ LogOk c ns ts ∧
  ∀ r H', Same H H' → Rp H' (.ref r) (dS (standsOf c (ns.zip ts))) → Q (.ref r) H'
theorem ok_stands_of (T : Tx K mg B) : C8.Cal P w K mg base 3 "stands_of" (spStandsOf B) [] := by
  have c_stands_behind := ok_stands_behind (P := P) (w := w) (base := base) T
  refine cal_of T.d_stands_of scStandsOf (fun _ _ _ _ _ _ us hl => match us, hl with | [_, _, _], _ => rfl) (fun vs H Q E h => ?_) (fun f cdv AA outer s H vs Q E hr h => ?_)
  · first | (obtain ⟨_, rfl, _⟩ := h; rfl) | (obtain ⟨_, _, rfl, _⟩ := h; rfl) | (obtain ⟨_, _, _, rfl, _⟩ := h; rfl) | (obtain ⟨_, _, _, _, rfl, _⟩ := h; rfl) | (obtain ⟨_, _, _, _, _, rfl, _⟩ := h; rfl) | (obtain ⟨_, _, _, _, _, _, rfl, _⟩ := h; rfl) | (obtain ⟨_, _, _, _, _, _, _, rfl, _⟩ := h; rfl) | (obtain ⟨_, _, _, _, _, _, _, _, rfl, _⟩ := h; rfl) | (obtain ⟨_, _, _, _, _, _, _, _, _, rfl, _⟩ := h; rfl) | (obtain ⟨_, _, _, _, _, _, _, _, _, _, rfl, _⟩ := h; rfl) | (obtain ⟨_, _, _, _, _, _, _, _, _, _, _, rfl, _⟩ := h; rfl) | (obtain ⟨_, _, _, _, _, _, _, _, _, _, _, _, rfl, _⟩ := h; rfl) | (obtain ⟨_, _, _, _, _, _, _, _, _, _, _, _, _, rfl, _⟩ := h; rfl) | (obtain ⟨_, _, _, _, _, _, _, _, _, _, _, _, _, _, rfl, _⟩ := h; rfl) | (obtain ⟨_, _, _, _, _, _, _, _, _, _, _, _, _, _, _, rfl, _⟩ := h; rfl) | (obtain ⟨_, _, _, _, _, _, _, _, _, _, _, _, _, _, _, _, rfl, _⟩ := h; rfl) | (obtain ⟨_, _, _, _, _, _, _, _, _, _, _, _, _, _, _, _, _, rfl, _⟩ := h; rfl) | (obtain ⟨_, _, _, _, _, _, _, _, _, _, _, _, _, _, _, _, _, _, rfl, _⟩ := h; rfl) | (obtain ⟨_, _, _, _, _, _, _, _, _, _, _, _, _, _, _, _, _, _, _, rfl, _⟩ := h; rfl)
  · refine ⟨(tSeq (tAsg (tLc (iTup K (tFld K (tVar 0) "firsts")) (gName 6) tYes (tTup (tCons (tVar 6) tNil)) [6]) (gName 3))
    (tSeq (tFor (iZipB 1 2) (gTup K 2 (gCons (gName 4) (gCons (gName 5) gNil))) (tAsg (tLc (iEnum K (tCons (tVar 3) tNil)) (gTup K 2 (gCons (gName 7) (gCons (gName 8) gNil))) tYes (tCall (spStandsBehind B) [] C8.E0 (tCons (tVar 0) (tCons (tVar 4) (tCons (tVar 5) (tCons (tVar 7) (tCons (tVar 8) tNil)))))) [7, 8]) (gName 3)))
    (tRet (tCB (qTupS K) (tCons (tVar 3) tNil))))),
    (pss_cons (ps_setLc (i := 3) (own := [("stand", 6)]) (g := (gName 6)) (tt := tYes) (te := (tTup (tCons (tVar 6) tNil))) rfl scStandsOf.nd rfl rfl (sw_true rfl rfl rfl (by decide +kernel)) (pi_tup (pe_fld (pv 0) rfl)) (blkOk_by (own := [("stand", 6)]) (N := nStandsOf) (sc := defScope sStandsOf) (by decide +kernel)) (fun _ _ _ _ _ => (pg_name (i := 6) scStandsOf.nd rfl (Or.inl rfl))) (fun _ _ _ _ _ => pts_nil) (fun _ _ _ _ _ => (pe_tup (pa_cons (pv 6) pa_nil))))
    (pss_cons (ps_for PassesOwn.never rfl (pi_zipB (RZ.pi_zipA (by rfl) T.f_zip (pa_cons (pv 1) (pa_cons (pv 2) pa_nil)))) (pg_tup (by rfl) (pgs_cons (pg_name (i := 4) scStandsOf.nd rfl (Or.inr rfl)) (pgs_cons (pg_name (i := 5) scStandsOf.nd rfl (Or.inr rfl)) pgs_nil))) (pss_one (ps_setLc (i := 3) (own := [("thing", 7), ("stands", 8)]) (g := (gTup K 2 (gCons (gName 7) (gCons (gName 8) gNil)))) (tt := tYes) (te := (tCall (spStandsBehind B) [] C8.E0 (tCons (tVar 0) (tCons (tVar 4) (tCons (tVar 5) (tCons (tVar 7) (tCons (tVar 8) tNil))))))) rfl scStandsOf.nd rfl rfl (sw_true rfl rfl rfl (by decide +kernel)) (pi_enum (by rfl) T.f_enumerate (pa_cons (pv 3) pa_nil)) (blkOk_by (own := [("thing", 7), ("stands", 8)]) (N := nStandsOf) (sc := defScope sStandsOf) (by decide +kernel)) (fun _ _ _ _ _ => (pg_tup (by rfl) (pgs_cons (pg_name (i := 7) scStandsOf.nd rfl (Or.inl rfl)) (pgs_cons (pg_name (i := 8) scStandsOf.nd rfl (Or.inl rfl)) pgs_nil)))) (fun _ _ _ _ _ => pts_nil) (fun _ _ _ _ _ => (C8.pe_c c_stands_behind hr (by decide) rfl (pa_cons (pv 0) (pa_cons (pv 4) (pa_cons (pv 5) (pa_cons (pv 7) (pa_cons (pv 8) pa_nil))))))))))
    (pss_one (ps_ret (pe_callTy call_tuple_of (by rfl) T.f_tuple (by decide +kernel) (pa_cons (pv 3) pa_nil)))))), ?_⟩
    have hCCase := T.c_Case
    have hACase_firsts := T.a_Case_firsts
    obtain ⟨a, p, qq, c, ns, ts, rfl, hc, ok, hpq, lo, q⟩ := h
    have hlen := lo.len
    have hle := lo.le
    have hth := ok.things
    obtain ⟨dx, st, ru, fp, wi, e1, hst, hru, hfp, hwi⟩ := hc.ex
    walk_at "go"
    refine ⟨fp, rfl, ⟨_, SqT.of hfp⟩, fun Dl hD => lc_1 walk_tup yAt hD (fun i v H => Rp H v (dT [c.firsts.getD i 0])) rd_m (rd_l fun i => noL_dT _) (by rw [vN_len, ok.flen]; omega) (fun H s4 => SqT.of (s4 _ _ hfp)) (fun x => rfl) (fun i y H5 Q5 hi s5 hy q5 => ?_) fun H5 ys s5 hl5 aa => ?_⟩
    · obtain ⟨n, hn, rfl⟩ := vN_of hy
      walk_at "go"
      refine ⟨by simp [sizeLine_eq], fun t ht => q5 _ _ (Same.new ht) ?_⟩
      rw [getD_of hn]
      exact Rp.nats upd_same
    have aa' := aa.rp
    rw [vN_len, map_range_get (f := fun n => dT [n]) 0 rfl] at aa'
    have aa2 : RpA H5 ys ((standsOf c ((ns.zip ts).take 0)).map dT) := by
      show RpA H5 ys ((c.firsts.map fun f => [f]).map dT)
      rw [List.map_map]
      exact aa'
    walk_at "go"
    have hpq5 : (H5 p = some (.lst (vN ns)) ∧ H5 qq = some (.lst (ts.map oN))) ∨ (H5 p = some (.tup (vN ns)) ∧ H5 qq = some (.tup (ts.map oN))) := hpq.imp (fun z => ⟨s5 _ _ z.1, s5 _ _ z.2⟩) fun z => ⟨s5 _ _ z.1, s5 _ _ z.2⟩
    refine ⟨p, qq, vN ns, ts.map oN, rfl, rfl, hpq5, fun J G wk hG => ?_⟩
    refine for_2 wk (fun i σ H' => Same H5 H' ∧ ∃ fl zs v1 v2, σ = [some (.ref a), some (.ref p), some (.ref qq), some (.ref fl), v1, v2, none, none, none] ∧ H' fl = some (.lst zs) ∧ RpA H' zs ((standsOf c ((ns.zip ts).take i)).map dT)) ⟨Same.refl _, Dl, ys, _, _, rfl, hl5, aa2⟩ (fun i σ H' _ z => hG _ z.1) ?_ ?_
    · rintro i x y TT σ H6 hi ⟨s6, fl, zs, v1, v2, rfl, efl, rz⟩ hT hx hy
      obtain ⟨n, hn, rfl⟩ := vN_of hx
      obtain ⟨t, ht, rfl⟩ := map_get hy
      have hnl := lo.num n (List.mem_of_getElem? hn)
      have sT : Same H6 (upd H6 TT (.tup [.int (n : Int), oN t])) := Same.new hT
      have s7 := (s5.trans s6).trans sT
      have efl7 := sT _ _ efl
      have rz7 := rz.up sT
      have s57 := s6.trans sT
      generalize upd H6 TT (.tup [.int (n : Int), oN t]) = H7 at sT s7 efl7 rz7 s57 ⊢
      have fok := standsOf_ok ok ((ns.zip ts).take i)
      generalize hF : standsOf c ((ns.zip ts).take i) = F at rz7 fok
      have hzl : zs.length = F.length := by rw [rz7.len, List.length_map]
      have fl4 := fok.len
      walk_at "go"
      refine ⟨fl, zs, rfl, SqL.of efl7, fun De hE => lc_2 walk_enum hE (fun j v H => Rp H v (dT (stA c (c.qs.getD n (0, [])) t j (F.getD j [])))) rd_m (rd_l fun i => noL_dT _) (by omega) (fun H s8 => SqL.of (s8 _ _ efl7)) (fun x y => rfl) (fun j x y H8 Q8 hj s8 hx hy q8 => ?_) fun H8 us s8 hl8 bb => ?_⟩
      · cases hx
        obtain ⟨d, hd, rd⟩ := rz7.get' hy
        obtain ⟨S, hS, rfl⟩ := map_get hd
        obtain ⟨r, rfl, er⟩ := Rp.nats_inv rd
        have hSm := fok.each S (List.mem_of_getElem? hS)
        walk_at "go"
        refine ⟨a, n, j, r, c, c.qs[n], t, S, rfl, hc.up (s7.trans s8), ok, List.getElem?_eq_getElem hnl, fun h e => lo.told h (by rw [← e]; exact List.mem_of_getElem? ht), by omega, s8 _ _ er, hSm.2, hSm.1, fun r2 H9 s9 er2 => q8 _ _ s9 ?_⟩
        rw [getD_of hS, List.getD_eq_getElem?_getD, List.getElem?_eq_getElem hnl]
        exact Rp.nats er2
      · have bb' := bb.rp
        walk_at "go"
        refine ⟨s57.trans s8, De, us, _, _, rfl, hl8, ?_⟩
        have et : (ns.zip ts).take (i + 1) = (ns.zip ts).take i ++ [(n, t)] := by
          rw [List.take_add_one, zip_get hn ht]
          rfl
        rw [et, standsOf_snoc, hF]
        unfold stage
        rw [List.map_map, ← hzl]
        exact bb'
    · rintro σ H6 ⟨s6, fl, zs, v1, v2, rfl, efl, rz⟩
      rw [vN_len, List.length_map, hlen, Nat.min_self, List.take_of_length_le (by rw [List.length_zip]; omega)] at rz
      walk_at "go"
      refine r_tupL efl fun tp htp => ?_
      refine q _ _ ((s5.trans s6).trans (Same.new htp)) ?_
      exact .tup upd_same (rz.up (Same.new htp))
def spOpenOnes : Sp := fun vs H Q _ => ∃ (p : Nat) (S : List (List Nat)), vs = [.ref p] ∧ Rp H (.ref p) (dS S) ∧ S.length ≤ 4 ∧ ∀ r H', Same H H' → H' r = some (.tup (vN (opens S))) → Q (.ref r) H'
theorem ok_open_ones (T : Tx K mg B) : C8.Cal P w K mg base 1 "open_ones" spOpenOnes [] := by
  refine cal_of T.d_open_ones scOpenOnes (fun _ _ _ _ _ _ us hl => match us, hl with | [_], _ => rfl) (fun vs H Q E h => ?_) (fun f cdv AA outer s H vs Q E hr h => ?_)
  · first | (obtain ⟨_, rfl, _⟩ := h; rfl) | (obtain ⟨_, _, rfl, _⟩ := h; rfl) | (obtain ⟨_, _, _, rfl, _⟩ := h; rfl) | (obtain ⟨_, _, _, _, rfl, _⟩ := h; rfl) | (obtain ⟨_, _, _, _, _, rfl, _⟩ := h; rfl) | (obtain ⟨_, _, _, _, _, _, rfl, _⟩ := h; rfl) | (obtain ⟨_, _, _, _, _, _, _, rfl, _⟩ := h; rfl) | (obtain ⟨_, _, _, _, _, _, _, _, rfl, _⟩ := h; rfl) | (obtain ⟨_, _, _, _, _, _, _, _, _, rfl, _⟩ := h; rfl) | (obtain ⟨_, _, _, _, _, _, _, _, _, _, rfl, _⟩ := h; rfl) | (obtain ⟨_, _, _, _, _, _, _, _, _, _, _, rfl, _⟩ := h; rfl) | (obtain ⟨_, _, _, _, _, _, _, _, _, _, _, _, rfl, _⟩ := h; rfl) | (obtain ⟨_, _, _, _, _, _, _, _, _, _, _, _, _, rfl, _⟩ := h; rfl) | (obtain ⟨_, _, _, _, _, _, _, _, _, _, _, _, _, _, rfl, _⟩ := h; rfl) | (obtain ⟨_, _, _, _, _, _, _, _, _, _, _, _, _, _, _, rfl, _⟩ := h; rfl) | (obtain ⟨_, _, _, _, _, _, _, _, _, _, _, _, _, _, _, _, rfl, _⟩ := h; rfl) | (obtain ⟨_, _, _, _, _, _, _, _, _, _, _, _, _, _, _, _, _, rfl, _⟩ := h; rfl) | (obtain ⟨_, _, _, _, _, _, _, _, _, _, _, _, _, _, _, _, _, _, rfl, _⟩ := h; rfl) | (obtain ⟨_, _, _, _, _, _, _, _, _, _, _, _, _, _, _, _, _, _, _, rfl, _⟩ := h; rfl)
  · refine ⟨(tRet (tCB (qTupS K) (tCons (tLc (EZ.iEnumT K (tCons (tVar 0) tNil)) (gTup K 2 (gCons (gName 1) (gCons (gName 2) gNil))) (tTest (tOp (rNeD K) (tVar 2) (tTup tNil))) (tVar 1) [1, 2]) tNil))),
    (pss_one (ps_ret (pe_callTy call_tuple_of (by rfl) T.f_tuple (by decide +kernel) (pa_cons (pe_lc (own := [("thing", 1), ("some", 2)]) (g := (gTup K 2 (gCons (gName 1) (gCons (gName 2) gNil)))) (tt := (tTest (tOp (rNeD K) (tVar 2) (tTup tNil)))) (te := (tVar 1)) rfl scOpenOnes.nd (EZ.pi_enumT (by rfl) T.f_enumerate (pa_cons (pv 0) pa_nil)) (blkOk_by (own := [("thing", 1), ("some", 2)]) (N := nOpenOnes) (sc := defScope sOpenOnes) (by decide +kernel)) (fun _ _ _ _ _ => (pg_tup (by rfl) (pgs_cons (pg_name (i := 1) scOpenOnes.nd rfl (Or.inl rfl)) (pgs_cons (pg_name (i := 2) scOpenOnes.nd rfl (Or.inl rfl)) pgs_nil)))) (fun _ _ _ _ _ => (pts_one (pt_cmpR (op_neD hr.units) (pv 2) (pe_tup pa_nil) (nomark _)))) (fun _ _ _ _ _ => (pv 1))) pa_nil)))), ?_⟩
    obtain ⟨p, S, rfl, hp, hl, q⟩ := h
    obtain ⟨_, zs, hpp, e1, rz⟩ := Rp.tup_inv hp
    cases hpp
    have hzl : zs.length = S.length := by rw [rz.len, List.length_map]
    walk_at "go"
    refine r_iEnumT ?_
    walk_at "go"
    refine ⟨p, zs, rfl, SqT.of e1, fun De hE => lc_2f EZ.walk_enumT hE (fun j v _ => v = .int (j : Int)) ri_m ri_l (fun i => !decide (S.getD i [] = [])) (by omega) (fun H s8 => SqT.of (s8 _ _ e1)) (fun x y => rfl) (fun j x y H8 Q8 hj s8 hx hy q8 => ?_) (fun j x y H8 Q8 hj hb s8 hx hy q8 => ?_) fun H8 us s8 hl8 bb => ?_⟩
    · cases hx
      obtain ⟨d, hd, rd⟩ := rz.get' hy
      obtain ⟨T, hT, rfl⟩ := map_get hd
      walk_at "go"
      refine ⟨by simp [sizeLine_eq], fun t ht => ?_⟩
      refine r_neD (d := dT T) (e := dT []) (rd.up (s8.trans (Same.new ht))) (.tup upd_same .nil) ((shp_dN T).sh (by decide)) ((shp_dN []).sh (by decide)) ?_
      rw [eqv_dN]
      walk_at "go"
      rw [getD_of hT] at q8
      exact q8 _ (Same.new ht)
    · cases hx
      walk_at "go"
      exact q8 _ _ (Same.refl _) rfl
    · rw [hzl] at bb
      have e := bb.eqs (f := fun j => .int (j : Int))
      walk_at "go"
      refine r_tupL hl8 fun t ht => q _ _ (s8.trans (Same.new ht)) ?_
      rw [e]
      exact upd_same
def spStandsLeft (B : Adr) : Sp := fun vs H Q _ => ∃ (a p q : Nat) (c : Cs) (ns : List Nat) (ts : List (Option Nat)), vs = [.ref a, .ref p, .ref q] ∧ CaseAt B H a c ∧ c.Ok ∧ H p = some (.lst (vN ns)) ∧ H q = some (.lst (ts.map oN)) ∧ LogOk c ns ts ∧
  ∀ r H', Same H H' → Rp H' (.ref r) (dS (standsOf c (ns.zip ts))) → Q (.ref r) H'
theorem ok_stands_left (T : Tx K mg B) : C8.Cal P w K mg base 4 "stands_left" (spStandsLeft B) [] := by
  have c_need_log := ok_need_log (P := P) (w := w) (base := base) T
  have c_stands_of := ok_stands_of (P := P) (w := w) (base := base) T
  refine cal_of T.d_stands_left scStandsLeft (fun _ _ _ _ _ _ us hl => match us, hl with | [_, _, _], _ => rfl) (fun vs H Q E h => ?_) (fun f cdv AA outer s H vs Q E hr h => ?_)
  · first | (obtain ⟨_, rfl, _⟩ := h; rfl) | (obtain ⟨_, _, rfl, _⟩ := h; rfl) | (obtain ⟨_, _, _, rfl, _⟩ := h; rfl) | (obtain ⟨_, _, _, _, rfl, _⟩ := h; rfl) | (obtain ⟨_, _, _, _, _, rfl, _⟩ := h; rfl) | (obtain ⟨_, _, _, _, _, _, rfl, _⟩ := h; rfl) | (obtain ⟨_, _, _, _, _, _, _, rfl, _⟩ := h; rfl) | (obtain ⟨_, _, _, _, _, _, _, _, rfl, _⟩ := h; rfl) | (obtain ⟨_, _, _, _, _, _, _, _, _, rfl, _⟩ := h; rfl) | (obtain ⟨_, _, _, _, _, _, _, _, _, _, rfl, _⟩ := h; rfl) | (obtain ⟨_, _, _, _, _, _, _, _, _, _, _, rfl, _⟩ := h; rfl) | (obtain ⟨_, _, _, _, _, _, _, _, _, _, _, _, rfl, _⟩ := h; rfl) | (obtain ⟨_, _, _, _, _, _, _, _, _, _, _, _, _, rfl, _⟩ := h; rfl) | (obtain ⟨_, _, _, _, _, _, _, _, _, _, _, _, _, _, rfl, _⟩ := h; rfl) | (obtain ⟨_, _, _, _, _, _, _, _, _, _, _, _, _, _, _, rfl, _⟩ := h; rfl) | (obtain ⟨_, _, _, _, _, _, _, _, _, _, _, _, _, _, _, _, rfl, _⟩ := h; rfl) | (obtain ⟨_, _, _, _, _, _, _, _, _, _, _, _, _, _, _, _, _, rfl, _⟩ := h; rfl) | (obtain ⟨_, _, _, _, _, _, _, _, _, _, _, _, _, _, _, _, _, _, rfl, _⟩ := h; rfl) | (obtain ⟨_, _, _, _, _, _, _, _, _, _, _, _, _, _, _, _, _, _, _, rfl, _⟩ := h; rfl)
  · refine ⟨(tSeq (tDrop (tCall (spNeedLog B) [] C8.E0 (tCons (tVar 0) (tCons (tVar 1) (tCons (tVar 2) tNil)))))
    (tRet (tCall (spStandsOf B) [] C8.E0 (tCons (tVar 0) (tCons (tVar 1) (tCons (tVar 2) tNil)))))),
    (pss_cons (ps_expr (C8.pe_c c_need_log hr (by decide) rfl (pa_cons (pv 0) (pa_cons (pv 1) (pa_cons (pv 2) pa_nil)))))
    (pss_one (ps_ret (C8.pe_c c_stands_of hr (by decide) rfl (pa_cons (pv 0) (pa_cons (pv 1) (pa_cons (pv 2) pa_nil))))))), ?_⟩
    obtain ⟨a, p, qq, c, ns, ts, rfl, hc, ok, hp, hq, lo, q⟩ := h
    walk_at "go"
    refine ⟨a, p, qq, c, ns, ts, rfl, hc, hp, hq, lo, fun H1 s1 => ?_⟩
    walk_at "go"
    exact ⟨a, p, qq, c, ns, ts, rfl, hc.up s1, ok, .inl ⟨s1 _ _ hp, s1 _ _ hq⟩, lo, fun r H2 s2 hr => q r _ (s1.trans s2) hr⟩
def spIsBroken (B : Adr) : Sp := fun vs H Q _ => ∃ (a p q : Nat) (c : Cs) (ns : List Nat) (ts : List (Option Nat)), vs = [.ref a, .ref p, .ref q] ∧ CaseAt B H a c ∧ c.Ok ∧ H p = some (.lst (vN ns)) ∧ H q = some (.lst (ts.map oN)) ∧ LogOk c ns ts ∧
  ∀ H', Same H H' → Q (.bl (decide (opens (standsOf c (ns.zip ts)) = []))) H'
theorem ok_is_broken (T : Tx K mg B) : C8.Cal P w K mg base 4 "is_broken" (spIsBroken B) [] := by
  have c_need_log := ok_need_log (P := P) (w := w) (base := base) T
  have c_stands_of := ok_stands_of (P := P) (w := w) (base := base) T
  have c_open_ones := ok_open_ones (P := P) (w := w) (base := base) T
  refine cal_of T.d_is_broken scIsBroken (fun _ _ _ _ _ _ us hl => match us, hl with | [_, _, _], _ => rfl) (fun vs H Q E h => ?_) (fun f cdv AA outer s H vs Q E hr h => ?_)
  · first | (obtain ⟨_, rfl, _⟩ := h; rfl) | (obtain ⟨_, _, rfl, _⟩ := h; rfl) | (obtain ⟨_, _, _, rfl, _⟩ := h; rfl) | (obtain ⟨_, _, _, _, rfl, _⟩ := h; rfl) | (obtain ⟨_, _, _, _, _, rfl, _⟩ := h; rfl) | (obtain ⟨_, _, _, _, _, _, rfl, _⟩ := h; rfl) | (obtain ⟨_, _, _, _, _, _, _, rfl, _⟩ := h; rfl) | (obtain ⟨_, _, _, _, _, _, _, _, rfl, _⟩ := h; rfl) | (obtain ⟨_, _, _, _, _, _, _, _, _, rfl, _⟩ := h; rfl) | (obtain ⟨_, _, _, _, _, _, _, _, _, _, rfl, _⟩ := h; rfl) | (obtain ⟨_, _, _, _, _, _, _, _, _, _, _, rfl, _⟩ := h; rfl) | (obtain ⟨_, _, _, _, _, _, _, _, _, _, _, _, rfl, _⟩ := h; rfl) | (obtain ⟨_, _, _, _, _, _, _, _, _, _, _, _, _, rfl, _⟩ := h; rfl) | (obtain ⟨_, _, _, _, _, _, _, _, _, _, _, _, _, _, rfl, _⟩ := h; rfl) | (obtain ⟨_, _, _, _, _, _, _, _, _, _, _, _, _, _, _, rfl, _⟩ := h; rfl) | (obtain ⟨_, _, _, _, _, _, _, _, _, _, _, _, _, _, _, _, rfl, _⟩ := h; rfl) | (obtain ⟨_, _, _, _, _, _, _, _, _, _, _, _, _, _, _, _, _, rfl, _⟩ := h; rfl) | (obtain ⟨_, _, _, _, _, _, _, _, _, _, _, _, _, _, _, _, _, _, rfl, _⟩ := h; rfl) | (obtain ⟨_, _, _, _, _, _, _, _, _, _, _, _, _, _, _, _, _, _, _, rfl, _⟩ := h; rfl)
  · refine ⟨(tSeq (tDrop (tCall (spNeedLog B) [] C8.E0 (tCons (tVar 0) (tCons (tVar 1) (tCons (tVar 2) tNil)))))
    (tRet (tOp (rEqD K) (tCall spOpenOnes [] C8.E0 (tCons (tCall (spStandsOf B) [] C8.E0 (tCons (tVar 0) (tCons (tVar 1) (tCons (tVar 2) tNil)))) tNil)) (tTup tNil)))),
    (pss_cons (ps_expr (C8.pe_c c_need_log hr (by decide) rfl (pa_cons (pv 0) (pa_cons (pv 1) (pa_cons (pv 2) pa_nil)))))
    (pss_one (ps_ret (pe_cmpR (op_eqD hr.units) (C8.pe_c c_open_ones hr (by decide) rfl (pa_cons (C8.pe_c c_stands_of hr (by decide) rfl (pa_cons (pv 0) (pa_cons (pv 1) (pa_cons (pv 2) pa_nil)))) pa_nil)) (pe_tup pa_nil) (nomark _))))), ?_⟩
    obtain ⟨a, p, qq, c, ns, ts, rfl, hc, ok, hp, hq, lo, q⟩ := h
    have hth := ok.things
    walk_at "go"
    refine ⟨a, p, qq, c, ns, ts, rfl, hc, hp, hq, lo, fun H1 s1 => ?_⟩
    walk_at "go"
    refine ⟨a, p, qq, c, ns, ts, rfl, hc.up s1, ok, .inl ⟨s1 _ _ hp, s1 _ _ hq⟩, lo, fun r H2 s2 hr => ?_⟩
    walk_at "go"
    refine ⟨r, _, rfl, hr, by rw [(standsOf_ok ok _).len]; omega, fun o H3 s3 ho => ?_⟩
    walk_at "go"
    refine ⟨by simp [sizeLine_eq], fun t ht => ?_⟩
    have s4 := Same.new (o := .tup []) ht
    refine r_eqD (d := dT (opens (standsOf c (ns.zip ts)))) (e := dT []) ((Rp.nats ho).up s4) (.tup upd_same .nil) ((shp_dN _).sh (by decide)) ((shp_dN []).sh (by decide)) ?_
    rw [eqv_dN]
    exact q _ (((s1.trans s2).trans s3).trans s4)
end

end TW

set_option Elab.async false
set_option linter.all false
set_option maxRecDepth 100000
set_option maxHeartbeats 4000000
namespace TW
open PySem PySem.Spec PyProof.Rows L2
local macro_rules | `(tactic| walk_at "st0") => `(tactic| with_reducible (first | refine r_seq ?_ | refine r_next ?_ | refine r_ret ?_ | refine r_retN ?_ | refine r_drop ?_ | refine r_asg ?_ | refine r_if ?_ | refine r_gName ?_ | refine r_par ?_ | refine r_c ?_ | refine r_cons ?_ | refine r_nil ?_ | refine r_op ?_ | refine r_CB ?_ | refine r_andV ?_ | refine r_orV ?_ | refine r_notV ?_ | refine r_tIf ?_ | refine r_B ?_ | refine r_Test ?_ | refine r_and ?_ | refine r_or ?_ | refine r_not ?_ | refine r_yes ?_ | refine r_bl ?_ | refine r_T ?_ | refine r_F ?_ | refine r_nT ?_ | refine r_nF ?_ | refine r_I0 ?_ | refine r_eqI ?_ | refine r_neI ?_ | refine r_eqB ?_ | refine r_neB ?_ | refine r_isN0 ?_ | refine r_isN1 ?_ | refine r_isN2 ?_ | refine r_notN0 ?_ | refine r_notN1 ?_ | refine r_notN2 ?_ | refine r_isNo ?_ | refine r_notNo ?_ | refine r_fld ?_ | refine r_sfld ?_ | refine r_tup ?_ | refine r_lst ?_ | refine r_call ?_ | refine r_make ?_ | refine r_sl ?_ | refine r_part ?_ | refine r_noPart ?_ | refine r_iList ?_ | refine r_iTup ?_ | refine r_iRng1 ?_ | refine r_iEnum ?_ | refine r_int1 ?_ | refine r_intB ?_ | refine r_abs ?_ | refine r_bm ?_ | refine r_lc ?_ | refine r_for ?_))
local macro_rules | `(tactic| walk_at "st") => `(tactic| first | walk_at "st0" | ((with_reducible refine' r_var ?e ?_); (case e => exact rfl)) | ((with_reducible refine' r_fldG ?e1 ?e2 ?e3 ?e4 ?_); (case e1 => assumption); (case e2 => assumption); (case e3 => assumption); (case e4 => exact rfl)) | ((with_reducible refine' r_isC ?e ?_); (case e => assumption)) | dsimp only)
local macro_rules | `(tactic| walk_at "go") => `(tactic| repeat (walk_at "st"))
section
variable {P : Program} {w : World} {K : PySem.W.Frag} {mg : Str → Option Value} {base : Heap} {B : Adr}
/-- a store, its heap told by what it keeps -/
theorem r_st {f : Str} {y : V} {x C dx : Addr} {fs : List (Str × V)} {H : Hp} {R : Hp → Prop} (e : H x = some (.ins C dx fs)) (c : Cls K C) (na : NoAttr K C f) (l : fs.length < 1000)
    (h : ∀ H', H' x = some (.ins C dx (putF f y fs)) → (∀ v d, Rp H v d → Rp H' v d) → (∀ G, Same G H → G x = none → Same G H') → R H') : StG K f y (.ref x) H R :=
  r_stG e c na l (h _ upd_same (fun v d => rp_del e d v) fun G s hx => Same.mut s hx)
theorem r_tStar {te : TE} {t : TA} {σ : L2.St} {H : Hp} {Q : List V → Hp → Prop} (h : te σ H fun x H1 => ∃ p xs, x = V.ref p ∧ (SqT K H1 p xs ∨ SqL K H1 p xs) ∧ t σ H1 fun ys H2 => Q (xs ++ ys) H2) : StX.tStar K te t σ H Q := h
theorem r_ost {f : Str} {to te : TE} {D : Ends} {σ : L2.St} {H : Hp} (h : te σ H fun y H1 => to σ H1 fun x H2 => ∃ a C : Addr, x = .ref a ∧ OexC K C ∧ PySem.W.findIn K (.ref C) f = some none ∧
  ((H2 a = some (exo a C none) ∧ ∀ dx, H2 dx = none → dx ≠ a → D.nx σ (upd (upd H2 dx (exd dx [(f, y)])) a (exo a C (some dx)))) ∨
    ∃ (dx : Addr) (fs : List (Str × V)), H2 a = some (exo a C (some dx)) ∧ H2 dx = some (exd dx fs) ∧ fs.length ≤ 900 ∧ D.nx σ (upd H2 dx (exd dx ((f, y) :: fs))))) : tOst K f to te D σ H := h
def askD (ns : List Nat) : List PyData := (List.range ns.length).map fun i : Nat => .tuple [.int (i : Int), .int ((ns.getD i 0 : Nat) : Int)]
def pairD (ts : List (Option Nat)) : List PyData := (List.range ts.length).map fun i : Nat => .tuple [.int (i : Int), dO (ts.getD i none)]
def unh (ts : List (Option Nat)) : List Nat := (List.range ts.length).filter fun i => (ts.getD i none).isNone
theorem askD_len (ns : List Nat) : (askD ns).length = ns.length := by
  unfold askD
  rw [List.length_map, List.length_range]
theorem pair_inv {H : Hp} {v : V} {a b : PyData} (h : Rp H v (.tuple [a, b])) : ∃ p x y, v = .ref p ∧ H p = some (.tup [x, y]) ∧ Rp H x a ∧ Rp H y b := by
  obtain ⟨p, xs, rfl, h1, h2⟩ := Rp.tup_inv h
  obtain ⟨x, r, rfl, h3, h4⟩ := RpA.cons_inv h2
  obtain ⟨y, r2, rfl, h5, h6⟩ := RpA.cons_inv h4
  rw [RpA.nil_inv h6] at h1
  exact ⟨p, x, y, rfl, h1, h3, h5⟩
theorem ask_get {H : Hp} {xs : List V} {ns : List Nat} {i : Nat} {x : V} (h : RpA H xs (askD ns)) (e : xs[i]? = some x) : ∃ p, x = .ref p ∧ H p = some (.tup [.int (i : Int), .int ((ns.getD i 0 : Nat) : Int)]) ∧ i < ns.length := by
  obtain ⟨d, hd, rd⟩ := h.get' e
  unfold askD at hd
  obtain ⟨j, hj, rfl⟩ := map_get hd
  obtain ⟨hl, ej⟩ := List.getElem?_eq_some_iff.mp hj
  rw [List.getElem_range] at ej
  subst ej
  obtain ⟨p, a, b, rfl, h1, h2, h3⟩ := pair_inv rd
  rw [h2.int_inv, h3.int_inv] at h1
  exact ⟨p, rfl, h1, by rwa [List.length_range] at hl⟩
def spPlaceIn : Sp := fun vs H Q _ => ∃ (p a : Nat) (ns : List Nat), vs = [.ref p, .int (a : Int)] ∧ Rp H (.ref p) (.tuple (askD ns)) ∧ a < ns.length ∧ ns.length ≤ 8 ∧ ∀ H', Same H H' → Q (.int (a : Int)) H'
theorem ok_place_in (T : Tx K mg B) : C8.Cal P w K mg base 3 "place_in" spPlaceIn [] := by
  have c_is_within := ok_is_within (P := P) (w := w) (base := base) T
  refine cal_of T.d_place_in scPlaceIn (fun _ _ _ _ _ _ us hl => match us, hl with | [_, _], _ => rfl) (fun vs H Q E h => ?_) (fun f cdv AA outer s H vs Q E hr h => ?_)
  · first | (obtain ⟨_, rfl, _⟩ := h; rfl) | (obtain ⟨_, _, rfl, _⟩ := h; rfl) | (obtain ⟨_, _, _, rfl, _⟩ := h; rfl) | (obtain ⟨_, _, _, _, rfl, _⟩ := h; rfl) | (obtain ⟨_, _, _, _, _, rfl, _⟩ := h; rfl) | (obtain ⟨_, _, _, _, _, _, rfl, _⟩ := h; rfl) | (obtain ⟨_, _, _, _, _, _, _, rfl, _⟩ := h; rfl) | (obtain ⟨_, _, _, _, _, _, _, _, rfl, _⟩ := h; rfl) | (obtain ⟨_, _, _, _, _, _, _, _, _, rfl, _⟩ := h; rfl) | (obtain ⟨_, _, _, _, _, _, _, _, _, _, rfl, _⟩ := h; rfl) | (obtain ⟨_, _, _, _, _, _, _, _, _, _, _, rfl, _⟩ := h; rfl) | (obtain ⟨_, _, _, _, _, _, _, _, _, _, _, _, rfl, _⟩ := h; rfl) | (obtain ⟨_, _, _, _, _, _, _, _, _, _, _, _, _, rfl, _⟩ := h; rfl) | (obtain ⟨_, _, _, _, _, _, _, _, _, _, _, _, _, _, rfl, _⟩ := h; rfl) | (obtain ⟨_, _, _, _, _, _, _, _, _, _, _, _, _, _, _, rfl, _⟩ := h; rfl) | (obtain ⟨_, _, _, _, _, _, _, _, _, _, _, _, _, _, _, _, rfl, _⟩ := h; rfl) | (obtain ⟨_, _, _, _, _, _, _, _, _, _, _, _, _, _, _, _, _, rfl, _⟩ := h; rfl) | (obtain ⟨_, _, _, _, _, _, _, _, _, _, _, _, _, _, _, _, _, _, rfl, _⟩ := h; rfl) | (obtain ⟨_, _, _, _, _, _, _, _, _, _, _, _, _, _, _, _, _, _, _, rfl, _⟩ := h; rfl)
  · refine ⟨(tSeq (tFor (EZ.iEnumT K (tCons (tVar 0) tNil)) (gTup K 2 (gCons (gName 2) (gCons (gName 3) gNil))) (tIfS (tB (tCall spIsWithin [] C8.E0 (tCons (tVar 1) (tCons (tOp (rIxT K) (tVar 3) (tC (.int 0))) (tCons (tOp (rIxT K) (tVar 3) (tC (.int 0))) tNil))))) (tRet (tVar 2)) tNext))
    tNever),
    (pss_cons (ps_for PassesOwn.never rfl (EZ.pi_enumT (by rfl) T.f_enumerate (pa_cons (pv 0) pa_nil)) (pg_tup (by rfl) (pgs_cons (pg_name (i := 2) scPlaceIn.nd rfl (Or.inl rfl)) (pgs_cons (pg_name (i := 3) scPlaceIn.nd rfl (Or.inl rfl)) pgs_nil))) (pss_one (ps_if (pt_val (C8.pe_c c_is_within hr (by decide) rfl (pa_cons (pv 1) (pa_cons (pe_ix ix_tup (pv 3) pe_int (fun _ _ => rfl)) (pa_cons (pe_ix ix_tup (pv 3) pe_int (fun _ _ => rfl)) pa_nil))))) (pss_one (ps_ret (pv 2))) pss_nil)))
    (pss_one ps_never)), ?_⟩
    obtain ⟨p, a, ns, rfl, hp, ha, hl, q⟩ := h
    obtain ⟨_, xs, hpp, e1, rx⟩ := Rp.tup_inv hp
    cases hpp
    have hxl : xs.length = ns.length := by rw [rx.len, askD_len]
    walk_at "go"
    refine r_iEnumT ?_
    walk_at "go"
    refine ⟨p, xs, rfl, SqT.of e1, for_2 EZ.walk_enumT (fun i σ H' => Same H H' ∧ i ≤ a ∧ ∃ v1 v2, σ = [some (.ref p), some (.int (a : Int)), v1, v2]) ⟨Same.refl _, Nat.zero_le _, _, _, rfl⟩ (fun i σ H' _ z => SqT.of (z.1 _ _ e1)) ?_ ?_⟩
    · rintro i x y TT σ H1 hi ⟨s1, hia, v1, v2, rfl⟩ hT hx hy
      cases hx
      obtain ⟨b, rfl, eb, _⟩ := ask_get rx hy
      have s2 := Same.newT (o := .tup [.int (i : Int), .ref b]) s1 hT
      generalize upd H1 TT (.tup [.int (i : Int), .ref b]) = H2 at s2 ⊢
      walk_at "go"
      refine r_ixT (k := 0) (s2 _ _ eb) rfl ?_
      walk_at "go"
      refine r_ixT (k := 0) (s2 _ _ eb) rfl ?_
      walk_at "go"
      refine ⟨(a : Int), some (i : Int), some (i : Int), rfl, ?_⟩
      by_cases e : i = a
      · subst e
        rw [within_ok (Int.le_refl _) (Int.le_refl _)]
        walk_at "go"
        exact q _ s2
      · have hno : within (a : Int) (some (i : Int)) (some (i : Int)) = false := by
          show (decide ((i : Int) ≤ (a : Int)) && decide ((a : Int) ≤ (i : Int))) = false
          rw [decide_eq_false (p := (a : Int) ≤ (i : Int)) (by omega)]
          exact Bool.and_false _
        rw [hno]
        walk_at "go"
        exact ⟨s2, by omega, _, _, rfl⟩
    · rintro σ H1 ⟨s1, hia, v1, v2, rfl⟩
      omega
/-- what is sure -/
def sureD (c : Cs) (os : List Nat) : PyData := if os = [] then .none else if metB c.wish os = true then (match c.wish with
  | .most _ => dT os
  | .cls cs => .int ((Wi.num (.cls cs)).getD (os.headD 0) 0)) else .none
def spSureOf (B : Adr) : Sp := fun vs H Q _ => ∃ (a p : Nat) (c : Cs) (os : List Nat), vs = [.ref a, .ref p] ∧ CaseAt B H a c ∧ c.Ok ∧ H p = some (.tup (vN os)) ∧ os ≠ [] ∧ os.Nodup ∧ (∀ o ∈ os, o < c.things) ∧ os.length ≤ 4 ∧ ∀ v H', Same H H' → Rp H' v (sureD c os) → Q v H'
theorem fit_of {c : Cs} (ok : c.Ok) {os : List Nat} (h : ∀ o ∈ os, o < c.things) : WiFit c.wish os := by
  have hw := ok.wish
  cases e : c.wish with
  | most m => trivial
  | cls cs =>
    rw [e] at hw
    intro o ho
    have hl : cs.length = c.things := hw
    rw [hl]
    exact h o ho
theorem ok_sure_of (T : Tx K mg B) : C8.Cal P w K mg base 2 "sure_of" (spSureOf B) [] := by
  have c_met_by := ok_met_by (P := P) (w := w) (base := base) T
  refine cal_of T.d_sure_of scSureOf (fun _ _ _ _ _ _ us hl => match us, hl with | [_, _], _ => rfl) (fun vs H Q E h => ?_) (fun f cdv AA outer s H vs Q E hr h => ?_)
  · first | (obtain ⟨_, rfl, _⟩ := h; rfl) | (obtain ⟨_, _, rfl, _⟩ := h; rfl) | (obtain ⟨_, _, _, rfl, _⟩ := h; rfl) | (obtain ⟨_, _, _, _, rfl, _⟩ := h; rfl) | (obtain ⟨_, _, _, _, _, rfl, _⟩ := h; rfl) | (obtain ⟨_, _, _, _, _, _, rfl, _⟩ := h; rfl) | (obtain ⟨_, _, _, _, _, _, _, rfl, _⟩ := h; rfl) | (obtain ⟨_, _, _, _, _, _, _, _, rfl, _⟩ := h; rfl) | (obtain ⟨_, _, _, _, _, _, _, _, _, rfl, _⟩ := h; rfl) | (obtain ⟨_, _, _, _, _, _, _, _, _, _, rfl, _⟩ := h; rfl) | (obtain ⟨_, _, _, _, _, _, _, _, _, _, _, rfl, _⟩ := h; rfl) | (obtain ⟨_, _, _, _, _, _, _, _, _, _, _, _, rfl, _⟩ := h; rfl) | (obtain ⟨_, _, _, _, _, _, _, _, _, _, _, _, _, rfl, _⟩ := h; rfl) | (obtain ⟨_, _, _, _, _, _, _, _, _, _, _, _, _, _, rfl, _⟩ := h; rfl) | (obtain ⟨_, _, _, _, _, _, _, _, _, _, _, _, _, _, _, rfl, _⟩ := h; rfl) | (obtain ⟨_, _, _, _, _, _, _, _, _, _, _, _, _, _, _, _, rfl, _⟩ := h; rfl) | (obtain ⟨_, _, _, _, _, _, _, _, _, _, _, _, _, _, _, _, _, rfl, _⟩ := h; rfl) | (obtain ⟨_, _, _, _, _, _, _, _, _, _, _, _, _, _, _, _, _, _, rfl, _⟩ := h; rfl) | (obtain ⟨_, _, _, _, _, _, _, _, _, _, _, _, _, _, _, _, _, _, _, rfl, _⟩ := h; rfl)
  · refine ⟨(tSeq (tIfS (tNot (tB (tCall (spMetBy B) [] C8.E0 (tCons (tFld K (tVar 0) "wish") (tCons (tCB (Evl.rListS K) (tCons (tVar 1) tNil)) tNil))))) (tRet (tC .non)) tNext)
    (tRet (tIf (tTest (tOp rIsN (tFld K (tFld K (tVar 0) "wish") "classes") (tC .non))) (tVar 1) (tOp (rIxT K) (tFld K (tFld K (tVar 0) "wish") "classes") (tOp (rIxT K) (tVar 1) (tC (.int 0))))))),
    (pss_cons (ps_if (pt_not (pt_val (C8.pe_c c_met_by hr (by decide) rfl (pa_cons (pe_fld (pv 0) rfl) (pa_cons (pe_callTy call_list_of (by rfl) T.f_list (by decide +kernel) (pa_cons (pv 1) pa_nil)) pa_nil))))) (pss_one (ps_ret pe_non)) pss_nil)
    (pss_one (ps_ret (pe_ifExp (pt_cmpR op_isN1 (pe_fld (pe_fld (pv 0) rfl) rfl) pe_non (nomark _)) (pv 1) (pe_ix ix_tup (pe_fld (pe_fld (pv 0) rfl) rfl) (pe_ix ix_tup (pv 1) pe_int (fun _ _ => rfl)) (fun _ _ => rfl)))))), ?_⟩
    have hCCase := T.c_Case
    have hCWish := T.c_Wish
    have hACase_wish := T.a_Case_wish
    have hAWish_classes := T.a_Wish_classes
    obtain ⟨a, p, c, os, rfl, hc, ok, hp, hne, nd, hlt, hl, q⟩ := h
    obtain ⟨dx, st, ru, fp, wi, e1, hst, hru, hfp, hwi⟩ := hc.ex
    walk_at "go"
    refine r_listT hp fun l hl2 => ?_
    walk_at "go"
    have s1 : Same H (upd H l (.lst (vN os))) := Same.new hl2
    refine ⟨wi, l, c.wish, os, rfl, hwi.up s1, upd_same, nd, by omega, fit_of ok hlt, fun H2 s2 => ?_⟩
    have sm := s1.trans s2
    walk_at "go"
    have e12 := sm _ _ e1
    unfold sureD at q
    rw [if_neg hne] at q
    refine r_2 (fun e => ?_) (fun e => ?_)
    · rw [show metB c.wish os = false by cases h : metB c.wish os <;> simp_all] at q
      walk_at "go"
      exact q _ _ sm .non
    · rw [show metB c.wish os = true by cases h : metB c.wish os <;> simp_all, if_pos rfl] at q
      walk_at "go"
      rcases hwi.ex with ⟨cs, dx3, p3, ew, e3, e4, e5⟩ | ⟨m, dx3, ew, e3⟩
      · rw [ew] at q e4 e5
        have e32 := sm _ _ e3
        walk_at "go"
        obtain ⟨o0, os', rfl⟩ : ∃ o0 os', os = o0 :: os' := by
          cases os with
          | nil => exact absurd rfl hne
          | cons x r => exact ⟨x, r, rfl⟩
        refine r_ixT (k := 0) (sm _ _ hp) rfl ?_
        have hw := ok.wish
        rw [ew] at hw
        have hlen : o0 < (Wi.num (.cls cs)).length := by
          rw [e5, show cs.length = c.things from hw]
          exact hlt o0 List.mem_cons_self
        walk_at "go"
        refine r_ixT (sm _ _ e4) (v := .int ((Wi.num (.cls cs)).getD o0 0)) (by rw [List.getElem?_map, List.getElem?_eq_getElem hlen, List.getD_eq_getElem?_getD, List.getElem?_eq_getElem hlen]; rfl) ?_
        walk_at "go"
        exact q _ _ sm (.int _)
      · rw [ew] at q
        have e32 := sm _ _ e3
        walk_at "go"
        exact q _ _ sm (Rp.nats (sm _ _ hp))
def spIBroken (K : PySem.W.Frag) (B : Adr) : Sp := fun vs H Q _ => ∃ (a : Nat) (x : Int), vs = [.ref a, .int x] ∧ OexC K B.Broken ∧ PySem.W.findIn K (.ref B.Broken) "asking" = some none ∧ H a = some (exo a B.Broken none) ∧ ∀ d, H d = none → d ≠ a → Q .non (upd (upd H d (exd d [("asking", .int x)])) a (exo a B.Broken (some d)))
theorem ok_Broken (T : Tx K mg B) : ME.BrkF P w K mg base 1 B.Broken (spIBroken K B) := by
  refine ME.brk_of T.bk scBrokenInit (fun _ _ _ _ _ _ us hl => match us, hl with | [_, _], _ => rfl) (fun vs H Q E h => ?_) (fun f cdv AA outer s H vs Q E hr h => ?_)
  · first | (obtain ⟨_, rfl, _⟩ := h; rfl) | (obtain ⟨_, _, rfl, _⟩ := h; rfl) | (obtain ⟨_, _, _, rfl, _⟩ := h; rfl) | (obtain ⟨_, _, _, _, rfl, _⟩ := h; rfl) | (obtain ⟨_, _, _, _, _, rfl, _⟩ := h; rfl) | (obtain ⟨_, _, _, _, _, _, rfl, _⟩ := h; rfl) | (obtain ⟨_, _, _, _, _, _, _, rfl, _⟩ := h; rfl) | (obtain ⟨_, _, _, _, _, _, _, _, rfl, _⟩ := h; rfl) | (obtain ⟨_, _, _, _, _, _, _, _, _, rfl, _⟩ := h; rfl) | (obtain ⟨_, _, _, _, _, _, _, _, _, _, rfl, _⟩ := h; rfl) | (obtain ⟨_, _, _, _, _, _, _, _, _, _, _, rfl, _⟩ := h; rfl) | (obtain ⟨_, _, _, _, _, _, _, _, _, _, _, _, rfl, _⟩ := h; rfl) | (obtain ⟨_, _, _, _, _, _, _, _, _, _, _, _, _, rfl, _⟩ := h; rfl) | (obtain ⟨_, _, _, _, _, _, _, _, _, _, _, _, _, _, rfl, _⟩ := h; rfl) | (obtain ⟨_, _, _, _, _, _, _, _, _, _, _, _, _, _, _, rfl, _⟩ := h; rfl) | (obtain ⟨_, _, _, _, _, _, _, _, _, _, _, _, _, _, _, _, rfl, _⟩ := h; rfl) | (obtain ⟨_, _, _, _, _, _, _, _, _, _, _, _, _, _, _, _, _, rfl, _⟩ := h; rfl) | (obtain ⟨_, _, _, _, _, _, _, _, _, _, _, _, _, _, _, _, _, _, rfl, _⟩ := h; rfl) | (obtain ⟨_, _, _, _, _, _, _, _, _, _, _, _, _, _, _, _, _, _, _, rfl, _⟩ := h; rfl)
  · refine ⟨(tOst K "asking" (tVar 0) (tVar 1)),
    (pss_one (ps_ost (pv 0) (pv 1))), ?_⟩
    obtain ⟨a, x, rfl, T1, T2, ea, q⟩ := h
    refine r_ost ?_
    walk_at "go"
    exact ⟨a, B.Broken, rfl, T1, T2, .inl ⟨ea, fun d hd hne => q d hd hne⟩⟩
end

end TW

set_option Elab.async false
set_option linter.all false
set_option maxRecDepth 100000
set_option maxHeartbeats 4000000
namespace TW
open PySem PySem.Spec PyProof.Rows L2
local macro_rules | `(tactic| walk_at "st0") => `(tactic| with_reducible (first | refine r_seq ?_ | refine r_next ?_ | refine r_ret ?_ | refine r_retN ?_ | refine r_drop ?_ | refine r_asg ?_ | refine r_if ?_ | refine r_gName ?_ | refine r_par ?_ | refine r_c ?_ | refine r_cons ?_ | refine r_nil ?_ | refine r_op ?_ | refine r_CB ?_ | refine r_andV ?_ | refine r_orV ?_ | refine r_notV ?_ | refine r_tIf ?_ | refine r_B ?_ | refine r_Test ?_ | refine r_and ?_ | refine r_or ?_ | refine r_not ?_ | refine r_yes ?_ | refine r_bl ?_ | refine r_T ?_ | refine r_F ?_ | refine r_nT ?_ | refine r_nF ?_ | refine r_I0 ?_ | refine r_eqI ?_ | refine r_neI ?_ | refine r_eqB ?_ | refine r_neB ?_ | refine r_isN0 ?_ | refine r_isN1 ?_ | refine r_isN2 ?_ | refine r_notN0 ?_ | refine r_notN1 ?_ | refine r_notN2 ?_ | refine r_isNo ?_ | refine r_notNo ?_ | refine r_fld ?_ | refine r_sfld ?_ | refine r_tup ?_ | refine r_lst ?_ | refine r_call ?_ | refine r_make ?_ | refine r_sl ?_ | refine r_part ?_ | refine r_noPart ?_ | refine r_iList ?_ | refine r_iTup ?_ | refine r_iRng1 ?_ | refine r_iEnum ?_ | refine r_int1 ?_ | refine r_intB ?_ | refine r_abs ?_ | refine r_bm ?_ | refine r_lc ?_ | refine r_for ?_))
local macro_rules | `(tactic| walk_at "st") => `(tactic| first | walk_at "st0" | ((with_reducible refine' r_var ?e ?_); (case e => exact rfl)) | ((with_reducible refine' r_fldG ?e1 ?e2 ?e3 ?e4 ?_); (case e1 => assumption); (case e2 => assumption); (case e3 => assumption); (case e4 => exact rfl)) | ((with_reducible refine' r_isC ?e ?_); (case e => assumption)) | dsimp only)
local macro_rules | `(tactic| walk_at "go") => `(tactic| repeat (walk_at "st"))
section
variable {P : Program} {w : World} {K : PySem.W.Frag} {mg : Str → Option Value} {base : Heap} {B : Adr}
/-- the values that a standing and its evening share -/
structure Sv where
  story : V
  asked : V
  tolds : V
  heard : V
  unheard : V
  log : V
  stands : V
  opn : V
  sure : V
  settled : Bool
  given : Nat
abbrev fsStd (s : Sv) : List (Str × V) := [("story", s.story), ("given", .int (s.given : Int)), ("asked", s.asked), ("tolds", s.tolds), ("heard", s.heard), ("unheard", s.unheard), ("log", s.log), ("stands", s.stands), ("open_things", s.opn), ("is_settled", .bl s.settled), ("sure", s.sure)]
/-- what they are -/
structure SvAt (H : Hp) (c : Cs) (ns : List Nat) (ts : List (Option Nat)) (k : Nat) (s : Sv) : Prop where
  story : ∃ p xs, s.story = .ref p ∧ H p = some (.tup xs) ∧ xs.length ≤ k
  asked : Rp H s.asked (.tuple (askD ns))
  tolds : Rp H s.tolds (.tuple (ts.map dO))
  unheard : Rp H s.unheard (dT (unh ts))
  log : Rp H s.log (.tuple [dT ns, .tuple (ts.map dO)])
  stands : Rp H s.stands (dS (standsOf c (ns.zip ts)))
  opn : Rp H s.opn (dT (opens (standsOf c (ns.zip ts))))
  sure : Rp H s.sure (sureD c (opens (standsOf c (ns.zip ts))))
  given : s.given = ns.length
theorem SvAt.up {H H' : Hp} {c : Cs} {ns : List Nat} {ts : List (Option Nat)} {k : Nat} {s : Sv} (h : SvAt H c ns ts k s) (e : Same H H') : SvAt H' c ns ts k s := by
  obtain ⟨⟨p, xs, h1, h2, h3⟩, a, b, d, f, g, i, j, l⟩ := h
  exact ⟨⟨p, xs, h1, e _ _ h2, h3⟩, a.up e, b.up e, d.up e, f.up e, g.up e, i.up e, j.up e, l⟩
theorem opens_lt {S : List (List Nat)} {o : Nat} (h : o ∈ opens S) : o < S.length := List.mem_range.mp (List.mem_filter.mp h).1
theorem opens_nd (S : List (List Nat)) : (opens S).Nodup := by
  have h := (range_sorted S.length).filter fun i => !decide (S.getD i [] = [])
  exact h.imp fun h => Nat.ne_of_lt h
theorem opens_len (S : List (List Nat)) : (opens S).length ≤ S.length := filt_len
theorem A2.any {is : List Nat} {ys : List V} {R : Nat → V → Prop} (h : A2 R is ys) : ys.length = is.length := h.len
theorem pairD_len (ts : List (Option Nat)) : (pairD ts).length = ts.length := by
  unfold pairD
  rw [List.length_map, List.length_range]
theorem pair_get {H : Hp} {xs : List V} {ts : List (Option Nat)} {i : Nat} {x : V} (h : RpA H xs (pairD ts)) (e : xs[i]? = some x) : ∃ p, x = .ref p ∧ H p = some (.tup [.int (i : Int), oN (ts.getD i none)]) ∧ i < ts.length := by
  obtain ⟨d, hd, rd⟩ := h.get' e
  unfold pairD at hd
  obtain ⟨j, hj, rfl⟩ := map_get hd
  obtain ⟨hl, ej⟩ := List.getElem?_eq_some_iff.mp hj
  rw [List.getElem_range] at ej
  subst ej
  obtain ⟨p, a, b, rfl, h1, h2, h3⟩ := pair_inv rd
  rw [h2.int_inv, h3.o_inv] at h1
  exact ⟨p, rfl, h1, by rwa [List.length_range] at hl⟩
theorem noL_pair (i : Int) (o : Option Nat) : noL (.tuple [.int i, dO o]) = true := by
  cases o <;> rfl
/-- where the new standing is -/
structure StdAt (B : Adr) (H : Hp) (x : Addr) (c : Cs) (ns : List Nat) (ts : List (Option Nat)) (k : Nat) (s : Sv) : Prop where
  ex : ∃ dx, H x = some (.ins B.Standing dx (fsStd s))
  sv : SvAt H c ns ts k s
def spIStanding (B : Adr) : Sp := fun vs H Q _ => ∃ (G : Hp) (x dx ca p ap tp k : Nat) (c : Cs) (xs : List V) (ns : List Nat) (ts : List (Option Nat)), vs = [.ref x, .ref ca, .ref p, .int (ns.length : Int), .ref ap, .ref tp] ∧ Same G H ∧ G x = none ∧ H x = some (.ins B.Standing dx []) ∧ CaseAt B G ca c ∧ c.Ok ∧
  G p = some (.tup xs) ∧ xs.length ≤ k ∧ Rp G (.ref ap) (.tuple (askD ns)) ∧ Rp G (.ref tp) (.tuple (ts.map dO)) ∧ LogOk c ns ts ∧ ∀ H' s, Same G H' → StdAt B H' x c ns ts k s → Q .non H'
theorem ok_Standing (T : Tx K mg B) : C8.Mak P w K mg base 4 "Standing" B.Standing (spIStanding B) [] := by
  have c_stands_of := ok_stands_of (P := P) (w := w) (base := base) T
  have c_open_ones := ok_open_ones (P := P) (w := w) (base := base) T
  have c_met_by := ok_met_by (P := P) (w := w) (base := base) T
  have c_sure_of := ok_sure_of (P := P) (w := w) (base := base) T
  refine mak_of T.n_Standing T.g_Standing scStandingInit (fun _ _ _ _ _ _ us hl => match us, hl with | [_, _, _, _, _, _], _ => rfl) (fun vs H Q E h => ?_) (fun f cdv AA outer s H vs Q E hr h => ?_)
  · first | (obtain ⟨_, rfl, _⟩ := h; rfl) | (obtain ⟨_, _, rfl, _⟩ := h; rfl) | (obtain ⟨_, _, _, rfl, _⟩ := h; rfl) | (obtain ⟨_, _, _, _, rfl, _⟩ := h; rfl) | (obtain ⟨_, _, _, _, _, rfl, _⟩ := h; rfl) | (obtain ⟨_, _, _, _, _, _, rfl, _⟩ := h; rfl) | (obtain ⟨_, _, _, _, _, _, _, rfl, _⟩ := h; rfl) | (obtain ⟨_, _, _, _, _, _, _, _, rfl, _⟩ := h; rfl) | (obtain ⟨_, _, _, _, _, _, _, _, _, rfl, _⟩ := h; rfl) | (obtain ⟨_, _, _, _, _, _, _, _, _, _, rfl, _⟩ := h; rfl) | (obtain ⟨_, _, _, _, _, _, _, _, _, _, _, rfl, _⟩ := h; rfl) | (obtain ⟨_, _, _, _, _, _, _, _, _, _, _, _, rfl, _⟩ := h; rfl) | (obtain ⟨_, _, _, _, _, _, _, _, _, _, _, _, _, rfl, _⟩ := h; rfl) | (obtain ⟨_, _, _, _, _, _, _, _, _, _, _, _, _, _, rfl, _⟩ := h; rfl) | (obtain ⟨_, _, _, _, _, _, _, _, _, _, _, _, _, _, _, rfl, _⟩ := h; rfl) | (obtain ⟨_, _, _, _, _, _, _, _, _, _, _, _, _, _, _, _, rfl, _⟩ := h; rfl) | (obtain ⟨_, _, _, _, _, _, _, _, _, _, _, _, _, _, _, _, _, rfl, _⟩ := h; rfl) | (obtain ⟨_, _, _, _, _, _, _, _, _, _, _, _, _, _, _, _, _, _, rfl, _⟩ := h; rfl) | (obtain ⟨_, _, _, _, _, _, _, _, _, _, _, _, _, _, _, _, _, _, _, rfl, _⟩ := h; rfl)
  · refine ⟨(tSeq (sFld K (tVar 0) (tVar 2) "story")
    (tSeq (sFld K (tVar 0) (tVar 3) "given")
    (tSeq (sFld K (tVar 0) (tVar 4) "asked")
    (tSeq (sFld K (tVar 0) (tVar 5) "tolds")
    (tSeq (tAsg (tLc (RZ.iZipA K (tCons (tVar 4) (tCons (tVar 5) tNil))) (gTup K 2 (gCons (gName 7) (gCons (gName 8) gNil))) tYes (tTup (tCons (tOp (rIxT K) (tVar 7) (tC (.int 0))) (tCons (tVar 8) tNil))) [7, 8]) (gName 6))
    (tSeq (sFld K (tVar 0) (tCB (qTupS K) (tCons (tLc (iList K (tVar 6)) (gName 7) (tTest (tOp rNotN (tOp (rIxT K) (tVar 7) (tC (.int 1))) (tC .non))) (tVar 7) [7]) tNil)) "heard")
    (tSeq (sFld K (tVar 0) (tCB (qTupS K) (tCons (tLc (iList K (tVar 6)) (gName 7) (tTest (tOp rIsN (tOp (rIxT K) (tVar 7) (tC (.int 1))) (tC .non))) (tOp (rIxT K) (tVar 7) (tC (.int 0))) [7]) tNil)) "unheard")
    (tSeq (sFld K (tVar 0) (tTup (tCons (tCB (qTupS K) (tCons (tLc (iTup K (tVar 4)) (gName 7) tYes (tOp (rIxT K) (tVar 7) (tC (.int 1))) [7]) tNil)) (tCons (tVar 5) tNil))) "log")
    (tSeq (sFld K (tVar 0) (tCall (spStandsOf B) [] C8.E0 (tCons (tVar 1) (tCons (tOp (rIxT K) (tFld K (tVar 0) "log") (tC (.int 0))) (tCons (tVar 5) tNil)))) "stands")
    (tSeq (sFld K (tVar 0) (tCall spOpenOnes [] C8.E0 (tCons (tFld K (tVar 0) "stands") tNil)) "open_things")
    (tSeq (sFld K (tVar 0) (tCall (spMetBy B) [] C8.E0 (tCons (tFld K (tVar 1) "wish") (tCons (tCB (Evl.rListS K) (tCons (tFld K (tVar 0) "open_things") tNil)) tNil))) "is_settled")
    (sFld K (tVar 0) (tIf (tTest (tOp (rEqD K) (tFld K (tVar 0) "open_things") (tTup tNil))) (tC .non) (tCall (spSureOf B) [] C8.E0 (tCons (tVar 1) (tCons (tFld K (tVar 0) "open_things") tNil)))) "sure")))))))))))),
    (pss_cons (ps_fld (pv 0) (pv 2) rfl)
    (pss_cons (ps_fld (pv 0) (pv 3) rfl)
    (pss_cons (ps_fld (pv 0) (pv 4) rfl)
    (pss_cons (ps_fld (pv 0) (pv 5) rfl)
    (pss_cons (ps_setLc (i := 6) (own := [("pair", 7), ("told", 8)]) (g := (gTup K 2 (gCons (gName 7) (gCons (gName 8) gNil)))) (tt := tYes) (te := (tTup (tCons (tOp (rIxT K) (tVar 7) (tC (.int 0))) (tCons (tVar 8) tNil)))) rfl scStandingInit.nd rfl rfl (sw_true rfl rfl rfl (by decide +kernel)) (RZ.pi_zipA (by rfl) T.f_zip (pa_cons (pv 4) (pa_cons (pv 5) pa_nil))) (blkOk_by (own := [("pair", 7), ("told", 8)]) (N := nStandingInit) (sc := defScope sStandingInit) (by decide +kernel)) (fun _ _ _ _ _ => (pg_tup (by rfl) (pgs_cons (pg_name (i := 7) scStandingInit.nd rfl (Or.inl rfl)) (pgs_cons (pg_name (i := 8) scStandingInit.nd rfl (Or.inl rfl)) pgs_nil)))) (fun _ _ _ _ _ => pts_nil) (fun _ _ _ _ _ => (pe_tup (pa_cons (pe_ix ix_tup (pv 7) pe_int (fun _ _ => rfl)) (pa_cons (pv 8) pa_nil)))))
    (pss_cons (ps_fld (pv 0) (pe_callTy call_tuple_of (by rfl) T.f_tuple (by decide +kernel) (pa_cons (pe_lc (own := [("pair", 7)]) (g := (gName 7)) (tt := (tTest (tOp rNotN (tOp (rIxT K) (tVar 7) (tC (.int 1))) (tC .non)))) (te := (tVar 7)) rfl scStandingInit.nd (pi_list (pv 6)) (blkOk_by (own := [("pair", 7)]) (N := nStandingInit) (sc := defScope sStandingInit) (by decide +kernel)) (fun _ _ _ _ _ => (pg_name (i := 7) scStandingInit.nd rfl (Or.inl rfl))) (fun _ _ _ _ _ => (pts_one (pt_cmpR op_notN1 (pe_ix ix_tup (pv 7) pe_int (fun _ _ => rfl)) pe_non (nomark _)))) (fun _ _ _ _ _ => (pv 7))) pa_nil)) rfl)
    (pss_cons (ps_fld (pv 0) (pe_callTy call_tuple_of (by rfl) T.f_tuple (by decide +kernel) (pa_cons (pe_lc (own := [("pair", 7)]) (g := (gName 7)) (tt := (tTest (tOp rIsN (tOp (rIxT K) (tVar 7) (tC (.int 1))) (tC .non)))) (te := (tOp (rIxT K) (tVar 7) (tC (.int 0)))) rfl scStandingInit.nd (pi_list (pv 6)) (blkOk_by (own := [("pair", 7)]) (N := nStandingInit) (sc := defScope sStandingInit) (by decide +kernel)) (fun _ _ _ _ _ => (pg_name (i := 7) scStandingInit.nd rfl (Or.inl rfl))) (fun _ _ _ _ _ => (pts_one (pt_cmpR op_isN1 (pe_ix ix_tup (pv 7) pe_int (fun _ _ => rfl)) pe_non (nomark _)))) (fun _ _ _ _ _ => (pe_ix ix_tup (pv 7) pe_int (fun _ _ => rfl)))) pa_nil)) rfl)
    (pss_cons (ps_fld (pv 0) (pe_tup (pa_cons (pe_callTy call_tuple_of (by rfl) T.f_tuple (by decide +kernel) (pa_cons (pe_lc (own := [("pair", 7)]) (g := (gName 7)) (tt := tYes) (te := (tOp (rIxT K) (tVar 7) (tC (.int 1)))) rfl scStandingInit.nd (pi_tup (pv 4)) (blkOk_by (own := [("pair", 7)]) (N := nStandingInit) (sc := defScope sStandingInit) (by decide +kernel)) (fun _ _ _ _ _ => (pg_name (i := 7) scStandingInit.nd rfl (Or.inl rfl))) (fun _ _ _ _ _ => pts_nil) (fun _ _ _ _ _ => (pe_ix ix_tup (pv 7) pe_int (fun _ _ => rfl)))) pa_nil)) (pa_cons (pv 5) pa_nil))) rfl)
    (pss_cons (ps_fld (pv 0) (C8.pe_c c_stands_of hr (by decide) rfl (pa_cons (pv 1) (pa_cons (pe_ix ix_tup (pe_fld (pv 0) rfl) pe_int (fun _ _ => rfl)) (pa_cons (pv 5) pa_nil)))) rfl)
    (pss_cons (ps_fld (pv 0) (C8.pe_c c_open_ones hr (by decide) rfl (pa_cons (pe_fld (pv 0) rfl) pa_nil)) rfl)
    (pss_cons (ps_fld (pv 0) (C8.pe_c c_met_by hr (by decide) rfl (pa_cons (pe_fld (pv 1) rfl) (pa_cons (pe_callTy call_list_of (by rfl) T.f_list (by decide +kernel) (pa_cons (pe_fld (pv 0) rfl) pa_nil)) pa_nil))) rfl)
    (pss_one (ps_fld (pv 0) (pe_ifExp (pt_cmpR (op_eqD hr.units) (pe_fld (pv 0) rfl) (pe_tup pa_nil) (nomark _)) pe_non (C8.pe_c c_sure_of hr (by decide) rfl (pa_cons (pv 1) (pa_cons (pe_fld (pv 0) rfl) pa_nil)))) rfl))))))))))))), ?_⟩
    have hCStanding := T.c_Standing
    have hCCase := T.c_Case
    have hAStanding_story := T.a_Standing_story
    have hAStanding_given := T.a_Standing_given
    have hAStanding_asked := T.a_Standing_asked
    have hAStanding_tolds := T.a_Standing_tolds
    have hAStanding_heard := T.a_Standing_heard
    have hAStanding_unheard := T.a_Standing_unheard
    have hAStanding_log := T.a_Standing_log
    have hAStanding_stands := T.a_Standing_stands
    have hAStanding_open_things := T.a_Standing_open_things
    have hACase_wish := T.a_Case_wish
    have hAStanding_is_settled := T.a_Standing_is_settled
    have hAStanding_sure := T.a_Standing_sure
    obtain ⟨G, x, dx, ca, p, ap, tp, k, c, xs, ns, ts, rfl, sG, hx, ex, hca, ok, hp, hxl, hap, htp, lo, q⟩ := h
    have hlen := lo.len
    have hle := lo.le
    have hth := ok.things
    obtain ⟨dc, st, ru, fp, wi, e1, hst, hru, hfp, hwi⟩ := hca.ex
    obtain ⟨_, as, hh, ea, ra⟩ := Rp.tup_inv hap
    cases hh
    obtain ⟨_, us, hh, et, rt⟩ := Rp.tup_inv htp
    cases hh
    have eus := RpA.os_inv rt
    subst eus
    have hal : as.length = ns.length := by rw [ra.len, askD_len]
    walk_at "go"
    refine r_st ex hCStanding hAStanding_story (by decide) fun H1 ex1 up1 sg1 => ?_
    walk_at "go"
    refine r_st ex1 hCStanding hAStanding_given (by show 1 < 1000; omega) fun H2 ex2 up2 sg2 => ?_
    walk_at "go"
    refine r_st ex2 hCStanding hAStanding_asked (by show 2 < 1000; omega) fun H3 ex3 up3 sg3 => ?_
    walk_at "go"
    refine r_st ex3 hCStanding hAStanding_tolds (by show 3 < 1000; omega) fun H4 ex4 up4 sg4 => ?_
    have sG4 := sg4 _ (sg3 _ (sg2 _ (sg1 _ sG hx) hx) hx) hx
    walk_at "go"
    refine r_iZipA ?_
    walk_at "go"
    refine ⟨ap, tp, as, ts.map oN, rfl, .inr ⟨SqT.of (sG4 _ _ ea), SqT.of (sG4 _ _ et), fun Dl hD => lc_2 (n := min as.length (ts.map oN).length) (EZ.walk_zipT rfl) hD (fun i v H => Rp H v (.tuple [.int (i : Int), dO (ts.getD i none)])) rd_m (rd_l fun i => noL_pair _ _) (by omega) (fun H s => ⟨SqT.of (s _ _ (sG4 _ _ ea)), SqT.of (s _ _ (sG4 _ _ et))⟩) (fun x y => rfl) (fun i y z H5 Q5 hi s5 hy hz q5 => ?_) fun H5 ys s5 hl5 aa => ?_⟩⟩
    · obtain ⟨b, rfl, eb, _⟩ := ask_get (ra.up (sG4.trans s5)) hy
      obtain ⟨t, ht, rfl⟩ := map_get hz
      walk_at "go"
      refine r_ixT (k := 0) eb rfl ?_
      walk_at "go"
      refine ⟨by simp [sizeLine_eq], fun tt htt => q5 _ _ (Same.new htt) ?_⟩
      rw [getD_of ht]
      exact .tup upd_same (.cons (.int _) (.cons (Rp.o t) .nil))
    have pr5 : Rp H5 (.ref Dl) (.list (pairD ts)) := by
      refine .lst hl5 ?_
      have hm : min as.length (ts.map oN).length = ts.length := by
        rw [List.length_map, hal, hlen, Nat.min_self]
      have aa' := aa.rp
      rw [hm] at aa'
      exact aa'
    have sG5 := sG4.trans s5
    have ex5 := s5 _ _ ex4
    clear hl5 aa ys
    obtain ⟨_, ps, hh, e5, r5⟩ := pr5.lst_inv
    cases hh
    have hpl : ps.length = ts.length := by rw [r5.len, pairD_len]
    walk_at "go"
    refine ⟨Dl, rfl, ⟨_, SqL.of e5⟩, fun De hE => lc_1f walk_list yAt hE (fun _ _ _ => True) (fun _ _ _ _ _ h => h) (fun _ _ _ _ _ _ _ h => h) (fun i => (ts.getD i none).isSome) (by omega) (fun H s => SqL.of (s _ _ e5)) (fun x => rfl) (fun i y H6 Q6 hi s6 hy q6 => ?_) (fun i y H6 Q6 hi hb s6 hy q6 => ?_) fun H6 ys s6 hl6 aa => ?_⟩
    · obtain ⟨b, rfl, eb, _⟩ := pair_get (r5.up s6) hy
      walk_at "go"
      refine r_ixT (k := 1) eb rfl ?_
      walk_at "go"
      refine r_notO ?_
      walk_at "go"
      exact q6 _ (Same.refl _)
    · walk_at "go"
      exact q6 _ _ (Same.refl _) trivial
    walk_at "go"
    refine r_tupL hl6 fun hd hhd => ?_
    have s7 := s6.trans (Same.new (o := .tup ys) hhd)
    generalize upd H6 hd (.tup ys) = H7 at s7 ⊢
    have sG7 := sG5.trans s7
    have ex7 := s7 _ _ ex5
    walk_at "go"
    refine r_st ex7 hCStanding hAStanding_heard (by show 4 < 1000; omega) fun H8 ex8 up8 sg8 => ?_
    have sG8 := sg8 _ sG7 hx
    have pr8 := up8 _ _ (pr5.up s7)
    clear hl6 aa ys
    obtain ⟨_, ps8, hh, e8, r8⟩ := pr8.lst_inv
    cases hh
    have hpl8 : ps8.length = ts.length := by rw [r8.len, pairD_len]
    walk_at "go"
    refine ⟨Dl, rfl, ⟨_, SqL.of e8⟩, fun De hE => lc_1f walk_list yAt hE (fun i v _ => v = .int (i : Int)) ri_m ri_l (fun i => (ts.getD i none).isNone) (by omega) (fun H s => SqL.of (s _ _ e8)) (fun x => rfl) (fun i y H9 Q9 hi s9 hy q9 => ?_) (fun i y H9 Q9 hi hb s9 hy q9 => ?_) fun H9 ys s9 hl9 aa => ?_⟩
    · obtain ⟨b, rfl, eb, _⟩ := pair_get (r8.up s9) hy
      walk_at "go"
      refine r_ixT (k := 1) eb rfl ?_
      walk_at "go"
      refine r_isO ?_
      walk_at "go"
      exact q9 _ (Same.refl _)
    · obtain ⟨b, rfl, eb, _⟩ := pair_get (r8.up s9) hy
      walk_at "go"
      refine r_ixT (k := 0) eb rfl ?_
      exact q9 _ _ (Same.refl _) rfl
    have eys : ys = vN (unh ts) := by
      have e := aa.eqs (f := fun i : Nat => V.int (i : Int))
      rw [hpl8] at e
      exact e
    subst eys
    walk_at "go"
    refine r_tupL hl9 fun ut hut => ?_
    have sA := s9.trans (Same.new (o := .tup (vN (unh ts))) hut)
    have rA : Rp (upd H9 ut (.tup (vN (unh ts)))) (.ref ut) (dT (unh ts)) := Rp.nats upd_same
    generalize upd H9 ut (.tup (vN (unh ts))) = HA at sA rA ⊢
    have sGA := sG8.trans sA
    have exA := sA _ _ ex8
    walk_at "go"
    refine r_st exA hCStanding hAStanding_unheard (by show 5 < 1000; omega) fun HB exB upB sgB => ?_
    have sGB := sgB _ sGA hx
    have uB := upB _ _ rA
    clear hl9 aa
    walk_at "go"
    refine ⟨ap, rfl, ⟨_, SqT.of (sGB _ _ ea)⟩, fun De hE => lc_1 walk_tup yAt hE (fun i v _ => v = .int ((ns.getD i 0 : Nat) : Int)) ri_m ri_l (by omega) (fun H s => SqT.of (s _ _ (sGB _ _ ea))) (fun x => rfl) (fun i y HC QC hi sC hy qC => ?_) fun HC ys sC hlC aa => ?_⟩
    · obtain ⟨b, rfl, eb, _⟩ := ask_get (ra.up (sGB.trans sC)) hy
      walk_at "go"
      refine r_ixT (k := 1) eb rfl ?_
      exact qC _ _ (Same.refl _) rfl
    have eys : ys = vN ns := by
      have e := aa.eqs (f := fun i : Nat => V.int ((ns.getD i 0 : Nat) : Int))
      rw [e]
      exact map_range_get (f := fun n : Nat => V.int (n : Int)) 0 hal.symm
    subst eys
    walk_at "go"
    refine r_tupL hlC fun nt hnt => ?_
    walk_at "go"
    refine ⟨by simp [sizeLine_eq], fun lg hlg => ?_⟩
    have sD := (sC.trans (Same.new (o := .tup (vN ns)) hnt)).trans (Same.new (o := .tup [.ref nt, .ref tp]) hlg)
    have rD : Rp (upd (upd HC nt (.tup (vN ns))) lg (.tup [.ref nt, .ref tp])) (.ref lg) (.tuple [dT ns, .tuple (ts.map dO)]) :=
      .tup upd_same (.cons ((Rp.nats (p := nt) (upd_same (H := HC))).up (Same.new hlg)) (.cons (htp.up (sGB.trans sD)) .nil))
    generalize upd (upd HC nt (.tup (vN ns))) lg (.tup [.ref nt, .ref tp]) = HD at sD rD ⊢
    have sGD := sGB.trans sD
    have exD := sD _ _ exB
    have uD := uB.up sD
    walk_at "go"
    refine r_st exD hCStanding hAStanding_log (by show 6 < 1000; omega) fun HE exE upE sgE => ?_
    have sGE := sgE _ sGD hx
    have uE := upE _ _ uD
    have rE := upE _ _ rD
    obtain ⟨_, l0, l1, hh, el, rl0, rl1⟩ := pair_inv rE
    cases hh
    obtain ⟨nt', rfl, ent⟩ := Rp.nats_inv rl0
    clear hlC aa
    walk_at "go"
    refine r_ixT (k := 0) el rfl ?_
    walk_at "go"
    refine ⟨ca, nt', tp, c, ns, ts, rfl, hca.up sGE, ok, .inr ⟨ent, sGE _ _ et⟩, lo, fun sd HF sF rF => ?_⟩
    have exF := sF _ _ exE
    have sGF := sGE.trans sF
    walk_at "go"
    refine r_st exF hCStanding hAStanding_stands (by show 7 < 1000; omega) fun HG exG upG sgG => ?_
    have sGG := sgG _ sGF hx
    have rG := upG _ _ rF
    have uG := upG _ _ (uE.up sF)
    have lG := upG _ _ (rE.up sF)
    have fok := standsOf_ok ok (ns.zip ts)
    generalize hFF : standsOf c (ns.zip ts) = FF at rG fok q
    have fl := fok.len
    walk_at "go"
    refine ⟨sd, FF, rfl, rG, by omega, fun op HH sH eop => ?_⟩
    have exH := sH _ _ exG
    walk_at "go"
    refine r_st exH hCStanding hAStanding_open_things (by show 8 < 1000; omega) fun HI exI upI sgI => ?_
    have sGI := sgI _ (sGG.trans sH) hx
    have oI := upI _ _ (Rp.nats eop)
    have rI := upI _ _ (rG.up sH)
    have uI := upI _ _ (uG.up sH)
    have lI := upI _ _ (lG.up sH)
    obtain ⟨_, hh, eoI⟩ := Rp.nats_inv oI
    cases hh
    have eI1 := sGI _ _ e1
    walk_at "go"
    refine r_listT eoI fun ol hol => ?_
    have sJ := Same.new (o := .lst (vN (opens FF))) hol
    walk_at "go"
    have hol2 := opens_len FF
    refine ⟨wi, ol, c.wish, opens FF, rfl, hwi.up (sGI.trans sJ), upd_same, opens_nd FF, by omega, fit_of ok fun o ho => by rw [← fl]; exact opens_lt ho, fun HK sK => ?_⟩
    have sIK := sJ.trans sK
    have exK := sIK _ _ exI
    walk_at "go"
    refine r_st exK hCStanding hAStanding_is_settled (by show 9 < 1000; omega) fun HL exL upL sgL => ?_
    have sGL := sgL _ (sGI.trans sIK) hx
    have oL := upL _ _ (oI.up sIK)
    have rL := upL _ _ (rI.up sIK)
    have uL := upL _ _ (uI.up sIK)
    have lL := upL _ _ (lI.up sIK)
    clear sK sJ sIK
    walk_at "go"
    refine ⟨by simp [sizeLine_eq], fun em hem => ?_⟩
    have sM := Same.new (o := .tup []) hem
    refine r_eqD (d := dT (opens FF)) (e := dT []) (oL.up sM) (.tup upd_same .nil) ((shp_dN _).sh (by decide)) ((shp_dN []).sh (by decide)) ?_
    rw [eqv_dN]
    walk_at "go"
    have fin : ∀ (v : V) (HN : Hp), Same (upd HL em (.tup [])) HN → Rp HN v (sureD c (opens FF)) → StG K "sure" v (.ref x) HN (fun H' => Q .non H') := by
      intro v HN sN rv
      have sLN := sM.trans sN
      refine r_st (sLN _ _ exL) hCStanding hAStanding_sure (by show 10 < 1000; omega) fun HO exO upO sgO => ?_
      have sGO := sgO _ (sGL.trans sLN) hx
      refine q HO ⟨.ref p, .ref ap, .ref tp, .ref hd, .ref ut, .ref lg, .ref sd, .ref op, v, _, ns.length⟩ sGO ⟨⟨dx, exO⟩, ⟨⟨p, xs, rfl, sGO _ _ hp, hxl⟩, hap.up sGO, htp.up sGO, upO _ _ (uL.up sLN), upO _ _ (lL.up sLN), ?_, ?_, ?_, rfl⟩⟩
      · rw [hFF]
        exact upO _ _ (rL.up sLN)
      · rw [hFF]
        exact upO _ _ (oL.up sLN)
      · rw [hFF]
        exact upO _ _ rv
    by_cases he : opens FF = []
    · refine r_dT he ?_
      walk_at "go"
      refine fin _ _ (Same.refl _) ?_
      unfold sureD
      rw [if_pos he]
      exact .non
    · refine r_dF he ?_
      have exM := sM _ _ exL
      walk_at "go"
      obtain ⟨_, hh, eoM⟩ := Rp.nats_inv (oL.up sM)
      cases hh
      refine ⟨ca, op, c, opens FF, rfl, hca.up (sGL.trans sM), ok, eoM, he, opens_nd FF, fun o ho => by rw [← fl]; exact opens_lt ho, by omega, fun v HN sN rv => ?_⟩
      walk_at "go"
      exact fin v HN sN rv
end

end TW

set_option Elab.async false
set_option linter.all false
set_option maxRecDepth 100000
set_option maxHeartbeats 4000000
namespace TW
open PySem PySem.Spec PyProof.Rows L2
local macro_rules | `(tactic| walk_at "st0") => `(tactic| with_reducible (first | refine r_seq ?_ | refine r_next ?_ | refine r_ret ?_ | refine r_retN ?_ | refine r_drop ?_ | refine r_asg ?_ | refine r_if ?_ | refine r_gName ?_ | refine r_par ?_ | refine r_c ?_ | refine r_cons ?_ | refine r_nil ?_ | refine r_op ?_ | refine r_CB ?_ | refine r_andV ?_ | refine r_orV ?_ | refine r_notV ?_ | refine r_tIf ?_ | refine r_B ?_ | refine r_Test ?_ | refine r_and ?_ | refine r_or ?_ | refine r_not ?_ | refine r_yes ?_ | refine r_bl ?_ | refine r_T ?_ | refine r_F ?_ | refine r_nT ?_ | refine r_nF ?_ | refine r_I0 ?_ | refine r_eqI ?_ | refine r_neI ?_ | refine r_eqB ?_ | refine r_neB ?_ | refine r_isN0 ?_ | refine r_isN1 ?_ | refine r_isN2 ?_ | refine r_notN0 ?_ | refine r_notN1 ?_ | refine r_notN2 ?_ | refine r_isNo ?_ | refine r_notNo ?_ | refine r_fld ?_ | refine r_sfld ?_ | refine r_tup ?_ | refine r_lst ?_ | refine r_call ?_ | refine r_make ?_ | refine r_sl ?_ | refine r_part ?_ | refine r_noPart ?_ | refine r_iList ?_ | refine r_iTup ?_ | refine r_iRng1 ?_ | refine r_iEnum ?_ | refine r_int1 ?_ | refine r_intB ?_ | refine r_abs ?_ | refine r_bm ?_ | refine r_lc ?_ | refine r_for ?_))
local macro_rules | `(tactic| walk_at "st") => `(tactic| first | walk_at "st0" | ((with_reducible refine' r_var ?e ?_); (case e => exact rfl)) | ((with_reducible refine' r_fldG ?e1 ?e2 ?e3 ?e4 ?_); (case e1 => assumption); (case e2 => assumption); (case e3 => assumption); (case e4 => exact rfl)) | ((with_reducible refine' r_isC ?e ?_); (case e => assumption)) | dsimp only)
local macro_rules | `(tactic| walk_at "go") => `(tactic| repeat (walk_at "st"))
section
variable {P : Program} {w : World} {K : PySem.W.Frag} {mg : Str → Option Value} {base : Heap} {B : Adr}
theorem r_slA {a : Addr} {xs : List V} {lo hi : Option Int} {H : Hp} {Q : VK} (e : H a = some (.tup xs)) (h : ∀ p H', Same H H' → H' p = some (.tup (cutV xs lo hi)) → Q (.ref p) H') : rSlA K (.ref a) lo hi H Q := by
  refine ⟨a, xs, rfl, SqT.of e, fun ⟨h1, h2⟩ => ?_, fun _ p hp => h p _ (Same.new hp) upd_same⟩
  have ec : cutV xs lo hi = xs := by
    unfold cutV
    rw [h1, h2, List.drop_zero, Nat.sub_zero, List.take_length]
  exact h a H (Same.refl _) (by rw [ec]; exact e)
abbrev fsEv (ca pa : Addr) (un : V) (nw : Addr) (s : Sv) : List (Str × V) := [("case", .ref ca), ("past", .ref pa), ("undone", un), ("now", .ref nw), ("story", s.story), ("asked", s.asked), ("heard", s.heard), ("unheard", s.unheard), ("log", s.log), ("stands", s.stands), ("open_things", s.opn), ("is_settled", .bl s.settled), ("sure", s.sure)]
/-- all but e and pa -/
def cut (H : Hp) (e pa : Addr) : Hp := fun b => if b = e ∨ b = pa then none else H b
theorem cut_le {H : Hp} {e pa : Addr} : Same (cut H e pa) H := fun b o h => by
  unfold cut at h
  split at h
  · cases h
  · exact h
theorem cut_e {H : Hp} {e pa : Addr} : cut H e pa e = none := if_pos (.inl rfl)
theorem cut_p {H : Hp} {e pa : Addr} : cut H e pa pa = none := if_pos (.inr rfl)
theorem cut_ne {H : Hp} {e pa b : Addr} (h1 : b ≠ e) (h2 : b ≠ pa) : cut H e pa b = H b := if_neg fun z => z.elim h1 h2
theorem cut_of {G H : Hp} {e pa : Addr} (s : Same G H) (h1 : G e = none) (h2 : G pa = none) : Same G (cut H e pa) := fun b o h => by
  rw [cut_ne (ne_of_none h h1) (ne_of_none h h2)]
  exact s _ _ h
theorem cut_up {H H' : Hp} {e pa : Addr} (s : Same H H') : Same (cut H e pa) (cut H' e pa) := cut_of (cut_le.trans s) cut_e cut_p
theorem rp_cut {H : Hp} {e pa C dx : Addr} {fs : List (Str × V)} {pv : List V} (h1 : H e = some (.ins C dx fs)) (h2 : H pa = some (.lst pv)) (d : PyData) (v : V) (nl : noL d = true) (h : Rp H v d) : Rp (cut H e pa) v d := by
  have key : ∀ H2 : Hp, (∀ (a : Addr) (xs : List V), H a = some (.tup xs) → H2 a = some (.tup xs)) → ∀ (d : PyData) (v : V), Rp H v d → noL d = true → Rp H2 v d := by
    intro H2 k d v h
    exact Rp.rec (motive_1 := fun v d _ => noL d = true → Rp H2 v d) (motive_2 := fun vs ds _ => noLs ds = true → RpA H2 vs ds) (fun _ => .non) (fun b _ => .bl b) (fun i _ => .int i) (fun x _ => .str x)
      (fun _ _ _ n => by rw [noL] at n; cases n) (fun h1 _ ih n => .tup (k _ _ h1) (ih (by rw [noL] at n; exact n))) (fun _ => .nil) (fun _ _ i1 i2 n => by
        rw [noLs] at n
        obtain ⟨n1, n2⟩ := Bool.and_eq_true_iff.mp n
        exact .cons (i1 n1) (i2 n2)) h
  exact key _ (fun a xs h => by rw [cut_ne (ne_of h h1 (by intro z; cases z)) (ne_of h h2 (by intro z; cases z))]; exact h) d v h nl
theorem noLs_map {α : Type} {f : α → PyData} (h : ∀ a, noL (f a) = true) : ∀ l : List α, noLs (l.map f) = true
  | [] => rfl
  | a :: l => by rw [List.map_cons, noLs, h a, noLs_map h l]; rfl
theorem noL_o (o : Option Nat) : noL (dO o) = true := by cases o <;> rfl
theorem noL_ask (ns : List Nat) : noL (.tuple (askD ns)) = true := by
  rw [noL]
  exact noLs_map (fun i => rfl) _
theorem noL_told (ts : List (Option Nat)) : noL (.tuple (ts.map dO)) = true := by
  rw [noL]
  exact noLs_map noL_o _
theorem noL_dS (S : List (List Nat)) : noL (dS S) = true := by
  unfold dS
  rw [noL]
  exact noLs_map noL_dT _
theorem noL_log (ns : List Nat) (ts : List (Option Nat)) : noL (.tuple [dT ns, .tuple (ts.map dO)]) = true := by
  rw [noL, noLs, noL_dT, noLs, noL_told]
  rfl
theorem noL_sure (c : Cs) (os : List Nat) : noL (sureD c os) = true := by
  unfold sureD
  split
  · rfl
  · split
    · split
      · exact noL_dT _
      · rfl
    · rfl
theorem StdAt.up {H H' : Hp} {x : Addr} {c : Cs} {ns : List Nat} {ts : List (Option Nat)} {k : Nat} {s : Sv} (h : StdAt B H x c ns ts k s) (e : Same H H') : StdAt B H' x c ns ts k s := by
  obtain ⟨⟨dx, h1⟩, h2⟩ := h
  exact ⟨⟨dx, e _ _ h1⟩, h2.up e⟩
theorem StdAt.cut {H : Hp} {x e pa C dx : Addr} {fs : List (Str × V)} {pv : List V} {c : Cs} {ns : List Nat} {ts : List (Option Nat)} {k : Nat} {s : Sv} (h : StdAt B H x c ns ts k s) (hx : x ≠ e) (h1 : H e = some (.ins C dx fs)) (h2 : H pa = some (.lst pv)) : StdAt B (TW.cut H e pa) x c ns ts k s := by
  obtain ⟨⟨d, e1⟩, ⟨p, xs, f1, f2, f3⟩, a, b, g, i, j, l, m, o⟩ := h
  have hp : x ≠ pa := ne_of e1 h2 (by intro z; cases z)
  refine ⟨⟨d, by rw [cut_ne hx hp]; exact e1⟩, ⟨p, xs, f1, ?_, f3⟩, rp_cut h1 h2 _ _ (noL_ask ns) a, rp_cut h1 h2 _ _ (noL_told ts) b, rp_cut h1 h2 _ _ (noL_dT _) g, rp_cut h1 h2 _ _ (noL_log _ _) i, rp_cut h1 h2 _ _ (noL_dS _) j, rp_cut h1 h2 _ _ (noL_dT _) l, rp_cut h1 h2 _ _ (noL_sure _ _) m, o⟩
  rw [cut_ne (ne_of f2 h1 (by intro z; cases z)) (ne_of f2 h2 (by intro z; cases z))]
  exact f2
/-- an evening -/
structure EvAt (B : Adr) (H : Hp) (e pa : Addr) (c : Cs) (ns : List Nat) (ts : List (Option Nat)) (k : Nat) (s : Sv) : Prop where
  ex : ∃ dx ca un nw pv, H e = some (.ins B.Evening dx (fsEv ca pa un nw s)) ∧ H pa = some (.lst pv) ∧ pv.length ≤ k ∧ CaseAt B (cut H e pa) ca c ∧ StdAt B (cut H e pa) nw c ns ts k s
theorem EvAt.up {H H' : Hp} {e pa : Addr} {c : Cs} {ns : List Nat} {ts : List (Option Nat)} {k : Nat} {s : Sv} (h : EvAt B H e pa c ns ts k s) (sm : Same H H') : EvAt B H' e pa c ns ts k s := by
  obtain ⟨dx, ca, un, nw, pv, h1, h2, h3, h4, h5⟩ := h.ex
  exact ⟨dx, ca, un, nw, pv, sm _ _ h1, sm _ _ h2, h3, h4.up (cut_up sm), h5.up (cut_up sm)⟩
def spEveningStand (B : Adr) : Sp := fun vs H Q _ => ∃ (e dx nw dn : Nat) (fs : List (Str × V)) (s : Sv), vs = [.ref e, .ref nw] ∧ H e = some (.ins B.Evening dx fs) ∧ H nw = some (.ins B.Standing dn (fsStd s)) ∧ nw ≠ e ∧ fs.length ≤ 900 ∧
  Q .non (upd H e (.ins B.Evening dx (putF "sure" s.sure (putF "is_settled" (.bl s.settled) (putF "open_things" s.opn (putF "stands" s.stands (putF "log" s.log (putF "unheard" s.unheard (putF "heard" s.heard (putF "asked" s.asked (putF "story" s.story (putF "now" (.ref nw) fs))))))))))))
theorem putF_len (f : Str) (v : V) : ∀ fs : List (Str × V), (putF f v fs).length ≤ fs.length + 1
  | [] => Nat.le_refl _
  | (g, x) :: r => by
    rw [putF]
    split
    · exact Nat.le_succ _
    · exact Nat.succ_le_succ (putF_len f v r)
theorem ok_Evening_stand (T : Tx K mg B) : C8.Met P w K mg base 1 B.Evening "stand" (spEveningStand B) [] := by
  refine met_of T.m_Evening_stand T.c_Evening scEveningStand (fun _ _ _ _ _ _ us hl => match us, hl with | [_, _], _ => rfl) (fun vs H Q E h => ?_) (fun f cdv AA outer s H vs Q E hr h => ?_)
  · first | (obtain ⟨_, rfl, _⟩ := h; rfl) | (obtain ⟨_, _, rfl, _⟩ := h; rfl) | (obtain ⟨_, _, _, rfl, _⟩ := h; rfl) | (obtain ⟨_, _, _, _, rfl, _⟩ := h; rfl) | (obtain ⟨_, _, _, _, _, rfl, _⟩ := h; rfl) | (obtain ⟨_, _, _, _, _, _, rfl, _⟩ := h; rfl) | (obtain ⟨_, _, _, _, _, _, _, rfl, _⟩ := h; rfl) | (obtain ⟨_, _, _, _, _, _, _, _, rfl, _⟩ := h; rfl) | (obtain ⟨_, _, _, _, _, _, _, _, _, rfl, _⟩ := h; rfl) | (obtain ⟨_, _, _, _, _, _, _, _, _, _, rfl, _⟩ := h; rfl) | (obtain ⟨_, _, _, _, _, _, _, _, _, _, _, rfl, _⟩ := h; rfl) | (obtain ⟨_, _, _, _, _, _, _, _, _, _, _, _, rfl, _⟩ := h; rfl) | (obtain ⟨_, _, _, _, _, _, _, _, _, _, _, _, _, rfl, _⟩ := h; rfl) | (obtain ⟨_, _, _, _, _, _, _, _, _, _, _, _, _, _, rfl, _⟩ := h; rfl) | (obtain ⟨_, _, _, _, _, _, _, _, _, _, _, _, _, _, _, rfl, _⟩ := h; rfl) | (obtain ⟨_, _, _, _, _, _, _, _, _, _, _, _, _, _, _, _, rfl, _⟩ := h; rfl) | (obtain ⟨_, _, _, _, _, _, _, _, _, _, _, _, _, _, _, _, _, rfl, _⟩ := h; rfl) | (obtain ⟨_, _, _, _, _, _, _, _, _, _, _, _, _, _, _, _, _, _, rfl, _⟩ := h; rfl) | (obtain ⟨_, _, _, _, _, _, _, _, _, _, _, _, _, _, _, _, _, _, _, rfl, _⟩ := h; rfl)
  · refine ⟨(tSeq (sFld K (tVar 0) (tVar 1) "now")
    (tSeq (sFld K (tVar 0) (tFld K (tVar 1) "story") "story")
    (tSeq (sFld K (tVar 0) (tFld K (tVar 1) "asked") "asked")
    (tSeq (sFld K (tVar 0) (tFld K (tVar 1) "heard") "heard")
    (tSeq (sFld K (tVar 0) (tFld K (tVar 1) "unheard") "unheard")
    (tSeq (sFld K (tVar 0) (tFld K (tVar 1) "log") "log")
    (tSeq (sFld K (tVar 0) (tFld K (tVar 1) "stands") "stands")
    (tSeq (sFld K (tVar 0) (tFld K (tVar 1) "open_things") "open_things")
    (tSeq (sFld K (tVar 0) (tFld K (tVar 1) "is_settled") "is_settled")
    (sFld K (tVar 0) (tFld K (tVar 1) "sure") "sure")))))))))),
    (pss_cons (ps_fld (pv 0) (pv 1) rfl)
    (pss_cons (ps_fld (pv 0) (pe_fld (pv 1) rfl) rfl)
    (pss_cons (ps_fld (pv 0) (pe_fld (pv 1) rfl) rfl)
    (pss_cons (ps_fld (pv 0) (pe_fld (pv 1) rfl) rfl)
    (pss_cons (ps_fld (pv 0) (pe_fld (pv 1) rfl) rfl)
    (pss_cons (ps_fld (pv 0) (pe_fld (pv 1) rfl) rfl)
    (pss_cons (ps_fld (pv 0) (pe_fld (pv 1) rfl) rfl)
    (pss_cons (ps_fld (pv 0) (pe_fld (pv 1) rfl) rfl)
    (pss_cons (ps_fld (pv 0) (pe_fld (pv 1) rfl) rfl)
    (pss_one (ps_fld (pv 0) (pe_fld (pv 1) rfl) rfl))))))))))), ?_⟩
    have hCEvening := T.c_Evening
    have hCStanding := T.c_Standing
    have hAEvening_now := T.a_Evening_now
    have hAStanding_story := T.a_Standing_story
    have hAEvening_story := T.a_Evening_story
    have hAStanding_asked := T.a_Standing_asked
    have hAEvening_asked := T.a_Evening_asked
    have hAStanding_heard := T.a_Standing_heard
    have hAEvening_heard := T.a_Evening_heard
    have hAStanding_unheard := T.a_Standing_unheard
    have hAEvening_unheard := T.a_Evening_unheard
    have hAStanding_log := T.a_Standing_log
    have hAEvening_log := T.a_Evening_log
    have hAStanding_stands := T.a_Standing_stands
    have hAEvening_stands := T.a_Evening_stands
    have hAStanding_open_things := T.a_Standing_open_things
    have hAEvening_open_things := T.a_Evening_open_things
    have hAStanding_is_settled := T.a_Standing_is_settled
    have hAEvening_is_settled := T.a_Evening_is_settled
    have hAStanding_sure := T.a_Standing_sure
    have hAEvening_sure := T.a_Evening_sure
    obtain ⟨e, dx, nw, dn, fs, s, rfl, h1, h2, hne, hl, q⟩ := h
    walk_at "go"
    have l1 := putF_len "now" (.ref nw) fs
    have l2 := putF_len "story" s.story (putF "now" (.ref nw) fs)
    have l3 := putF_len "asked" s.asked (putF "story" s.story (putF "now" (.ref nw) fs))
    have l4 := putF_len "heard" s.heard (putF "asked" s.asked (putF "story" s.story (putF "now" (.ref nw) fs)))
    have l5 := putF_len "unheard" s.unheard (putF "heard" s.heard (putF "asked" s.asked (putF "story" s.story (putF "now" (.ref nw) fs))))
    have l6 := putF_len "log" s.log (putF "unheard" s.unheard (putF "heard" s.heard (putF "asked" s.asked (putF "story" s.story (putF "now" (.ref nw) fs)))))
    have l7 := putF_len "stands" s.stands (putF "log" s.log (putF "unheard" s.unheard (putF "heard" s.heard (putF "asked" s.asked (putF "story" s.story (putF "now" (.ref nw) fs))))))
    have l8 := putF_len "open_things" s.opn (putF "stands" s.stands (putF "log" s.log (putF "unheard" s.unheard (putF "heard" s.heard (putF "asked" s.asked (putF "story" s.story (putF "now" (.ref nw) fs)))))))
    have l9 := putF_len "is_settled" (.bl s.settled) (putF "open_things" s.opn (putF "stands" s.stands (putF "log" s.log (putF "unheard" s.unheard (putF "heard" s.heard (putF "asked" s.asked (putF "story" s.story (putF "now" (.ref nw) fs))))))))
    have h2' : ∀ o, upd H e o nw = some (.ins B.Standing dn (fsStd s)) := fun o => by
      rw [upd_ne hne]
      exact h2
    refine r_stG h1 hCEvening hAEvening_now (by omega) ?_
    walk_at "go"
    refine r_fldG (h2' _) hCStanding hAStanding_story rfl ?_
    walk_at "go"
    refine r_stG upd_same hCEvening hAEvening_story (by omega) ?_
    rw [upd_upd]
    walk_at "go"
    refine r_fldG (h2' _) hCStanding hAStanding_asked rfl ?_
    walk_at "go"
    refine r_stG upd_same hCEvening hAEvening_asked (by omega) ?_
    rw [upd_upd]
    walk_at "go"
    refine r_fldG (h2' _) hCStanding hAStanding_heard rfl ?_
    walk_at "go"
    refine r_stG upd_same hCEvening hAEvening_heard (by omega) ?_
    rw [upd_upd]
    walk_at "go"
    refine r_fldG (h2' _) hCStanding hAStanding_unheard rfl ?_
    walk_at "go"
    refine r_stG upd_same hCEvening hAEvening_unheard (by omega) ?_
    rw [upd_upd]
    walk_at "go"
    refine r_fldG (h2' _) hCStanding hAStanding_log rfl ?_
    walk_at "go"
    refine r_stG upd_same hCEvening hAEvening_log (by omega) ?_
    rw [upd_upd]
    walk_at "go"
    refine r_fldG (h2' _) hCStanding hAStanding_stands rfl ?_
    walk_at "go"
    refine r_stG upd_same hCEvening hAEvening_stands (by omega) ?_
    rw [upd_upd]
    walk_at "go"
    refine r_fldG (h2' _) hCStanding hAStanding_open_things rfl ?_
    walk_at "go"
    refine r_stG upd_same hCEvening hAEvening_open_things (by omega) ?_
    rw [upd_upd]
    walk_at "go"
    refine r_fldG (h2' _) hCStanding hAStanding_is_settled rfl ?_
    walk_at "go"
    refine r_stG upd_same hCEvening hAEvening_is_settled (by omega) ?_
    rw [upd_upd]
    walk_at "go"
    refine r_fldG (h2' _) hCStanding hAStanding_sure rfl ?_
    walk_at "go"
    refine r_stG upd_same hCEvening hAEvening_sure (by omega) ?_
    rw [upd_upd]
    walk_at "go"
    exact q
theorem r_bmS {C : Addr} {m : Str} {sp : Sp} {E : L2.St → XK} {ta : TE} {t : TA} {σ : L2.St} {H : Hp} {Q : VK} (h : ta σ H fun x H1 => ∃ a dx fs, x = .ref a ∧ H1 a = some (.ins C dx fs) ∧ fs.lookup m = none ∧ t σ H1 fun vs H2 => sp (x :: vs) H2 Q (E σ)) : ME.tMethS C m sp E ta t σ H Q := h
theorem r_meth {C : Addr} {m : Str} {sp : Sp} {dvs : List V} {E : XK} {ta : TE} {t : TA} {σ : L2.St} {H : Hp} {Q : VK} (h : ta σ H fun x H1 => ∃ a dx fs, x = .ref a ∧ H1 a = some (.ins C dx fs) ∧ fs.lookup m = none ∧ t σ H1 fun vs H2 => sp (x :: (vs ++ dvs)) H2 Q E) : tMeth C m sp dvs E ta t σ H Q := h
theorem r_raiseB {C : Addr} {sp : Sp} {ta : TA} {W : WX} {D : Ends} {σ : L2.St} {H : Hp} (h : ta σ H fun vs H1 => vs.length ≤ 1000 ∧ ∀ a, H1 a = none → sp (.ref a :: vs) (upd H1 a (exo a C none))
  (fun v H2 => v = .non ∧ ∃ (d : Addr) (fs : List (Str × V)), H2 a = some (exo a C (some d)) ∧ H2 d = some (exd d fs) ∧ H1 d = none ∧ W (.ref C) (some d) σ (upd (del H2 a) d (.xd fs))) (fun _ _ _ => False)) : ME.tRaiseB C sp ta W D σ H := h
def spEveningEnter (B : Adr) : Sp := fun vs H Q E => ∃ (e pa dp ap tp k a : Nat) (c : Cs) (ns ns' : List Nat) (ts ts' : List (Option Nat)) (s : Sv) (dv : List V), vs = [.ref e, .ref dp, .int (ns'.length : Int), .ref ap, .ref tp] ∧ EvAt B H e pa c ns ts k s ∧ c.Ok ∧ H dp = some (.tup dv) ∧ dv[1]? = some (.int (a : Int)) ∧ k ≤ 50 ∧
  Rp H (.ref ap) (.tuple (askD ns')) ∧ Rp H (.ref tp) (.tuple (ts'.map dO)) ∧ LogOk c ns' ts' ∧ (opens (standsOf c (ns'.zip ts')) = [] → ∀ d H', Same H H' → H' d = some (.xd [("asking", .int (a : Int))]) → E (.ref B.Broken) (some d) H') ∧
  (opens (standsOf c (ns'.zip ts')) ≠ [] → ∀ H' s', Same (cut H e pa) H' → EvAt B H' e pa c ns' ts' (k + 1) s' → Q .non H')
theorem ok_Evening_enter (T : Tx K mg B) : ME.MetX P w K mg base 6 B.Evening "enter" (spEveningEnter B) := by
  have c_Standing := ok_Standing (P := P) (w := w) (base := base) T
  have c_Evening_stand := ok_Evening_stand (P := P) (w := w) (base := base) T
  have c_Broken := ok_Broken (P := P) (w := w) (base := base) T
  refine ME.metx_of T.m_Evening_enter T.c_Evening scEveningEnter (fun _ _ _ _ _ _ us hl => match us, hl with | [_, _, _, _, _], _ => rfl) (fun vs H Q E h => ?_) (fun f cdv AA outer s H vs Q E hr h => ?_)
  · first | (obtain ⟨_, rfl, _⟩ := h; rfl) | (obtain ⟨_, _, rfl, _⟩ := h; rfl) | (obtain ⟨_, _, _, rfl, _⟩ := h; rfl) | (obtain ⟨_, _, _, _, rfl, _⟩ := h; rfl) | (obtain ⟨_, _, _, _, _, rfl, _⟩ := h; rfl) | (obtain ⟨_, _, _, _, _, _, rfl, _⟩ := h; rfl) | (obtain ⟨_, _, _, _, _, _, _, rfl, _⟩ := h; rfl) | (obtain ⟨_, _, _, _, _, _, _, _, rfl, _⟩ := h; rfl) | (obtain ⟨_, _, _, _, _, _, _, _, _, rfl, _⟩ := h; rfl) | (obtain ⟨_, _, _, _, _, _, _, _, _, _, rfl, _⟩ := h; rfl) | (obtain ⟨_, _, _, _, _, _, _, _, _, _, _, rfl, _⟩ := h; rfl) | (obtain ⟨_, _, _, _, _, _, _, _, _, _, _, _, rfl, _⟩ := h; rfl) | (obtain ⟨_, _, _, _, _, _, _, _, _, _, _, _, _, rfl, _⟩ := h; rfl) | (obtain ⟨_, _, _, _, _, _, _, _, _, _, _, _, _, _, rfl, _⟩ := h; rfl) | (obtain ⟨_, _, _, _, _, _, _, _, _, _, _, _, _, _, _, rfl, _⟩ := h; rfl) | (obtain ⟨_, _, _, _, _, _, _, _, _, _, _, _, _, _, _, _, rfl, _⟩ := h; rfl) | (obtain ⟨_, _, _, _, _, _, _, _, _, _, _, _, _, _, _, _, _, rfl, _⟩ := h; rfl) | (obtain ⟨_, _, _, _, _, _, _, _, _, _, _, _, _, _, _, _, _, _, rfl, _⟩ := h; rfl) | (obtain ⟨_, _, _, _, _, _, _, _, _, _, _, _, _, _, _, _, _, _, _, rfl, _⟩ := h; rfl)
  · refine ⟨(tSeq (tAsg (tMake B.Standing (spIStanding B) [] C8.E0 (tCons (tFld K (tVar 0) "case") (tCons (tTup (StX.tStar K (tFld K (tVar 0) "story") (tCons (tVar 1) tNil))) (tCons (tVar 2) (tCons (tVar 3) (tCons (tVar 4) tNil)))))) (gName 5))
    (tSeq (tIfS (tTest (tOp (rEqD K) (tFld K (tVar 5) "open_things") (tTup tNil))) (ME.tRaiseB B.Broken (spIBroken K B) (tCons (tOp (rIxT K) (tVar 1) (tC (.int 1))) tNil) (ME.XW E)) tNext)
    (tSeq (tDrop (tBM K "list" rAppend (tFld K (tVar 0) "past") (tCons (tFld K (tVar 0) "now") tNil)))
    (tSeq (sFld K (tVar 0) (tLst tNil) "undone")
    (tDrop (tMeth B.Evening "stand" (spEveningStand B) [] C8.E0 (tVar 0) (tCons (tVar 5) tNil))))))),
    (pss_cons (ps_set (i := 5) scEveningEnter.nd rfl (Or.inl rfl) (C8.pe_mk c_Standing hr (by decide) rfl (pa_cons (pe_fld (pv 0) rfl) (pa_cons (pe_tup (StX.pa_star (pe_fld (pv 0) rfl) (pa_cons (pv 1) pa_nil))) (pa_cons (pv 2) (pa_cons (pv 3) (pa_cons (pv 4) pa_nil)))))))
    (pss_cons (ps_if (pt_cmpR (op_eqD hr.units) (pe_fld (pv 5) rfl) (pe_tup pa_nil) (nomark _)) (pss_one (ME.ps_raiseB rfl (takes_of rfl rfl rfl rfl) T.bk c_Broken hr (by decide) rfl T.g_Broken (pa_cons (pe_ix ix_tup (pv 1) pe_int (fun _ _ => rfl)) pa_nil))) pss_nil)
    (pss_cons (ps_expr (pe_bm PySem.F.plainAttrs_list PySem.F.slot_list_append PySem.F.type_list_append mt_append (pe_fld (pv 0) rfl) (pa_cons (pe_fld (pv 0) rfl) pa_nil)))
    (pss_cons (ps_fld (pv 0) (pe_lst pa_nil) rfl)
    (pss_one (ps_expr (C8.pe_mt c_Evening_stand hr (by decide) (pv 0) (pa_cons (pv 5) pa_nil)))))))), ?_⟩
    have hCEvening := T.c_Evening
    have hCStanding := T.c_Standing
    have hAEvening_story := T.a_Evening_story
    have hAEvening_case := T.a_Evening_case
    have hAStanding_open_things := T.a_Standing_open_things
    have hAEvening_past := T.a_Evening_past
    have hAEvening_now := T.a_Evening_now
    have hAEvening_undone := T.a_Evening_undone
    obtain ⟨e, pa, dp, ap, tp, k, a, c, ns, ns', ts, ts', s, dv, rfl, hev, ok, hdp, hd1, hk, hap, htp, lo, qE, qQ⟩ := h
    obtain ⟨dx, ca, un, nw, pv, h1, h2, h3, h4, h5⟩ := hev.ex
    obtain ⟨st, xs, es, est, hxl⟩ := h5.sv.story
    obtain ⟨dn, hnw⟩ := h5.ex
    have hope : e ≠ pa := ne_of h1 h2 (by intro z; cases z)
    walk_at "go"
    refine r_tStar ?_
    walk_at "go"
    have est' := cut_le _ _ est
    refine ⟨st, xs, es, .inl (SqT.of est'), ?_⟩
    walk_at "go"
    refine ⟨by rw [List.length_append]; show xs.length + 1 ≤ _; exact szL (by omega), fun t1 ht1 => ?_⟩
    have s1 := Same.new (o := .tup (xs ++ [.ref dp])) ht1
    have et1 : upd H t1 (.tup (xs ++ [.ref dp])) t1 = some (.tup (xs ++ [.ref dp])) := upd_same
    generalize upd H t1 (.tup (xs ++ [.ref dp])) = H1 at s1 et1 ⊢
    walk_at "go"
    intro x dxx hx hdx hne
    have s2 : Same H1 (upd (upd H1 dxx (.own x)) x (.ins B.Standing dxx [])) := Same.mut (Same.new hdx) hx
    refine ⟨H1, x, dxx, ca, t1, ap, tp, k + 1, c, _, ns', ts', rfl, s2, hx, upd_same, (h4.up cut_le).up s1, ok, et1, by rw [List.length_append]; show xs.length + 1 ≤ _; omega, hap.up s1, htp.up s1, lo, fun H2 s' s12 hstd => ⟨rfl, ?_⟩⟩
    have sm2 := s1.trans s12
    obtain ⟨dn2, hx2⟩ := hstd.ex
    have hxe : x ≠ e := ne_of_none (s1 _ _ h1) hx |>.symm
    walk_at "go"
    refine ⟨by simp [sizeLine_eq], fun em hem => ?_⟩
    have s3 := Same.new (o := .tup []) hem
    refine r_eqD (d := dT (opens (standsOf c (ns'.zip ts')))) (e := dT []) (hstd.sv.opn.up s3) (.tup upd_same .nil) ((shp_dN _).sh (by decide)) ((shp_dN []).sh (by decide)) ?_
    rw [eqv_dN]
    have sm3 := sm2.trans s3
    have hstd3 := hstd.up s3
    have hx3 := s3 _ _ hx2
    generalize upd H2 em (.tup []) = H3 at s3 sm3 hstd3 hx3 ⊢
    walk_at "go"
    by_cases he : opens (standsOf c (ns'.zip ts')) = []
    · refine r_dT he ?_
      refine r_raiseB ?_
      walk_at "go"
      refine r_ixT (k := 1) (sm3 _ _ hdp) hd1 ?_
      walk_at "go"
      refine ⟨by show 1 ≤ 1000; omega, fun ex hex => ?_⟩
      refine ⟨ex, a, rfl, T.bk.ox, T.bk.no, upd_same, fun d hd hdne => ⟨rfl, d, [("asking", .int (a : Int))], upd_same, ?_, ?_, ?_⟩⟩
      · rw [upd_ne hdne]
        exact upd_same
      · rw [upd_ne hdne] at hd
        exact hd
      · rw [upd_ne hdne] at hd
        refine qE he d _ (sm3.trans fun b o hb => ?_) upd_same
        have hb1 : b ≠ d := ne_of_none hb hd
        have hb2 : b ≠ ex := ne_of_none hb hex
        rw [upd_ne hb1, del_ne hb2, upd_ne hb2, upd_ne hb1, upd_ne hb2]
        exact hb
    · refine r_dF he ?_
      have h13 := sm3 _ _ h1
      have h23 := sm3 _ _ h2
      walk_at "go"
      refine ⟨tyL h23, ?_⟩
      walk_at "go"
      refine r_append h23 (szT (by omega)) ?_
      have h14 : upd H3 pa (.lst (pv ++ [.ref nw])) e = some (.ins B.Evening dx (fsEv ca pa un nw s)) := by
        rw [upd_ne hope]
        exact h13
      have h24 : upd H3 pa (.lst (pv ++ [.ref nw])) pa = some (.lst (pv ++ [.ref nw])) := upd_same
      have s34 : Same (cut H3 e pa) (upd H3 pa (.lst (pv ++ [.ref nw]))) := Same.mut cut_le cut_p
      generalize upd H3 pa (.lst (pv ++ [.ref nw])) = H4 at h14 h24 s34 ⊢
      walk_at "go"
      refine ⟨by simp [sizeLine_eq], fun un' hun => ?_⟩
      have s45 := Same.new (o := .lst []) hun
      have h15 := s45 _ _ h14
      have h25 := s45 _ _ h24
      have s35 := s34.trans s45
      generalize upd H4 un' (.lst []) = H5 at s45 h15 h25 s35 ⊢
      walk_at "go"
      refine r_stG h15 hCEvening hAEvening_undone (by show 13 < 1000; omega) ?_
      have h16 : upd H5 e (.ins B.Evening dx (fsEv ca pa (.ref un') nw s)) e = some (.ins B.Evening dx (fsEv ca pa (.ref un') nw s)) := upd_same
      have h26 : upd H5 e (.ins B.Evening dx (fsEv ca pa (.ref un') nw s)) pa = some (.lst (pv ++ [.ref nw])) := by
        rw [upd_ne (Ne.symm hope)]
        exact h25
      have s36 : Same (cut H3 e pa) (upd H5 e (.ins B.Evening dx (fsEv ca pa (.ref un') nw s))) := Same.mut s35 cut_e
      show tDrop _ _ _ (upd H5 e (.ins B.Evening dx (fsEv ca pa (.ref un') nw s)))
      generalize upd H5 e (.ins B.Evening dx (fsEv ca pa (.ref un') nw s)) = H6 at h16 h26 s36 ⊢
      have hc3 := hstd3.cut hxe h13 h23
      have hx6 := (hc3.up s36).ex
      obtain ⟨dn6, hx6⟩ := hx6
      walk_at "go"
      refine r_meth ?_
      walk_at "go"
      refine ⟨e, dx, _, rfl, h16, rfl, ?_⟩
      walk_at "go"
      refine ⟨e, dx, x, dn6, _, s', rfl, h16, hx6, hxe, by show 13 ≤ 900; omega, ?_⟩
      walk_at "go"
      have h17 : upd H6 e (.ins B.Evening dx (fsEv ca pa (.ref un') x s')) e = some (.ins B.Evening dx (fsEv ca pa (.ref un') x s')) := upd_same
      have h27 : upd H6 e (.ins B.Evening dx (fsEv ca pa (.ref un') x s')) pa = some (.lst (pv ++ [.ref nw])) := by
        rw [upd_ne (Ne.symm hope)]
        exact h26
      have s37 : Same (cut H3 e pa) (upd H6 e (.ins B.Evening dx (fsEv ca pa (.ref un') x s'))) := Same.mut s36 cut_e
      have s07 := (cut_up sm3).trans s37
      have scc := cut_of s37 cut_e cut_p
      refine qQ he _ s' s07 ⟨dx, ca, .ref un', x, _, h17, h27, by rw [List.length_append]; show pv.length + 1 ≤ _; omega, (h4.up (cut_up sm3)).up scc, hc3.up scc⟩
end

end TW

set_option Elab.async false
set_option linter.all false
set_option maxRecDepth 100000
set_option maxHeartbeats 4000000
namespace TW
open PySem PySem.Spec PyProof.Rows L2
local macro_rules | `(tactic| walk_at "st0") => `(tactic| with_reducible (first | refine r_seq ?_ | refine r_next ?_ | refine r_ret ?_ | refine r_retN ?_ | refine r_drop ?_ | refine r_asg ?_ | refine r_if ?_ | refine r_gName ?_ | refine r_par ?_ | refine r_c ?_ | refine r_cons ?_ | refine r_nil ?_ | refine r_op ?_ | refine r_CB ?_ | refine r_andV ?_ | refine r_orV ?_ | refine r_notV ?_ | refine r_tIf ?_ | refine r_B ?_ | refine r_Test ?_ | refine r_and ?_ | refine r_or ?_ | refine r_not ?_ | refine r_yes ?_ | refine r_bl ?_ | refine r_T ?_ | refine r_F ?_ | refine r_nT ?_ | refine r_nF ?_ | refine r_I0 ?_ | refine r_eqI ?_ | refine r_neI ?_ | refine r_eqB ?_ | refine r_neB ?_ | refine r_isN0 ?_ | refine r_isN1 ?_ | refine r_isN2 ?_ | refine r_notN0 ?_ | refine r_notN1 ?_ | refine r_notN2 ?_ | refine r_isNo ?_ | refine r_notNo ?_ | refine r_fld ?_ | refine r_sfld ?_ | refine r_tup ?_ | refine r_lst ?_ | refine r_call ?_ | refine r_make ?_ | refine r_sl ?_ | refine r_part ?_ | refine r_noPart ?_ | refine r_iList ?_ | refine r_iTup ?_ | refine r_iRng1 ?_ | refine r_iEnum ?_ | refine r_int1 ?_ | refine r_intB ?_ | refine r_abs ?_ | refine r_bm ?_ | refine r_lc ?_ | refine r_for ?_))
local macro_rules | `(tactic| walk_at "st") => `(tactic| first | walk_at "st0" | ((with_reducible refine' r_var ?e ?_); (case e => exact rfl)) | ((with_reducible refine' r_fldG ?e1 ?e2 ?e3 ?e4 ?_); (case e1 => assumption); (case e2 => assumption); (case e3 => assumption); (case e4 => exact rfl)) | ((with_reducible refine' r_isC ?e ?_); (case e => assumption)) | dsimp only)
local macro_rules | `(tactic| walk_at "go") => `(tactic| repeat (walk_at "st"))
section
variable {P : Program} {w : World} {K : PySem.W.Frag} {mg : Str → Option Value} {base : Heap} {B : Adr}
theorem Same.none {G H : Hp} {a : Addr} (s : Same G H) (h : H a = none) : G a = none := by
  cases e : G a with
  | none => rfl
  | some o =>
    rw [s _ _ e] at h
    cases h
theorem askD_snoc (ns : List Nat) (n : Nat) : askD (ns ++ [n]) = askD ns ++ [.tuple [.int (ns.length : Int), .int (n : Int)]] := by
  unfold askD
  rw [List.length_append, show ns.length + [n].length = ns.length + 1 from rfl, List.range_succ, List.map_append]
  congr 1
  · refine List.map_congr_left fun i hi => ?_
    have hl := List.mem_range.mp hi
    rw [List.getD_eq_getElem?_getD, List.getD_eq_getElem?_getD, List.getElem?_append_left hl]
  · rw [List.map_cons, List.map_nil, List.getD_eq_getElem?_getD, List.getElem?_append_right (Nat.le_refl _), Nat.sub_self]
    rfl
theorem set_cut {α : Type} {l : List α} {a : Nat} {x : α} (h : a < l.length) : l.take a ++ x :: l.drop (a + 1) = l.set a x := (List.set_eq_take_append_cons_drop.trans (if_pos h)).symm
def spEveningAsk (B : Adr) : Sp := fun vs H Q _ => ∃ (e pa k n : Nat) (c : Cs) (ns : List Nat) (ts : List (Option Nat)) (s : Sv), vs = [.ref e, .int (n : Int)] ∧ EvAt B H e pa c ns ts k s ∧ c.Ok ∧ n < c.qs.length ∧ k ≤ 50 ∧ ns.length ≤ 7 ∧ LogOk c (ns ++ [n]) (ts ++ [none]) ∧
  opens (standsOf c ((ns ++ [n]).zip (ts ++ [none]))) ≠ [] ∧ ∀ H' s', Same (cut H e pa) H' → EvAt B H' e pa c (ns ++ [n]) (ts ++ [none]) (k + 1) s' → Q (.int (ns.length : Int)) H'
theorem ok_Evening_ask (T : Tx K mg B) : C8.Met P w K mg base 7 B.Evening "ask" (spEveningAsk B) [] := by
  have c_is_within := ok_is_within (P := P) (w := w) (base := base) T
  have c_Evening_enter := ok_Evening_enter (P := P) (w := w) (base := base) T
  refine met_of T.m_Evening_ask T.c_Evening scEveningAsk (fun _ _ _ _ _ _ us hl => match us, hl with | [_, _], _ => rfl) (fun vs H Q E h => ?_) (fun f cdv AA outer s H vs Q E hr h => ?_)
  · first | (obtain ⟨_, rfl, _⟩ := h; rfl) | (obtain ⟨_, _, rfl, _⟩ := h; rfl) | (obtain ⟨_, _, _, rfl, _⟩ := h; rfl) | (obtain ⟨_, _, _, _, rfl, _⟩ := h; rfl) | (obtain ⟨_, _, _, _, _, rfl, _⟩ := h; rfl) | (obtain ⟨_, _, _, _, _, _, rfl, _⟩ := h; rfl) | (obtain ⟨_, _, _, _, _, _, _, rfl, _⟩ := h; rfl) | (obtain ⟨_, _, _, _, _, _, _, _, rfl, _⟩ := h; rfl) | (obtain ⟨_, _, _, _, _, _, _, _, _, rfl, _⟩ := h; rfl) | (obtain ⟨_, _, _, _, _, _, _, _, _, _, rfl, _⟩ := h; rfl) | (obtain ⟨_, _, _, _, _, _, _, _, _, _, _, rfl, _⟩ := h; rfl) | (obtain ⟨_, _, _, _, _, _, _, _, _, _, _, _, rfl, _⟩ := h; rfl) | (obtain ⟨_, _, _, _, _, _, _, _, _, _, _, _, _, rfl, _⟩ := h; rfl) | (obtain ⟨_, _, _, _, _, _, _, _, _, _, _, _, _, _, rfl, _⟩ := h; rfl) | (obtain ⟨_, _, _, _, _, _, _, _, _, _, _, _, _, _, _, rfl, _⟩ := h; rfl) | (obtain ⟨_, _, _, _, _, _, _, _, _, _, _, _, _, _, _, _, rfl, _⟩ := h; rfl) | (obtain ⟨_, _, _, _, _, _, _, _, _, _, _, _, _, _, _, _, _, rfl, _⟩ := h; rfl) | (obtain ⟨_, _, _, _, _, _, _, _, _, _, _, _, _, _, _, _, _, _, rfl, _⟩ := h; rfl) | (obtain ⟨_, _, _, _, _, _, _, _, _, _, _, _, _, _, _, _, _, _, _, rfl, _⟩ := h; rfl)
  · refine ⟨(tSeq (tIfS (tNot (tB (tCall spIsWithin [] C8.E0 (tCons (tVar 1) (tCons (tC (.int 0)) (tCons (tOp qSub (tCB (Evl.rLenS K) (tCons (tFld K (tFld K (tFld K (tVar 0) "case") "stock") "questions") tNil)) (tC (.int 1))) tNil)))))) tNever tNext)
    (tSeq (tAsg (tFld K (tFld K (tVar 0) "now") "given") (gName 2))
    (tSeq (tDrop (ME.tMethS B.Evening "enter" (spEveningEnter B) (fun _ => C8.E0) (tVar 0) (tCons (tTup (tCons (tC (.str "ask")) (tCons (tVar 1) tNil))) (tCons (tOp qAdd (tVar 2) (tC (.int 1))) (tCons (tTup (StX.tStar K (tFld K (tVar 0) "asked") (tCons (tTup (tCons (tVar 2) (tCons (tVar 1) tNil))) tNil))) (tCons (tTup (StX.tStar K (tFld K (tFld K (tVar 0) "now") "tolds") (tCons (tC .non) tNil))) tNil))))))
    (tRet (tVar 2))))),
    (pss_cons (ps_if (pt_not (pt_val (C8.pe_c c_is_within hr (by decide) rfl (pa_cons (pv 1) (pa_cons pe_int (pa_cons (pe_op op_sub (pe_callB call_len_seq (by rfl) T.f_len (by decide +kernel) (pa_cons (pe_fld (pe_fld (pe_fld (pv 0) rfl) rfl) rfl) pa_nil)) pe_int) pa_nil)))))) (pss_one ps_never) pss_nil)
    (pss_cons (ps_set (i := 2) scEveningAsk.nd rfl (Or.inl rfl) (pe_fld (pe_fld (pv 0) rfl) rfl))
    (pss_cons (ps_expr (ME.pe_mtS c_Evening_enter hr (by decide) (fun _ => ME.noPass) (pv 0) (pa_cons (pe_tup (pa_cons pe_str (pa_cons (pv 1) pa_nil))) (pa_cons (pe_op op_add (pv 2) pe_int) (pa_cons (pe_tup (StX.pa_star (pe_fld (pv 0) rfl) (pa_cons (pe_tup (pa_cons (pv 2) (pa_cons (pv 1) pa_nil))) pa_nil))) (pa_cons (pe_tup (StX.pa_star (pe_fld (pe_fld (pv 0) rfl) rfl) (pa_cons pe_non pa_nil))) pa_nil))))))
    (pss_one (ps_ret (pv 2)))))), ?_⟩
    have hCEvening := T.c_Evening
    have hCCase := T.c_Case
    have hCStock := T.c_Stock
    have hCStanding := T.c_Standing
    have hAEvening_case := T.a_Evening_case
    have hACase_stock := T.a_Case_stock
    have hAStock_questions := T.a_Stock_questions
    have hAEvening_now := T.a_Evening_now
    have hAStanding_given := T.a_Standing_given
    have hAStanding_tolds := T.a_Standing_tolds
    have hAEvening_asked := T.a_Evening_asked
    obtain ⟨e, pa, k, n, c, ns, ts, s, rfl, hev, ok, hn, hk, hl7, lo, hop, q⟩ := h
    obtain ⟨dx, ca, un, nw, pv, h1, h2, h3, h4, h5⟩ := hev.ex
    obtain ⟨dc, st, ru, fp, wi, e1, hst, hru, hfp, hwi⟩ := (h4.up cut_le).ex
    obtain ⟨dx2, qp, ws, e2, e3, hqs⟩ := hst.ex
    obtain ⟨dn, hnw0⟩ := h5.ex
    have hnw := cut_le _ _ hnw0
    have sv := h5.sv.up cut_le
    obtain ⟨ap, as, eap, ea, ra⟩ := Rp.tup_inv sv.asked
    obtain ⟨tp, us, etp, et, rt⟩ := Rp.tup_inv sv.tolds
    have eus := RpA.os_inv rt
    subst eus
    have hgv := sv.given
    have hal : as.length = ns.length := by rw [ra.len, askD_len]
    walk_at "go"
    refine r_lenT e3 ?_
    walk_at "go"
    rw [hqs.len]
    refine ⟨(n : Int), some 0, some ((c.qs.length : Int) - 1), rfl, ?_⟩
    rw [within_ok (by omega) (by omega)]
    walk_at "go"
    refine r_bmS ?_
    walk_at "go"
    refine ⟨e, dx, _, rfl, h1, rfl, ?_⟩
    walk_at "go"
    refine ⟨by simp [sizeLine_eq], fun dp hdp => ?_⟩
    have s1 := Same.new (o := .tup [.str "ask", .int (n : Int)]) hdp
    have edp : upd H dp (.tup [.str "ask", .int (n : Int)]) dp = some (.tup [.str "ask", .int (n : Int)]) := upd_same
    generalize upd H dp (.tup [.str "ask", .int (n : Int)]) = H1 at s1 edp ⊢
    have h11 := s1 _ _ h1
    walk_at "go"
    refine r_tStar ?_
    walk_at "go"
    refine ⟨ap, as, eap, .inl (SqT.of (s1 _ _ ea)), ?_⟩
    walk_at "go"
    refine ⟨by simp [sizeLine_eq], fun pr hpr => ?_⟩
    rw [hgv]
    have s2 := Same.new (o := .tup [.int (ns.length : Int), .int (n : Int)]) hpr
    have epr : upd H1 pr (.tup [.int (ns.length : Int), .int (n : Int)]) pr = some (.tup [.int (ns.length : Int), .int (n : Int)]) := upd_same
    generalize upd H1 pr (.tup [.int (ns.length : Int), .int (n : Int)]) = H2 at s2 epr ⊢
    walk_at "go"
    refine ⟨by rw [List.length_append]; exact szL (by show as.length + 1 ≤ _; omega), fun ap' hap' => ?_⟩
    have s3 := Same.new (o := .tup (as ++ [.ref pr])) hap'
    have rap : Rp (upd H2 ap' (.tup (as ++ [.ref pr]))) (.ref ap') (.tuple (askD (ns ++ [n]))) := by
      rw [askD_snoc]
      exact .tup upd_same ((ra.up ((s1.trans s2).trans s3)).snoc (.tup (s3 _ _ epr) (.cons (.int _) (.cons (.int _) .nil))))
    generalize upd H2 ap' (.tup (as ++ [.ref pr])) = H3 at s3 rap ⊢
    have s03 := (s1.trans s2).trans s3
    have h13 := s03 _ _ h1
    have hnw3 := s03 _ _ hnw
    walk_at "go"
    refine r_tStar ?_
    walk_at "go"
    refine ⟨tp, _, etp, .inl (SqT.of (s03 _ _ et)), ?_⟩
    walk_at "go"
    have hll := lo.len
    rw [List.length_append, List.length_append] at hll
    have htl : ts.length = ns.length := by
      have : ns.length + 1 = ts.length + 1 := hll
      omega
    refine ⟨by rw [List.length_append, List.length_map]; exact szL (by show ts.length + 1 ≤ _; omega), fun tp' htp' => ?_⟩
    have s4 := Same.new (o := .tup (ts.map oN ++ [.non])) htp'
    have rtp : Rp (upd H3 tp' (.tup (ts.map oN ++ [.non]))) (.ref tp') (.tuple ((ts ++ [none]).map dO)) := by
      rw [List.map_append]
      exact .tup upd_same ((RpA.os ts).snoc .non)
    generalize upd H3 tp' (.tup (ts.map oN ++ [.non])) = H4 at s4 rtp ⊢
    walk_at "go"
    have s04 := s03.trans s4
    refine ⟨e, pa, dp, ap', tp', k, n, c, ns, ns ++ [n], ts, ts ++ [none], s, _, ?_, hev.up s04, ok, s4 _ _ (s3 _ _ (s2 _ _ edp)), rfl, hk, rap.up s4, rtp, lo, fun z => absurd z hop, fun _ H5 s' s5 hev5 => ?_⟩
    · rw [List.length_append]
      rfl
    · walk_at "go"
      exact q H5 s' ((cut_up s04).trans s5) hev5
def spEveningHear (B : Adr) : Sp := fun vs H Q E => ∃ (e pa k a t : Nat) (c : Cs) (ns : List Nat) (ts : List (Option Nat)) (s : Sv), vs = [.ref e, .int (a : Int), .int (t : Int)] ∧ EvAt B H e pa c ns ts k s ∧ c.Ok ∧ k ≤ 50 ∧ ts[a]? = some none ∧ t < c.heaps ∧ LogOk c ns ts ∧ LogOk c ns (ts.set a (some t)) ∧
  (opens (standsOf c (ns.zip (ts.set a (some t)))) = [] → ∀ d H', Same H H' → H' d = some (.xd [("asking", .int (a : Int))]) → E (.ref B.Broken) (some d) H') ∧
  (opens (standsOf c (ns.zip (ts.set a (some t)))) ≠ [] → ∀ H' s', Same (cut H e pa) H' → EvAt B H' e pa c ns (ts.set a (some t)) (k + 1) s' → Q .non H')
theorem ok_Evening_hear (T : Tx K mg B) : ME.MetX P w K mg base 7 B.Evening "hear" (spEveningHear B) := by
  have c_place_in := ok_place_in (P := P) (w := w) (base := base) T
  have c_is_within := ok_is_within (P := P) (w := w) (base := base) T
  have c_Evening_enter := ok_Evening_enter (P := P) (w := w) (base := base) T
  refine ME.metx_of T.m_Evening_hear T.c_Evening scEveningHear (fun _ _ _ _ _ _ us hl => match us, hl with | [_, _, _], _ => rfl) (fun vs H Q E h => ?_) (fun f cdv AA outer s H vs Q E hr h => ?_)
  · first | (obtain ⟨_, rfl, _⟩ := h; rfl) | (obtain ⟨_, _, rfl, _⟩ := h; rfl) | (obtain ⟨_, _, _, rfl, _⟩ := h; rfl) | (obtain ⟨_, _, _, _, rfl, _⟩ := h; rfl) | (obtain ⟨_, _, _, _, _, rfl, _⟩ := h; rfl) | (obtain ⟨_, _, _, _, _, _, rfl, _⟩ := h; rfl) | (obtain ⟨_, _, _, _, _, _, _, rfl, _⟩ := h; rfl) | (obtain ⟨_, _, _, _, _, _, _, _, rfl, _⟩ := h; rfl) | (obtain ⟨_, _, _, _, _, _, _, _, _, rfl, _⟩ := h; rfl) | (obtain ⟨_, _, _, _, _, _, _, _, _, _, rfl, _⟩ := h; rfl) | (obtain ⟨_, _, _, _, _, _, _, _, _, _, _, rfl, _⟩ := h; rfl) | (obtain ⟨_, _, _, _, _, _, _, _, _, _, _, _, rfl, _⟩ := h; rfl) | (obtain ⟨_, _, _, _, _, _, _, _, _, _, _, _, _, rfl, _⟩ := h; rfl) | (obtain ⟨_, _, _, _, _, _, _, _, _, _, _, _, _, _, rfl, _⟩ := h; rfl) | (obtain ⟨_, _, _, _, _, _, _, _, _, _, _, _, _, _, _, rfl, _⟩ := h; rfl) | (obtain ⟨_, _, _, _, _, _, _, _, _, _, _, _, _, _, _, _, rfl, _⟩ := h; rfl) | (obtain ⟨_, _, _, _, _, _, _, _, _, _, _, _, _, _, _, _, _, rfl, _⟩ := h; rfl) | (obtain ⟨_, _, _, _, _, _, _, _, _, _, _, _, _, _, _, _, _, _, rfl, _⟩ := h; rfl) | (obtain ⟨_, _, _, _, _, _, _, _, _, _, _, _, _, _, _, _, _, _, _, rfl, _⟩ := h; rfl)
  · refine ⟨(tSeq (tPar 3 4 (tCons (tCall spPlaceIn [] C8.E0 (tCons (tFld K (tVar 0) "asked") (tCons (tVar 1) tNil))) (tCons (tFld K (tFld K (tVar 0) "now") "tolds") tNil)))
    (tSeq (tIfS (tNot (tB (tCall spIsWithin [] C8.E0 (tCons (tVar 2) (tCons (tC (.int 0)) (tCons (tOp qSub (tFld K (tFld K (tVar 0) "case") "heaps") (tC (.int 1))) tNil)))))) tNever tNext)
    (tSeq (tIfS (tTest (tOp rNotN (tOp (rIxT K) (tVar 4) (tVar 3)) (tC .non))) tNever tNext)
    (tDrop (ME.tMethS B.Evening "enter" (spEveningEnter B) (fun _ => E) (tVar 0) (tCons (tTup (tCons (tC (.str "hear")) (tCons (tVar 1) (tCons (tVar 2) tNil)))) (tCons (tFld K (tFld K (tVar 0) "now") "given") (tCons (tFld K (tVar 0) "asked") (tCons (tTup (StX.tStar K (tSl (rSlA K) (tVar 4) tNoPart (tPart (tVar 3))) (tCons (tVar 2) (StX.tStar K (tSl (rSlA K) (tVar 4) (tPart (tOp qAdd (tVar 3) (tC (.int 1)))) tNoPart) tNil)))) tNil))))))))),
    (pss_cons (ps_par (i := 3) (j := 4) rfl scEveningHear.nd rfl rfl (by decide) rfl rfl (pa_cons (C8.pe_c c_place_in hr (by decide) rfl (pa_cons (pe_fld (pv 0) rfl) (pa_cons (pv 1) pa_nil))) (pa_cons (pe_fld (pe_fld (pv 0) rfl) rfl) pa_nil)) (by rfl))
    (pss_cons (ps_if (pt_not (pt_val (C8.pe_c c_is_within hr (by decide) rfl (pa_cons (pv 2) (pa_cons pe_int (pa_cons (pe_op op_sub (pe_fld (pe_fld (pv 0) rfl) rfl) pe_int) pa_nil)))))) (pss_one ps_never) pss_nil)
    (pss_cons (ps_if (pt_cmpR op_notN1 (pe_ix ix_tup (pv 4) (pv 3) (fun _ _ => rfl)) pe_non (nomark _)) (pss_one ps_never) pss_nil)
    (pss_one (ps_expr (ME.pe_mtS c_Evening_enter hr (by decide) (fun σ => passAt (takes_of rfl rfl rfl rfl) σ) (pv 0) (pa_cons (pe_tup (pa_cons pe_str (pa_cons (pv 1) (pa_cons (pv 2) pa_nil)))) (pa_cons (pe_fld (pe_fld (pv 0) rfl) rfl) (pa_cons (pe_fld (pv 0) rfl) (pa_cons (pe_tup (StX.pa_star (pe_slice sl_tupA (pv 4) po_none (po_some (pv 3))) (pa_cons (pv 2) (StX.pa_star (pe_slice sl_tupA (pv 4) (po_some (pe_op op_add (pv 3) pe_int)) po_none) pa_nil)))) pa_nil)))))))))), ?_⟩
    have hCEvening := T.c_Evening
    have hCStanding := T.c_Standing
    have hCCase := T.c_Case
    have hAEvening_now := T.a_Evening_now
    have hAStanding_tolds := T.a_Standing_tolds
    have hAEvening_asked := T.a_Evening_asked
    have hAEvening_case := T.a_Evening_case
    have hACase_heaps := T.a_Case_heaps
    have hAStanding_given := T.a_Standing_given
    obtain ⟨e, pa, k, a, t, c, ns, ts, s, rfl, hev, ok, hk, hta, htc, lo0, lo, qE, qQ⟩ := h
    obtain ⟨dx, ca, un, nw, pv, h1, h2, h3, h4, h5⟩ := hev.ex
    obtain ⟨dc, st, ru, fp, wi, e1, hst, hru, hfp, hwi⟩ := (h4.up cut_le).ex
    obtain ⟨dn, hnw0⟩ := h5.ex
    have hnw := cut_le _ _ hnw0
    have sv := h5.sv.up cut_le
    obtain ⟨ap, as, eap, ea, ra⟩ := Rp.tup_inv sv.asked
    obtain ⟨tp, us, etp, et, rt⟩ := Rp.tup_inv sv.tolds
    have eus := RpA.os_inv rt
    subst eus
    have hgv := sv.given
    have hlen := lo0.len
    have hle := lo0.le
    have hal : a < ts.length := (List.getElem?_eq_some_iff.mp hta).1
    walk_at "go"
    refine ⟨ap, a, ns, by rw [eap]; rfl, eap ▸ sv.asked, by omega, hle, fun H1 s1 => ?_⟩
    have h11 := s1 _ _ h1
    have hnw1 := s1 _ _ hnw
    have e11 := s1 _ _ e1
    walk_at "go"
    refine ⟨_, _, rfl, ?_⟩
    walk_at "go"
    refine ⟨(t : Int), some 0, some ((c.heaps : Int) - 1), rfl, ?_⟩
    rw [within_ok (by omega) (by omega)]
    walk_at "go"
    rw [etp]
    refine r_ixT (s1 _ _ et) (k := a) (v := oN none) (by rw [List.getElem?_map, hta]; rfl) ?_
    walk_at "go"
    refine r_notO ?_
    walk_at "go"
    refine r_F ?_
    walk_at "go"
    refine r_bmS ?_
    walk_at "go"
    refine ⟨e, dx, _, rfl, h11, rfl, ?_⟩
    walk_at "go"
    refine ⟨by simp [sizeLine_eq], fun dp hdp => ?_⟩
    have s2 := Same.new (o := .tup [.str "hear", .int (a : Int), .int (t : Int)]) hdp
    have edp : upd H1 dp (.tup [.str "hear", .int (a : Int), .int (t : Int)]) dp = some (.tup [.str "hear", .int (a : Int), .int (t : Int)]) := upd_same
    generalize upd H1 dp (.tup [.str "hear", .int (a : Int), .int (t : Int)]) = H2 at s2 edp ⊢
    have s02 := s1.trans s2
    have h12 := s02 _ _ h1
    have hnw2 := s02 _ _ hnw
    walk_at "go"
    refine r_tStar ?_
    walk_at "go"
    refine ⟨_, rfl, ?_⟩
    refine r_slA (s02 _ _ et) fun p1 H3 s3 ep1 => ?_
    rw [cutV_to (by rw [List.length_map]; omega)] at ep1
    refine ⟨p1, _, rfl, .inl (SqT.of ep1), ?_⟩
    walk_at "go"
    refine r_tStar ?_
    walk_at "go"
    refine ⟨_, rfl, ?_⟩
    walk_at "go"
    refine r_slA (s3 _ _ (s02 _ _ et)) fun p2 H4 s4 ep2 => ?_
    rw [show ((a : Int) + 1) = ((a + 1 : Nat) : Int) from rfl, cutV_from (by rw [List.length_map]; omega)] at ep2
    refine ⟨p2, _, rfl, .inl (SqT.of ep2), ?_⟩
    walk_at "go"
    have eset : (ts.map oN).take a ++ (V.int (t : Int) :: ((ts.map oN).drop (a + 1) ++ [])) = (ts.set a (some t)).map oN := by
      rw [List.append_nil, List.map_set]
      exact set_cut (by rw [List.length_map]; exact hal)
    rw [eset]
    refine ⟨by rw [List.length_map, List.length_set]; exact szL (by omega), fun tp' htp' => ?_⟩
    have s5 := Same.new (o := .tup ((ts.set a (some t)).map oN)) htp'
    have rtp : Rp (upd H4 tp' (.tup ((ts.set a (some t)).map oN))) (.ref tp') (.tuple ((ts.set a (some t)).map dO)) := .tup upd_same (RpA.os _)
    generalize upd H4 tp' (.tup ((ts.set a (some t)).map oN)) = H5 at s5 rtp ⊢
    have s05 := ((s02.trans s3).trans s4).trans s5
    walk_at "go"
    refine ⟨e, pa, dp, ap, tp', k, a, c, ns, ns, ts, ts.set a (some t), s, _, by rw [hgv, eap], hev.up s05, ok, s5 _ _ (s4 _ _ (s3 _ _ edp)), rfl, hk, (eap ▸ sv.asked).up s05, rtp, lo, fun z d H6 s6 e6 => qE z d H6 (s05.trans s6) e6, fun z H6 s' s6 hev6 => ?_⟩
    walk_at "go"
    exact qQ z H6 s' ((cut_up s05).trans s6) hev6
def spIEvening (B : Adr) : Sp := fun vs H Q _ => ∃ (G : Hp) (e dx ca : Nat) (c : Cs), vs = [.ref e, .ref ca] ∧ Same G H ∧ G e = none ∧ H e = some (.ins B.Evening dx []) ∧ CaseAt B G ca c ∧ c.Ok ∧ ∀ pa H' s, Same G H' → G pa = none → EvAt B H' e pa c [] [] 0 s → Q .non H'
theorem ok_Evening (T : Tx K mg B) : C8.Mak P w K mg base 6 "Evening" B.Evening (spIEvening B) [] := by
  have c_Standing := ok_Standing (P := P) (w := w) (base := base) T
  have c_Evening_stand := ok_Evening_stand (P := P) (w := w) (base := base) T
  refine mak_of T.n_Evening T.g_Evening scEveningInit (fun _ _ _ _ _ _ us hl => match us, hl with | [_, _], _ => rfl) (fun vs H Q E h => ?_) (fun f cdv AA outer s H vs Q E hr h => ?_)
  · first | (obtain ⟨_, rfl, _⟩ := h; rfl) | (obtain ⟨_, _, rfl, _⟩ := h; rfl) | (obtain ⟨_, _, _, rfl, _⟩ := h; rfl) | (obtain ⟨_, _, _, _, rfl, _⟩ := h; rfl) | (obtain ⟨_, _, _, _, _, rfl, _⟩ := h; rfl) | (obtain ⟨_, _, _, _, _, _, rfl, _⟩ := h; rfl) | (obtain ⟨_, _, _, _, _, _, _, rfl, _⟩ := h; rfl) | (obtain ⟨_, _, _, _, _, _, _, _, rfl, _⟩ := h; rfl) | (obtain ⟨_, _, _, _, _, _, _, _, _, rfl, _⟩ := h; rfl) | (obtain ⟨_, _, _, _, _, _, _, _, _, _, rfl, _⟩ := h; rfl) | (obtain ⟨_, _, _, _, _, _, _, _, _, _, _, rfl, _⟩ := h; rfl) | (obtain ⟨_, _, _, _, _, _, _, _, _, _, _, _, rfl, _⟩ := h; rfl) | (obtain ⟨_, _, _, _, _, _, _, _, _, _, _, _, _, rfl, _⟩ := h; rfl) | (obtain ⟨_, _, _, _, _, _, _, _, _, _, _, _, _, _, rfl, _⟩ := h; rfl) | (obtain ⟨_, _, _, _, _, _, _, _, _, _, _, _, _, _, _, rfl, _⟩ := h; rfl) | (obtain ⟨_, _, _, _, _, _, _, _, _, _, _, _, _, _, _, _, rfl, _⟩ := h; rfl) | (obtain ⟨_, _, _, _, _, _, _, _, _, _, _, _, _, _, _, _, _, rfl, _⟩ := h; rfl) | (obtain ⟨_, _, _, _, _, _, _, _, _, _, _, _, _, _, _, _, _, _, rfl, _⟩ := h; rfl) | (obtain ⟨_, _, _, _, _, _, _, _, _, _, _, _, _, _, _, _, _, _, _, rfl, _⟩ := h; rfl)
  · refine ⟨(tSeq (tIfS (tNot (tB (tCB (rIsC B.Case) (tCons (tVar 1) (tCons (tC (.ref B.Case)) tNil))))) tNever tNext)
    (tSeq (sFld K (tVar 0) (tVar 1) "case")
    (tSeq (sFld K (tVar 0) (tLst tNil) "past")
    (tSeq (sFld K (tVar 0) (tLst tNil) "undone")
    (tDrop (tMeth B.Evening "stand" (spEveningStand B) [] C8.E0 (tVar 0) (tCons (tMake B.Standing (spIStanding B) [] C8.E0 (tCons (tVar 1) (tCons (tTup tNil) (tCons (tC (.int 0)) (tCons (tTup tNil) (tCons (tTup tNil) tNil)))))) tNil))))))),
    (pss_cons (ps_if (pt_not (pt_val (pe_callB (C8.call_isC T.i_Case) (by rfl) T.f_isinstance (by decide +kernel) (pa_cons (pv 1) (pa_cons (pe_glob rfl T.g_Case rfl) pa_nil))))) (pss_one ps_never) pss_nil)
    (pss_cons (ps_fld (pv 0) (pv 1) rfl)
    (pss_cons (ps_fld (pv 0) (pe_lst pa_nil) rfl)
    (pss_cons (ps_fld (pv 0) (pe_lst pa_nil) rfl)
    (pss_one (ps_expr (C8.pe_mt c_Evening_stand hr (by decide) (pv 0) (pa_cons (C8.pe_mk c_Standing hr (by decide) rfl (pa_cons (pv 1) (pa_cons (pe_tup pa_nil) (pa_cons pe_int (pa_cons (pe_tup pa_nil) (pa_cons (pe_tup pa_nil) pa_nil)))))) pa_nil)))))))), ?_⟩
    have hCEvening := T.c_Evening
    have hAEvening_case := T.a_Evening_case
    have hAEvening_past := T.a_Evening_past
    have hAEvening_undone := T.a_Evening_undone
    obtain ⟨G, e, dx, ca, c, rfl, sG, he, ex, hca, ok, q⟩ := h
    obtain ⟨dc, st, ru, fp, wi, e1, hst, hru, hfp, hwi⟩ := (hca.up sG).ex
    walk_at "go"
    refine r_stG ex hCEvening hAEvening_case (by decide) ?_
    have s1 : Same G (upd H e (.ins B.Evening dx [("case", .ref ca)])) := Same.mut sG he
    have x1 : upd H e (.ins B.Evening dx [("case", .ref ca)]) e = some (.ins B.Evening dx [("case", .ref ca)]) := upd_same
    show tSeq _ _ _ _ (upd H e (.ins B.Evening dx [("case", .ref ca)]))
    generalize upd H e (.ins B.Evening dx [("case", .ref ca)]) = H1 at s1 x1 ⊢
    walk_at "go"
    refine ⟨by simp [sizeLine_eq], fun pa hpa => ?_⟩
    have gpa := Same.none s1 hpa
    have s2 := s1.trans (Same.new (o := .lst []) hpa)
    have x2 := Same.new (o := .lst []) hpa _ _ x1
    have p2 : upd H1 pa (.lst []) pa = some (.lst []) := upd_same
    generalize upd H1 pa (.lst []) = H2 at s2 x2 p2 ⊢
    have hne : e ≠ pa := ne_of x2 p2 (by intro z; cases z)
    walk_at "go"
    refine r_stG x2 hCEvening hAEvening_past (by show 1 < 1000; omega) ?_
    have s3 : Same G (upd H2 e (.ins B.Evening dx [("case", .ref ca), ("past", .ref pa)])) := Same.mut s2 he
    have x3 : upd H2 e (.ins B.Evening dx [("case", .ref ca), ("past", .ref pa)]) e = some (.ins B.Evening dx [("case", .ref ca), ("past", .ref pa)]) := upd_same
    have p3 : upd H2 e (.ins B.Evening dx [("case", .ref ca), ("past", .ref pa)]) pa = some (.lst []) := by
      rw [upd_ne (Ne.symm hne)]
      exact p2
    show tSeq _ _ _ _ (upd H2 e (.ins B.Evening dx [("case", .ref ca), ("past", .ref pa)]))
    generalize upd H2 e (.ins B.Evening dx [("case", .ref ca), ("past", .ref pa)]) = H3 at s3 x3 p3 ⊢
    walk_at "go"
    refine ⟨by simp [sizeLine_eq], fun un hun => ?_⟩
    have s4 := s3.trans (Same.new (o := .lst []) hun)
    have x4 := Same.new (o := .lst []) hun _ _ x3
    have p4 := Same.new (o := .lst []) hun _ _ p3
    generalize upd H3 un (.lst []) = H4 at s4 x4 p4 ⊢
    walk_at "go"
    refine r_stG x4 hCEvening hAEvening_undone (by show 2 < 1000; omega) ?_
    have s5 : Same G (upd H4 e (.ins B.Evening dx [("case", .ref ca), ("past", .ref pa), ("undone", .ref un)])) := Same.mut s4 he
    have x5 : upd H4 e (.ins B.Evening dx [("case", .ref ca), ("past", .ref pa), ("undone", .ref un)]) e = some (.ins B.Evening dx [("case", .ref ca), ("past", .ref pa), ("undone", .ref un)]) := upd_same
    have p5 : upd H4 e (.ins B.Evening dx [("case", .ref ca), ("past", .ref pa), ("undone", .ref un)]) pa = some (.lst []) := by
      rw [upd_ne (Ne.symm hne)]
      exact p4
    show tDrop _ _ _ (upd H4 e (.ins B.Evening dx [("case", .ref ca), ("past", .ref pa), ("undone", .ref un)]))
    generalize upd H4 e (.ins B.Evening dx [("case", .ref ca), ("past", .ref pa), ("undone", .ref un)]) = H5 at s5 x5 p5 ⊢
    walk_at "go"
    refine r_meth ?_
    walk_at "go"
    refine ⟨e, dx, _, rfl, x5, rfl, ?_⟩
    walk_at "go"
    refine ⟨by simp [sizeLine_eq], fun t1 ht1 => ?_⟩
    walk_at "go"
    refine ⟨by simp [sizeLine_eq], fun t2 ht2 => ?_⟩
    walk_at "go"
    refine ⟨by simp [sizeLine_eq], fun t3 ht3 => ?_⟩
    have a1 := Same.new (o := .tup []) ht1
    have a2 := Same.new (o := .tup []) ht2
    have a3 := Same.new (o := .tup []) ht3
    have et1 := a3 _ _ (a2 _ _ (upd_same (H := H5) (a := t1) (o := .tup [])))
    have et2 := a3 _ _ (upd_same (H := upd H5 t1 (.tup [])) (a := t2) (o := .tup []))
    have et3 : upd (upd (upd H5 t1 (.tup [])) t2 (.tup [])) t3 (.tup []) t3 = some (.tup []) := upd_same
    have s6 := (a1.trans a2).trans a3
    generalize upd (upd (upd H5 t1 (.tup [])) t2 (.tup [])) t3 (.tup []) = H6 at et1 et2 et3 s6 ⊢
    walk_at "go"
    intro x dxx hx hdx hnx
    have x6 := s6 _ _ x5
    have p6 := s6 _ _ p5
    refine ⟨H6, x, dxx, ca, t1, t2, t3, 0, c, [], [], [], rfl, Same.mut (Same.new hdx) hx, hx, upd_same, hca.up (s5.trans s6), ok, et1, Nat.le_refl _, .tup et2 .nil, .tup et3 .nil, ⟨rfl, Nat.zero_le _, fun _ z => (nomatch z), fun _ z => (nomatch z)⟩, fun H7 s' s67 hstd => ⟨rfl, ?_⟩⟩
    have x7 := s67 _ _ x6
    have p7 := s67 _ _ p6
    obtain ⟨dn, hx7⟩ := hstd.ex
    have hxe : x ≠ e := Ne.symm (ne_of_none x6 hx)
    walk_at "go"
    refine ⟨e, dx, x, dn, _, s', rfl, x7, hx7, hxe, by show 3 ≤ 900; omega, ?_⟩
    walk_at "go"
    have hc7 := hstd.cut hxe x7 p7
    have sG7 := (s5.trans s6).trans s67
    have x8 : upd H7 e (.ins B.Evening dx (fsEv ca pa (.ref un) x s')) e = some (.ins B.Evening dx (fsEv ca pa (.ref un) x s')) := upd_same
    have p8 : upd H7 e (.ins B.Evening dx (fsEv ca pa (.ref un) x s')) pa = some (.lst []) := by
      rw [upd_ne (Ne.symm hne)]
      exact p7
    have s78 : Same (cut H7 e pa) (upd H7 e (.ins B.Evening dx (fsEv ca pa (.ref un) x s'))) := Same.mut cut_le cut_e
    have sG8 : Same G (upd H7 e (.ins B.Evening dx (fsEv ca pa (.ref un) x s'))) := Same.mut sG7 he
    exact q pa _ s' sG8 gpa ⟨dx, ca, .ref un, x, [], x8, p8, Nat.le_refl _, hca.up (cut_of sG8 he gpa), hc7.up (cut_of s78 cut_e cut_p)⟩
end

end TW

set_option Elab.async false
set_option linter.all false
set_option maxRecDepth 100000
set_option maxHeartbeats 4000000
namespace TW
open PySem PySem.Spec PyProof.Rows L2
local macro_rules | `(tactic| walk_at "st0") => `(tactic| with_reducible (first | refine r_seq ?_ | refine r_next ?_ | refine r_ret ?_ | refine r_retN ?_ | refine r_drop ?_ | refine r_asg ?_ | refine r_if ?_ | refine r_gName ?_ | refine r_par ?_ | refine r_c ?_ | refine r_cons ?_ | refine r_nil ?_ | refine r_op ?_ | refine r_CB ?_ | refine r_andV ?_ | refine r_orV ?_ | refine r_notV ?_ | refine r_tIf ?_ | refine r_B ?_ | refine r_Test ?_ | refine r_and ?_ | refine r_or ?_ | refine r_not ?_ | refine r_yes ?_ | refine r_bl ?_ | refine r_T ?_ | refine r_F ?_ | refine r_nT ?_ | refine r_nF ?_ | refine r_I0 ?_ | refine r_eqI ?_ | refine r_neI ?_ | refine r_eqB ?_ | refine r_neB ?_ | refine r_isN0 ?_ | refine r_isN1 ?_ | refine r_isN2 ?_ | refine r_notN0 ?_ | refine r_notN1 ?_ | refine r_notN2 ?_ | refine r_isNo ?_ | refine r_notNo ?_ | refine r_fld ?_ | refine r_sfld ?_ | refine r_tup ?_ | refine r_lst ?_ | refine r_call ?_ | refine r_make ?_ | refine r_sl ?_ | refine r_part ?_ | refine r_noPart ?_ | refine r_iList ?_ | refine r_iTup ?_ | refine r_iRng1 ?_ | refine r_iEnum ?_ | refine r_int1 ?_ | refine r_intB ?_ | refine r_abs ?_ | refine r_bm ?_ | refine r_lc ?_ | refine r_for ?_))
local macro_rules | `(tactic| walk_at "st") => `(tactic| first | walk_at "st0" | ((with_reducible refine' r_var ?e ?_); (case e => exact rfl)) | ((with_reducible refine' r_fldG ?e1 ?e2 ?e3 ?e4 ?_); (case e1 => assumption); (case e2 => assumption); (case e3 => assumption); (case e4 => exact rfl)) | ((with_reducible refine' r_isC ?e ?_); (case e => assumption)) | dsimp only)
local macro_rules | `(tactic| walk_at "go") => `(tactic| repeat (walk_at "st"))
section
variable {P : Program} {w : World} {K : PySem.W.Frag} {mg : Str → Option Value} {base : Heap} {B : Adr}
theorem del_le {H : Hp} {p : Addr} : Same (del H p) H := fun b o h => by
  unfold del at h
  split at h
  · cases h
  · exact h
theorem del_of {G H : Hp} {p : Addr} (s : Same G H) (h : G p = none) : Same G (del H p) := fun b o e => by
  rw [del_ne (ne_of_none e h)]
  exact s _ _ e
theorem del_up {H H' : Hp} {p : Addr} (s : Same H H') : Same (del H p) (del H' p) := del_of (del_le.trans s) del_same
/-- the pot: what is drawn from -/
structure PotAt (H : Hp) (p cl : Addr) (n : Nat) : Prop where
  ex : ∃ (cells : List Int) (turn : Nat) (rest : Int), H p = some (.lst [.ref cl, .int (turn : Int), .int rest]) ∧ H cl = some (.lst (cells.map V.int)) ∧ cells.length ≤ 100 ∧ turn ≤ n ∧ p ≠ cl
theorem PotAt.up {H H' : Hp} {p cl : Addr} {n : Nat} (h : PotAt H p cl n) (e : Same H H') : PotAt H' p cl n := by
  obtain ⟨cells, turn, rest, h1, h2, h3⟩ := h.ex
  exact ⟨cells, turn, rest, e _ _ h1, e _ _ h2, h3⟩
theorem PotAt.le {H : Hp} {p cl : Addr} {n m : Nat} (h : PotAt H p cl n) (e : n ≤ m) : PotAt H p cl m := by
  obtain ⟨cells, turn, rest, h1, h2, h3, h4, h5⟩ := h.ex
  exact ⟨cells, turn, rest, h1, h2, h3, by omega, h5⟩
theorem modN {i : Int} {m : Nat} (h : 0 < m) : ∃ v : Nat, i % (m : Int) = (v : Int) ∧ v < m := by
  have h1 := Int.emod_nonneg i (b := (m : Int)) (by omega)
  have h2 := Int.emod_lt_of_pos i (b := (m : Int)) (by omega)
  exact ⟨(i % (m : Int)).toNat, by omega, by omega⟩
theorem noL_ints : ∀ ns : List Int, PyData.canLayAll0 (dI ns) = true ∧ PyData.depthAll (dI ns) ≤ 0 := fun ns => shp_all (shp_map shp_int ns)
theorem eqv_nilL (L : List PyData) : PyData.eqv (.list L) (.list []) = decide (L = []) := by
  rw [PyData.eqv]
  cases L with
  | nil => rw [PyData.eqvAll, decide_eq_true rfl]
  | cons a l => rw [PyData.eqvAll, decide_eq_false (by intro z; cases z)]
theorem cint {i : Int} (h0 : -(2 ^ 64) < i) (h1 : i < 2 ^ 64) {j : Int} : CMul i j := .inl ⟨h0, h1⟩
theorem cint2 {i j : Int} (h0 : -(2 ^ 64) < j) (h1 : j < 2 ^ 64) : CMul i j := .inr ⟨h0, h1⟩
def spLawDip : Sp := fun vs H Q _ => ∃ (p cl n m : Nat), vs = [.ref p, .int (m : Int)] ∧ PotAt H p cl n ∧ n ≤ 1000 ∧ 0 < m ∧ m < 1000000 ∧ ∀ (v : Nat) H', v < m → Same (del H p) H' → PotAt H' p cl (n + 1) → Q (.int (v : Int)) H'
theorem ok__law_dip (T : Tx K mg B) : C8.Cal P w K mg base 1 "_law_dip" spLawDip [] := by
  refine cal_of T.d_law_dip scLawDip (fun _ _ _ _ _ _ us hl => match us, hl with | [_, _], _ => rfl) (fun vs H Q E h => ?_) (fun f cdv AA outer s H vs Q E hr h => ?_)
  · first | (obtain ⟨_, rfl, _⟩ := h; rfl) | (obtain ⟨_, _, rfl, _⟩ := h; rfl) | (obtain ⟨_, _, _, rfl, _⟩ := h; rfl) | (obtain ⟨_, _, _, _, rfl, _⟩ := h; rfl) | (obtain ⟨_, _, _, _, _, rfl, _⟩ := h; rfl) | (obtain ⟨_, _, _, _, _, _, rfl, _⟩ := h; rfl) | (obtain ⟨_, _, _, _, _, _, _, rfl, _⟩ := h; rfl) | (obtain ⟨_, _, _, _, _, _, _, _, rfl, _⟩ := h; rfl) | (obtain ⟨_, _, _, _, _, _, _, _, _, rfl, _⟩ := h; rfl) | (obtain ⟨_, _, _, _, _, _, _, _, _, _, rfl, _⟩ := h; rfl) | (obtain ⟨_, _, _, _, _, _, _, _, _, _, _, rfl, _⟩ := h; rfl) | (obtain ⟨_, _, _, _, _, _, _, _, _, _, _, _, rfl, _⟩ := h; rfl) | (obtain ⟨_, _, _, _, _, _, _, _, _, _, _, _, _, rfl, _⟩ := h; rfl) | (obtain ⟨_, _, _, _, _, _, _, _, _, _, _, _, _, _, rfl, _⟩ := h; rfl) | (obtain ⟨_, _, _, _, _, _, _, _, _, _, _, _, _, _, _, rfl, _⟩ := h; rfl) | (obtain ⟨_, _, _, _, _, _, _, _, _, _, _, _, _, _, _, _, rfl, _⟩ := h; rfl) | (obtain ⟨_, _, _, _, _, _, _, _, _, _, _, _, _, _, _, _, _, rfl, _⟩ := h; rfl) | (obtain ⟨_, _, _, _, _, _, _, _, _, _, _, _, _, _, _, _, _, _, rfl, _⟩ := h; rfl) | (obtain ⟨_, _, _, _, _, _, _, _, _, _, _, _, _, _, _, _, _, _, _, rfl, _⟩ := h; rfl)
  · refine ⟨(tSeq (tIfS (tTest (tOp qGt (tOp (rIxL K) (tVar 0) (tC (.int 2))) (tC (.int 0)))) (tSeq (tAsg (tOp (rIxL K) (tVar 0) (tC (.int 2))) (gName 5))
    (tSeq (tAsg (tOp qDiv (tCB qInt1 (tCons (tVar 5) tNil)) (tVar 1)) (gSub (tVar 0) (tC (.int 2)) rSetL))
    (tRet (tOp qMod (tCB qInt1 (tCons (tVar 5) tNil)) (tVar 1))))) tNext)
    (tSeq (tAsg (tOp (rIxL K) (tVar 0) (tC (.int 1))) (gName 2))
    (tSeq (tAsg (tOp qAdd (tVar 2) (tC (.int 1))) (gSub (tVar 0) (tC (.int 1)) rSetL))
    (tSeq (tAsg (tOp qAdd (tOp qMul (tC (.int 35977)) (tVar 2)) (tC (.int 2591))) (gName 3))
    (tSeq (tIfS (tTest (tOp (rNeD K) (tOp (rIxL K) (tVar 0) (tC (.int 0))) (tLst tNil))) (tAsg (tOp (rIxL K) (tOp (rIxL K) (tVar 0) (tC (.int 0))) (tOp qMod (tCB qInt1 (tCons (tVar 2) tNil)) (tCB (Evl.rLenS K) (tCons (tOp (rIxL K) (tVar 0) (tC (.int 0))) tNil)))) (gName 3)) tNext)
    (tSeq (tIfS (tAnd (tTest (tOp qLt (tVar 2) (tCB (Evl.rLenS K) (tCons (tOp (rIxL K) (tVar 0) (tC (.int 0))) tNil)))) (tTest (tOp qGe (tCB qAbs (tCons (tVar 3) tNil)) (tOp qPow (tC (.int 10)) (tC (.int 18)))))) (tSeq (tAsg (tOp qAdd (tOp qMul (tC (.int 2)) (tOp qSub (tCB qAbs (tCons (tVar 3) tNil)) (tOp qPow (tC (.int 10)) (tC (.int 18))))) (tCB qInt1 (tCons (tOp qLt (tVar 3) (tC (.int 0))) tNil))) (gName 5))
    (tSeq (tAsg (tOp qDiv (tCB qInt1 (tCons (tVar 5) tNil)) (tVar 1)) (gSub (tVar 0) (tC (.int 2)) rSetL))
    (tRet (tOp qMod (tCB qInt1 (tCons (tVar 5) tNil)) (tVar 1))))) tNext)
    (tSeq (tAsg (tOp qMod (tCB qInt1 (tCons (tOp qPow (tOp qAdd (tOp qAdd (tOp qMod (tCB qInt1 (tCons (tVar 3) tNil)) (tC (.int 2147483477))) (tOp qMul (tC (.int 55219)) (tVar 2))) (tC (.int 2591))) (tC (.int 5))) tNil)) (tC (.int 2147483647))) (gName 4))
    (tSeq (tAsg (tOp qMod (tCB qInt1 (tCons (tOp qPow (tOp qAdd (tOp qAdd (tOp qMul (tVar 4) (tOp qAdd (tOp qMul (tC (.int 2)) (tVar 2)) (tC (.int 1973)))) (tOp qMul (tOp qMul (tC (.int 35977)) (tVar 2)) (tVar 2))) (tC (.int 55219))) (tC (.int 3))) tNil)) (tC (.int 2147483549))) (gName 4))
    (tRet (tOp qMod (tCB qInt1 (tCons (tOp qDiv (tVar 4) (tC (.int 64))) tNil)) (tVar 1))))))))))),
    (pss_cons (ps_if (pt_cmpR op_gt (pe_ix ix_list (pv 0) pe_int (fun _ _ => rfl)) pe_int (nomark _)) (pss_cons (ps_set (i := 5) scLawDip.nd rfl (Or.inl rfl) (pe_ix ix_list (pv 0) pe_int (fun _ _ => rfl)))
    (pss_cons (ps_asg (pe_op op_fdiv (pe_callTy call_int1 (by rfl) T.f_int (by decide +kernel) (pa_cons (pv 5) pa_nil)) (pv 1)) (pg_sub (pv 0) pe_int set_list))
    (pss_one (ps_ret (pe_op op_mod (pe_callTy call_int1 (by rfl) T.f_int (by decide +kernel) (pa_cons (pv 5) pa_nil)) (pv 1)))))) pss_nil)
    (pss_cons (ps_set (i := 2) scLawDip.nd rfl (Or.inl rfl) (pe_ix ix_list (pv 0) pe_int (fun _ _ => rfl)))
    (pss_cons (ps_asg (pe_op op_add (pv 2) pe_int) (pg_sub (pv 0) pe_int set_list))
    (pss_cons (ps_set (i := 3) scLawDip.nd rfl (Or.inl rfl) (pe_op op_add (pe_op op_mul pe_int (pv 2)) pe_int))
    (pss_cons (ps_if (pt_cmpR (op_neD hr.units) (pe_ix ix_list (pv 0) pe_int (fun _ _ => rfl)) (pe_lst pa_nil) (nomark _)) (pss_one (ps_set (i := 3) scLawDip.nd rfl (Or.inl rfl) (pe_ix ix_list (pe_ix ix_list (pv 0) pe_int (fun _ _ => rfl)) (pe_op op_mod (pe_callTy call_int1 (by rfl) T.f_int (by decide +kernel) (pa_cons (pv 2) pa_nil)) (pe_callB call_len_seq (by rfl) T.f_len (by decide +kernel) (pa_cons (pe_ix ix_list (pv 0) pe_int (fun _ _ => rfl)) pa_nil))) (fun _ _ => rfl)))) pss_nil)
    (pss_cons (ps_if (PW.pt (pw_and (pt_cmpR op_lt (pv 2) (pe_callB call_len_seq (by rfl) T.f_len (by decide +kernel) (pa_cons (pe_ix ix_list (pv 0) pe_int (fun _ _ => rfl)) pa_nil)) (nomark _)) (pw_and1 (pt_cmpR op_ge (pe_callB call_abs (by rfl) T.f_abs (by decide +kernel) (pa_cons (pv 3) pa_nil)) (pe_op op_pow pe_int pe_int) (nomark _))))) (pss_cons (ps_set (i := 5) scLawDip.nd rfl (Or.inl rfl) (pe_op op_add (pe_op op_mul pe_int (pe_op op_sub (pe_callB call_abs (by rfl) T.f_abs (by decide +kernel) (pa_cons (pv 3) pa_nil)) (pe_op op_pow pe_int pe_int))) (pe_callTy call_int1 (by rfl) T.f_int (by decide +kernel) (pa_cons (pe_cmpR op_lt (pv 3) pe_int (nomark _)) pa_nil))))
    (pss_cons (ps_asg (pe_op op_fdiv (pe_callTy call_int1 (by rfl) T.f_int (by decide +kernel) (pa_cons (pv 5) pa_nil)) (pv 1)) (pg_sub (pv 0) pe_int set_list))
    (pss_one (ps_ret (pe_op op_mod (pe_callTy call_int1 (by rfl) T.f_int (by decide +kernel) (pa_cons (pv 5) pa_nil)) (pv 1)))))) pss_nil)
    (pss_cons (ps_set (i := 4) scLawDip.nd rfl (Or.inl rfl) (pe_op op_mod (pe_callTy call_int1 (by rfl) T.f_int (by decide +kernel) (pa_cons (pe_op op_pow (pe_op op_add (pe_op op_add (pe_op op_mod (pe_callTy call_int1 (by rfl) T.f_int (by decide +kernel) (pa_cons (pv 3) pa_nil)) pe_int) (pe_op op_mul pe_int (pv 2))) pe_int) pe_int) pa_nil)) pe_int))
    (pss_cons (ps_set (i := 4) scLawDip.nd rfl (Or.inl rfl) (pe_op op_mod (pe_callTy call_int1 (by rfl) T.f_int (by decide +kernel) (pa_cons (pe_op op_pow (pe_op op_add (pe_op op_add (pe_op op_mul (pv 4) (pe_op op_add (pe_op op_mul pe_int (pv 2)) pe_int)) (pe_op op_mul (pe_op op_mul pe_int (pv 2)) (pv 2))) pe_int) pe_int) pa_nil)) pe_int))
    (pss_one (ps_ret (pe_op op_mod (pe_callTy call_int1 (by rfl) T.f_int (by decide +kernel) (pa_cons (pe_op op_fdiv (pv 4) pe_int) pa_nil)) (pv 1)))))))))))), ?_⟩
    obtain ⟨p, cl, n, m, rfl, ⟨cells, turn, rest, h1, h2, h3, h4, h5⟩, hn, hm0, hm1, q⟩ := h
    have hcl : del H p cl = some (.lst (cells.map V.int)) := by
      rw [del_ne (Ne.symm h5)]
      exact h2
    walk_at "go"
    refine r_ixL (k := 2) h1 rfl ?_
    walk_at "go"
    by_cases hr : 0 < rest
    · refine r_dT hr ?_
      walk_at "go"
      refine r_ixL (k := 2) h1 rfl ?_
      walk_at "go"
      refine r_I ?_ (cdiv (by omega) (by omega))
      refine r_gSub ?_
      walk_at "go"
      refine ⟨p, _, 2, 2, rfl, rfl, h1, rfl, ?_⟩
      walk_at "go"
      refine r_I ?_ (by omega)
      obtain ⟨v, ev, hv⟩ := modN (i := rest) hm0
      rw [ev]
      exact q v _ hv (Same.mut del_le del_same) ⟨cells, turn, _, upd_same, by rw [upd_ne (Ne.symm h5)]; exact h2, h3, by omega, h5⟩
    · refine r_dF hr ?_
      walk_at "go"
      refine r_ixL (k := 1) h1 rfl ?_
      walk_at "go"
      refine r_gSub ?_
      walk_at "go"
      refine ⟨p, _, 1, 1, rfl, rfl, h1, rfl, ?_⟩
      have g1 : upd H p (.lst ([V.ref cl, .int (turn : Int), .int rest].set 1 (.int ((turn : Int) + 1)))) p = some (.lst [.ref cl, .int ((turn + 1 : Nat) : Int), .int rest]) := upd_same
      have s1 : Same (del H p) (upd H p (.lst ([V.ref cl, .int (turn : Int), .int rest].set 1 (.int ((turn : Int) + 1))))) := Same.mut del_le del_same
      generalize upd H p (.lst ([V.ref cl, .int (turn : Int), .int rest].set 1 (.int ((turn : Int) + 1)))) = H1 at g1 s1 ⊢
      have c1 := s1 _ _ hcl
      walk_at "go"
      refine r_I ?_ (cint (by decide) (by decide))
      walk_at "go"
      refine r_ixL (k := 0) g1 rfl ?_
      walk_at "go"
      refine ⟨by simp [sizeLine_eq], fun em hem => ?_⟩
      have sE := Same.new (o := .lst []) hem
      refine r_neD (d := .list (dI cells)) (e := .list []) (.lst (sE _ _ c1) (RpA.ints cells)) (.lst upd_same .nil) ((shp_lst (shp_map shp_int cells)).sh (by decide)) ((shp_lst (ds := []) (n := 0) (fun _ z => (nomatch z))).sh (by decide)) ?_
      rw [eqv_nilL]
      have s2 := s1.trans sE
      have g2 := sE _ _ g1
      have c2 := sE _ _ c1
      generalize upd H1 em (.lst []) = H2 at s2 g2 c2 ⊢
      -- behind the cell: the rest, whatever the cell is
      have tail : ∀ (cell : Int) (v4 v5 : Option V), (tSeq (tIfS (tAnd (tTest (tOp qLt (tVar 2) (tCB (Evl.rLenS K) (tCons (tOp (rIxL K) (tVar 0) (tC (.int 0))) tNil)))) (tTest (tOp qGe (tCB qAbs (tCons (tVar 3) tNil)) (tOp qPow (tC (.int 10)) (tC (.int 18)))))) (tSeq (tAsg (tOp qAdd (tOp qMul (tC (.int 2)) (tOp qSub (tCB qAbs (tCons (tVar 3) tNil)) (tOp qPow (tC (.int 10)) (tC (.int 18))))) (tCB qInt1 (tCons (tOp qLt (tVar 3) (tC (.int 0))) tNil))) (gName 5))
          (tSeq (tAsg (tOp qDiv (tCB qInt1 (tCons (tVar 5) tNil)) (tVar 1)) (gSub (tVar 0) (tC (.int 2)) rSetL))
          (tRet (tOp qMod (tCB qInt1 (tCons (tVar 5) tNil)) (tVar 1))))) tNext)
          (tSeq (tAsg (tOp qMod (tCB qInt1 (tCons (tOp qPow (tOp qAdd (tOp qAdd (tOp qMod (tCB qInt1 (tCons (tVar 3) tNil)) (tC (.int 2147483477))) (tOp qMul (tC (.int 55219)) (tVar 2))) (tC (.int 2591))) (tC (.int 5))) tNil)) (tC (.int 2147483647))) (gName 4))
          (tSeq (tAsg (tOp qMod (tCB qInt1 (tCons (tOp qPow (tOp qAdd (tOp qAdd (tOp qMul (tVar 4) (tOp qAdd (tOp qMul (tC (.int 2)) (tVar 2)) (tC (.int 1973)))) (tOp qMul (tOp qMul (tC (.int 35977)) (tVar 2)) (tVar 2))) (tC (.int 55219))) (tC (.int 3))) tNil)) (tC (.int 2147483549))) (gName 4))
          (tRet (tOp qMod (tCB qInt1 (tCons (tOp qDiv (tVar 4) (tC (.int 64))) tNil)) (tVar 1))))) : TS) { nx := fun _ H' => Q .non H', rt := Q } [some (.ref p), some (.int (m : Int)), some (.int (turn : Int)), some (.int cell), v4, v5] H2 := by
        intro cell v4 v5
        have low : (tSeq (tAsg (tOp qMod (tCB qInt1 (tCons (tOp qPow (tOp qAdd (tOp qAdd (tOp qMod (tCB qInt1 (tCons (tVar 3) tNil)) (tC (.int 2147483477))) (tOp qMul (tC (.int 55219)) (tVar 2))) (tC (.int 2591))) (tC (.int 5))) tNil)) (tC (.int 2147483647))) (gName 4))
          (tSeq (tAsg (tOp qMod (tCB qInt1 (tCons (tOp qPow (tOp qAdd (tOp qAdd (tOp qMul (tVar 4) (tOp qAdd (tOp qMul (tC (.int 2)) (tVar 2)) (tC (.int 1973)))) (tOp qMul (tOp qMul (tC (.int 35977)) (tVar 2)) (tVar 2))) (tC (.int 55219))) (tC (.int 3))) tNil)) (tC (.int 2147483549))) (gName 4))
          (tRet (tOp qMod (tCB qInt1 (tCons (tOp qDiv (tVar 4) (tC (.int 64))) tNil)) (tVar 1)))) : TS) { nx := fun _ H' => Q .non H', rt := Q } [some (.ref p), some (.int (m : Int)), some (.int (turn : Int)), some (.int cell), v4, v5] H2 := by
          have b1 := Int.emod_nonneg cell (b := 2147483477) (by decide)
          have b2 := Int.emod_lt_of_pos cell (b := 2147483477) (by decide)
          walk_at "go"
          refine r_I ?_ (by decide)
          walk_at "go"
          refine r_I ?_ (cint (by decide) (by decide))
          walk_at "go"
          refine r_I ?_ ⟨by decide, by decide, by omega⟩
          walk_at "go"
          refine r_I ?_ (by decide)
          generalize hX : (cell % 2147483477 + 55219 * (turn : Int) + 2591) ^ (5 : Int).toNat = X
          have b3 := Int.emod_nonneg X (b := 2147483647) (by decide)
          have b4 := Int.emod_lt_of_pos X (b := 2147483647) (by decide)
          generalize X % 2147483647 = Y at b3 b4 ⊢
          walk_at "go"
          refine r_I ?_ (cint (by decide) (by decide))
          walk_at "go"
          refine r_I ?_ (cint (by omega) (by omega))
          walk_at "go"
          refine r_I ?_ (cint (by decide) (by decide))
          walk_at "go"
          refine r_I ?_ (cint2 (by omega) (by omega))
          walk_at "go"
          have hb : (Y * (2 * (turn : Int) + 1973) + 35977 * (turn : Int) * (turn : Int) + 55219).natAbs < 2 ^ 64 := by
            have c1 : Y * (2 * (turn : Int) + 1973) ≤ 2147483647 * 4000 := Int.mul_le_mul (by omega) (by omega) (by omega) (by omega)
            have c0 : 0 ≤ Y * (2 * (turn : Int) + 1973) := Int.mul_nonneg b3 (by omega)
            have d1 : 35977 * (turn : Int) * (turn : Int) ≤ 35977000 * 1000 := Int.mul_le_mul (by omega) (by omega) (by omega) (by omega)
            have d0 : 0 ≤ 35977 * (turn : Int) * (turn : Int) := Int.mul_nonneg (by omega) (by omega)
            omega
          refine r_I ?_ ⟨by decide, by decide, hb⟩
          walk_at "go"
          refine r_I ?_ (by decide)
          walk_at "go"
          refine r_I ?_ ⟨by decide, by decide⟩
          walk_at "go"
          refine r_I ?_ (by omega)
          obtain ⟨v, ev, hv⟩ := modN (i := ((Y * (2 * (turn : Int) + 1973) + 35977 * (turn : Int) * (turn : Int) + 55219) ^ (3 : Int).toNat % 2147483549) / 64) hm0
          rw [ev]
          exact q v _ hv s2 ⟨cells, turn + 1, rest, g2, c2, h3, by omega, h5⟩
        walk_at "go"
        refine r_ixL (k := 0) g2 rfl ?_
        walk_at "go"
        refine r_lenL c2 ?_
        walk_at "go"
        by_cases hl : (turn : Int) < ((cells.map V.int).length : Int)
        · refine r_dT hl ?_
          walk_at "go"
          refine r_I ?_ ⟨by decide, by decide, by decide⟩
          walk_at "go"
          refine r_2 (fun _ => ?_) (fun _ => ?_)
          · walk_at "go"
            refine r_I ?_ ⟨by decide, by decide, by decide⟩
            walk_at "go"
            refine r_I ?_ (cint (by decide) (by decide))
            walk_at "go"
            refine r_I ?_ (cdiv (by omega) (by omega))
            refine r_gSub ?_
            walk_at "go"
            refine ⟨p, _, 2, 2, rfl, rfl, g2, rfl, ?_⟩
            walk_at "go"
            refine r_I ?_ (by omega)
            obtain ⟨v, ev, hv⟩ := modN (i := 2 * ((if cell < 0 then -cell else cell) - (10 : Int) ^ (18 : Int).toNat) + (if decide (cell < 0) = true then 1 else 0)) hm0
            rw [ev]
            refine q v _ hv (Same.mut s2 del_same) ⟨cells, turn + 1, _, upd_same, ?_, h3, by omega, h5⟩
            rw [upd_ne (Ne.symm h5)]
            exact c2
          · exact low
        · refine r_dF hl ?_
          exact low
      by_cases hc : dI cells = []
      · rw [decide_eq_true hc]
        refine r_bl ?_
        refine r_nT ?_
        exact tail _ _ _
      · rw [decide_eq_false hc]
        walk_at "go"
        have hcl0 : 0 < cells.length := by
          cases cells with
          | nil => exact absurd rfl hc
          | cons => exact Nat.succ_pos _
        refine r_ixL (k := 0) g2 rfl ?_
        walk_at "go"
        refine r_ixL (k := 0) g2 rfl ?_
        walk_at "go"
        refine r_lenL c2 ?_
        walk_at "go"
        rw [List.length_map]
        refine r_I ?_ (by omega)
        obtain ⟨v, ev, hv⟩ := modN (i := (turn : Int)) hcl0
        rw [ev]
        refine r_ixL c2 (v := .int cells[v]) (by rw [List.getElem?_map, List.getElem?_eq_getElem hv]; rfl) ?_
        exact tail _ _ _
end

end TW

set_option Elab.async false
set_option linter.all false
set_option maxRecDepth 100000
set_option maxHeartbeats 4000000
namespace TW
open PySem PySem.Spec PyProof.Rows L2
local macro_rules | `(tactic| walk_at "st0") => `(tactic| with_reducible (first | refine r_seq ?_ | refine r_next ?_ | refine r_ret ?_ | refine r_retN ?_ | refine r_drop ?_ | refine r_asg ?_ | refine r_if ?_ | refine r_gName ?_ | refine r_par ?_ | refine r_c ?_ | refine r_cons ?_ | refine r_nil ?_ | refine r_op ?_ | refine r_CB ?_ | refine r_andV ?_ | refine r_orV ?_ | refine r_notV ?_ | refine r_tIf ?_ | refine r_B ?_ | refine r_Test ?_ | refine r_and ?_ | refine r_or ?_ | refine r_not ?_ | refine r_yes ?_ | refine r_bl ?_ | refine r_T ?_ | refine r_F ?_ | refine r_nT ?_ | refine r_nF ?_ | refine r_I0 ?_ | refine r_eqI ?_ | refine r_neI ?_ | refine r_eqB ?_ | refine r_neB ?_ | refine r_isN0 ?_ | refine r_isN1 ?_ | refine r_isN2 ?_ | refine r_notN0 ?_ | refine r_notN1 ?_ | refine r_notN2 ?_ | refine r_isNo ?_ | refine r_notNo ?_ | refine r_fld ?_ | refine r_sfld ?_ | refine r_tup ?_ | refine r_lst ?_ | refine r_call ?_ | refine r_make ?_ | refine r_sl ?_ | refine r_part ?_ | refine r_noPart ?_ | refine r_iList ?_ | refine r_iTup ?_ | refine r_iRng1 ?_ | refine r_iEnum ?_ | refine r_int1 ?_ | refine r_intB ?_ | refine r_abs ?_ | refine r_bm ?_ | refine r_lc ?_ | refine r_for ?_))
local macro_rules | `(tactic| walk_at "st") => `(tactic| first | walk_at "st0" | ((with_reducible refine' r_var ?e ?_); (case e => exact rfl)) | ((with_reducible refine' r_fldG ?e1 ?e2 ?e3 ?e4 ?_); (case e1 => assumption); (case e2 => assumption); (case e3 => assumption); (case e4 => exact rfl)) | ((with_reducible refine' r_isC ?e ?_); (case e => assumption)) | dsimp only)
local macro_rules | `(tactic| walk_at "go") => `(tactic| repeat (walk_at "st"))
section
variable {P : Program} {w : World} {K : PySem.W.Frag} {mg : Str → Option Value} {base : Heap} {B : Adr}
/-- what is new -/
def dif (H H' : Hp) : Hp := fun b => if H b = none then H' b else none
theorem dif_le {H H' : Hp} : Same (dif H H') H' := fun b o h => by
  unfold dif at h
  split at h
  · exact h
  · cases h
theorem dif_up {H H1 H2 : Hp} (s : Same H1 H2) : Same (dif H H1) (dif H H2) := fun b o h => by
  unfold dif at h ⊢
  split at h
  · rename_i e
    rw [if_pos e]
    exact s _ _ h
  · cases h
theorem dif_dn {H H1 H2 : Hp} (s : Same H H1) : Same (dif H1 H2) (dif H H2) := fun b o h => by
  unfold dif at h ⊢
  split at h
  · rename_i e
    have e0 : H b = none := by
      cases q : H b with
      | none => rfl
      | some u =>
        rw [s _ _ q] at e
        cases e
    rw [if_pos e0]
    exact h
  · cases h
theorem dif_at {H H' : Hp} {b : Addr} (e : H b = none) : dif H H' b = H' b := if_pos e
theorem dif_del {H H' : Hp} {p : Addr} {o : HO} (e : H p = some o) : Same (dif H H') (del H' p) := fun b u h => by
  have hb : b ≠ p := by
    rintro rfl
    unfold dif at h
    rw [e, if_neg (by intro z; cases z)] at h
    cases h
  rw [del_ne hb]
  exact dif_le _ _ h
/-- an expression that lays a datum, all of it new -/
def Bld (te : TE) (σ : L2.St) (d : PyData) : Prop := ∀ H Q, (∀ v H', Same H H' → Rp (dif H H') v d → Q v H') → te σ H Q
def BldA (ta : TA) (σ : L2.St) (ds : List PyData) : Prop := ∀ H Q, (∀ vs H', Same H H' → RpA (dif H H') vs ds → Q vs H') → ta σ H Q
theorem bld_int {σ : L2.St} {i : Int} : Bld (tC (.int i)) σ (.int i) := fun _ _ h => h _ _ (Same.refl _) (.int i)
theorem bld_non {σ : L2.St} : Bld (tC .non) σ .none := fun _ _ h => h _ _ (Same.refl _) .non
theorem bld_nil {σ : L2.St} : BldA tNil σ [] := fun _ _ h => h _ _ (Same.refl _) .nil
theorem bld_cons {σ : L2.St} {te : TE} {tr : TA} {d : PyData} {ds : List PyData} (h1 : Bld te σ d) (h2 : BldA tr σ ds) : BldA (tCons te tr) σ (d :: ds) := fun H Q h => h1 H _ fun x H1 s1 r1 => h2 H1 _ fun xs H2 s2 r2 => h _ _ (s1.trans s2) (.cons (r1.up (dif_up s2)) (r2.up (dif_dn s1)))
theorem dif_new {H H1 : Hp} {p : Addr} {o : HO} (s : Same H H1) (hp : H1 p = none) : dif H (upd H1 p o) p = some o := by
  have e0 : H p = none := by
    cases q : H p with
    | none => rfl
    | some u =>
      rw [s _ _ q] at hp
      cases hp
  rw [dif_at e0]
  exact upd_same
theorem bld_tup {σ : L2.St} {ta : TA} {ds : List PyData} (h1 : BldA ta σ ds) (l : ds.length ≤ 100) : Bld (tTup ta) σ (.tuple ds) := fun H Q h => h1 H _ fun xs H1 s1 r1 => ⟨by rw [r1.len]; exact szL (by omega), fun p hp => h _ _ (s1.trans (Same.new hp)) (.tup (dif_new s1 hp) (r1.up (dif_up (Same.new hp))))⟩
theorem bld_lst {σ : L2.St} {ta : TA} {ds : List PyData} (h1 : BldA ta σ ds) (l : ds.length ≤ 100) : Bld (tLst ta) σ (.list ds) := fun H Q h => h1 H _ fun xs H1 s1 r1 => ⟨by rw [r1.len]; exact szL (by omega), fun p hp => h _ _ (s1.trans (Same.new hp)) (.lst (dif_new s1 hp) (r1.up (dif_up (Same.new hp))))⟩
/-- data without lists stand in what is left without lists -/
theorem rp_delN {H : Hp} {p : Addr} {pv : List V} (h2 : H p = some (.lst pv)) (d : PyData) (v : V) (nl : noL d = true) (h : Rp H v d) : Rp (del H p) v d := by
  have key : ∀ H2 : Hp, (∀ (a : Addr) (xs : List V), H a = some (.tup xs) → H2 a = some (.tup xs)) → ∀ (d : PyData) (v : V), Rp H v d → noL d = true → Rp H2 v d := by
    intro H2 k d v h
    exact Rp.rec (motive_1 := fun v d _ => noL d = true → Rp H2 v d) (motive_2 := fun vs ds _ => noLs ds = true → RpA H2 vs ds) (fun _ => .non) (fun b _ => .bl b) (fun i _ => .int i) (fun x _ => .str x)
      (fun _ _ _ n => by rw [noL] at n; cases n) (fun h1 _ ih n => .tup (k _ _ h1) (ih (by rw [noL] at n; exact n))) (fun _ => .nil) (fun _ _ i1 i2 n => by
        rw [noLs] at n
        obtain ⟨n1, n2⟩ := Bool.and_eq_true_iff.mp n
        exact .cons (i1 n1) (i2 n2)) h
  exact key _ (fun a xs h => by rw [del_ne (ne_of h h2 (by intro z; cases z))]; exact h) d v h nl
theorem rpA_delN {H : Hp} {p : Addr} {pv : List V} (h2 : H p = some (.lst pv)) : ∀ (ds : List PyData) (vs : List V), noLs ds = true → RpA H vs ds → RpA (del H p) vs ds
  | [], _, _, h => by
    cases h
    exact .nil
  | d :: ds, _, n, h => by
    cases h with
    | cons h1 h3 =>
      rw [noLs] at n
      obtain ⟨n1, n2⟩ := Bool.and_eq_true_iff.mp n
      exact .cons (rp_delN h2 d _ n1 h1) (rpA_delN h2 ds _ n2 h3)
/-- a loop with any target -/
theorem for_g {J : It} {n : Nat} {G : Hp → Prop} {Y : Nat → Hp → V → Hp → Prop} {g : TG} {ts : TS} {σ : L2.St} {H : Hp} {Yv : Nat → V → Prop} {NX : L2.St → Hp → Prop} {RT : VK} (w : Walk J n G Y) (hY : ∀ i H x H', Y i H x H' → H' = H ∧ Yv i x) (Pv : Nat → L2.St → Hp → Prop) (h0 : Pv 0 σ H) (hG : ∀ i σ H, i ≤ n → Pv i σ H → G H)
    (hs : ∀ i x σ H, i < n → Pv i σ H → Yv i x → g x σ H fun σ2 H2 => ts { nx := Pv (i + 1), rt := RT, bk := NX, ct := Pv (i + 1) } σ2 H2) (hd : ∀ σ H, Pv n σ H → NX σ H) :
    ∃ W : Nat → Nat → L2.St → Hp → Prop, (∃ m, W 0 m σ H) ∧ ∀ i m σ H, W i m σ H →
      (J.stop i H ∧ NX σ H) ∨ (J.go i H ∧ ∃ N : L2.St → Hp → Prop, (∀ σ' H', N σ' H' → ∃ m', m' < m ∧ W (i + 1) m' σ' H') ∧ ∀ x H', J.yld i H x H' → g x σ H' fun σ2 H2 => ts { nx := N, rt := RT, bk := NX, ct := N } σ2 H2) :=
  for_it (D := { nx := NX, rt := RT }) w Pv h0 hG (fun i x σ H H' hi p hy => by
    obtain ⟨rfl, yv⟩ := hY _ _ _ _ hy
    exact hs i x σ _ hi p yv) hd
theorem r_gTrip {j k l : Nat} {σ : L2.St} {H : Hp} {T : Addr} {x y z : V} {QS : L2.St → Hp → Prop} (e : H T = some (.tup [x, y, z])) (q : QS (((σ.set j (some x)).set k (some y)).set l (some z)) H) : gTup K 3 (gCons (gName j) (gCons (gName k) (gCons (gName l) gNil))) (.ref T) σ H QS :=
  ⟨T, _, rfl, SqT.of e, rfl, x, _, rfl, y, _, rfl, z, [], rfl, rfl, q⟩
def spLawPot (K : PySem.W.Frag) : Sp := fun vs H Q _ => ∃ (a : Nat) (xs : List Int), vs = [.ref a] ∧ SqL K H a (xs.map V.int) ∧ ∀ p cl H', Same H H' → H p = none → PotAt H' p cl 0 → Q (.ref p) H'
theorem sqL_up {H H' : Hp} {a : Addr} {xs : List V} (h : SqL K H a xs) (s : Same H H') : SqL K H' a xs := by
  rcases h with h | h
  · refine .inl ?_
    rcases h with h | ⟨o, h⟩
    · exact .inl (s _ _ h)
    · exact .inr ⟨o, s _ _ h⟩
  · exact .inr h
theorem ok__law_pot (T : Tx K mg B) : C8.Cal P w K mg base 1 "_law_pot" (spLawPot K) [] := by
  refine cal_of T.d_law_pot scLawPot (fun _ _ _ _ _ _ us hl => match us, hl with | [_], _ => rfl) (fun vs H Q E h => ?_) (fun f cdv AA outer s H vs Q E hr h => ?_)
  · first | (obtain ⟨_, rfl, _⟩ := h; rfl) | (obtain ⟨_, _, rfl, _⟩ := h; rfl) | (obtain ⟨_, _, _, rfl, _⟩ := h; rfl) | (obtain ⟨_, _, _, _, rfl, _⟩ := h; rfl) | (obtain ⟨_, _, _, _, _, rfl, _⟩ := h; rfl) | (obtain ⟨_, _, _, _, _, _, rfl, _⟩ := h; rfl) | (obtain ⟨_, _, _, _, _, _, _, rfl, _⟩ := h; rfl) | (obtain ⟨_, _, _, _, _, _, _, _, rfl, _⟩ := h; rfl) | (obtain ⟨_, _, _, _, _, _, _, _, _, rfl, _⟩ := h; rfl) | (obtain ⟨_, _, _, _, _, _, _, _, _, _, rfl, _⟩ := h; rfl) | (obtain ⟨_, _, _, _, _, _, _, _, _, _, _, rfl, _⟩ := h; rfl) | (obtain ⟨_, _, _, _, _, _, _, _, _, _, _, _, rfl, _⟩ := h; rfl) | (obtain ⟨_, _, _, _, _, _, _, _, _, _, _, _, _, rfl, _⟩ := h; rfl) | (obtain ⟨_, _, _, _, _, _, _, _, _, _, _, _, _, _, rfl, _⟩ := h; rfl) | (obtain ⟨_, _, _, _, _, _, _, _, _, _, _, _, _, _, _, rfl, _⟩ := h; rfl) | (obtain ⟨_, _, _, _, _, _, _, _, _, _, _, _, _, _, _, _, rfl, _⟩ := h; rfl) | (obtain ⟨_, _, _, _, _, _, _, _, _, _, _, _, _, _, _, _, _, rfl, _⟩ := h; rfl) | (obtain ⟨_, _, _, _, _, _, _, _, _, _, _, _, _, _, _, _, _, _, rfl, _⟩ := h; rfl) | (obtain ⟨_, _, _, _, _, _, _, _, _, _, _, _, _, _, _, _, _, _, _, rfl, _⟩ := h; rfl)
  · refine ⟨(tRet (tLst (tCons (tLc (iList K (tSl (rSlL K) (tVar 0) tNoPart (tPart (tC (.int 62))))) (gName 1) tYes (tCB qInt1 (tCons (tVar 1) tNil)) [1]) (tCons (tC (.int 0)) (tCons (tC (.int 0)) tNil))))),
    (pss_one (ps_ret (pe_lst (pa_cons (pe_lc (own := [("_law_cell", 1)]) (g := (gName 1)) (tt := tYes) (te := (tCB qInt1 (tCons (tVar 1) tNil))) rfl scLawPot.nd (pi_list (pe_slice sl_list (pv 0) po_none (po_some pe_int))) (blkOk_by (own := [("_law_cell", 1)]) (N := nLawPot) (sc := defScope sLawPot) (by decide +kernel)) (fun _ _ _ _ _ => (pg_name (i := 1) scLawPot.nd rfl (Or.inl rfl))) (fun _ _ _ _ _ => pts_nil) (fun _ _ _ _ _ => (pe_callTy call_int1 (by rfl) T.f_int (by decide +kernel) (pa_cons (pv 1) pa_nil)))) (pa_cons pe_int (pa_cons pe_int pa_nil)))))), ?_⟩
    obtain ⟨a, xs, rfl, ha, q⟩ := h
    walk_at "go"
    refine ⟨_, rfl, ?_⟩
    walk_at "go"
    refine ⟨a, _, rfl, ha, fun c hc => ?_⟩
    have ec : cutV (xs.map V.int) none (some 62) = (xs.take 62).map V.int := by
      unfold cutV
      rw [show (62 : Int) = ((62 : Nat) : Int) from rfl, HT.sIx_nat, HT.sIx_none, List.drop_zero, Nat.sub_zero, List.map_take, List.length_map]
      by_cases h : 62 ≤ xs.length
      · rw [Nat.min_eq_left h]
      · rw [Nat.min_eq_right (by omega), List.take_of_length_le (by rw [List.length_map]; exact Nat.le_refl _), List.take_of_length_le (by rw [List.length_map]; omega)]
    rw [ec]
    have s1 := Same.new (o := .lst ((xs.take 62).map V.int)) hc
    have hl : (xs.take 62).length ≤ 62 := by
      rw [List.length_take]
      exact Nat.min_le_left _ _
    refine ⟨c, rfl, ⟨_, SqL.of upd_same⟩, fun Dl hD => lc_1 walk_list yAt hD (fun i v _ => v = .int ((xs.take 62).getD i 0)) ri_m ri_l (by rw [List.length_map]; omega) (fun H s => SqL.of (s _ _ upd_same)) (fun x => rfl) (fun i y H5 Q5 hi s5 hy q5 => ?_) fun H5 ys s5 hl5 aa => ?_⟩
    · obtain ⟨x, hx, rfl⟩ := map_get hy
      walk_at "go"
      exact q5 _ _ (Same.refl _) (by rw [getD_of hx])
    · have e := aa.eqs (f := fun i => V.int ((xs.take 62).getD i 0))
      rw [List.length_map] at e
      have e2 : ys = (xs.take 62).map V.int := by
        rw [e]
        exact map_range_get (f := V.int) 0 rfl
      rw [e2] at hl5
      walk_at "go"
      refine ⟨by simp [sizeLine_eq], fun p hp => ?_⟩
      have s7 := Same.new (o := .lst [.ref Dl, .int 0, .int 0]) hp
      refine q p Dl _ ((s1.trans s5).trans s7) (Same.none (s1.trans s5) hp) ⟨_, 0, 0, upd_same, s7 _ _ hl5, by omega, Nat.le_refl _, Ne.symm (ne_of_none hl5 hp)⟩
def spLawOut : Sp := fun vs H Q _ => ∃ (p cl n a : Nat) (ns : List Int), vs = [.ref p, .ref a] ∧ PotAt H p cl n ∧ n ≤ 1000 ∧ H a = some (.lst (ns.map V.int)) ∧ a ≠ p ∧ 0 < ns.length ∧ ns.length ≤ 100 ∧ ∀ x H', x ∈ ns → Same (del H p) H' → PotAt H' p cl (n + 1) → Q (.int x) H'
theorem ok__law_out (T : Tx K mg B) : C8.Cal P w K mg base 2 "_law_out" spLawOut [] := by
  have c__law_dip := ok__law_dip (P := P) (w := w) (base := base) T
  refine cal_of T.d_law_out scLawOut (fun _ _ _ _ _ _ us hl => match us, hl with | [_, _], _ => rfl) (fun vs H Q E h => ?_) (fun f cdv AA outer s H vs Q E hr h => ?_)
  · first | (obtain ⟨_, rfl, _⟩ := h; rfl) | (obtain ⟨_, _, rfl, _⟩ := h; rfl) | (obtain ⟨_, _, _, rfl, _⟩ := h; rfl) | (obtain ⟨_, _, _, _, rfl, _⟩ := h; rfl) | (obtain ⟨_, _, _, _, _, rfl, _⟩ := h; rfl) | (obtain ⟨_, _, _, _, _, _, rfl, _⟩ := h; rfl) | (obtain ⟨_, _, _, _, _, _, _, rfl, _⟩ := h; rfl) | (obtain ⟨_, _, _, _, _, _, _, _, rfl, _⟩ := h; rfl) | (obtain ⟨_, _, _, _, _, _, _, _, _, rfl, _⟩ := h; rfl) | (obtain ⟨_, _, _, _, _, _, _, _, _, _, rfl, _⟩ := h; rfl) | (obtain ⟨_, _, _, _, _, _, _, _, _, _, _, rfl, _⟩ := h; rfl) | (obtain ⟨_, _, _, _, _, _, _, _, _, _, _, _, rfl, _⟩ := h; rfl) | (obtain ⟨_, _, _, _, _, _, _, _, _, _, _, _, _, rfl, _⟩ := h; rfl) | (obtain ⟨_, _, _, _, _, _, _, _, _, _, _, _, _, _, rfl, _⟩ := h; rfl) | (obtain ⟨_, _, _, _, _, _, _, _, _, _, _, _, _, _, _, rfl, _⟩ := h; rfl) | (obtain ⟨_, _, _, _, _, _, _, _, _, _, _, _, _, _, _, _, rfl, _⟩ := h; rfl) | (obtain ⟨_, _, _, _, _, _, _, _, _, _, _, _, _, _, _, _, _, rfl, _⟩ := h; rfl) | (obtain ⟨_, _, _, _, _, _, _, _, _, _, _, _, _, _, _, _, _, _, rfl, _⟩ := h; rfl) | (obtain ⟨_, _, _, _, _, _, _, _, _, _, _, _, _, _, _, _, _, _, _, rfl, _⟩ := h; rfl)
  · refine ⟨(tRet (tOp (rIxL K) (tVar 1) (tCall spLawDip [] C8.E0 (tCons (tVar 0) (tCons (tCB (Evl.rLenS K) (tCons (tVar 1) tNil)) tNil))))),
    (pss_one (ps_ret (pe_ix ix_list (pv 1) (C8.pe_c c__law_dip hr (by decide) rfl (pa_cons (pv 0) (pa_cons (pe_callB call_len_seq (by rfl) T.f_len (by decide +kernel) (pa_cons (pv 1) pa_nil)) pa_nil))) (fun _ _ => rfl)))), ?_⟩
    obtain ⟨p, cl, n, a, ns, rfl, hp, hn, ha, hne, l0, l1, q⟩ := h
    walk_at "go"
    refine r_lenL ha ?_
    walk_at "go"
    rw [List.length_map]
    refine ⟨p, cl, n, ns.length, rfl, hp, hn, l0, by omega, fun v H1 hv s1 hp1 => ?_⟩
    walk_at "go"
    have ha1 : H1 a = some (.lst (ns.map V.int)) := s1 _ _ (by rw [del_ne hne]; exact ha)
    refine r_ixL ha1 (v := .int ns[v]) (by rw [List.getElem?_map, List.getElem?_eq_getElem hv]; rfl) ?_
    exact q _ _ (List.getElem_mem hv) s1 hp1
def spD (h i : Nat) : PyData := .tuple [.int ((i / (h * h) : Nat) : Int), .int ((i / h % h : Nat) : Int), .int ((i % h : Nat) : Int)]
theorem spD_at {h w t o : Nat} (ht : t < h) (ho : o < h) : spD h ((w * h + t) * h + o) = .tuple [.int (w : Int), .int (t : Int), .int (o : Int)] := by
  have hh : 0 < h := by omega
  have e1 : ((w * h + t) * h + o) / h = w * h + t := by
    rw [Nat.mul_comm, Nat.mul_add_div hh, Nat.div_eq_of_lt ho, Nat.add_zero]
  have e2 : ((w * h + t) * h + o) % h = o := by
    rw [Nat.mul_comm, Nat.mul_add_mod, Nat.mod_eq_of_lt ho]
  have e3 : (w * h + t) / h = w := by
    rw [Nat.mul_comm, Nat.mul_add_div hh, Nat.div_eq_of_lt ht, Nat.add_zero]
  have e4 : (w * h + t) % h = t := by
    rw [Nat.mul_comm, Nat.mul_add_mod, Nat.mod_eq_of_lt ht]
  unfold spD
  rw [← Nat.div_div_eq_div_mul, e1, e2, e3, e4]
theorem noL_sp (h i : Nat) : noL (spD h i) = true := rfl
def spLawSpots : Sp := fun vs H Q _ => ∃ (ans heaps : Nat), vs = [.int (ans : Int), .int (heaps : Int)] ∧ ans ≤ 4 ∧ heaps ≤ 3 ∧ ∀ r H', Same H H' → H r = none → Rp H' (.ref r) (.list ((List.range (ans * heaps * heaps)).map (spD heaps))) → Q (.ref r) H'
theorem ok__law_spots (T : Tx K mg B) : C8.Cal P w K mg base 1 "_law_spots" spLawSpots [] := by
  refine cal_of T.d_law_spots scLawSpots (fun _ _ _ _ _ _ us hl => match us, hl with | [_, _], _ => rfl) (fun vs H Q E h => ?_) (fun f cdv AA outer s H vs Q E hr h => ?_)
  · first | (obtain ⟨_, rfl, _⟩ := h; rfl) | (obtain ⟨_, _, rfl, _⟩ := h; rfl) | (obtain ⟨_, _, _, rfl, _⟩ := h; rfl) | (obtain ⟨_, _, _, _, rfl, _⟩ := h; rfl) | (obtain ⟨_, _, _, _, _, rfl, _⟩ := h; rfl) | (obtain ⟨_, _, _, _, _, _, rfl, _⟩ := h; rfl) | (obtain ⟨_, _, _, _, _, _, _, rfl, _⟩ := h; rfl) | (obtain ⟨_, _, _, _, _, _, _, _, rfl, _⟩ := h; rfl) | (obtain ⟨_, _, _, _, _, _, _, _, _, rfl, _⟩ := h; rfl) | (obtain ⟨_, _, _, _, _, _, _, _, _, _, rfl, _⟩ := h; rfl) | (obtain ⟨_, _, _, _, _, _, _, _, _, _, _, rfl, _⟩ := h; rfl) | (obtain ⟨_, _, _, _, _, _, _, _, _, _, _, _, rfl, _⟩ := h; rfl) | (obtain ⟨_, _, _, _, _, _, _, _, _, _, _, _, _, rfl, _⟩ := h; rfl) | (obtain ⟨_, _, _, _, _, _, _, _, _, _, _, _, _, _, rfl, _⟩ := h; rfl) | (obtain ⟨_, _, _, _, _, _, _, _, _, _, _, _, _, _, _, rfl, _⟩ := h; rfl) | (obtain ⟨_, _, _, _, _, _, _, _, _, _, _, _, _, _, _, _, rfl, _⟩ := h; rfl) | (obtain ⟨_, _, _, _, _, _, _, _, _, _, _, _, _, _, _, _, _, rfl, _⟩ := h; rfl) | (obtain ⟨_, _, _, _, _, _, _, _, _, _, _, _, _, _, _, _, _, _, rfl, _⟩ := h; rfl) | (obtain ⟨_, _, _, _, _, _, _, _, _, _, _, _, _, _, _, _, _, _, _, rfl, _⟩ := h; rfl)
  · refine ⟨(tSeq (tAsg (tLst tNil) (gName 2))
    (tSeq (tFor (iRng1 (tCons (tVar 0) tNil)) (gName 3) (tFor (iRng1 (tCons (tVar 1) tNil)) (gName 4) (tFor (iRng1 (tCons (tVar 1) tNil)) (gName 5) (tDrop (tBM K "list" rAppend (tVar 2) (tCons (tTup (tCons (tVar 3) (tCons (tVar 4) (tCons (tVar 5) tNil)))) tNil))))))
    (tRet (tVar 2)))),
    (pss_cons (ps_set (i := 2) scLawSpots.nd rfl (Or.inl rfl) (pe_lst pa_nil))
    (pss_cons (ps_for PassesOwn.never rfl (pi_range1 (by rfl) T.f_range (pa_cons (pv 0) pa_nil)) (pg_name (i := 3) scLawSpots.nd rfl (Or.inl rfl)) (pss_one (ps_for PassesOwn.never rfl (pi_range1 (by rfl) T.f_range (pa_cons (pv 1) pa_nil)) (pg_name (i := 4) scLawSpots.nd rfl (Or.inl rfl)) (pss_one (ps_for PassesOwn.never rfl (pi_range1 (by rfl) T.f_range (pa_cons (pv 1) pa_nil)) (pg_name (i := 5) scLawSpots.nd rfl (Or.inl rfl)) (pss_one (ps_expr (pe_bm PySem.F.plainAttrs_list PySem.F.slot_list_append PySem.F.type_list_append mt_append (pv 2) (pa_cons (pe_tup (pa_cons (pv 3) (pa_cons (pv 4) (pa_cons (pv 5) pa_nil)))) pa_nil)))))))))
    (pss_one (ps_ret (pv 2))))), ?_⟩
    obtain ⟨ans, heaps, rfl, l1, l2, q⟩ := h
    walk_at "go"
    refine ⟨by simp [sizeLine_eq], fun D hD => ?_⟩
    have s0 : Same H (upd H D (.lst [])) := Same.new hD
    walk_at "go"
    refine ⟨_, rfl, by omega, by omega, for_1 (walk_range (lo := 0)) yFn (fun i σ H' => Same H H' ∧ (∃ zs, H' D = some (.lst zs) ∧ RpA H' zs ((List.range (i * heaps * heaps)).map (spD heaps))) ∧ ∃ v1 v2 v3, σ = [some (.int (ans : Int)), some (.int (heaps : Int)), some (.ref D), v1, v2, v3]) ⟨s0, ⟨[], upd_same, by rw [Nat.zero_mul, Nat.zero_mul]; exact .nil⟩, _, _, _, rfl⟩ (fun _ _ _ _ _ => trivial) ?_ ?_⟩
    · rintro i x σ H1 hi ⟨s1, ⟨zs, e1, r1⟩, v1, v2, v3, rfl⟩ rfl
      have hi' : i < ans := by simpa using hi
      rw [Int.zero_add]
      walk_at "go"
      refine ⟨_, rfl, by omega, by omega, for_1 (walk_range (lo := 0)) yFn (fun j σ H' => Same H H' ∧ (∃ zs, H' D = some (.lst zs) ∧ RpA H' zs ((List.range ((i * heaps + j) * heaps)).map (spD heaps))) ∧ ∃ v2 v3, σ = [some (.int (ans : Int)), some (.int (heaps : Int)), some (.ref D), some (.int ((i : Nat) : Int)), v2, v3]) ⟨s1, ⟨zs, e1, r1⟩, _, _, rfl⟩ (fun _ _ _ _ _ => trivial) ?_ ?_⟩
      · rintro j x σ H2 hj ⟨s2, ⟨zs, e2, r2⟩, v2, v3, rfl⟩ rfl
        have hj' : j < heaps := by simpa using hj
        rw [Int.zero_add]
        walk_at "go"
        refine ⟨_, rfl, by omega, by omega, for_1 (walk_range (lo := 0)) yFn (fun k σ H' => Same H H' ∧ (∃ zs, H' D = some (.lst zs) ∧ RpA H' zs ((List.range ((i * heaps + j) * heaps + k)).map (spD heaps))) ∧ ∃ v3, σ = [some (.int (ans : Int)), some (.int (heaps : Int)), some (.ref D), some (.int ((i : Nat) : Int)), some (.int ((j : Nat) : Int)), v3]) ⟨s2, ⟨zs, e2, r2⟩, _, rfl⟩ (fun _ _ _ _ _ => trivial) ?_ ?_⟩
        · rintro k x σ H3 hk ⟨s3, ⟨zs, e3, r3⟩, v3, rfl⟩ rfl
          have hk' : k < heaps := by simpa using hk
          rw [Int.zero_add]
          walk_at "go"
          refine ⟨tyL e3, ?_⟩
          walk_at "go"
          refine ⟨by simp [sizeLine_eq], fun t ht => ?_⟩
          have st := Same.new (o := .tup [.int (i : Int), .int (j : Int), .int (k : Int)]) ht
          have hlt := idx_lt hi' hj' hk'
          have hsz : ans * heaps * heaps ≤ 36 := by
            have f1 : ans * heaps ≤ 4 * 3 := Nat.mul_le_mul l1 l2
            have f2 : ans * heaps * heaps ≤ 12 * 3 := Nat.mul_le_mul f1 l2
            omega
          have hzl : zs.length = (i * heaps + j) * heaps + k := by rw [r3.len, List.length_map, List.length_range]
          walk_at "go"
          refine r_append (st _ _ e3) (szT (by omega)) ?_
          walk_at "go"
          refine ⟨Same.mut (s3.trans st) hD, ⟨_, upd_same, ?_⟩, _, rfl⟩
          rw [show (i * heaps + j) * heaps + (k + 1) = (i * heaps + j) * heaps + k + 1 from rfl, List.range_succ, List.map_append, List.map_cons, List.map_nil, spD_at hj' hk']
          refine RpA.snoc (rpA_keepL (st _ _ e3) _ _ (noLs_map (fun i => noL_sp heaps i) _) (r3.up st)) ?_
          exact rp_keepL (st _ _ e3) _ _ rfl (.tup upd_same (.cons (.int _) (.cons (.int _) (.cons (.int _) .nil))))
        · rintro σ H3 ⟨s3, ⟨zs, e3, r3⟩, v3, rfl⟩
          have en : (((heaps : Nat) : Int)).toNat = heaps := Int.toNat_natCast _
          rw [en] at r3
          refine ⟨s3, ⟨zs, e3, ?_⟩, _, _, rfl⟩
          rw [show i * heaps + (j + 1) = i * heaps + j + 1 from rfl, Nat.succ_mul]
          exact r3
      · rintro σ H2 ⟨s2, ⟨zs, e2, r2⟩, v2, v3, rfl⟩
        have en : (((heaps : Nat) : Int)).toNat = heaps := Int.toNat_natCast _
        rw [en] at r2
        refine ⟨s2, ⟨zs, e2, ?_⟩, _, _, _, rfl⟩
        rw [Nat.succ_mul]
        exact r2
    · rintro σ H1 ⟨s1, ⟨zs, e1, r1⟩, v1, v2, v3, rfl⟩
      have en : (((ans : Nat) : Int)).toNat = ans := Int.toNat_natCast _
      rw [en] at r1
      walk_at "go"
      exact q _ _ s1 hD (.lst e1 r1)
end

end TW

set_option Elab.async false
set_option linter.all false
set_option maxRecDepth 100000
set_option maxHeartbeats 4000000
namespace TW
open PySem PySem.Spec PyProof.Rows L2
local macro_rules | `(tactic| walk_at "st0") => `(tactic| with_reducible (first | refine r_seq ?_ | refine r_next ?_ | refine r_ret ?_ | refine r_retN ?_ | refine r_drop ?_ | refine r_asg ?_ | refine r_if ?_ | refine r_gName ?_ | refine r_par ?_ | refine r_c ?_ | refine r_cons ?_ | refine r_nil ?_ | refine r_op ?_ | refine r_CB ?_ | refine r_andV ?_ | refine r_orV ?_ | refine r_notV ?_ | refine r_tIf ?_ | refine r_B ?_ | refine r_Test ?_ | refine r_and ?_ | refine r_or ?_ | refine r_not ?_ | refine r_yes ?_ | refine r_bl ?_ | refine r_T ?_ | refine r_F ?_ | refine r_nT ?_ | refine r_nF ?_ | refine r_I0 ?_ | refine r_eqI ?_ | refine r_neI ?_ | refine r_eqB ?_ | refine r_neB ?_ | refine r_isN0 ?_ | refine r_isN1 ?_ | refine r_isN2 ?_ | refine r_notN0 ?_ | refine r_notN1 ?_ | refine r_notN2 ?_ | refine r_isNo ?_ | refine r_notNo ?_ | refine r_fld ?_ | refine r_sfld ?_ | refine r_tup ?_ | refine r_lst ?_ | refine r_call ?_ | refine r_make ?_ | refine r_sl ?_ | refine r_part ?_ | refine r_noPart ?_ | refine r_iList ?_ | refine r_iTup ?_ | refine r_iRng1 ?_ | refine r_iEnum ?_ | refine r_int1 ?_ | refine r_intB ?_ | refine r_abs ?_ | refine r_bm ?_ | refine r_lc ?_ | refine r_for ?_))
local macro_rules | `(tactic| walk_at "st") => `(tactic| first | walk_at "st0" | ((with_reducible refine' r_var ?e ?_); (case e => exact rfl)) | ((with_reducible refine' r_fldG ?e1 ?e2 ?e3 ?e4 ?_); (case e1 => assumption); (case e2 => assumption); (case e3 => assumption); (case e4 => exact rfl)) | ((with_reducible refine' r_isC ?e ?_); (case e => assumption)) | dsimp only)
local macro_rules | `(tactic| walk_at "go") => `(tactic| repeat (walk_at "st"))
section
variable {P : Program} {w : World} {K : PySem.W.Frag} {mg : Str → Option Value} {base : Heap} {B : Adr}
/-- a row on the way -/
structure RowI (S h k : Nat) (row : List (Option Nat)) : Prop where
  len : row.length = k
  ent : ∀ m, some m ∈ row → m < S
  blk : ∀ b, (b + 1) * h ≤ k → ∃ o m, o < h ∧ row[b * h + o]? = some (some m)
theorem RowI.ent' {S h k : Nat} {row : List (Option Nat)} (r : RowI S h k row) {o : Option Nat} (ho : ∀ m, o = some m → m < S) : ∀ m, some m ∈ row ++ [o] → m < S := fun m hm => by
  rcases List.mem_append.mp hm with z | z
  · exact r.ent m z
  · exact ho m (List.mem_singleton.mp z).symm
theorem RowI.old {S h k : Nat} {row : List (Option Nat)} (r : RowI S h k row) {o : Option Nat} {b : Nat} (hb : (b + 1) * h ≤ k) : ∃ q m, q < h ∧ (row ++ [o])[b * h + q]? = some (some m) := by
  obtain ⟨q, m, hq, e⟩ := r.blk b hb
  exact ⟨q, m, hq, by rw [List.getElem?_append_left (List.getElem?_eq_some_iff.mp e).1]; exact e⟩
theorem blk_last {h k b : Nat} (h1 : (b + 1) * h ≤ k + 1) (h2 : ¬ (b + 1) * h ≤ k) : k + 1 = (b + 1) * h := by omega
theorem RowI.no {S h k : Nat} {row : List (Option Nat)} (r : RowI S h k row) {o : Option Nat} (ho : ∀ m, o = some m → m < S) (hh : 0 < h) (hk : k % h ≠ h - 1) : RowI S h (k + 1) (row ++ [o]) := by
  refine ⟨by rw [List.length_append, r.len]; rfl, r.ent' ho, fun b hb => ?_⟩
  by_cases h2 : (b + 1) * h ≤ k
  · exact r.old h2
  · have e := blk_last hb h2
    exfalso
    apply hk
    have e2 : k = b * h + (h - 1) := by
      rw [Nat.succ_mul] at e
      omega
    rw [e2, Nat.add_comm, Nat.add_mul_mod_self_right]
    exact Nat.mod_eq_of_lt (by omega)
theorem last_at {h k : Nat} (hh : 0 < h) (hk : k % h = h - 1) : ∃ b, k + 1 = (b + 1) * h := by
  refine ⟨k / h, ?_⟩
  have := Nat.div_add_mod k h
  rw [hk, Nat.mul_comm] at this
  rw [Nat.succ_mul]
  omega
theorem RowI.has {S h k : Nat} {row : List (Option Nat)} (r : RowI S h k row) {o : Option Nat} (ho : ∀ m, o = some m → m < S) (hh : 0 < h) (hk : k % h = h - 1) (hx : ∃ i m, i < h ∧ (row ++ [o])[k + 1 - h + i]? = some (some m)) : RowI S h (k + 1) (row ++ [o]) := by
  refine ⟨by rw [List.length_append, r.len]; rfl, r.ent' ho, fun b hb => ?_⟩
  by_cases h2 : (b + 1) * h ≤ k
  · exact r.old h2
  · have e := blk_last hb h2
    obtain ⟨i, m, hi, ei⟩ := hx
    refine ⟨i, m, hi, ?_⟩
    have e2 : k + 1 - h = b * h := by
      rw [e, Nat.succ_mul]
      omega
    rw [← e2]
    exact ei
theorem RowI.put {S h k u z : Nat} {row : List (Option Nat)} (r : RowI S h k row) {o : Option Nat} (ho : ∀ m, o = some m → m < S) (hh : 0 < h) (hk : k % h = h - 1) (hu : u < S) (hz : z < h) : RowI S h (k + 1) ((row ++ [o]).set (k - z) (some u)) := by
  have hl : (row ++ [o]).length = k + 1 := by rw [List.length_append, r.len]; rfl
  refine ⟨by rw [List.length_set, hl], fun m hm => ?_, fun b hb => ?_⟩
  · rcases List.mem_or_eq_of_mem_set hm with q | q
    · exact r.ent' ho m q
    · rw [Option.some.inj q]
      exact hu
  · obtain ⟨b0, e0⟩ := last_at hh hk
    have hkz : z ≤ k := by
      rw [Nat.succ_mul] at e0
      omega
    by_cases h2 : (b + 1) * h ≤ k
    · obtain ⟨q, m, hq, e⟩ := r.old (o := o) h2
      by_cases hj : k - z = b * h + q
      · exact ⟨q, u, hq, by rw [← hj, List.getElem?_set_self (by omega)]⟩
      · exact ⟨q, m, hq, by rw [List.getElem?_set_ne hj]; exact e⟩
    · have e := blk_last hb h2
      refine ⟨h - 1 - z, u, by omega, ?_⟩
      have e2 : b * h + (h - 1 - z) = k - z := by
        rw [Nat.succ_mul] at e
        omega
      rw [e2, List.getElem?_set_self (by omega)]
theorem r_pick {σ : L2.St} {H : Hp} {Q : VK} {i j v S : Nat} (e1 : σ[i]? = some (some (.int (v : Int)))) (e2 : σ[j]? = some (some (.int (S : Int)))) (h : ∀ o : Option Nat, (∀ m, o = some m → m < S) → Q (oN o) H) : tIf (tTest (tOp qLt (tVar i) (tVar j))) (tVar i) (tC .non) σ H Q := by
  refine r_tIf (r_Test (r_op (r_var e1 (r_var e2 (r_I0 (r_bl ?_))))))
  by_cases hv : (v : Int) < (S : Int)
  · refine r_dT hv (r_var e1 ?_)
    exact h (some v) fun m hm => by
      cases hm
      omega
  · refine r_dF hv (r_c ?_)
    exact h none fun m hm => by cases hm
theorem sp_inv {H : Hp} {v : V} {h i : Nat} (r : Rp H v (spD h i)) : ∃ p, v = .ref p ∧ H p = some (.tup [.int ((i / (h * h) : Nat) : Int), .int ((i / h % h : Nat) : Int), .int ((i % h : Nat) : Int)]) := by
  obtain ⟨p, xs, rfl, h1, h2⟩ := Rp.tup_inv r
  obtain ⟨x, r1, rfl, h3, h4⟩ := RpA.cons_inv h2
  obtain ⟨y, r2, rfl, h5, h6⟩ := RpA.cons_inv h4
  obtain ⟨z, r3, rfl, h7, h8⟩ := RpA.cons_inv h6
  rw [RpA.nil_inv h8, h3.int_inv, h5.int_inv, h7.int_inv] at h1
  exact ⟨p, rfl, h1⟩
theorem cutV_low {xs : List V} {b : Nat} (h2 : b ≤ xs.length) : cutV xs (some (b : Int)) none = xs.drop b := cutV_from h2
abbrev spotsD (ans heaps : Nat) : PyData := .list ((List.range (ans * heaps * heaps)).map (spD heaps))
def spLawAnyRow : Sp := fun vs H Q _ => ∃ (p cl n S ans heaps sp : Nat), vs = [.ref p, .int (S : Int), .ref sp, .int (heaps : Int)] ∧ PotAt H p cl n ∧ n ≤ 900 ∧ 1 ≤ S ∧ S ≤ 3 ∧ ans ≤ 2 ∧ 2 ≤ heaps ∧ heaps ≤ 3 ∧ Rp (del H p) (.ref sp) (spotsD ans heaps) ∧
  ∀ r row H', Same (del H p) H' → PotAt H' p cl (n + 60) → H r = none → H' r = some (.lst (row.map oN)) → RowI S heaps (ans * heaps * heaps) row → Q (.ref r) H'
theorem ok__law_any_row (T : Tx K mg B) : C8.Cal P w K mg base 2 "_law_any_row" spLawAnyRow [] := by
  have c__law_dip := ok__law_dip (P := P) (w := w) (base := base) T
  refine cal_of T.d_law_any_row scLawAnyRow (fun _ _ _ _ _ _ us hl => match us, hl with | [_, _, _, _], _ => rfl) (fun vs H Q E h => ?_) (fun f cdv AA outer s H vs Q E hr h => ?_)
  · first | (obtain ⟨_, rfl, _⟩ := h; rfl) | (obtain ⟨_, _, rfl, _⟩ := h; rfl) | (obtain ⟨_, _, _, rfl, _⟩ := h; rfl) | (obtain ⟨_, _, _, _, rfl, _⟩ := h; rfl) | (obtain ⟨_, _, _, _, _, rfl, _⟩ := h; rfl) | (obtain ⟨_, _, _, _, _, _, rfl, _⟩ := h; rfl) | (obtain ⟨_, _, _, _, _, _, _, rfl, _⟩ := h; rfl) | (obtain ⟨_, _, _, _, _, _, _, _, rfl, _⟩ := h; rfl) | (obtain ⟨_, _, _, _, _, _, _, _, _, rfl, _⟩ := h; rfl) | (obtain ⟨_, _, _, _, _, _, _, _, _, _, rfl, _⟩ := h; rfl) | (obtain ⟨_, _, _, _, _, _, _, _, _, _, _, rfl, _⟩ := h; rfl) | (obtain ⟨_, _, _, _, _, _, _, _, _, _, _, _, rfl, _⟩ := h; rfl) | (obtain ⟨_, _, _, _, _, _, _, _, _, _, _, _, _, rfl, _⟩ := h; rfl) | (obtain ⟨_, _, _, _, _, _, _, _, _, _, _, _, _, _, rfl, _⟩ := h; rfl) | (obtain ⟨_, _, _, _, _, _, _, _, _, _, _, _, _, _, _, rfl, _⟩ := h; rfl) | (obtain ⟨_, _, _, _, _, _, _, _, _, _, _, _, _, _, _, _, rfl, _⟩ := h; rfl) | (obtain ⟨_, _, _, _, _, _, _, _, _, _, _, _, _, _, _, _, _, rfl, _⟩ := h; rfl) | (obtain ⟨_, _, _, _, _, _, _, _, _, _, _, _, _, _, _, _, _, _, rfl, _⟩ := h; rfl) | (obtain ⟨_, _, _, _, _, _, _, _, _, _, _, _, _, _, _, _, _, _, _, rfl, _⟩ := h; rfl)
  · refine ⟨(tSeq (tAsg (tLst tNil) (gName 4))
    (tSeq (tFor (iList K (tVar 2)) (gTup K 3 (gCons (gName 5) (gCons (gName 6) (gCons (gName 7) gNil)))) (tSeq (tAsg (tCall spLawDip [] C8.E0 (tCons (tVar 0) (tCons (tOp qAdd (tVar 1) (tC (.int 2))) tNil))) (gName 8))
    (tSeq (tDrop (tBM K "list" rAppend (tVar 4) (tCons (tIf (tTest (tOp qLt (tVar 8) (tVar 1))) (tVar 8) (tC .non)) tNil)))
    (tIfS (tAnd (tTest (tOp rEq (tVar 7) (tOp qSub (tVar 3) (tC (.int 1))))) (tTest (tOp (rEqD K) (tLc (iList K (tSl (rSlL K) (tVar 4) (tPart (tOp qSub (tCB (Evl.rLenS K) (tCons (tVar 4) tNil)) (tVar 3))) tNoPart)) (gName 9) (tTest (tOp rNotN (tVar 9) (tC .non))) (tVar 9) [9]) (tLst tNil)))) (tAsg (tCall spLawDip [] C8.E0 (tCons (tVar 0) (tCons (tVar 1) tNil))) (gSub (tVar 4) (tOp qSub (tOp qSub (tCB (Evl.rLenS K) (tCons (tVar 4) tNil)) (tC (.int 1))) (tCall spLawDip [] C8.E0 (tCons (tVar 0) (tCons (tVar 3) tNil)))) rSetL)) tNext))))
    (tRet (tVar 4)))),
    (pss_cons (ps_set (i := 4) scLawAnyRow.nd rfl (Or.inl rfl) (pe_lst pa_nil))
    (pss_cons (ps_for PassesOwn.never rfl (pi_list (pv 2)) (pg_tup (by rfl) (pgs_cons (pg_name (i := 5) scLawAnyRow.nd rfl (Or.inl rfl)) (pgs_cons (pg_name (i := 6) scLawAnyRow.nd rfl (Or.inl rfl)) (pgs_cons (pg_name (i := 7) scLawAnyRow.nd rfl (Or.inl rfl)) pgs_nil)))) (pss_cons (ps_set (i := 8) scLawAnyRow.nd rfl (Or.inl rfl) (C8.pe_c c__law_dip hr (by decide) rfl (pa_cons (pv 0) (pa_cons (pe_op op_add (pv 1) pe_int) pa_nil))))
    (pss_cons (ps_expr (pe_bm PySem.F.plainAttrs_list PySem.F.slot_list_append PySem.F.type_list_append mt_append (pv 4) (pa_cons (pe_ifExp (pt_cmpR op_lt (pv 8) (pv 1) (nomark _)) (pv 8) pe_non) pa_nil)))
    (pss_one (ps_if (PW.pt (pw_and (pt_cmpR op_eq (pv 7) (pe_op op_sub (pv 3) pe_int) (nomark _)) (pw_and1 (pt_cmpR (op_eqD hr.units) (pe_lc (own := [("_law_one", 9)]) (g := (gName 9)) (tt := (tTest (tOp rNotN (tVar 9) (tC .non)))) (te := (tVar 9)) rfl scLawAnyRow.nd (pi_list (pe_slice sl_list (pv 4) (po_some (pe_op op_sub (pe_callB call_len_seq (by rfl) T.f_len (by decide +kernel) (pa_cons (pv 4) pa_nil)) (pv 3))) po_none)) (blkOk_by (own := [("_law_one", 9)]) (N := nLawAnyRow) (sc := defScope sLawAnyRow) (by decide +kernel)) (fun _ _ _ _ _ => (pg_name (i := 9) scLawAnyRow.nd rfl (Or.inl rfl))) (fun _ _ _ _ _ => (pts_one (pt_cmpR op_notN1 (pv 9) pe_non (nomark _)))) (fun _ _ _ _ _ => (pv 9))) (pe_lst pa_nil) (nomark _))))) (pss_one (ps_asg (C8.pe_c c__law_dip hr (by decide) rfl (pa_cons (pv 0) (pa_cons (pv 1) pa_nil))) (pg_sub (pv 4) (pe_op op_sub (pe_op op_sub (pe_callB call_len_seq (by rfl) T.f_len (by decide +kernel) (pa_cons (pv 4) pa_nil)) pe_int) (C8.pe_c c__law_dip hr (by decide) rfl (pa_cons (pv 0) (pa_cons (pv 3) pa_nil)))) set_list))) pss_nil)))))
    (pss_one (ps_ret (pv 4))))), ?_⟩
    obtain ⟨p, cl, n, S, ans, heaps, sp, rfl, hp, hn, l1, l2, l3, l4, l5, hsp, q⟩ := h
    have hsz : ans * heaps * heaps ≤ 18 := by
      have f1 : ans * heaps ≤ 2 * 3 := Nat.mul_le_mul l3 l5
      have f2 : ans * heaps * heaps ≤ 6 * 3 := Nat.mul_le_mul f1 l5
      omega
    obtain ⟨_, zs, hh, esp, rsp⟩ := hsp.lst_inv
    cases hh
    have hzl : zs.length = ans * heaps * heaps := by rw [rsp.len, List.length_map, List.length_range]
    walk_at "go"
    refine ⟨by simp [sizeLine_eq], fun D hD => ?_⟩
    have hDp : D ≠ p := by
      obtain ⟨_, _, _, hpp, _⟩ := hp.ex
      exact Ne.symm (ne_of_none hpp hD)
    have hDd : del H p D = none := by rw [del_ne hDp]; exact hD
    have s0 := Same.new (o := .lst []) hD
    have sd0 : Same (del H p) (upd H D (.lst [])) := del_le.trans s0
    walk_at "go"
    refine ⟨sp, rfl, ⟨_, SqL.of (sd0 _ _ esp)⟩, for_g walk_list yAt (fun i σ H' => Same (del H p) H' ∧ PotAt H' p cl (n + 3 * i) ∧ (∃ row, H' D = some (.lst (row.map oN)) ∧ RowI S heaps i row) ∧ ∃ v1 v2 v3 v4, σ = [some (.ref p), some (.int (S : Int)), some (.ref sp), some (.int (heaps : Int)), some (.ref D), v1, v2, v3, v4, none])
      ⟨sd0, hp.up s0, ⟨[], upd_same, ⟨rfl, fun _ z => (nomatch z), fun b hb => by rw [Nat.succ_mul] at hb; omega⟩⟩, _, _, _, _, rfl⟩ (fun i σ H' _ z => SqL.of (z.1 _ _ esp)) ?_ ?_⟩
    · rintro i x σ H1 hi ⟨s1, p1, ⟨row, eD, ri⟩, v1, v2, v3, v4, rfl⟩ hx
      obtain ⟨d, hd, rd⟩ := rsp.get' hx
      obtain ⟨j, hj, rfl⟩ := map_get hd
      obtain ⟨hjl, ej⟩ := List.getElem?_eq_some_iff.mp hj
      rw [List.getElem_range] at ej
      subst ej
      obtain ⟨tp, rfl, etp⟩ := sp_inv (rd.up s1)
      refine r_gTrip etp ?_
      walk_at "go"
      refine ⟨p, cl, n + 3 * i, S + 2, rfl, p1, by omega, by omega, by omega, fun v H2 hv s2 p2 => ?_⟩
      have sd2 : Same (del H p) H2 := (del_of s1 del_same).trans s2
      have eD2 : H2 D = some (.lst (row.map oN)) := s2 _ _ (by rw [del_ne hDp]; exact eD)
      walk_at "go"
      refine ⟨tyL eD2, r_cons (r_pick (v := v) (S := S) rfl rfl fun o ho => ?_)⟩
      walk_at "go"
      have hrl := ri.len
      refine r_append eD2 (by rw [List.length_map]; exact szT (by omega)) ?_
      have e3 : upd H2 D (.lst (row.map oN ++ [oN o])) D = some (.lst ((row ++ [o]).map oN)) := by
        rw [List.map_append]
        exact upd_same
      have s3 : Same (del H p) (upd H2 D (.lst (row.map oN ++ [oN o]))) := Same.mut sd2 hDd
      have p3 : PotAt (upd H2 D (.lst (row.map oN ++ [oN o]))) p cl (n + 3 * i + 1) := by
        obtain ⟨cells, turn, rest, h1, h2, h3, h4, h5⟩ := p2.ex
        have hcD : cl ≠ D := by
          rintro rfl
          obtain ⟨c0, t0, r0, g1, g2, _⟩ := hp.ex
          rw [g2] at hD
          cases hD
        exact ⟨cells, turn, rest, by rw [upd_ne (Ne.symm hDp)]; exact h1, by rw [upd_ne hcD]; exact h2, h3, h4, h5⟩
      generalize upd H2 D (.lst (row.map oN ++ [oN o])) = H3 at e3 s3 p3 ⊢
      have hrl2 : (row ++ [o]).length = i + 1 := by rw [List.length_append, hrl]; rfl
      walk_at "go"
      by_cases hk : i % heaps = heaps - 1
      · refine r_dT (by omega) ?_
        walk_at "go"
        refine r_lenL e3 ?_
        walk_at "go"
        refine ⟨_, rfl, ?_⟩
        obtain ⟨b0, eb0⟩ := last_at (by omega) hk
        have hle : heaps ≤ i + 1 := by
          rw [eb0, Nat.succ_mul]
          omega
        rw [List.length_map, hrl2, show ((i + 1 : Nat) : Int) - (heaps : Int) = ((i + 1 - heaps : Nat) : Int) by omega]
        refine ⟨D, _, rfl, SqL.of e3, fun ct hct => ?_⟩
        rw [cutV_low (by rw [List.length_map, hrl2]; omega), ← List.map_drop]
        have sc := Same.new (o := .lst (((row ++ [o]).drop (i + 1 - heaps)).map oN)) hct
        have ec : upd H3 ct (.lst (((row ++ [o]).drop (i + 1 - heaps)).map oN)) ct = some (.lst (((row ++ [o]).drop (i + 1 - heaps)).map oN)) := upd_same
        have hcl : ((row ++ [o]).drop (i + 1 - heaps)).length = heaps := by
          rw [List.length_drop, hrl2]
          omega
        have hget : ∀ t, ((row ++ [o]).drop (i + 1 - heaps))[t]? = (row ++ [o])[i + 1 - heaps + t]? := fun t => List.getElem?_drop
        generalize (row ++ [o]).drop (i + 1 - heaps) = cut at sc ec hcl hget ⊢
        generalize upd H3 ct (.lst (cut.map oN)) = H4 at sc ec ⊢
        have s4 := s3.trans sc
        have e4 := sc _ _ e3
        have p4 := p3.up sc
        walk_at "go"
        refine ⟨ct, rfl, ⟨_, SqL.of ec⟩, fun De hE => lc_1f walk_list yAt hE (fun t v H => Rp H v (dO (cut.getD t none))) rd_m (rd_l fun t => noL_o _) (fun t => (cut.getD t none).isSome) (by rw [List.length_map]; omega) (fun H s => SqL.of (s _ _ ec)) (fun x => rfl) (fun t y H5 Q5 ht s5 hy q5 => ?_) (fun t y H5 Q5 ht hb s5 hy q5 => ?_) fun H5 ys s5 hl5 aa => ?_⟩
        · obtain ⟨o2, ho2, rfl⟩ := map_get hy
          walk_at "go"
          refine r_notO ?_
          walk_at "go"
          rw [getD_of ho2] at q5
          exact q5 _ (Same.refl _)
        · obtain ⟨o2, ho2, rfl⟩ := map_get hy
          walk_at "go"
          refine q5 _ _ (Same.refl _) ?_
          rw [getD_of ho2]
          exact Rp.o o2
        · rw [List.length_map, hcl] at aa
          have aa' := aa.rp
          walk_at "go"
          refine ⟨by simp [sizeLine_eq], fun em hem => ?_⟩
          have sE := Same.new (o := .lst []) hem
          refine r_eqD (d := .list (((List.range heaps).filter fun t => (cut.getD t none).isSome).map fun t => dO (cut.getD t none))) (e := .list []) (.lst (sE _ _ hl5) (aa'.up sE)) (.lst upd_same .nil) ((shp_lst (n := 0) (fun d hd => by
            obtain ⟨t, _, rfl⟩ := List.mem_map.mp hd
            cases cut.getD t none with
            | none => exact shp_none
            | some m => exact shp_int _)).sh (by decide)) ((shp_lst (ds := []) (n := 0) (fun _ z => (nomatch z))).sh (by decide)) ?_
          rw [eqv_nilL]
          have s6 := (s4.trans s5).trans sE
          have e6 := sE _ _ (s5 _ _ e4)
          have p6 := (p4.up s5).up sE
          generalize upd H5 em (.lst []) = H6 at s6 e6 p6 ⊢
          walk_at "go"
          by_cases hL : (((List.range heaps).filter fun t => (cut.getD t none).isSome).map fun t => dO (cut.getD t none)) = []
          · refine r_dT hL ?_
            walk_at "go"
            refine ⟨p, cl, _, S, rfl, p6, by omega, by omega, by omega, fun u H7 hu s7 p7 => ?_⟩
            have sd7 : Same (del H p) H7 := (del_of s6 del_same).trans s7
            have e7 : H7 D = some (.lst ((row ++ [o]).map oN)) := s7 _ _ (by rw [del_ne hDp]; exact e6)
            refine r_gSub ?_
            walk_at "go"
            refine r_lenL e7 ?_
            walk_at "go"
            refine ⟨p, cl, _, heaps, rfl, p7, by omega, by omega, by omega, fun z H8 hz s8 p8 => ?_⟩
            have sd8 : Same (del H p) H8 := (del_of sd7 del_same).trans s8
            have e8 : H8 D = some (.lst ((row ++ [o]).map oN)) := s8 _ _ (by rw [del_ne hDp]; exact e7)
            walk_at "go"
            rw [List.length_map, hrl2, show ((i + 1 : Nat) : Int) - 1 - (z : Int) = ((i - z : Nat) : Int) by omega]
            refine ⟨D, _, _, i - z, rfl, rfl, e8, ?_, ?_⟩
            · rw [List.length_map, hrl2]
              unfold ixN
              first | (rw [if_pos (by omega)]; rfl) | simp <;> omega
            · have p9 : PotAt (upd H8 D (.lst (((row ++ [o]).map oN).set (i - z) (oN (some u))))) p cl (n + 3 * i + 1 + 1 + 1) := by
                obtain ⟨cells, turn, rest, h1, h2, h3, h4, h5⟩ := p8.ex
                have hcD : cl ≠ D := by
                  rintro rfl
                  obtain ⟨c0, t0, r0, g1, g2, _⟩ := hp.ex
                  rw [g2] at hD
                  cases hD
                exact ⟨cells, turn, rest, by rw [upd_ne (Ne.symm hDp)]; exact h1, by rw [upd_ne hcD]; exact h2, h3, h4, h5⟩
              refine ⟨Same.mut sd8 hDd, p9, ⟨(row ++ [o]).set (i - z) (some u), ?_, ri.put ho (by omega) hk hu hz⟩, _, _, _, _, rfl⟩
              rw [List.map_set]
              exact upd_same
          · refine r_dF hL ?_
            walk_at "go"
            refine ⟨s6, p6.le (by omega), ⟨row ++ [o], e6, ri.has ho (by omega) hk ?_⟩, _, _, _, _, rfl⟩
            have hne : ((List.range heaps).filter fun t => (cut.getD t none).isSome) ≠ [] := fun z => hL (by rw [z]; rfl)
            obtain ⟨t, ht⟩ := List.exists_mem_of_ne_nil _ hne
            obtain ⟨ht1, ht2⟩ := List.mem_filter.mp ht
            have htl := List.mem_range.mp ht1
            obtain ⟨m, em2⟩ := Option.isSome_iff_exists.mp ht2
            refine ⟨t, m, htl, ?_⟩
            rw [← hget, List.getElem?_eq_getElem (by omega)]
            rw [List.getD_eq_getElem?_getD, List.getElem?_eq_getElem (by omega)] at em2
            exact congrArg some em2
      · refine r_dF (by omega) ?_
        walk_at "go"
        exact ⟨s3, p3.le (by omega), ⟨row ++ [o], e3, ri.no ho (by omega) hk⟩, _, _, _, _, rfl⟩
    · rintro σ H1 ⟨s1, p1, ⟨row, eD, ri⟩, v1, v2, v3, v4, rfl⟩
      rw [hzl] at p1 ri
      walk_at "go"
      exact q _ row _ s1 (p1.le (by omega)) hD eD ri
end

end TW

set_option Elab.async false
set_option linter.all false
set_option maxRecDepth 100000
set_option maxHeartbeats 4000000
namespace TW
open PySem PySem.Spec PyProof.Rows L2
local macro_rules | `(tactic| walk_at "st0") => `(tactic| with_reducible (first | refine r_seq ?_ | refine r_next ?_ | refine r_ret ?_ | refine r_retN ?_ | refine r_drop ?_ | refine r_asg ?_ | refine r_if ?_ | refine r_gName ?_ | refine r_par ?_ | refine r_c ?_ | refine r_cons ?_ | refine r_nil ?_ | refine r_op ?_ | refine r_CB ?_ | refine r_andV ?_ | refine r_orV ?_ | refine r_notV ?_ | refine r_tIf ?_ | refine r_B ?_ | refine r_Test ?_ | refine r_and ?_ | refine r_or ?_ | refine r_not ?_ | refine r_yes ?_ | refine r_bl ?_ | refine r_T ?_ | refine r_F ?_ | refine r_nT ?_ | refine r_nF ?_ | refine r_I0 ?_ | refine r_eqI ?_ | refine r_neI ?_ | refine r_eqB ?_ | refine r_neB ?_ | refine r_isN0 ?_ | refine r_isN1 ?_ | refine r_isN2 ?_ | refine r_notN0 ?_ | refine r_notN1 ?_ | refine r_notN2 ?_ | refine r_isNo ?_ | refine r_notNo ?_ | refine r_fld ?_ | refine r_sfld ?_ | refine r_tup ?_ | refine r_lst ?_ | refine r_call ?_ | refine r_make ?_ | refine r_sl ?_ | refine r_part ?_ | refine r_noPart ?_ | refine r_iList ?_ | refine r_iTup ?_ | refine r_iRng1 ?_ | refine r_iEnum ?_ | refine r_int1 ?_ | refine r_intB ?_ | refine r_abs ?_ | refine r_bm ?_ | refine r_lc ?_ | refine r_for ?_))
local macro_rules | `(tactic| walk_at "st") => `(tactic| first | walk_at "st0" | ((with_reducible refine' r_var ?e ?_); (case e => exact rfl)) | ((with_reducible refine' r_fldG ?e1 ?e2 ?e3 ?e4 ?_); (case e1 => assumption); (case e2 => assumption); (case e3 => assumption); (case e4 => exact rfl)) | ((with_reducible refine' r_isC ?e ?_); (case e => assumption)) | dsimp only)
local macro_rules | `(tactic| walk_at "go") => `(tactic| repeat (walk_at "st"))
section
variable {P : Program} {w : World} {K : PySem.W.Frag} {mg : Str → Option Value} {base : Heap} {B : Adr}
theorem cut_del {H : Hp} {e pa : Addr} : Same (cut H e pa) (del H pa) := fun b o h => by
  have h1 : b ≠ e := fun z => by rw [z, cut_e] at h; cases h
  have h2 : b ≠ pa := fun z => by rw [z, cut_p] at h; cases h
  rw [cut_ne h1 h2] at h
  rw [del_ne h2]
  exact h
theorem cut_upd {H : Hp} {e pa : Addr} {o : HO} : Same (cut H e pa) (cut (upd H e o) e pa) := cut_of (Same.mut cut_le cut_e) cut_e cut_p
abbrev Sh : Type := Nat × Option Nat
def shL : List (List Sh) := [[(0, some 1), (0, none)], [(0, some 1), (1, none)], [(0, some 2), (0, none), (1, none)], [(1, none), (2, none), (2, some 2)], [(0, none)]]
def dSh (s : Sh) : PyData := .tuple [.int (s.1 : Int), dO s.2]
def shD : PyData := .list (shL.map fun s => .list (s.map dSh))
theorem shL_ok : ∀ s ∈ shL, (0 < s.length ∧ s.length ≤ 3) ∧ ∀ x ∈ s, x.1 < s.length ∧ ∀ m, x.2 = some m → m < s.length := by
  intro s hs
  simp only [shL, List.mem_cons, List.not_mem_nil, or_false] at hs
  rcases hs with rfl | rfl | rfl | rfl | rfl <;> refine ⟨by decide, fun x hx => ?_⟩ <;> simp only [List.mem_cons, List.not_mem_nil, or_false] at hx <;> rcases hx with rfl | rfl | rfl <;> refine ⟨by decide, fun m hm => ?_⟩ <;> cases hm <;> decide
def rowSh (ans heaps : Nat) (s : Sh) : List (Option Nat) := (List.range (ans * heaps * heaps)).map fun i => if i / heaps % heaps = i % heaps then some s.1 else s.2
theorem rowSh_len (ans heaps : Nat) (s : Sh) : (rowSh ans heaps s).length = ans * heaps * heaps := by
  unfold rowSh
  rw [List.length_map, List.length_range]
theorem nxt_of {heaps : Nat} {rows : List (List (Option Nat))} {st who t told : Nat} {r : List (Option Nat)} {m : Nat} (h1 : rows[st]? = some r) (h2 : r[(who * heaps + t) * heaps + told]? = some (some m)) : nxt heaps rows st who t told ≠ none := by
  unfold nxt
  rw [List.getD_eq_getElem?_getD (l := rows), h1, List.getD_eq_getElem?_getD, Option.getD_some, h2]
  intro z
  cases z
theorem rowsSh_ok {ans heaps : Nat} {s : List Sh} (hs : s ∈ shL) (hh : 2 ≤ heaps) : RowsOk ans heaps (s.map (rowSh ans heaps)) := by
  obtain ⟨h1, h2⟩ := shL_ok s hs
  refine ⟨by rw [List.length_map]; exact h1, fun r hr => ?_, fun r hr n hn => ?_, fun st who t hst hw ht => ?_⟩
  · obtain ⟨x, _, rfl⟩ := List.mem_map.mp hr
    exact rowSh_len _ _ _
  · obtain ⟨x, hx, rfl⟩ := List.mem_map.mp hr
    obtain ⟨h3, h4⟩ := h2 x hx
    rw [List.length_map]
    unfold rowSh at hn
    obtain ⟨i, _, hi⟩ := List.mem_map.mp hn
    split at hi
    · rw [← Option.some.inj hi]
      exact h3
    · exact h4 n hi
  · rw [List.length_map] at hst
    refine ⟨t, ht, ?_⟩
    have e1 : (s.map (rowSh ans heaps))[st]? = some (rowSh ans heaps s[st]) := by
      rw [List.getElem?_map, List.getElem?_eq_getElem hst]
      rfl
    have hi := idx_lt hw ht ht
    refine nxt_of (m := s[st].1) e1 ?_
    unfold rowSh
    rw [List.getElem?_map, List.getElem?_range hi, Option.map_some]
    have hsp := spD_at (w := who) ht ht
    unfold spD at hsp
    injection hsp with hsp
    injection hsp with _ hsp
    injection hsp with g1 hsp
    injection hsp with g2 _
    injection g1 with g1
    injection g2 with g2
    have g1' := Int.ofNat.inj g1
    have g2' := Int.ofNat.inj g2
    rw [if_pos (by rw [g1', g2'])]
theorem rowsI_ok {S ans heaps : Nat} {rows : List (List (Option Nat))} (hl : rows.length = S) (h1 : 1 ≤ S) (h3 : S ≤ 3) (h : ∀ r ∈ rows, RowI S heaps (ans * heaps * heaps) r) : RowsOk ans heaps rows := by
  refine ⟨by omega, fun r hr => (h r hr).len, fun r hr n hn => by rw [hl]; exact (h r hr).ent n hn, fun st who t hst hw ht => ?_⟩
  have hr := h _ (List.getElem_mem hst)
  have hb : (who * heaps + t + 1) * heaps ≤ ans * heaps * heaps := by
    have e1 : who * heaps + t + 1 ≤ ans * heaps := by
      have : (who + 1) * heaps ≤ ans * heaps := Nat.mul_le_mul_right heaps hw
      rw [Nat.succ_mul] at this
      omega
    exact Nat.mul_le_mul_right heaps e1
  obtain ⟨o, m, ho, e⟩ := hr.blk _ hb
  exact ⟨o, ho, nxt_of (List.getElem?_eq_getElem hst) e⟩
abbrev shDs : List PyData := [.list [.tuple [.int 0, .int 1], .tuple [.int 0, .none]], .list [.tuple [.int 0, .int 1], .tuple [.int 1, .none]], .list [.tuple [.int 0, .int 2], .tuple [.int 0, .none], .tuple [.int 1, .none]], .list [.tuple [.int 1, .none], .tuple [.int 2, .none], .tuple [.int 2, .int 2]], .list [.tuple [.int 0, .none]]]
def tShapes : TE := (tLst (tCons (tLst (tCons (tTup (tCons (tC (.int 0)) (tCons (tC (.int 1)) tNil))) (tCons (tTup (tCons (tC (.int 0)) (tCons (tC .non) tNil))) tNil))) (tCons (tLst (tCons (tTup (tCons (tC (.int 0)) (tCons (tC (.int 1)) tNil))) (tCons (tTup (tCons (tC (.int 1)) (tCons (tC .non) tNil))) tNil))) (tCons (tLst (tCons (tTup (tCons (tC (.int 0)) (tCons (tC (.int 2)) tNil))) (tCons (tTup (tCons (tC (.int 0)) (tCons (tC .non) tNil))) (tCons (tTup (tCons (tC (.int 1)) (tCons (tC .non) tNil))) tNil)))) (tCons (tLst (tCons (tTup (tCons (tC (.int 1)) (tCons (tC .non) tNil))) (tCons (tTup (tCons (tC (.int 2)) (tCons (tC .non) tNil))) (tCons (tTup (tCons (tC (.int 2)) (tCons (tC (.int 2)) tNil))) tNil)))) (tCons (tLst (tCons (tTup (tCons (tC (.int 0)) (tCons (tC .non) tNil))) tNil)) tNil))))))
theorem bld_shapes {σ : L2.St} : Bld tShapes σ (.list shDs) :=
  bld_lst (bld_cons (bld_lst (bld_cons (bld_tup (bld_cons bld_int (bld_cons bld_int bld_nil)) (by decide)) (bld_cons (bld_tup (bld_cons bld_int (bld_cons bld_non bld_nil)) (by decide)) bld_nil)) (by decide))
    (bld_cons (bld_lst (bld_cons (bld_tup (bld_cons bld_int (bld_cons bld_int bld_nil)) (by decide)) (bld_cons (bld_tup (bld_cons bld_int (bld_cons bld_non bld_nil)) (by decide)) bld_nil)) (by decide))
    (bld_cons (bld_lst (bld_cons (bld_tup (bld_cons bld_int (bld_cons bld_int bld_nil)) (by decide)) (bld_cons (bld_tup (bld_cons bld_int (bld_cons bld_non bld_nil)) (by decide)) (bld_cons (bld_tup (bld_cons bld_int (bld_cons bld_non bld_nil)) (by decide)) bld_nil))) (by decide))
    (bld_cons (bld_lst (bld_cons (bld_tup (bld_cons bld_int (bld_cons bld_non bld_nil)) (by decide)) (bld_cons (bld_tup (bld_cons bld_int (bld_cons bld_non bld_nil)) (by decide)) (bld_cons (bld_tup (bld_cons bld_int (bld_cons bld_int bld_nil)) (by decide)) bld_nil))) (by decide))
    (bld_cons (bld_lst (bld_cons (bld_tup (bld_cons bld_int (bld_cons bld_non bld_nil)) (by decide)) bld_nil) (by decide)) bld_nil))))) (by decide)
theorem r_shapes {σ : L2.St} {H : Hp} {Q : VK} (h : ∀ v H', Same H H' → Rp (dif H H') v shD → Q v H') : tShapes σ H Q := bld_shapes H Q fun v H' s r => h v H' s r
theorem sh_inv {H : Hp} {v : V} {s : Sh} (r : Rp H v (dSh s)) : ∃ p, v = .ref p ∧ H p = some (.tup [.int (s.1 : Int), oN s.2]) := by
  obtain ⟨p, x, y, rfl, h1, h2, h3⟩ := pair_inv r
  rw [h2.int_inv, h3.o_inv] at h1
  exact ⟨p, rfl, h1⟩
def spLawRows : Sp := fun vs H Q _ => ∃ (p cl n ans heaps : Nat), vs = [.ref p, .int (ans : Int), .int (heaps : Int)] ∧ PotAt H p cl n ∧ n ≤ 600 ∧ 1 ≤ ans ∧ ans ≤ 2 ∧ 2 ≤ heaps ∧ heaps ≤ 3 ∧
  ∀ r rows H', Same (del H p) H' → PotAt H' p cl (n + 200) → r ≠ p → RowsOk ans heaps rows → Rp (del H' p) (.ref r) (.list (rows.map dRowL)) → Q (.ref r) H'
theorem ok__law_rows (T : Tx K mg B) : C8.Cal P w K mg base 3 "_law_rows" spLawRows [] := by
  have c__law_spots := ok__law_spots (P := P) (w := w) (base := base) T
  have c__law_dip := ok__law_dip (P := P) (w := w) (base := base) T
  have c__law_any_row := ok__law_any_row (P := P) (w := w) (base := base) T
  refine cal_of T.d_law_rows scLawRows (fun _ _ _ _ _ _ us hl => match us, hl with | [_, _, _], _ => rfl) (fun vs H Q E h => ?_) (fun f cdv AA outer s H vs Q E hr h => ?_)
  · first | (obtain ⟨_, rfl, _⟩ := h; rfl) | (obtain ⟨_, _, rfl, _⟩ := h; rfl) | (obtain ⟨_, _, _, rfl, _⟩ := h; rfl) | (obtain ⟨_, _, _, _, rfl, _⟩ := h; rfl) | (obtain ⟨_, _, _, _, _, rfl, _⟩ := h; rfl) | (obtain ⟨_, _, _, _, _, _, rfl, _⟩ := h; rfl) | (obtain ⟨_, _, _, _, _, _, _, rfl, _⟩ := h; rfl) | (obtain ⟨_, _, _, _, _, _, _, _, rfl, _⟩ := h; rfl) | (obtain ⟨_, _, _, _, _, _, _, _, _, rfl, _⟩ := h; rfl) | (obtain ⟨_, _, _, _, _, _, _, _, _, _, rfl, _⟩ := h; rfl) | (obtain ⟨_, _, _, _, _, _, _, _, _, _, _, rfl, _⟩ := h; rfl) | (obtain ⟨_, _, _, _, _, _, _, _, _, _, _, _, rfl, _⟩ := h; rfl) | (obtain ⟨_, _, _, _, _, _, _, _, _, _, _, _, _, rfl, _⟩ := h; rfl) | (obtain ⟨_, _, _, _, _, _, _, _, _, _, _, _, _, _, rfl, _⟩ := h; rfl) | (obtain ⟨_, _, _, _, _, _, _, _, _, _, _, _, _, _, _, rfl, _⟩ := h; rfl) | (obtain ⟨_, _, _, _, _, _, _, _, _, _, _, _, _, _, _, _, rfl, _⟩ := h; rfl) | (obtain ⟨_, _, _, _, _, _, _, _, _, _, _, _, _, _, _, _, _, rfl, _⟩ := h; rfl) | (obtain ⟨_, _, _, _, _, _, _, _, _, _, _, _, _, _, _, _, _, _, rfl, _⟩ := h; rfl) | (obtain ⟨_, _, _, _, _, _, _, _, _, _, _, _, _, _, _, _, _, _, _, rfl, _⟩ := h; rfl)
  · refine ⟨(tSeq (tAsg (tCall spLawSpots [] C8.E0 (tCons (tVar 1) (tCons (tVar 2) tNil))) (gName 3))
    (tSeq (tAsg tShapes (gName 4))
    (tSeq (tPar 5 6 (tCons (tCall spLawDip [] C8.E0 (tCons (tVar 0) (tCons (tC (.int 10)) tNil))) (tCons (tLst tNil) tNil)))
    (tSeq (tIfS (tTest (tOp qLt (tVar 5) (tC (.int 5)))) (tSeq (tFor (iList K (tOp (rIxL K) (tVar 4) (tVar 5))) (gTup K 2 (gCons (gName 9) (gCons (gName 10) gNil))) (tDrop (tBM K "list" rAppend (tVar 6) (tCons (tLc (iList K (tVar 3)) (gName 11) tYes (tIf (tTest (tOp rEq (tOp (rIxT K) (tVar 11) (tC (.int 1))) (tOp (rIxT K) (tVar 11) (tC (.int 2))))) (tVar 9) (tVar 10)) [11]) tNil))))
    (tRet (tVar 6))) tNext)
    (tSeq (tAsg (tOp qAdd (tC (.int 1)) (tCall spLawDip [] C8.E0 (tCons (tVar 0) (tCons (tC (.int 3)) tNil)))) (gName 7))
    (tSeq (tFor (iRng1 (tCons (tVar 7) tNil)) (gName 8) (tDrop (tBM K "list" rAppend (tVar 6) (tCons (tCall spLawAnyRow [] C8.E0 (tCons (tVar 0) (tCons (tVar 7) (tCons (tVar 3) (tCons (tVar 2) tNil))))) tNil))))
    (tRet (tVar 6)))))))),
    (pss_cons (ps_set (i := 3) scLawRows.nd rfl (Or.inl rfl) (C8.pe_c c__law_spots hr (by decide) rfl (pa_cons (pv 1) (pa_cons (pv 2) pa_nil))))
    (pss_cons (ps_set (i := 4) scLawRows.nd rfl (Or.inl rfl) (pe_lst (pa_cons (pe_lst (pa_cons (pe_tup (pa_cons pe_int (pa_cons pe_int pa_nil))) (pa_cons (pe_tup (pa_cons pe_int (pa_cons pe_non pa_nil))) pa_nil))) (pa_cons (pe_lst (pa_cons (pe_tup (pa_cons pe_int (pa_cons pe_int pa_nil))) (pa_cons (pe_tup (pa_cons pe_int (pa_cons pe_non pa_nil))) pa_nil))) (pa_cons (pe_lst (pa_cons (pe_tup (pa_cons pe_int (pa_cons pe_int pa_nil))) (pa_cons (pe_tup (pa_cons pe_int (pa_cons pe_non pa_nil))) (pa_cons (pe_tup (pa_cons pe_int (pa_cons pe_non pa_nil))) pa_nil)))) (pa_cons (pe_lst (pa_cons (pe_tup (pa_cons pe_int (pa_cons pe_non pa_nil))) (pa_cons (pe_tup (pa_cons pe_int (pa_cons pe_non pa_nil))) (pa_cons (pe_tup (pa_cons pe_int (pa_cons pe_int pa_nil))) pa_nil)))) (pa_cons (pe_lst (pa_cons (pe_tup (pa_cons pe_int (pa_cons pe_non pa_nil))) pa_nil)) pa_nil)))))))
    (pss_cons (ps_par (i := 5) (j := 6) rfl scLawRows.nd rfl rfl (by decide) rfl rfl (pa_cons (C8.pe_c c__law_dip hr (by decide) rfl (pa_cons (pv 0) (pa_cons pe_int pa_nil))) (pa_cons (pe_lst pa_nil) pa_nil)) (by rfl))
    (pss_cons (ps_if (pt_cmpR op_lt (pv 5) pe_int (nomark _)) (pss_cons (ps_for PassesOwn.never rfl (pi_list (pe_ix ix_list (pv 4) (pv 5) (fun _ _ => rfl))) (pg_tup (by rfl) (pgs_cons (pg_name (i := 9) scLawRows.nd rfl (Or.inr rfl)) (pgs_cons (pg_name (i := 10) scLawRows.nd rfl (Or.inr rfl)) pgs_nil))) (pss_one (ps_expr (pe_bm PySem.F.plainAttrs_list PySem.F.slot_list_append PySem.F.type_list_append mt_append (pv 6) (pa_cons (pe_lc (own := [("_law_spot", 11)]) (g := (gName 11)) (tt := tYes) (te := (tIf (tTest (tOp rEq (tOp (rIxT K) (tVar 11) (tC (.int 1))) (tOp (rIxT K) (tVar 11) (tC (.int 2))))) (tVar 9) (tVar 10))) rfl scLawRows.nd (pi_list (pv 3)) (blkOk_by (own := [("_law_spot", 11)]) (N := nLawRows) (sc := defScope sLawRows) (by decide +kernel)) (fun _ _ _ _ _ => (pg_name (i := 11) scLawRows.nd rfl (Or.inl rfl))) (fun _ _ _ _ _ => pts_nil) (fun _ _ _ _ _ => (pe_ifExp (pt_cmpR op_eq (pe_ix ix_tup (pv 11) pe_int (fun _ _ => rfl)) (pe_ix ix_tup (pv 11) pe_int (fun _ _ => rfl)) (nomark _)) (pv 9) (pv 10)))) pa_nil)))))
    (pss_one (ps_ret (pv 6)))) pss_nil)
    (pss_cons (ps_set (i := 7) scLawRows.nd rfl (Or.inl rfl) (pe_op op_add pe_int (C8.pe_c c__law_dip hr (by decide) rfl (pa_cons (pv 0) (pa_cons pe_int pa_nil)))))
    (pss_cons (ps_for PassesOwn.never rfl (pi_range1 (by rfl) T.f_range (pa_cons (pv 7) pa_nil)) (pg_name (i := 8) scLawRows.nd rfl (Or.inl rfl)) (pss_one (ps_expr (pe_bm PySem.F.plainAttrs_list PySem.F.slot_list_append PySem.F.type_list_append mt_append (pv 6) (pa_cons (C8.pe_c c__law_any_row hr (by decide) rfl (pa_cons (pv 0) (pa_cons (pv 7) (pa_cons (pv 3) (pa_cons (pv 2) pa_nil))))) pa_nil)))))
    (pss_one (ps_ret (pv 6))))))))), ?_⟩
    obtain ⟨p, cl, n, ans, heaps, rfl, hp, hn, l1, l2, l3, l4, q⟩ := h
    have hsz : ans * heaps * heaps ≤ 18 := by
      have f1 : ans * heaps ≤ 2 * 3 := Nat.mul_le_mul l2 l4
      have f2 : ans * heaps * heaps ≤ 6 * 3 := Nat.mul_le_mul f1 l4
      omega
    obtain ⟨c0, t0, r0, hpp, hpc, _, _, hpne⟩ := hp.ex
    walk_at "go"
    refine ⟨ans, heaps, rfl, by omega, by omega, fun sp H1 s1 hsp rsp => ?_⟩
    have hspp : sp ≠ p := Ne.symm (ne_of_none hpp hsp)
    have hpp1 := s1 _ _ hpp
    have rsp1 : Rp (del H1 p) (.ref sp) (spotsD ans heaps) := by
      obtain ⟨_, zs, hh, ez, rz⟩ := rsp.lst_inv
      cases hh
      exact .lst (by rw [del_ne hspp]; exact ez) (rpA_delN hpp1 _ _ (noLs_map (fun i => noL_sp heaps i) _) rz)
    walk_at "go"
    refine r_shapes fun vsh H2 s2 rsh => ?_
    have rsh2 := rsh.up (dif_del hpp1)
    obtain ⟨sh, shs, rfl, esh, rshs⟩ := rsh2.lst_inv
    walk_at "go"
    have s02 := s1.trans s2
    have p2 := hp.up s02
    refine ⟨p, cl, n, 10, rfl, p2, by omega, by decide, by decide, fun way H3 hway s3 p3 => ?_⟩
    have s23 : Same (del H2 p) (del H3 p) := del_of s3 del_same
    have sd3 : Same (del H p) (del H3 p) := (del_up s02).trans s23
    have esh3 := s23 _ _ esh
    have rshs3 := rshs.up s23
    have rsp3 := rsp1.up ((del_up s2).trans s23)
    obtain ⟨_, zs, hh, ez, rz⟩ := rsp3.lst_inv
    cases hh
    have hzl : zs.length = ans * heaps * heaps := by rw [rz.len, List.length_map, List.length_range]
    obtain ⟨c3, t3, r3, hpp3, _⟩ := p3.ex
    walk_at "go"
    refine ⟨by simp [sizeLine_eq], fun D hD => ?_⟩
    have hDp : D ≠ p := Ne.symm (ne_of_none hpp3 hD)
    have gD : del H3 p D = none := by rw [del_ne hDp]; exact hD
    have sN := Same.new (o := .lst []) hD
    have s4 : Same (del H3 p) (upd H3 D (.lst [])) := del_le.trans sN
    have p4 := p3.up sN
    have e4 : upd H3 D (.lst []) D = some (.lst []) := upd_same
    generalize upd H3 D (.lst []) = H4 at s4 p4 e4 ⊢
    walk_at "go"
    refine ⟨_, _, rfl, ?_⟩
    walk_at "go"
    have fin : ∀ (H5 : Hp) (ws : List V) (rows : List (List (Option Nat))) (m : Nat), m ≤ n + 200 → Same (del H3 p) H5 → PotAt H5 p cl m → H5 D = some (.lst ws) → RpA (cut H5 D p) ws (rows.map dRowL) → RowsOk ans heaps rows → Q (.ref D) H5 := by
      intro H5 ws rows m hm s5 p5 e5 r5 ok
      exact q D rows H5 (sd3.trans s5) (p5.le hm) hDp ok (.lst (by rw [del_ne hDp]; exact e5) (r5.up cut_del))
    have push : ∀ (H5 H6 : Hp) (ws : List V) (rows : List (List (Option Nat))) (r : Addr) (row : List (Option Nat)), Same (del H3 p) H5 → H5 D = some (.lst ws) → RpA (cut H5 D p) ws (rows.map dRowL) → Same (cut H5 D p) H6 → H6 D = some (.lst ws) → (∃ o, H6 p = some o) → H5 r = none → (∃ o, H5 p = some o) → H6 r = some (.lst (row.map oN)) →
        RpA (cut (upd H6 D (.lst (ws ++ [.ref r]))) D p) (ws ++ [.ref r]) ((rows ++ [row]).map dRowL) := by
      intro H5 H6 ws rows r row s5 e5 r5 s56 e6 hp6 hr hp5 er
      obtain ⟨o5, hp5⟩ := hp5
      have hrD : r ≠ D := Ne.symm (ne_of_none e5 hr)
      have hrp : r ≠ p := Ne.symm (ne_of_none hp5 hr)
      rw [List.map_append]
      refine RpA.snoc (r5.up ((cut_of s56 cut_e cut_p).trans cut_upd)) (Rp.up (H := cut H6 D p) ?_ cut_upd)
      exact .lst (by rw [cut_ne hrD hrp]; exact er) (RpA.os row)
    by_cases hw : (way : Int) < 5
    · refine r_dT hw ?_
      walk_at "go"
      have hws : way < shL.length := by
        show way < 5
        omega
      obtain ⟨vq, evq, rvq⟩ := rshs3.get (i := way) (d := .list (shL[way].map dSh)) (by rw [List.getElem?_map, List.getElem?_eq_getElem hws]; rfl)
      have hsm : shL[way] ∈ shL := List.getElem_mem hws
      generalize shL[way] = s at rvq hsm
      obtain ⟨qa, ys, rfl, eq3, rys⟩ := rvq.lst_inv
      have hyl : ys.length = s.length := by rw [rys.len, List.length_map]
      obtain ⟨hs1, hs2⟩ := shL_ok s hsm
      refine r_ixL (s4 _ _ esh3) evq ?_
      refine ⟨qa, rfl, ⟨_, SqL.of (s4 _ _ eq3)⟩, for_g walk_list yAt (fun i σ H' => Same (del H3 p) H' ∧ PotAt H' p cl (n + 1) ∧ (∃ ws, H' D = some (.lst ws) ∧ ws.length = i ∧ RpA (cut H' D p) ws (((s.take i).map (rowSh ans heaps)).map dRowL)) ∧ ∃ v1 v2, σ = [some (.ref p), some (.int (ans : Int)), some (.int (heaps : Int)), some (.ref sp), some (.ref sh), some (.int (way : Int)), some (.ref D), none, none, v1, v2, none])
        ⟨s4, p4, ⟨[], e4, rfl, by rw [List.take_zero]; exact .nil⟩, _, _, rfl⟩ (fun i σ H' _ z => SqL.of (z.1 _ _ eq3)) ?_ ?_⟩
      · rintro i x σ H5 hi ⟨s5, p5, ⟨ws, e5, hwl, r5⟩, v1, v2, rfl⟩ hx
        obtain ⟨d, hd, rd⟩ := rys.get' hx
        obtain ⟨x2, hx2, rfl⟩ := map_get hd
        obtain ⟨tp, rfl, etp⟩ := sh_inv rd
        obtain ⟨c5, t5, r50, hpp5, _⟩ := p5.ex
        refine r_gPair (s5 _ _ etp) ?_
        walk_at "go"
        refine ⟨tyL e5, ?_⟩
        walk_at "go"
        refine ⟨sp, rfl, ⟨_, SqL.of (s5 _ _ ez)⟩, fun De hE => lc_1 walk_list yAt hE (fun t v _ => v = oN ((rowSh ans heaps x2).getD t none)) ri_m ri_l (by omega) (fun H s => SqL.of (s _ _ (s5 _ _ ez))) (fun x => rfl) (fun t y H6 Q6 ht s6 hy q6 => ?_) fun H6 us s6 hl6 aa => ?_⟩
        · obtain ⟨d2, hd2, rd2⟩ := rz.get' hy
          obtain ⟨j, hj, rfl⟩ := map_get hd2
          obtain ⟨hjl, ej⟩ := List.getElem?_eq_some_iff.mp hj
          rw [List.getElem_range] at ej
          subst ej
          obtain ⟨st, rfl, est⟩ := sp_inv (rd2.up (s5.trans s6))
          walk_at "go"
          refine r_ixT (k := 1) est rfl ?_
          walk_at "go"
          refine r_ixT (k := 2) est rfl ?_
          walk_at "go"
          have hrow : (rowSh ans heaps x2).getD t none = if t / heaps % heaps = t % heaps then some x2.1 else x2.2 := by
            unfold rowSh
            rw [List.getD_eq_getElem?_getD, List.getElem?_map, List.getElem?_range (by omega)]
            rfl
          by_cases he : t / heaps % heaps = t % heaps
          · refine r_dT (by omega) ?_
            walk_at "go"
            refine q6 _ _ (Same.refl _) ?_
            rw [hrow, if_pos he]
            rfl
          · refine r_dF (by omega) ?_
            walk_at "go"
            refine q6 _ _ (Same.refl _) ?_
            rw [hrow, if_neg he]
        · have e := aa.eqs (f := fun t => oN ((rowSh ans heaps x2).getD t none))
          have e2 : us = (rowSh ans heaps x2).map oN := by
            rw [e, hzl]
            exact map_range_get (f := oN) none (rowSh_len _ _ _)
          subst e2
          have e6 := s6 _ _ e5
          walk_at "go"
          refine r_append e6 (szT (by omega)) ?_
          walk_at "go"
          have et : s.take (i + 1) = s.take i ++ [x2] := by
            rw [List.take_add_one, hx2]
            rfl
          have p6 : PotAt (upd H6 D (.lst (ws ++ [.ref De]))) p cl (n + 1) := by
            obtain ⟨cells, turn, rest, h1, h2, h3, h4, h5⟩ := (p5.up s6).ex
            have hcD : cl ≠ D := by
              rintro rfl
              have hq := s4.trans (Same.refl _) |> fun _ => p3.ex
              obtain ⟨ca, ta, ra, g1, g2, _⟩ := hq
              rw [g2] at hD
              cases hD
            exact ⟨cells, turn, rest, by rw [upd_ne (Ne.symm hDp)]; exact h1, by rw [upd_ne hcD]; exact h2, h3, h4, h5⟩
          refine ⟨Same.mut (s5.trans s6) gD, p6, ⟨_, upd_same, by rw [List.length_append, hwl]; rfl, ?_⟩, _, _, rfl⟩
          rw [et, List.map_append]
          exact push H5 H6 ws _ De _ s5 e5 r5 (cut_le.trans s6) e6 ⟨_, s6 _ _ hpp5⟩ hE ⟨_, hpp5⟩ hl6
      · rintro σ H5 ⟨s5, p5, ⟨ws, e5, hwl, r5⟩, v1, v2, rfl⟩
        rw [hyl, List.take_length] at r5
        walk_at "go"
        exact fin H5 ws _ _ (by omega) s5 p5 e5 r5 (rowsSh_ok hsm l3)
    · refine r_dF hw ?_
      walk_at "go"
      refine ⟨p, cl, n + 1, 3, rfl, p4, by omega, by decide, by decide, fun z H5 hz s5 p5 => ?_⟩
      have s35 : Same (del H3 p) H5 := (del_of s4 del_same).trans s5
      have e5 : H5 D = some (.lst []) := s5 _ _ (by rw [del_ne hDp]; exact e4)
      walk_at "go"
      refine ⟨_, rfl, by omega, by omega, for_1 (walk_range (lo := 0)) yFn (fun i σ H' => Same (del H3 p) H' ∧ PotAt H' p cl (n + 2 + 60 * i) ∧ (∃ ws rows, H' D = some (.lst ws) ∧ rows.length = i ∧ (∀ r ∈ rows, RowI (1 + z) heaps (ans * heaps * heaps) r) ∧ RpA (cut H' D p) ws (rows.map dRowL)) ∧ ∃ v1, σ = [some (.ref p), some (.int (ans : Int)), some (.int (heaps : Int)), some (.ref sp), some (.ref sh), some (.int (way : Int)), some (.ref D), some (.int (1 + (z : Int))), v1, none, none, none])
        ⟨s35, p5, ⟨[], [], e5, rfl, fun _ z => (nomatch z), .nil⟩, _, rfl⟩ (fun _ _ _ _ _ => trivial) ?_ ?_⟩
      · rintro i x σ H6 hi ⟨s6, p6, ⟨ws, rows, e6, hrl, hri, r6⟩, v1, rfl⟩ rfl
        have hi' : i < 1 + z := by
          have : (1 + (z : Int)).toNat = 1 + z := by omega
          omega
        obtain ⟨c6, t6, r60, hpp6, hcl6, hc61, hc62, hc63⟩ := p6.ex
        have hwl : ws.length = i := by rw [r6.len, List.length_map, hrl]
        walk_at "go"
        refine ⟨tyL e6, ?_⟩
        walk_at "go"
        refine ⟨p, cl, n + 2 + 60 * i, 1 + z, ans, heaps, sp, rfl, p6, by omega, by omega, by omega, l2, l3, l4, rsp3.up (del_of s6 del_same), fun r row H7 s7 p7 hr er ri => ?_⟩
        have e7 : H7 D = some (.lst ws) := s7 _ _ (by rw [del_ne hDp]; exact e6)
        obtain ⟨c7, t7, r70, hpp7, _⟩ := p7.ex
        walk_at "go"
        refine r_append e7 (szT (by omega)) ?_
        walk_at "go"
        have p8 : PotAt (upd H7 D (.lst (ws ++ [.ref r]))) p cl (n + 2 + 60 * (i + 1)) := by
          obtain ⟨cells, turn, rest, h1, h2, h3, h4, h5⟩ := p7.ex
          have hcD : cl ≠ D := by
            rintro rfl
            obtain ⟨ca, ta, ra, g1, g2, _⟩ := p3.ex
            rw [g2] at hD
            cases hD
          exact ⟨cells, turn, rest, by rw [upd_ne (Ne.symm hDp)]; exact h1, by rw [upd_ne hcD]; exact h2, h3, by omega, h5⟩
        refine ⟨Same.mut ((del_of s6 del_same).trans s7) gD, p8, ⟨_, rows ++ [row], upd_same, by rw [List.length_append, hrl]; rfl, fun x hx => ?_, ?_⟩, _, rfl⟩
        · rcases List.mem_append.mp hx with y | y
          · exact hri x y
          · rw [List.mem_singleton.mp y]
            exact ri
        · exact push H6 H7 ws _ r _ s6 e6 r6 (cut_del.trans s7) e7 ⟨_, hpp7⟩ hr ⟨_, hpp6⟩ er
      · rintro σ H6 ⟨s6, p6, ⟨ws, rows, e6, hrl, hri, r6⟩, v1, rfl⟩
        have ez : (1 + (z : Int)).toNat = 1 + z := by omega
        rw [ez] at hrl p6
        walk_at "go"
        exact fin H6 ws rows _ (by omega) s6 p6 e6 r6 (rowsI_ok hrl (by omega) (by omega) hri)
end

end TW

set_option Elab.async false
set_option linter.all false
set_option maxRecDepth 100000
set_option maxHeartbeats 4000000
namespace TW
open PySem PySem.Spec PyProof.Rows L2
local macro_rules | `(tactic| walk_at "st0") => `(tactic| with_reducible (first | refine r_seq ?_ | refine r_next ?_ | refine r_ret ?_ | refine r_retN ?_ | refine r_drop ?_ | refine r_asg ?_ | refine r_if ?_ | refine r_gName ?_ | refine r_par ?_ | refine r_c ?_ | refine r_cons ?_ | refine r_nil ?_ | refine r_op ?_ | refine r_CB ?_ | refine r_andV ?_ | refine r_orV ?_ | refine r_notV ?_ | refine r_tIf ?_ | refine r_B ?_ | refine r_Test ?_ | refine r_and ?_ | refine r_or ?_ | refine r_not ?_ | refine r_yes ?_ | refine r_bl ?_ | refine r_T ?_ | refine r_F ?_ | refine r_nT ?_ | refine r_nF ?_ | refine r_I0 ?_ | refine r_eqI ?_ | refine r_neI ?_ | refine r_eqB ?_ | refine r_neB ?_ | refine r_isN0 ?_ | refine r_isN1 ?_ | refine r_isN2 ?_ | refine r_notN0 ?_ | refine r_notN1 ?_ | refine r_notN2 ?_ | refine r_isNo ?_ | refine r_notNo ?_ | refine r_fld ?_ | refine r_sfld ?_ | refine r_tup ?_ | refine r_lst ?_ | refine r_call ?_ | refine r_make ?_ | refine r_sl ?_ | refine r_part ?_ | refine r_noPart ?_ | refine r_iList ?_ | refine r_iTup ?_ | refine r_iRng1 ?_ | refine r_iEnum ?_ | refine r_int1 ?_ | refine r_intB ?_ | refine r_abs ?_ | refine r_bm ?_ | refine r_lc ?_ | refine r_for ?_))
local macro_rules | `(tactic| walk_at "st") => `(tactic| first | walk_at "st0" | ((with_reducible refine' r_var ?e ?_); (case e => exact rfl)) | ((with_reducible refine' r_fldG ?e1 ?e2 ?e3 ?e4 ?_); (case e1 => assumption); (case e2 => assumption); (case e3 => assumption); (case e4 => exact rfl)) | ((with_reducible refine' r_isC ?e ?_); (case e => assumption)) | dsimp only)
local macro_rules | `(tactic| walk_at "go") => `(tactic| repeat (walk_at "st"))
section
variable {P : Program} {w : World} {K : PySem.W.Frag} {mg : Str → Option Value} {base : Heap} {B : Adr}
theorem hu65 {A : Around} {k : Nat} (hr : Room k A) : A.units + 65 < cLine := by
  have := hr.un
  omega
theorem PotAt.upd {H : Hp} {p cl D : Addr} {n : Nat} {o : HO} (h : PotAt H p cl n) (h1 : D ≠ p) (h2 : D ≠ cl) : PotAt (L2.upd H D o) p cl n := by
  obtain ⟨cells, turn, rest, g1, g2, g3⟩ := h.ex
  exact ⟨cells, turn, rest, by rw [upd_ne (Ne.symm h1)]; exact g1, by rw [upd_ne (Ne.symm h2)]; exact g2, g3⟩
theorem PotAt.new {H : Hp} {p cl D : Addr} {n : Nat} (h : PotAt H p cl n) (e : H D = none) : D ≠ p ∧ D ≠ cl := by
  obtain ⟨cells, turn, rest, g1, g2, g3⟩ := h.ex
  exact ⟨Ne.symm (ne_of_none g1 e), Ne.symm (ne_of_none g2 e)⟩
/-- a comprehension whose elements draw from the pot -/
theorem lc_pot {J : It} {n j p cl m : Nat} {G : Hp → Prop} {Y : Nat → Hp → V → Hp → Prop} {Yv : Nat → V → Prop} {te : TE} {vs : List Nat} {σ : L2.St} {H1 : Hp} (w : Walk J n G Y) (hY : ∀ i H x H', Y i H x H' → H' = H ∧ Yv i x) {Dl : Addr} {Qd : Hp → Prop} (hD : H1 Dl = none) (hp : PotAt H1 p cl m) (R : Nat → V → Prop)
    (hn : n ≤ 1000) (hG : ∀ H, Same (del H1 p) H → G H) (hw : ∀ x, wipe ((wipe σ vs).set j (some x)) vs = wipe σ vs)
    (hs : ∀ i x H (Q3 : VK), i < n → Same (del H1 p) H → PotAt H p cl (m + i) → Yv i x → (∀ y H4, Same (del H p) H4 → PotAt H4 p cl (m + i + 1) → R i y → Q3 y H4) → te ((wipe σ vs).set j (some x)) H Q3)
    (hd : ∀ H ys, Same (del H1 p) H → PotAt H p cl (m + n) → H Dl = some (.lst ys) → A2 R (List.range n) ys → Qd H) :
    ∃ W : Nat → Nat → Hp → Prop, (∃ m, W 0 m (upd H1 Dl (.lst []))) ∧ ∀ i m H, W i m H →
      (J.stop i H ∧ Qd H) ∨ (J.go i H ∧ ∃ Nx : Hp → Prop, (∀ H', Nx H' → ∃ m', m' < m ∧ W (i + 1) m' H') ∧ ∀ x H', J.yld i H x H' → gName j x (wipe σ vs) H' fun σ2 H2 => wipe σ2 vs = wipe σ vs ∧ tYes σ2 H2 fun b H3 =>
        if b = true then te σ2 H3 fun y H4 => ∃ acc, H4 Dl = some (.lst acc) ∧ acc.length < sizeLine ∧ Nx (upd H4 Dl (.lst (acc ++ [y]))) else Nx H3) := by
  obtain ⟨n1, n2⟩ := hp.new hD
  have gD : del H1 p Dl = none := by rw [del_ne n1]; exact hD
  refine lc_it w (fun i H => Same (del H1 p) H ∧ PotAt H p cl (m + i) ∧ ∃ ys, H Dl = some (.lst ys) ∧ ys.length ≤ i ∧ A2 R (List.range i) ys) ?_ (fun i H _ z => hG H z.1) ?_ ?_
  · exact ⟨del_le.trans (Same.new hD), hp.upd n1 n2, [], upd_same, Nat.le_refl _, .nil⟩
  · intro i x H H' hi ⟨s1, p1, ys, hl, hle, a⟩ hy
    obtain ⟨rfl, yv⟩ := hY _ _ _ _ hy
    refine ⟨hw x, r_yes (r_T (hs i x _ _ hi s1 p1 yv fun y H4 s4 p4 ry => ?_))⟩
    have e4 : H4 Dl = some (.lst ys) := s4 _ _ (by rw [del_ne n1]; exact hl)
    refine ⟨ys, e4, szT (by omega), Same.mut ((del_of s1 del_same).trans s4) gD, p4.upd n1 n2, _, upd_same, by rw [List.length_append]; simpa using hle, ?_⟩
    rw [List.range_succ]
    exact a.snoc ry
  · rintro H ⟨s1, p1, ys, hl, _, a⟩
    exact hd H ys s1 p1 hl a
theorem A2.nats {is : List Nat} {ys : List V} {b : Nat} (h : A2 (fun _ y => ∃ v : Nat, y = V.int (v : Int) ∧ v < b) is ys) : ∃ hs : List Nat, ys = vN hs ∧ hs.length = is.length ∧ ∀ x ∈ hs, x < b := by
  induction h with
  | nil => exact ⟨[], rfl, rfl, fun _ z => (nomatch z)⟩
  | cons r _ ih =>
    obtain ⟨v, rfl, hv⟩ := r
    obtain ⟨hs, rfl, hl, hb⟩ := ih
    exact ⟨v :: hs, rfl, by rw [List.length_cons, hl]; rfl, fun x hx => (List.mem_cons.mp hx).elim (fun z => z ▸ hv) (hb x)⟩
theorem A2.intsA {is : List Nat} {ys : List V} (h : A2 (fun _ y => ∃ v : Int, y = V.int v) is ys) : ∃ hs : List Int, ys = hs.map V.int ∧ hs.length = is.length := by
  induction h with
  | nil => exact ⟨[], rfl, rfl⟩
  | cons r _ ih =>
    obtain ⟨v, rfl⟩ := r
    obtain ⟨hs, rfl, hl⟩ := ih
    exact ⟨v :: hs, rfl, by rw [List.length_cons, hl]; rfl⟩
def qD (q : Nat × List Nat) : PyData := .tuple [.int (q.1 : Int), dT q.2]
theorem noL_q (q : Nat × List Nat) : noL (qD q) = true := by
  unfold qD
  rw [noL, noLs, noLs, noL_dT]
  rfl
theorem shp_q (q : Nat × List Nat) : Shp (qD q) 2 := shp_tup fun d hd => by
  rcases List.mem_cons.mp hd with rfl | hd
  · exact shp_up (shp_int _) (by decide)
  · rw [List.mem_singleton.mp hd]
    exact shp_dN _
theorem eqv_q (a b : Nat × List Nat) : PyData.eqv (qD a) (qD b) = decide (a = b) := by
  unfold qD
  rw [PyData.eqv, PyData.eqvAll, PyData.eqvAll, PyData.eqvAll, eqv_nat, eqv_dN, Bool.and_true, ← Bool.decide_and]
  exact decide_eq_decide.mpr ⟨fun ⟨x, y⟩ => Prod.ext x y, fun z => by rw [z]; exact ⟨rfl, rfl⟩⟩
theorem any_q (q : Nat × List Nat) : ∀ qs : List (Nat × List Nat), ((qs.map qD).any fun z => PyData.eqv z (qD q)) = decide (q ∈ qs)
  | [] => rfl
  | a :: qs => by
    rw [List.map_cons, List.any_cons, any_q q qs, eqv_q, ← Bool.decide_or]
    exact decide_eq_decide.mpr ⟨fun z => z.elim (fun e => by rw [e]; exact List.mem_cons_self) (List.mem_cons_of_mem _), fun z => (List.mem_cons.mp z).imp Eq.symm id⟩
theorem r_notInD {d : PyData} {ds : List PyData} {x y : V} {H : Hp} {Q : VK} (hx : Rp H x d) (hy : Rp H y (.list ds)) (sd : SeqAt.shaped d = true) (se : SeqAt.shaped (.list ds) = true) (h : Q (.bl (!ds.any fun z => PyData.eqv z d)) H) : rNotInD K x y H Q := ⟨d, ds, hx.dp, hy.dp, sd, se, h⟩
abbrev kS (x : Str) : Key := Sum.inr x
abbrev plK (c : Cs) (qv rv fv mv cv : V) : List (Key × V) := [(kS "things", .int (c.things : Int)), (kS "answerers", .int (c.ans : Int)), (kS "heaps", .int (c.heaps : Int)), (kS "questions", qv), (kS "rows", rv), (kS "firsts", fv), (kS "most", mv), (kS "classes", cv)]
/-- the plain case -/
structure PlAt (G : Hp) (d : Addr) (c : Cs) : Prop where
  ex : ∃ qv rv fv mv cv, G d = some (.dK (plK c qv rv fv mv cv)) ∧ Rp G qv (.list (c.qs.map qD)) ∧ Rp G rv (.list (c.rows.map dRowL)) ∧ Rp G fv (.list (dN c.firsts)) ∧
    ((∃ cs, c.wish = .cls cs ∧ mv = .non ∧ Rp G cv (.list (dI cs))) ∨ ∃ m : Nat, c.wish = .most m ∧ mv = .int (m : Int) ∧ cv = .non)
theorem PlAt.up {G G' : Hp} {d : Addr} {c : Cs} (h : PlAt G d c) (e : Same G G') : PlAt G' d c := by
  obtain ⟨qv, rv, fv, mv, cv, h1, h2, h3, h4, h5⟩ := h.ex
  refine ⟨qv, rv, fv, mv, cv, e _ _ h1, h2.up e, h3.up e, h4.up e, ?_⟩
  rcases h5 with ⟨cs, a, b, r⟩ | h5
  · exact .inl ⟨cs, a, b, r.up e⟩
  · exact .inr h5
def tClasses : TE := (tIf (tTest (tOp rEq (tVar 9) (tC (.int 0)))) (tLstRg (tRg1 (tVar 1))) (tLc (iRng1 (tCons (tVar 1) tNil)) (gName 14) tYes (tCall spLawOut [] C8.E0 (tCons (tVar 0) (tCons (tLst (tCons (tC (.int 7)) (tCons (tC (.int 0)) (tCons (tC (.int 3)) tNil)))) tNil))) [14]))
def tMost : TE := (tIf (tTest (tOp rEq (tVar 9) (tC (.int 3)))) (tOp qAdd (tC (.int 1)) (tCall spLawDip [] C8.E0 (tCons (tVar 0) (tCons (tVar 1) tNil)))) (tC .non))
theorem rgV_ints (n : Nat) : rgV 0 (n : Int) = ((List.range n).map fun i : Nat => (i : Int)).map V.int := by
  rw [rgV_nat, vN_ints]
theorem r_classes {σ : L2.St} {H : Hp} {Q : VK} {p cl n th way : Nat} (e0 : σ[0]? = some (some (.ref p))) (e1 : σ[1]? = some (some (.int (th : Int)))) (e9 : σ[9]? = some (some (.int (way : Int)))) (e0' : ∀ x, ((wipe σ [14]).set 14 (some x))[0]? = some (some (.ref p))) (hw : ∀ x, wipe ((wipe σ [14]).set 14 (some x)) [14] = wipe σ [14]) (hp : PotAt H p cl n) (hn : n ≤ 900) (h1 : th ≤ 4)
    (h : ∀ v H' cs, Same (del H p) H' → PotAt H' p cl (n + 4) → cs.length = th → Rp (del H' p) v (.list (dI cs)) → Q v H') : tClasses σ H Q := by
  refine r_tIf (r_Test (r_op (r_var e9 (r_c (r_eqI (r_bl ?_))))))
  by_cases hw0 : (way : Int) = 0
  · refine r_dT hw0 (r_lstRg (r_var e1 ⟨_, rfl, RgOk.of_le (by omega) (by omega) (by omega) (by omega), fun l hl => ?_⟩))
    obtain ⟨n1, n2⟩ := hp.new hl
    rw [rgV_ints]
    exact h _ _ ((List.range th).map fun i : Nat => (i : Int)) (del_le.trans (Same.new hl)) ((hp.upd n1 n2).le (by omega)) (by rw [List.length_map, List.length_range]) (.lst (by rw [del_ne n1]; exact upd_same) (RpA.ints _))
  · refine r_dF hw0 (r_lc (r_iRng1 (r_cons (r_var e1 (r_nil ⟨_, rfl, by omega, by omega, fun Dl hD => ?_⟩)))))
    obtain ⟨n1, n2⟩ := hp.new hD
    refine lc_pot (walk_range (lo := 0)) yFn hD hp (fun _ y => ∃ v : Int, y = V.int v) (by omega) (fun _ _ => trivial) hw (fun i x H2 Q3 hi s2 p2 yv k => ?_) fun H2 ys s2 p2 e2 aa => ?_
    · refine r_call (r_cons (r_var (e0' _) (r_cons (r_lst (r_cons (r_c (r_cons (r_c (r_cons (r_c (r_nil ⟨by simp [sizeLine_eq], fun a ha => ?_⟩)))))))))))
      obtain ⟨m1, m2⟩ := p2.new ha
      refine r_nil ⟨p, cl, n + i, a, [7, 0, 3], rfl, p2.upd m1 m2, by omega, upd_same, m1, by decide, by decide, fun x H3 _ s3 p3 => k _ _ ?_ p3 ⟨x, rfl⟩⟩
      exact (del_up (Same.new ha)).trans s3
    · obtain ⟨cs, rfl, hl⟩ := aa.intsA
      rw [List.length_range] at hl
      exact h _ _ cs s2 (p2.le (by omega)) (by omega) (.lst (by rw [del_ne n1]; exact e2) (RpA.ints cs))
theorem r_most {σ : L2.St} {H : Hp} {Q : VK} {p cl n th way : Nat} (e0 : σ[0]? = some (some (.ref p))) (e1 : σ[1]? = some (some (.int (th : Int)))) (e9 : σ[9]? = some (some (.int (way : Int)))) (hp : PotAt H p cl n) (hn : n ≤ 900) (h0 : 1 ≤ th) (h1 : th ≤ 4)
    (h : ∀ o H', Same (del H p) H' → PotAt H' p cl (n + 1) → (∀ m, o = some m → 1 ≤ m ∧ m ≤ th) → Q (oN o) H') : tMost σ H Q := by
  refine r_tIf (r_Test (r_op (r_var e9 (r_c (r_eqI (r_bl ?_))))))
  by_cases hw0 : (way : Int) = 3
  · refine r_dT hw0 (r_op (r_c (r_call (r_cons (r_var e0 (r_cons (r_var e1 (r_nil ?_))))))))
    refine ⟨p, cl, n, th, rfl, hp, by omega, by omega, by omega, fun v H2 hv s2 p2 => ?_⟩
    refine r_I0 ?_
    have e : (1 : Int) + (v : Int) = ((1 + v : Nat) : Int) := by omega
    rw [e]
    exact h (some (1 + v)) H2 s2 p2 fun m hm => by
      cases hm
      omega
  · exact r_dF hw0 (r_c (h none H del_le (hp.le (by omega)) fun m hm => by cases hm))
end

end TW

set_option Elab.async false
set_option linter.all false
set_option maxRecDepth 100000
set_option maxHeartbeats 4000000
namespace TW
open PySem PySem.Spec PyProof.Rows L2
local macro_rules | `(tactic| walk_at "st0") => `(tactic| with_reducible (first | refine r_seq ?_ | refine r_next ?_ | refine r_ret ?_ | refine r_retN ?_ | refine r_drop ?_ | refine r_asg ?_ | refine r_if ?_ | refine r_gName ?_ | refine r_par ?_ | refine r_c ?_ | refine r_cons ?_ | refine r_nil ?_ | refine r_op ?_ | refine r_CB ?_ | refine r_andV ?_ | refine r_orV ?_ | refine r_notV ?_ | refine r_tIf ?_ | refine r_B ?_ | refine r_Test ?_ | refine r_and ?_ | refine r_or ?_ | refine r_not ?_ | refine r_yes ?_ | refine r_bl ?_ | refine r_T ?_ | refine r_F ?_ | refine r_nT ?_ | refine r_nF ?_ | refine r_I0 ?_ | refine r_eqI ?_ | refine r_neI ?_ | refine r_eqB ?_ | refine r_neB ?_ | refine r_isN0 ?_ | refine r_isN1 ?_ | refine r_isN2 ?_ | refine r_notN0 ?_ | refine r_notN1 ?_ | refine r_notN2 ?_ | refine r_isNo ?_ | refine r_notNo ?_ | refine r_fld ?_ | refine r_sfld ?_ | refine r_tup ?_ | refine r_lst ?_ | refine r_call ?_ | refine r_make ?_ | refine r_sl ?_ | refine r_part ?_ | refine r_noPart ?_ | refine r_iList ?_ | refine r_iTup ?_ | refine r_iRng1 ?_ | refine r_iEnum ?_ | refine r_int1 ?_ | refine r_intB ?_ | refine r_abs ?_ | refine r_bm ?_ | refine r_lc ?_ | refine r_for ?_))
local macro_rules | `(tactic| walk_at "st") => `(tactic| first | walk_at "st0" | ((with_reducible refine' r_var ?e ?_); (case e => exact rfl)) | ((with_reducible refine' r_fldG ?e1 ?e2 ?e3 ?e4 ?_); (case e1 => assumption); (case e2 => assumption); (case e3 => assumption); (case e4 => exact rfl)) | ((with_reducible refine' r_isC ?e ?_); (case e => assumption)) | dsimp only)
local macro_rules | `(tactic| walk_at "go") => `(tactic| repeat (walk_at "st"))
section
variable {P : Program} {w : World} {K : PySem.W.Frag} {mg : Str → Option Value} {base : Heap} {B : Adr}
theorem r_disp {trs : List (TE × TE)} {σ : L2.St} {H : Hp} {Q : VK} (h : ∀ p, H p = none → tPairs trs σ (upd H p (.dK [])) fun ps H2 => H2 p = some (.dK []) ∧ ∃ kvs : List (Key × V), ps = kvs.map (fun kv => (kV kv.1, kv.2)) ∧ kvs.length ≤ 15 ∧ Q (.ref p) (upd H2 p (.dK (mergeK [] kvs)))) : tDisp trs σ H Q := h
theorem get_dK {H : Hp} {a : Addr} {kvs : List (Key × V)} {x : Str} {v : V} (e : H a = some (.dK kvs)) (hv : valV kvs (kS x) = some v) : DGet H a (.str x) (some v) := .inl ⟨kvs, kS x, Rd.of e, rfl, hv.symm⟩
def spLawPlain : Sp := fun vs H Q _ => ∃ (p cl : Nat), vs = [.ref p] ∧ PotAt H p cl 0 ∧ ∀ d c H', Same (del H p) H' → PotAt H' p cl 900 → c.Ok → PlAt (del H' p) d c → Q (.ref d) H'
theorem ok__law_plain (T : Tx K mg B) : C8.Cal P w K mg base 4 "_law_plain" spLawPlain [] := by
  have c__law_out := ok__law_out (P := P) (w := w) (base := base) T
  have c__law_dip := ok__law_dip (P := P) (w := w) (base := base) T
  have c__law_rows := ok__law_rows (P := P) (w := w) (base := base) T
  refine cal_of T.d_law_plain scLawPlain (fun _ _ _ _ _ _ us hl => match us, hl with | [_], _ => rfl) (fun vs H Q E h => ?_) (fun f cdv AA outer s H vs Q E hr h => ?_)
  · first | (obtain ⟨_, rfl, _⟩ := h; rfl) | (obtain ⟨_, _, rfl, _⟩ := h; rfl) | (obtain ⟨_, _, _, rfl, _⟩ := h; rfl) | (obtain ⟨_, _, _, _, rfl, _⟩ := h; rfl) | (obtain ⟨_, _, _, _, _, rfl, _⟩ := h; rfl) | (obtain ⟨_, _, _, _, _, _, rfl, _⟩ := h; rfl) | (obtain ⟨_, _, _, _, _, _, _, rfl, _⟩ := h; rfl) | (obtain ⟨_, _, _, _, _, _, _, _, rfl, _⟩ := h; rfl) | (obtain ⟨_, _, _, _, _, _, _, _, _, rfl, _⟩ := h; rfl) | (obtain ⟨_, _, _, _, _, _, _, _, _, _, rfl, _⟩ := h; rfl) | (obtain ⟨_, _, _, _, _, _, _, _, _, _, _, rfl, _⟩ := h; rfl) | (obtain ⟨_, _, _, _, _, _, _, _, _, _, _, _, rfl, _⟩ := h; rfl) | (obtain ⟨_, _, _, _, _, _, _, _, _, _, _, _, _, rfl, _⟩ := h; rfl) | (obtain ⟨_, _, _, _, _, _, _, _, _, _, _, _, _, _, rfl, _⟩ := h; rfl) | (obtain ⟨_, _, _, _, _, _, _, _, _, _, _, _, _, _, _, rfl, _⟩ := h; rfl) | (obtain ⟨_, _, _, _, _, _, _, _, _, _, _, _, _, _, _, _, rfl, _⟩ := h; rfl) | (obtain ⟨_, _, _, _, _, _, _, _, _, _, _, _, _, _, _, _, _, rfl, _⟩ := h; rfl) | (obtain ⟨_, _, _, _, _, _, _, _, _, _, _, _, _, _, _, _, _, _, rfl, _⟩ := h; rfl) | (obtain ⟨_, _, _, _, _, _, _, _, _, _, _, _, _, _, _, _, _, _, _, rfl, _⟩ := h; rfl)
  · refine ⟨(tSeq (tAsg (tTup (tCons (tCall spLawOut [] C8.E0 (tCons (tVar 0) (tCons (tLst (tCons (tC (.int 2)) (tCons (tC (.int 3)) (tCons (tC (.int 2)) (tCons (tC (.int 4)) (tCons (tC (.int 1)) tNil)))))) tNil))) (tCons (tCall spLawOut [] C8.E0 (tCons (tVar 0) (tCons (tLst (tCons (tC (.int 1)) (tCons (tC (.int 1)) (tCons (tC (.int 2)) tNil)))) tNil))) (tCons (tCall spLawOut [] C8.E0 (tCons (tVar 0) (tCons (tLst (tCons (tC (.int 2)) (tCons (tC (.int 2)) (tCons (tC (.int 3)) tNil)))) tNil))) tNil)))) (gTup K 3 (gCons (gName 1) (gCons (gName 2) (gCons (gName 3) gNil)))))
    (tSeq (tAsg (tLst tNil) (gName 4))
    (tSeq (tFor (iRng1 (tCons (tCall spLawOut [] C8.E0 (tCons (tVar 0) (tCons (tLst (tCons (tC (.int 2)) (tCons (tC (.int 3)) (tCons (tC (.int 1)) (tCons (tC (.int 2)) (tCons (tC (.int 0)) tNil)))))) tNil))) tNil)) (gName 5) (tSeq (tAsg (tTup (tCons (tCall spLawDip [] C8.E0 (tCons (tVar 0) (tCons (tVar 2) tNil))) (tCons (tCB (qTupS K) (tCons (tLc (iRng1 (tCons (tVar 1) tNil)) (gName 14) tYes (tCall spLawDip [] C8.E0 (tCons (tVar 0) (tCons (tVar 3) tNil))) [14]) tNil)) tNil))) (gName 13))
    (tIfS (tTest (tOp (rNotInD K) (tVar 13) (tVar 4))) (tDrop (tBM K "list" rAppend (tVar 4) (tCons (tVar 13) tNil))) tNext)))
    (tSeq (tAsg (tTup (tCons (tCall spLawRows [] C8.E0 (tCons (tVar 0) (tCons (tVar 2) (tCons (tVar 3) tNil)))) (tCons (tCall spLawDip [] C8.E0 (tCons (tVar 0) (tCons (tC (.int 2)) tNil))) tNil))) (gTup K 2 (gCons (gName 6) (gCons (gName 7) gNil))))
    (tSeq (tPar 8 9 (tCons (tLc (iRng1 (tCons (tVar 1) tNil)) (gName 14) tYes (tOp qMul (tCall spLawDip [] C8.E0 (tCons (tVar 0) (tCons (tCB (Evl.rLenS K) (tCons (tVar 6) tNil)) tNil))) (tVar 7)) [14]) (tCons (tCall spLawDip [] C8.E0 (tCons (tVar 0) (tCons (tC (.int 4)) tNil))) tNil)))
    (tSeq (tAsg tClasses (gName 10))
    (tSeq (tAsg tMost (gName 11))
    (tSeq (tAsg (tDisp [((tC (.str "things")), (tVar 1)), ((tC (.str "answerers")), (tVar 2)), ((tC (.str "heaps")), (tVar 3)), ((tC (.str "questions")), (tVar 4))]) (gName 12))
    (tSeq (tAsg (tTup (tCons (tVar 6) (tCons (tVar 8) (tCons (tVar 11) tNil)))) (gTup K 3 (gCons (gSub (tVar 12) (tC (.str "rows")) rSetD) (gCons (gSub (tVar 12) (tC (.str "firsts")) rSetD) (gCons (gSub (tVar 12) (tC (.str "most")) rSetD) gNil)))))
    (tSeq (sDPut (tVar 12) (tC (.str "classes")) (tIf (tTest (tOp rIsN (tVar 11) (tC .non))) (tVar 10) (tC .non)))
    (tRet (tVar 12)))))))))))),
    (pss_cons (ps_asg (pe_tup (pa_cons (C8.pe_c c__law_out hr (by decide) rfl (pa_cons (pv 0) (pa_cons (pe_lst (pa_cons pe_int (pa_cons pe_int (pa_cons pe_int (pa_cons pe_int (pa_cons pe_int pa_nil)))))) pa_nil))) (pa_cons (C8.pe_c c__law_out hr (by decide) rfl (pa_cons (pv 0) (pa_cons (pe_lst (pa_cons pe_int (pa_cons pe_int (pa_cons pe_int pa_nil)))) pa_nil))) (pa_cons (C8.pe_c c__law_out hr (by decide) rfl (pa_cons (pv 0) (pa_cons (pe_lst (pa_cons pe_int (pa_cons pe_int (pa_cons pe_int pa_nil)))) pa_nil))) pa_nil)))) (pg_tup (by rfl) (pgs_cons (pg_name (i := 1) scLawPlain.nd rfl (Or.inl rfl)) (pgs_cons (pg_name (i := 2) scLawPlain.nd rfl (Or.inl rfl)) (pgs_cons (pg_name (i := 3) scLawPlain.nd rfl (Or.inr rfl)) pgs_nil)))))
    (pss_cons (ps_set (i := 4) scLawPlain.nd rfl (Or.inl rfl) (pe_lst pa_nil))
    (pss_cons (ps_for PassesOwn.never rfl (pi_range1 (by rfl) T.f_range (pa_cons (C8.pe_c c__law_out hr (by decide) rfl (pa_cons (pv 0) (pa_cons (pe_lst (pa_cons pe_int (pa_cons pe_int (pa_cons pe_int (pa_cons pe_int (pa_cons pe_int pa_nil)))))) pa_nil))) pa_nil)) (pg_name (i := 5) scLawPlain.nd rfl (Or.inl rfl)) (pss_cons (ps_set (i := 13) scLawPlain.nd rfl (Or.inl rfl) (pe_tup (pa_cons (C8.pe_c c__law_dip hr (by decide) rfl (pa_cons (pv 0) (pa_cons (pv 2) pa_nil))) (pa_cons (pe_callTy call_tuple_of (by rfl) T.f_tuple (by decide +kernel) (pa_cons (pe_lc (own := [("_law_thing", 14)]) (g := (gName 14)) (tt := tYes) (te := (tCall spLawDip [] C8.E0 (tCons (tVar 0) (tCons (tVar 3) tNil)))) rfl scLawPlain.nd (pi_range1 (by rfl) T.f_range (pa_cons (pv 1) pa_nil)) (blkOk_by (own := [("_law_thing", 14)]) (N := nLawPlain) (sc := defScope sLawPlain) (by decide +kernel)) (fun _ _ _ _ _ => (pg_name (i := 14) scLawPlain.nd rfl (Or.inl rfl))) (fun _ _ _ _ _ => pts_nil) (fun _ _ _ _ _ => (C8.pe_c c__law_dip hr (by decide) rfl (pa_cons (pv 0) (pa_cons (pv 3) pa_nil))))) pa_nil)) pa_nil))))
    (pss_one (ps_if (pt_cmpR (op_notInD (hu65 hr)) (pv 13) (pv 4) (by rfl)) (pss_one (ps_expr (pe_bm PySem.F.plainAttrs_list PySem.F.slot_list_append PySem.F.type_list_append mt_append (pv 4) (pa_cons (pv 13) pa_nil)))) pss_nil))))
    (pss_cons (ps_asg (pe_tup (pa_cons (C8.pe_c c__law_rows hr (by decide) rfl (pa_cons (pv 0) (pa_cons (pv 2) (pa_cons (pv 3) pa_nil)))) (pa_cons (C8.pe_c c__law_dip hr (by decide) rfl (pa_cons (pv 0) (pa_cons pe_int pa_nil))) pa_nil))) (pg_tup (by rfl) (pgs_cons (pg_name (i := 6) scLawPlain.nd rfl (Or.inr rfl)) (pgs_cons (pg_name (i := 7) scLawPlain.nd rfl (Or.inr rfl)) pgs_nil))))
    (pss_cons (ps_par (i := 8) (j := 9) rfl scLawPlain.nd rfl rfl (by decide) rfl rfl (pa_cons (pe_lc (own := [("_law_thing", 14)]) (g := (gName 14)) (tt := tYes) (te := (tOp qMul (tCall spLawDip [] C8.E0 (tCons (tVar 0) (tCons (tCB (Evl.rLenS K) (tCons (tVar 6) tNil)) tNil))) (tVar 7))) rfl scLawPlain.nd (pi_range1 (by rfl) T.f_range (pa_cons (pv 1) pa_nil)) (blkOk_by (own := [("_law_thing", 14)]) (N := nLawPlain) (sc := defScope sLawPlain) (by decide +kernel)) (fun _ _ _ _ _ => (pg_name (i := 14) scLawPlain.nd rfl (Or.inl rfl))) (fun _ _ _ _ _ => pts_nil) (fun _ _ _ _ _ => (pe_op op_mul (C8.pe_c c__law_dip hr (by decide) rfl (pa_cons (pv 0) (pa_cons (pe_callB call_len_seq (by rfl) T.f_len (by decide +kernel) (pa_cons (pv 6) pa_nil)) pa_nil))) (pv 7)))) (pa_cons (C8.pe_c c__law_dip hr (by decide) rfl (pa_cons (pv 0) (pa_cons pe_int pa_nil))) pa_nil)) (by rfl))
    (pss_cons (ps_set (i := 10) scLawPlain.nd rfl (Or.inl rfl) (pe_ifExp (pt_cmpR op_eq (pv 9) pe_int (nomark _)) (pe_listRg (by rfl) (by rfl) T.f_list (prg_1 (by rfl) T.f_range (pv 1))) (pe_lc (own := [("_law_thing", 14)]) (g := (gName 14)) (tt := tYes) (te := (tCall spLawOut [] C8.E0 (tCons (tVar 0) (tCons (tLst (tCons (tC (.int 7)) (tCons (tC (.int 0)) (tCons (tC (.int 3)) tNil)))) tNil)))) rfl scLawPlain.nd (pi_range1 (by rfl) T.f_range (pa_cons (pv 1) pa_nil)) (blkOk_by (own := [("_law_thing", 14)]) (N := nLawPlain) (sc := defScope sLawPlain) (by decide +kernel)) (fun _ _ _ _ _ => (pg_name (i := 14) scLawPlain.nd rfl (Or.inl rfl))) (fun _ _ _ _ _ => pts_nil) (fun _ _ _ _ _ => (C8.pe_c c__law_out hr (by decide) rfl (pa_cons (pv 0) (pa_cons (pe_lst (pa_cons pe_int (pa_cons pe_int (pa_cons pe_int pa_nil)))) pa_nil)))))))
    (pss_cons (ps_set (i := 11) scLawPlain.nd rfl (Or.inl rfl) (pe_ifExp (pt_cmpR op_eq (pv 9) pe_int (nomark _)) (pe_op op_add pe_int (C8.pe_c c__law_dip hr (by decide) rfl (pa_cons (pv 0) (pa_cons (pv 1) pa_nil)))) pe_non))
    (pss_cons (ps_set (i := 12) scLawPlain.nd rfl (Or.inl rfl) (pe_disp (pps_cons pe_str (pv 1) (pps_cons pe_str (pv 2) (pps_cons pe_str (pv 3) (pps_cons pe_str (pv 4) pps_nil)))) (by rfl) (by rfl) (fun z => by cases z) (by decide)))
    (pss_cons (ps_asg (pe_tup (pa_cons (pv 6) (pa_cons (pv 8) (pa_cons (pv 11) pa_nil)))) (pg_tup (by rfl) (pgs_cons (pg_sub (pv 12) pe_str (set_dict (hu_of hr))) (pgs_cons (pg_sub (pv 12) pe_str (set_dict (hu_of hr))) (pgs_cons (pg_sub (pv 12) pe_str (set_dict (hu_of hr))) pgs_nil)))))
    (pss_cons (ps_dput (hu_of hr) (pv 12) pe_str (pe_ifExp (pt_cmpR op_isN1 (pv 11) pe_non (nomark _)) (pv 10) pe_non) rfl)
    (pss_one (ps_ret (pv 12))))))))))))), ?_⟩
    obtain ⟨p, cl, rfl, hp, q⟩ := h
    -- things, answerers, heaps
    walk_at "go"
    refine ⟨by simp [sizeLine_eq], fun a1 ha1 => ?_⟩
    obtain ⟨n1, n2⟩ := hp.new ha1
    walk_at "go"
    refine ⟨p, cl, 0, a1, [2, 3, 2, 4, 1], rfl, hp.upd n1 n2, by decide, upd_same, n1, by decide, by decide, fun x H1 hx s1 p1 => ?_⟩
    obtain ⟨th, rfl, th1, th4⟩ : ∃ th : Nat, x = (th : Int) ∧ 1 ≤ th ∧ th ≤ 4 := ⟨x.toNat, by simp at hx; omega, by simp at hx; omega, by simp at hx; omega⟩
    replace s1 : Same (del H p) H1 := (del_up (Same.new ha1)).trans s1
    clear n1 n2 ha1 hx
    walk_at "go"
    refine ⟨by simp [sizeLine_eq], fun a2 ha2 => ?_⟩
    obtain ⟨n1, n2⟩ := p1.new ha2
    walk_at "go"
    refine ⟨p, cl, 1, a2, [1, 1, 2], rfl, p1.upd n1 n2, by decide, upd_same, n1, by decide, by decide, fun x H2 hx s2 p2 => ?_⟩
    obtain ⟨an, rfl, an1, an2⟩ : ∃ th : Nat, x = (th : Int) ∧ 1 ≤ th ∧ th ≤ 2 := ⟨x.toNat, by simp at hx; omega, by simp at hx; omega, by simp at hx; omega⟩
    replace s2 : Same (del H p) H2 := (del_of s1 del_same).trans ((del_up (Same.new ha2)).trans s2)
    clear n1 n2 ha2 hx
    walk_at "go"
    refine ⟨by simp [sizeLine_eq], fun a3 ha3 => ?_⟩
    obtain ⟨n1, n2⟩ := p2.new ha3
    walk_at "go"
    refine ⟨p, cl, 2, a3, [2, 2, 3], rfl, p2.upd n1 n2, by decide, upd_same, n1, by decide, by decide, fun x H3 hx s3 p3 => ?_⟩
    obtain ⟨hp3, rfl, hp2, hp33⟩ : ∃ th : Nat, x = (th : Int) ∧ 2 ≤ th ∧ th ≤ 3 := ⟨x.toNat, by simp at hx; omega, by simp at hx; omega, by simp at hx; omega⟩
    replace s3 : Same (del H p) H3 := (del_of s2 del_same).trans ((del_up (Same.new ha3)).trans s3)
    clear n1 n2 ha3 hx
    walk_at "go"
    refine ⟨by simp [sizeLine_eq], fun T hT => ?_⟩
    refine r_gTrip (upd_same) ?_
    obtain ⟨n1, n2⟩ := p3.new hT
    have p4 := p3.upd (o := .tup [.int (th : Int), .int (an : Int), .int (hp3 : Int)]) n1 n2
    have s4 := s3.trans (Same.new (o := .tup [.int (th : Int), .int (an : Int), .int (hp3 : Int)]) hT)
    generalize L2.upd H3 T (.tup [.int (th : Int), .int (an : Int), .int (hp3 : Int)]) = H4 at p4 s4 ⊢
    clear n1 n2 hT
    walk_at "go"
    -- the questions
    refine ⟨by simp [sizeLine_eq], fun D hD => ?_⟩
    obtain ⟨nDp, nDc⟩ := p4.new hD
    have gD : del H4 p D = none := by rw [del_ne nDp]; exact hD
    have s5 : Same (del H4 p) (L2.upd H4 D (.lst [])) := del_le.trans (Same.new hD)
    have p5 := p4.upd (o := .lst []) nDp nDc
    have e5 : L2.upd H4 D (.lst []) D = some (.lst []) := upd_same
    generalize L2.upd H4 D (.lst []) = H5 at s5 p5 e5 ⊢
    walk_at "go"
    refine ⟨by simp [sizeLine_eq], fun a4 ha4 => ?_⟩
    obtain ⟨n1, n2⟩ := p5.new ha4
    walk_at "go"
    refine ⟨p, cl, 3, a4, [2, 3, 1, 2, 0], rfl, p5.upd n1 n2, by decide, upd_same, n1, by decide, by decide, fun x H6 hx s6 p6 => ?_⟩
    obtain ⟨qn, rfl, qn3⟩ : ∃ th : Nat, x = (th : Int) ∧ th ≤ 3 := ⟨x.toNat, by simp at hx; omega, by simp at hx; omega⟩
    replace s6 : Same (del H4 p) H6 ∧ H6 D = some (.lst []) := by
      have s56 := (del_up (Same.new (o := .lst (List.map V.int [2, 3, 1, 2, 0])) ha4)).trans s6
      exact ⟨(del_of s5 del_same).trans s56, s56 _ _ (by rw [del_ne nDp]; exact e5)⟩
    obtain ⟨s6, e6⟩ := s6
    clear n1 n2 ha4 hx s5 p5 e5
    walk_at "go"
    refine ⟨_, rfl, by omega, by omega, for_1 (walk_range (lo := 0)) yFn (fun i σ H' => Same (del H4 p) H' ∧ PotAt H' p cl (4 + 5 * i) ∧ (∃ zs qs, H' D = some (.lst zs) ∧ RpA H' zs (qs.map qD) ∧ qs.length ≤ i ∧ (∀ q ∈ qs, QOk th an hp3 q) ∧ qs.Nodup) ∧ ∃ v5 v13, σ = [some (.ref p), some (.int (th : Int)), some (.int (an : Int)), some (.int (hp3 : Int)), some (.ref D), v5, none, none, none, none, none, none, none, v13, none])
      ⟨s6, p6, ⟨[], [], e6, .nil, Nat.le_refl _, fun _ z => (nomatch z), List.nodup_nil⟩, _, _, rfl⟩ (fun _ _ _ _ _ => trivial) ?_ ?_⟩
    · rintro i x σ H7 hi ⟨s7, p7, ⟨zs, qs, e7, r7, ql, qok, qnd⟩, v5, v13, rfl⟩ rfl
      have hi' : i < qn := by simpa using hi
      walk_at "go"
      refine ⟨p, cl, 4 + 5 * i, an, rfl, p7, by omega, by omega, by omega, fun wv H8 hwv s8 p8 => ?_⟩
      have e8 : H8 D = some (.lst zs) := s8 _ _ (by rw [del_ne nDp]; exact e7)
      obtain ⟨c7, t7, r70, hpp7, _⟩ := p7.ex
      have r8 : RpA H8 zs (qs.map qD) := (rpA_delN hpp7 _ _ (noLs_map noL_q _) r7).up s8
      replace s8 : Same (del H4 p) H8 := (del_of s7 del_same).trans s8
      walk_at "go"
      refine ⟨_, rfl, by omega, by omega, fun Dl hDl => lc_pot (walk_range (lo := 0)) yFn hDl p8 (fun _ y => ∃ v : Nat, y = V.int (v : Int) ∧ v < hp3) (by omega) (fun _ _ => trivial) (fun _ => rfl) (fun j y H9 Q9 hj s9 p9 _ k => ?_) fun H9 ys s9 p9 e9 aa => ?_⟩
      · walk_at "go"
        exact ⟨p, cl, _, hp3, rfl, p9, by omega, by omega, by omega, fun v H10 hv s10 p10 => k _ _ s10 p10 ⟨v, rfl, hv⟩⟩
      · obtain ⟨hs, rfl, hsl, hsb⟩ := aa.nats
        have en : ((th : Nat) : Int).toNat = th := Int.toNat_natCast _
        rw [List.length_range, en] at hsl
        rw [en] at p9
        obtain ⟨c8, t8, r80, hpp8, _⟩ := p8.ex
        have eD9 : H9 D = some (.lst zs) := s9 _ _ (by rw [del_ne nDp]; exact e8)
        have r9 : RpA H9 zs (qs.map qD) := (rpA_delN hpp8 _ _ (noLs_map noL_q _) r8).up s9
        replace s9 : Same (del H4 p) H9 := (del_of s8 del_same).trans s9
        walk_at "go"
        refine r_tupL e9 fun ht hht => ?_
        walk_at "go"
        refine ⟨by simp [sizeLine_eq], fun ot hot => ?_⟩
        have sa := Same.new (o := .tup (vN hs)) hht
        have sb := Same.new (o := .tup [.int (wv : Int), .ref ht]) hot
        have rq : Rp (L2.upd (L2.upd H9 ht (.tup (vN hs))) ot (.tup [.int (wv : Int), .ref ht])) (.ref ot) (qD (wv, hs)) := .tup upd_same (.cons (.int _) (.cons ((Rp.nats (upd_same (H := H9) (a := ht))).up sb) .nil))
        have sab := sa.trans sb
        have e10 := sab _ _ eD9
        have r10 := r9.up sab
        have p10 := p9.up sab
        have s10 := s9.trans sab
        generalize L2.upd (L2.upd H9 ht (.tup (vN hs))) ot (.tup [.int (wv : Int), .ref ht]) = H10 at rq e10 r10 p10 s10 ⊢
        have hzl : zs.length = qs.length := by rw [r10.len, List.length_map]
        walk_at "go"
        refine r_notInD (d := qD (wv, hs)) (ds := qs.map qD) rq (.lst e10 r10) ((shp_q _).sh (by decide)) ((shp_lst (shp_map shp_q _)).sh (by decide)) ?_
        rw [any_q]
        walk_at "go"
        by_cases hm : (wv, hs) ∈ qs
        · rw [decide_eq_true hm]
          refine r_nT ?_
          walk_at "go"
          exact ⟨s10, p10.le (by omega), ⟨zs, qs, e10, r10, by omega, qok, qnd⟩, _, _, rfl⟩
        · rw [decide_eq_false hm]
          refine r_nF ?_
          walk_at "go"
          refine ⟨tyL e10, ?_⟩
          walk_at "go"
          refine r_append e10 (szT (by omega)) ?_
          walk_at "go"
          refine ⟨Same.mut s10 gD, (p10.upd nDp nDc).le (by omega), ⟨_, qs ++ [(wv, hs)], upd_same, ?_, by rw [List.length_append]; show qs.length + 1 ≤ i + 1; omega, fun x hx => ?_, ?_⟩, _, _, rfl⟩
          · rw [List.map_append]
            exact RpA.snoc (rpA_keepL e10 _ _ (noLs_map noL_q _) r10) (rp_keepL e10 _ _ (noL_q _) rq)
          · rcases List.mem_append.mp hx with y | y
            · exact qok x y
            · rw [List.mem_singleton.mp y]
              exact ⟨hwv, hsl, hsb⟩
          · exact List.nodup_append.mpr ⟨qnd, List.nodup_cons.mpr ⟨List.not_mem_nil, List.nodup_nil⟩, fun x hx y hy e => hm (by rw [← List.mem_singleton.mp hy, ← e]; exact hx)⟩
    · rintro σ H7 ⟨s7, p7, ⟨zs, qs, e7, r7, ql, qok, qnd⟩, v5, v13, rfl⟩
      have en : ((qn : Nat) : Int).toNat = qn := Int.toNat_natCast _
      rw [en] at p7 ql
      obtain ⟨c7, t7, r70, hpp7, _⟩ := p7.ex
      have rq7 : Rp (del H7 p) (.ref D) (.list (qs.map qD)) := .lst (by rw [del_ne nDp]; exact e7) (rpA_delN hpp7 _ _ (noLs_map noL_q _) r7)
      replace s7 : Same (del H p) H7 := (del_of s4 del_same).trans s7
      clear s6 e6 p6 e7 r7
      -- the rows
      walk_at "go"
      refine ⟨p, cl, 4 + 5 * qn, an, hp3, rfl, p7, by omega, an1, an2, hp2, hp33, fun rr rows H8 s8 p8 hrp rok r8 => ?_⟩
      have s78 := del_of s8 del_same
      have rq8 := rq7.up s78
      replace s8 : Same (del H p) H8 := (del_of s7 del_same).trans s8
      obtain ⟨_, rs, hh, ers, rrs⟩ := r8.lst_inv
      cases hh
      have hrl : rs.length = rows.length := by rw [rrs.len, List.length_map]
      have rl := rok.len
      walk_at "go"
      refine ⟨p, cl, _, 2, rfl, p8, by omega, by decide, by decide, fun al H9 hal s9 p9 => ?_⟩
      have s89 := del_of s9 del_same
      have rq9 := rq8.up s89
      have r9 := r8.up s89
      have ers9 := s89 _ _ ers
      replace s9 : Same (del H p) H9 := (del_of s8 del_same).trans s9
      walk_at "go"
      refine ⟨by simp [sizeLine_eq], fun T2 hT2 => ?_⟩
      refine r_gPair upd_same ?_
      obtain ⟨n1, n2⟩ := p9.new hT2
      have p10 := p9.upd (o := .tup [.ref rr, .int (al : Int)]) n1 n2
      have sn := Same.new (o := .tup [.ref rr, .int (al : Int)]) hT2
      have rq10 := rq9.up (del_up sn)
      have r10 := r9.up (del_up sn)
      have ers10 := del_up sn _ _ ers9
      have s10 := s9.trans sn
      generalize L2.upd H9 T2 (.tup [.ref rr, .int (al : Int)]) = H10 at p10 rq10 r10 ers10 s10 ⊢
      clear n1 n2 sn hT2
      -- the first stands
      walk_at "go"
      refine ⟨_, rfl, by omega, by omega, fun Dl hDl => lc_pot (walk_range (lo := 0)) yFn hDl p10 (fun _ y => ∃ v : Nat, y = V.int (v : Int) ∧ v < rows.length) (by omega) (fun _ _ => trivial) (fun _ => rfl) (fun j y H11 Q11 hj s11 p11 _ k => ?_) fun H11 ys s11 p11 e11 aa => ?_⟩
      · walk_at "go"
        refine r_lenL (s11 _ _ ers10) ?_
        walk_at "go"
        rw [hrl]
        refine ⟨p, cl, _, rows.length, rfl, p11, by omega, by omega, by omega, fun v H12 hv s12 p12 => ?_⟩
        walk_at "go"
        refine r_I ?_ (cint (by omega) (by omega))
        refine k _ _ s12 p12 ⟨v * al, by rw [Int.natCast_mul], ?_⟩
        have : al = 0 ∨ al = 1 := by omega
        rcases this with rfl | rfl
        · omega
        · omega
      · obtain ⟨fs, rfl, hfl, hfb⟩ := aa.nats
        have en2 : ((th : Nat) : Int).toNat = th := Int.toNat_natCast _
        rw [List.length_range, en2] at hfl
        rw [en2] at p11
        obtain ⟨nl1, nl2⟩ := p10.new hDl
        have rf11 : Rp (del H11 p) (.ref Dl) (.list (dN fs)) := .lst (by rw [del_ne nl1]; exact e11) (RpA.nats _ fs)
        have rq11 := rq10.up (del_of s11 del_same)
        have r11 := r10.up (del_of s11 del_same)
        replace s11 : Same (del H p) H11 := (del_of s10 del_same).trans s11
        walk_at "go"
        refine ⟨p, cl, _, 4, rfl, p11, by omega, by decide, by decide, fun way H12 hway s12 p12 => ?_⟩
        have rf12 := rf11.up (del_of s12 del_same)
        have rq12 := rq11.up (del_of s12 del_same)
        have r12 := r11.up (del_of s12 del_same)
        replace s12 : Same (del H p) H12 := (del_of s11 del_same).trans s12
        walk_at "go"
        refine ⟨_, _, rfl, ?_⟩
        walk_at "go"
        refine r_classes (p := p) (cl := cl) (th := th) (way := way) rfl rfl rfl (fun _ => rfl) (fun _ => rfl) p12 (by omega) th4 fun cv H13 cs s13 p13 hcl rc13 => ?_
        have rf13 := rf12.up (del_of s13 del_same)
        have rq13 := rq12.up (del_of s13 del_same)
        have r13 := r12.up (del_of s13 del_same)
        replace s13 : Same (del H p) H13 := (del_of s12 del_same).trans s13
        walk_at "go"
        refine r_most (p := p) (cl := cl) (th := th) (way := way) rfl rfl rfl p13 (by omega) th1 th4 fun mo H14 s14 p14 hmo => ?_
        have rc14 := rc13.up (del_of s14 del_same)
        have rf14 := rf13.up (del_of s14 del_same)
        have rq14 := rq13.up (del_of s14 del_same)
        have r14 := r13.up (del_of s14 del_same)
        replace s14 : Same (del H p) H14 := (del_of s13 del_same).trans s14
        walk_at "go"
        -- the dict
        refine r_disp fun d hd => ?_
        obtain ⟨nd1, nd2⟩ := p14.new hd
        have gd : del H14 p d = none := by rw [del_ne nd1]; exact hd
        unfold tPairs
        walk_at "go"
        unfold tPairs
        walk_at "go"
        unfold tPairs
        walk_at "go"
        unfold tPairs
        walk_at "go"
        unfold tPairs
        refine ⟨upd_same, [(kS "things", .int (th : Int)), (kS "answerers", .int (an : Int)), (kS "heaps", .int (hp3 : Int)), (kS "questions", .ref D)], rfl, by show 4 ≤ 15; omega, ?_⟩
        rw [upd_upd]
        have ed : L2.upd H14 d (.dK (mergeK [] [(kS "things", .int (th : Int)), (kS "answerers", .int (an : Int)), (kS "heaps", .int (hp3 : Int)), (kS "questions", .ref D)])) d = some (.dK [(kS "things", .int (th : Int)), (kS "answerers", .int (an : Int)), (kS "heaps", .int (hp3 : Int)), (kS "questions", .ref D)]) := upd_same
        have s15 : Same (del H14 p) (L2.upd H14 d (.dK (mergeK [] [(kS "things", .int (th : Int)), (kS "answerers", .int (an : Int)), (kS "heaps", .int (hp3 : Int)), (kS "questions", .ref D)]))) := Same.mut del_le gd
        have p15 := p14.upd (o := .dK (mergeK [] [(kS "things", .int (th : Int)), (kS "answerers", .int (an : Int)), (kS "heaps", .int (hp3 : Int)), (kS "questions", .ref D)])) nd1 nd2
        generalize L2.upd H14 d (.dK (mergeK [] [(kS "things", .int (th : Int)), (kS "answerers", .int (an : Int)), (kS "heaps", .int (hp3 : Int)), (kS "questions", .ref D)])) = H15 at ed s15 p15 ⊢
        walk_at "go"
        refine ⟨by simp [sizeLine_eq], fun T3 hT3 => ?_⟩
        have e16 := Same.new (o := .tup [.ref rr, .ref Dl, oN mo]) hT3 _ _ ed
        have s16 := s15.trans (Same.new (o := .tup [.ref rr, .ref Dl, oN mo]) hT3)
        obtain ⟨n1, n2⟩ := p15.new hT3
        have p16 := p15.upd (o := .tup [.ref rr, .ref Dl, oN mo]) n1 n2
        have eT : L2.upd H15 T3 (.tup [.ref rr, .ref Dl, oN mo]) T3 = some (.tup [.ref rr, .ref Dl, oN mo]) := upd_same
        generalize L2.upd H15 T3 (.tup [.ref rr, .ref Dl, oN mo]) = H16 at e16 s16 p16 eT ⊢
        refine ⟨T3, _, rfl, SqT.of eT, rfl, .ref rr, _, rfl, ?_⟩
        refine r_gSub ?_
        walk_at "go"
        refine ⟨d, _, rfl, DPut.k (k := kS "rows") e16 (by show 4 < sizeLine; exact szT (by decide)), ?_⟩
        refine ⟨.ref Dl, _, rfl, ?_⟩
        refine r_gSub ?_
        walk_at "go"
        refine ⟨d, _, rfl, DPut.k (k := kS "firsts") upd_same (by show 5 < sizeLine; exact szT (by decide)), ?_⟩
        rw [upd_upd]
        refine ⟨oN mo, _, rfl, ?_⟩
        refine r_gSub ?_
        walk_at "go"
        refine ⟨d, _, rfl, DPut.k (k := kS "most") upd_same (by show 6 < sizeLine; exact szT (by decide)), ?_⟩
        rw [upd_upd]
        refine ⟨rfl, ?_⟩
        walk_at "go"
        refine r_dput ?_
        walk_at "go"
        refine r_isO ?_
        walk_at "go"
        have ok : ∀ wi : Wi, WiOk th wi → (⟨th, an, hp3, qs, rows, fs, wi⟩ : Cs).Ok := fun wi hwi => ⟨⟨th1, th4⟩, ⟨an1, an2⟩, ⟨hp2, hp33⟩, by show qs.length ≤ 3; omega, qok, qnd, rok, hfl, hfb, hwi⟩
        have fin : ∀ (wi : Wi) (cvv : V) (H17 : Hp), WiOk th wi → Same (del H14 p) H17 → PotAt H17 p cl 900 → H17 d = some (.dK (plK ⟨th, an, hp3, qs, rows, fs, wi⟩ (.ref D) (.ref rr) (.ref Dl) (oN mo) cvv)) →
            ((∃ cs, wi = .cls cs ∧ oN mo = .non ∧ Rp (del H14 p) cvv (.list (dI cs))) ∨ ∃ m : Nat, wi = .most m ∧ oN mo = .int (m : Int) ∧ cvv = .non) → Q (.ref d) H17 := by
          intro wi cvv H17 hwi s17 p17 e17 hc
          have sg := del_of s17 del_same
          refine q d ⟨th, an, hp3, qs, rows, fs, wi⟩ H17 ((del_of s14 del_same).trans s17) p17 (ok wi hwi) ⟨.ref D, .ref rr, .ref Dl, oN mo, cvv, by rw [del_ne nd1]; exact e17, rq14.up sg, r14.up sg, rf14.up sg, ?_⟩
          rcases hc with ⟨cs, a, b, r⟩ | hc
          · exact .inl ⟨cs, a, b, r.up sg⟩
          · exact .inr hc
        cases mo with
        | none =>
          refine r_T ?_
          walk_at "go"
          refine ⟨d, _, rfl, DPut.k (k := kS "classes") upd_same (by show 7 < sizeLine; exact szT (by decide)), ?_⟩
          rw [upd_upd]
          walk_at "go"
          exact fin (.cls cs) cv _ hcl (Same.mut s16 gd) ((p16.upd nd1 nd2).le (by omega)) upd_same (.inl ⟨cs, rfl, rfl, rc14⟩)
        | some m =>
          refine r_F ?_
          walk_at "go"
          refine ⟨d, _, rfl, DPut.k (k := kS "classes") upd_same (by show 7 < sizeLine; exact szT (by decide)), ?_⟩
          rw [upd_upd]
          walk_at "go"
          exact fin (.most m) .non _ (hmo m rfl) (Same.mut s16 gd) ((p16.upd nd1 nd2).le (by omega)) upd_same (.inr ⟨m, rfl, rfl, rfl⟩)
end

end TW

set_option Elab.async false
set_option linter.all false
set_option maxRecDepth 100000
set_option maxHeartbeats 4000000
namespace TW
open PySem PySem.Spec PyProof.Rows L2
local macro_rules | `(tactic| walk_at "st0") => `(tactic| with_reducible (first | refine r_seq ?_ | refine r_next ?_ | refine r_ret ?_ | refine r_retN ?_ | refine r_drop ?_ | refine r_asg ?_ | refine r_if ?_ | refine r_gName ?_ | refine r_par ?_ | refine r_c ?_ | refine r_cons ?_ | refine r_nil ?_ | refine r_op ?_ | refine r_CB ?_ | refine r_andV ?_ | refine r_orV ?_ | refine r_notV ?_ | refine r_tIf ?_ | refine r_B ?_ | refine r_Test ?_ | refine r_and ?_ | refine r_or ?_ | refine r_not ?_ | refine r_yes ?_ | refine r_bl ?_ | refine r_T ?_ | refine r_F ?_ | refine r_nT ?_ | refine r_nF ?_ | refine r_I0 ?_ | refine r_eqI ?_ | refine r_neI ?_ | refine r_eqB ?_ | refine r_neB ?_ | refine r_isN0 ?_ | refine r_isN1 ?_ | refine r_isN2 ?_ | refine r_notN0 ?_ | refine r_notN1 ?_ | refine r_notN2 ?_ | refine r_isNo ?_ | refine r_notNo ?_ | refine r_fld ?_ | refine r_sfld ?_ | refine r_tup ?_ | refine r_lst ?_ | refine r_call ?_ | refine r_make ?_ | refine r_sl ?_ | refine r_part ?_ | refine r_noPart ?_ | refine r_iList ?_ | refine r_iTup ?_ | refine r_iRng1 ?_ | refine r_iEnum ?_ | refine r_int1 ?_ | refine r_intB ?_ | refine r_abs ?_ | refine r_bm ?_ | refine r_lc ?_ | refine r_for ?_))
local macro_rules | `(tactic| walk_at "st") => `(tactic| first | walk_at "st0" | ((with_reducible refine' r_var ?e ?_); (case e => exact rfl)) | ((with_reducible refine' r_fldG ?e1 ?e2 ?e3 ?e4 ?_); (case e1 => assumption); (case e2 => assumption); (case e3 => assumption); (case e4 => exact rfl)) | ((with_reducible refine' r_isC ?e ?_); (case e => assumption)) | dsimp only)
local macro_rules | `(tactic| walk_at "go") => `(tactic| repeat (walk_at "st"))
section
variable {P : Program} {w : World} {K : PySem.W.Frag} {mg : Str → Option Value} {base : Heap} {B : Adr}
theorem QAt.keepL {H : Hp} {a p : Addr} {q : Nat × List Nat} {xs ys : List V} (e : H p = some (.lst xs)) (h : QAt B H a q) : QAt B (L2.upd H p (.lst ys)) a q := by
  obtain ⟨dx, hp, idle, h1, h2⟩ := h.ex
  refine ⟨dx, hp, idle, ?_, ?_⟩
  · rw [upd_ne (ne_of h1 e (by intro z; cases z))]
    exact h1
  · rw [upd_ne (ne_of h2 e (by intro z; cases z))]
    exact h2
theorem qsAt_of {H : Hp} {qs : List (Nat × List Nat)} : ∀ {k : Nat} {ys : List V}, A2 (fun i y => ∃ a, y = .ref a ∧ QAt B H a (qs.getD i (0, []))) ((List.range' k (qs.length - k))) ys → k ≤ qs.length → QsAt B H ys (qs.drop k) := by
  intro k ys
  induction hn : qs.length - k generalizing k ys with
  | zero =>
    intro a hk
    have e : k = qs.length := by omega
    subst e
    cases a
    rw [List.drop_length]
    exact .nil
  | succ n ih =>
    intro a hk
    rw [List.range'_succ] at a
    cases a with
    | cons r t =>
      obtain ⟨ad, rfl, hq⟩ := r
      have hlt : k < qs.length := by omega
      rw [List.drop_eq_getElem_cons hlt]
      rw [List.getD_eq_getElem?_getD, List.getElem?_eq_getElem hlt] at hq
      exact .cons hq (ih (by omega) t (by omega))
theorem q_inv {H : Hp} {v : V} {q : Nat × List Nat} (r : Rp H v (qD q)) : ∃ t hp, v = .ref t ∧ H t = some (.tup [.int (q.1 : Int), .ref hp]) ∧ H hp = some (.tup (vN q.2)) := by
  obtain ⟨t, x, y, rfl, h1, h2, h3⟩ := pair_inv r
  obtain ⟨hp, rfl, h4⟩ := Rp.nats_inv h3
  rw [h2.int_inv] at h1
  exact ⟨t, hp, rfl, h1, h4⟩
theorem r_stat {C : Addr} {sp : Sp} {ta : TE} {t : TA} {σ : L2.St} {H : Hp} {Q : VK} (h : ta σ H fun x H1 => x = .ref C ∧ t σ H1 fun vs H2 => sp vs H2 Q C8.E0) : ST.tStat C sp ta t σ H Q := h
def spLawCase (B : Adr) : Sp := fun vs H Q _ => ∃ (d : Nat) (c : Cs), vs = [.ref d] ∧ PlAt H d c ∧ c.Ok ∧ ∀ x H', Same H H' → H x = none → CaseAt B H' x c → Q (.ref x) H'
theorem ok__law_case (T : Tx K mg B) : C8.Cal P w K mg base 7 "_law_case" (spLawCase B) [] := by
  have c_Question := ok_Question (P := P) (w := w) (base := base) T
  have c_Stock := ok_Stock (P := P) (w := w) (base := base) T
  have c_Wish_left := ok_Wish_left (P := P) (w := w) (base := base) T
  have c_Wish_of := ok_Wish_of (P := P) (w := w) (base := base) T
  have c_Rule := ok_Rule (P := P) (w := w) (base := base) T
  have c_Case := ok_Case (P := P) (w := w) (base := base) T
  refine cal_of T.d_law_case scLawCase (fun _ _ _ _ _ _ us hl => match us, hl with | [_], _ => rfl) (fun vs H Q E h => ?_) (fun f cdv AA outer s H vs Q E hr h => ?_)
  · first | (obtain ⟨_, rfl, _⟩ := h; rfl) | (obtain ⟨_, _, rfl, _⟩ := h; rfl) | (obtain ⟨_, _, _, rfl, _⟩ := h; rfl) | (obtain ⟨_, _, _, _, rfl, _⟩ := h; rfl) | (obtain ⟨_, _, _, _, _, rfl, _⟩ := h; rfl) | (obtain ⟨_, _, _, _, _, _, rfl, _⟩ := h; rfl) | (obtain ⟨_, _, _, _, _, _, _, rfl, _⟩ := h; rfl) | (obtain ⟨_, _, _, _, _, _, _, _, rfl, _⟩ := h; rfl) | (obtain ⟨_, _, _, _, _, _, _, _, _, rfl, _⟩ := h; rfl) | (obtain ⟨_, _, _, _, _, _, _, _, _, _, rfl, _⟩ := h; rfl) | (obtain ⟨_, _, _, _, _, _, _, _, _, _, _, rfl, _⟩ := h; rfl) | (obtain ⟨_, _, _, _, _, _, _, _, _, _, _, _, rfl, _⟩ := h; rfl) | (obtain ⟨_, _, _, _, _, _, _, _, _, _, _, _, _, rfl, _⟩ := h; rfl) | (obtain ⟨_, _, _, _, _, _, _, _, _, _, _, _, _, _, rfl, _⟩ := h; rfl) | (obtain ⟨_, _, _, _, _, _, _, _, _, _, _, _, _, _, _, rfl, _⟩ := h; rfl) | (obtain ⟨_, _, _, _, _, _, _, _, _, _, _, _, _, _, _, _, rfl, _⟩ := h; rfl) | (obtain ⟨_, _, _, _, _, _, _, _, _, _, _, _, _, _, _, _, _, rfl, _⟩ := h; rfl) | (obtain ⟨_, _, _, _, _, _, _, _, _, _, _, _, _, _, _, _, _, _, rfl, _⟩ := h; rfl) | (obtain ⟨_, _, _, _, _, _, _, _, _, _, _, _, _, _, _, _, _, _, _, rfl, _⟩ := h; rfl)
  · refine ⟨(tSeq (tAsg (tLc (iList K (tDGet (tVar 0) (tC (.str "questions")))) (gTup K 2 (gCons (gName 4) (gCons (gName 5) gNil))) tYes (tMake B.Question (spIQuestion B) [] C8.E0 (tCons (tVar 4) (tCons (tVar 5) tNil))) [4, 5]) (gName 1))
    (tSeq (tAsg (tMake B.Stock (spIStock B) [] C8.E0 (tCons (tDGet (tVar 0) (tC (.str "things"))) (tCons (tDGet (tVar 0) (tC (.str "answerers"))) (tCons (tDGet (tVar 0) (tC (.str "heaps"))) (tCons (tVar 1) tNil))))) (gName 2))
    (tSeq (tAsg (tIf (tTest (tOp rIsN (tDGet (tVar 0) (tC (.str "classes"))) (tC .non))) (ST.tStat B.Wish (spWishLeft B) (tC (.ref B.Wish)) (tCons (tDGet (tVar 0) (tC (.str "most"))) tNil)) (ST.tStat B.Wish (spWishOf B) (tC (.ref B.Wish)) (tCons (tDGet (tVar 0) (tC (.str "classes"))) tNil))) (gName 3))
    (tRet (tMake B.Case (spICase B) [] C8.E0 (tCons (tVar 2) (tCons (tMake B.Rule (spIRule B) [] C8.E0 (tCons (tDGet (tVar 0) (tC (.str "answerers"))) (tCons (tDGet (tVar 0) (tC (.str "heaps"))) (tCons (tDGet (tVar 0) (tC (.str "rows"))) tNil)))) (tCons (tDGet (tVar 0) (tC (.str "firsts"))) (tCons (tVar 3) tNil))))))))),
    (pss_cons (ps_setLc (i := 1) (own := [("_law_who", 4), ("_law_line", 5)]) (g := (gTup K 2 (gCons (gName 4) (gCons (gName 5) gNil)))) (tt := tYes) (te := (tMake B.Question (spIQuestion B) [] C8.E0 (tCons (tVar 4) (tCons (tVar 5) tNil)))) rfl scLawCase.nd rfl rfl (sw_true rfl rfl rfl (by decide +kernel)) (pi_list (pe_dget (hu_of hr) (pv 0) pe_str (fun _ _ => rfl))) (blkOk_by (own := [("_law_who", 4), ("_law_line", 5)]) (N := nLawCase) (sc := defScope sLawCase) (by decide +kernel)) (fun _ _ _ _ _ => (pg_tup (by rfl) (pgs_cons (pg_name (i := 4) scLawCase.nd rfl (Or.inl rfl)) (pgs_cons (pg_name (i := 5) scLawCase.nd rfl (Or.inl rfl)) pgs_nil)))) (fun _ _ _ _ _ => pts_nil) (fun _ _ _ _ _ => (C8.pe_mk c_Question hr (by decide) rfl (pa_cons (pv 4) (pa_cons (pv 5) pa_nil)))))
    (pss_cons (ps_set (i := 2) scLawCase.nd rfl (Or.inl rfl) (C8.pe_mk c_Stock hr (by decide) rfl (pa_cons (pe_dget (hu_of hr) (pv 0) pe_str (fun _ _ => rfl)) (pa_cons (pe_dget (hu_of hr) (pv 0) pe_str (fun _ _ => rfl)) (pa_cons (pe_dget (hu_of hr) (pv 0) pe_str (fun _ _ => rfl)) (pa_cons (pv 1) pa_nil))))))
    (pss_cons (ps_set (i := 3) scLawCase.nd rfl (Or.inl rfl) (pe_ifExp (pt_cmpR op_isN1 (pe_dget (hu_of hr) (pv 0) pe_str (fun _ _ => rfl)) pe_non (nomark _)) (ST.pe_stat c_Wish_left hr (by decide) (pe_glob rfl T.g_Wish rfl) (pa_cons (pe_dget (hu_of hr) (pv 0) pe_str (fun _ _ => rfl)) pa_nil)) (ST.pe_stat c_Wish_of hr (by decide) (pe_glob rfl T.g_Wish rfl) (pa_cons (pe_dget (hu_of hr) (pv 0) pe_str (fun _ _ => rfl)) pa_nil))))
    (pss_one (ps_ret (C8.pe_mk c_Case hr (by decide) rfl (pa_cons (pv 2) (pa_cons (C8.pe_mk c_Rule hr (by decide) rfl (pa_cons (pe_dget (hu_of hr) (pv 0) pe_str (fun _ _ => rfl)) (pa_cons (pe_dget (hu_of hr) (pv 0) pe_str (fun _ _ => rfl)) (pa_cons (pe_dget (hu_of hr) (pv 0) pe_str (fun _ _ => rfl)) pa_nil)))) (pa_cons (pe_dget (hu_of hr) (pv 0) pe_str (fun _ _ => rfl)) (pa_cons (pv 3) pa_nil)))))))))), ?_⟩
    obtain ⟨d, c, rfl, hpl, ok, q⟩ := h
    obtain ⟨qv, rv, fv, mv, cv, ed, rq, rr, rf, hwi⟩ := hpl.ex
    obtain ⟨qa, qz, rfl, eq, rqz⟩ := rq.lst_inv
    obtain ⟨fa, fz, rfl, ef, rfz⟩ := rf.lst_inv
    have efz := RpA.nats_inv rfz
    subst efz
    have hth := ok.things
    have han := ok.ans
    have hhp := ok.heaps
    have hql := ok.qlen
    have hqz : qz.length = c.qs.length := by rw [rqz.len, List.length_map]
    refine r_seq (r_asg (r_lc (r_iList (r_dget (r_var rfl (r_c ⟨d, _, rfl, get_dK ed rfl, qa, rfl, ⟨_, SqL.of eq⟩, fun Dl hD => ?_⟩))))))
    refine lc_gen walk_list hD (fun i v H => ∃ a, v = .ref a ∧ QAt B H a (c.qs.getD i (0, []))) (fun i v H H' s ⟨a, e, h⟩ => ⟨a, e, h.up s⟩) (fun i v H p xs ys e ⟨a, e2, h⟩ => ⟨a, e2, h.keepL e⟩) (fun _ => true) (by omega) (fun H s => SqL.of (s _ _ eq)) (fun i y H2 H2' QS hi s2 hy k => ?_) fun H2 ys s2 e2 aa => ?_
    · obtain ⟨rfl, hy⟩ := hy
      obtain ⟨d2, hd2, rd2⟩ := rqz.get' hy
      obtain ⟨qq, hqq, rfl⟩ := map_get hd2
      obtain ⟨t, hp, rfl, et, ehp⟩ := q_inv (rd2.up s2)
      have qok := ok.qs qq (List.mem_of_getElem? hqq)
      refine r_gPair et (k _ _ (Same.refl _) rfl (fun QT qt => qt _ (Same.refl _)) fun _ H3 Q3 s3 q3 => ?_)
      walk_at "go"
      intro x dx hx hdx hne
      have hh := qok.heap
      have hwl := qok.who
      refine ⟨H3, x, dx, hp, qq.1, qq.2, rfl, Same.mut (Same.new hdx) hx, hx, upd_same, s3 _ _ ehp, by omega, fun h2 h3 => by have := hh h2 h3; omega, by rw [qok.len]; omega, by rw [qok.len]; omega, fun H4 s4 hqa => ⟨rfl, q3 _ _ s4 ⟨x, rfl, ?_⟩⟩⟩
      rw [getD_of hqq]
      exact hqa
    rw [filt_all] at aa
    have hqs : QsAt B H2 ys c.qs := by
      have h1 := qsAt_of (B := B) (H := H2) (qs := c.qs) (k := 0) (ys := ys) (by rw [Nat.sub_zero, ← List.range_eq_range', ← hqz]; exact aa) (Nat.zero_le _)
      rw [List.drop_zero] at h1
      exact h1
    have ed2 := s2 _ _ ed
    walk_at "go"
    refine r_dget ?_
    walk_at "go"
    refine ⟨d, _, rfl, get_dK ed2 rfl, ?_⟩
    walk_at "go"
    refine r_dget ?_
    walk_at "go"
    refine ⟨d, _, rfl, get_dK ed2 rfl, ?_⟩
    walk_at "go"
    refine r_dget ?_
    walk_at "go"
    refine ⟨d, _, rfl, get_dK ed2 rfl, ?_⟩
    walk_at "go"
    intro st dx hx hdx hne
    refine ⟨H2, st, dx, c.things, c.ans, c.heaps, Dl, ys, c.qs, rfl, Same.mut (Same.new hdx) hx, hx, upd_same, e2, hqs, hql, ok.qs, ok.qnd, hth.1, hth.2, han.1, by omega, hhp.1, hhp.2, fun H3 s3 hst => ⟨rfl, ?_⟩⟩
    have sm3 := s2.trans s3
    have ed3 := sm3 _ _ ed
    clear hx hdx hne
    walk_at "go"
    refine r_dget ?_
    walk_at "go"
    refine ⟨d, _, rfl, get_dK ed3 rfl, ?_⟩
    -- behind the wish
    have rest : ∀ (wi : Nat) (H4 : Hp), Same H3 H4 → WishAt B H4 wi c.wish → (tRet (tMake B.Case (spICase B) [] C8.E0 (tCons (tVar 2) (tCons (tMake B.Rule (spIRule B) [] C8.E0 (tCons (tDGet (tVar 0) (tC (.str "answerers"))) (tCons (tDGet (tVar 0) (tC (.str "heaps"))) (tCons (tDGet (tVar 0) (tC (.str "rows"))) tNil)))) (tCons (tDGet (tVar 0) (tC (.str "firsts"))) (tCons (tVar 3) tNil))))) : TS) { nx := fun _ H' => Q .non H', rt := Q } [some (.ref d), some (.ref Dl), some (.ref st), some (.ref wi), none, none] H4 := by
      intro wi H4 s4 hw
      have sm4 := sm3.trans s4
      have ed4 := sm4 _ _ ed
      walk_at "go"
      refine r_dget ?_
      walk_at "go"
      refine ⟨d, _, rfl, get_dK ed4 rfl, ?_⟩
      walk_at "go"
      refine r_dget ?_
      walk_at "go"
      refine ⟨d, _, rfl, get_dK ed4 rfl, ?_⟩
      walk_at "go"
      refine r_dget ?_
      walk_at "go"
      refine ⟨d, _, rfl, get_dK ed4 rfl, ?_⟩
      walk_at "go"
      intro ru dx hx hdx hne
      obtain ⟨ra, rz, rfl, er, rrz⟩ := rr.lst_inv
      refine ⟨H4, ru, dx, ra, c.ans, c.heaps, c.rows, rfl, Same.mut (Same.new hdx) hx, hx, upd_same, (Rp.lst er rrz).up sm4, ok.rows, han.1, by omega, hhp.1, hhp.2, fun H5 s5 hru => ⟨rfl, ?_⟩⟩
      have sm5 := sm4.trans s5
      have ed5 := sm5 _ _ ed
      clear hx hdx hne
      walk_at "go"
      refine r_dget ?_
      walk_at "go"
      refine ⟨d, _, rfl, get_dK ed5 rfl, ?_⟩
      walk_at "go"
      intro x dx hx hdx hne
      refine ⟨H5, x, dx, st, ru, fa, wi, c, rfl, Same.mut (Same.new hdx) hx, hx, upd_same, (hst.up s4).up s5, hru, sm5 _ _ ef, hw.up s5, ok, fun H6 s6 hca => ⟨rfl, q x H6 (sm5.trans s6) (Same.none sm5 hx) hca⟩⟩
    rcases hwi with ⟨cs, ew, rfl, rc⟩ | ⟨m, ew, rfl, rfl⟩
    · obtain ⟨ca, cz, rfl, ec, rcz⟩ := rc.lst_inv
      have ecz := RpA.ints_inv rcz
      subst ecz
      have hwl := ok.wish
      rw [ew] at hwl
      have hwl : cs.length = c.things := hwl
      walk_at "go"
      refine r_stat ?_
      walk_at "go"
      refine ⟨rfl, ?_⟩
      walk_at "go"
      refine r_dget ?_
      walk_at "go"
      refine ⟨d, _, rfl, get_dK ed3 rfl, ?_⟩
      walk_at "go"
      refine ⟨ca, cs, rfl, sm3 _ _ ec, by omega, by omega, fun x H4 s4 hw => ?_⟩
      exact rest x H4 s4 (by rw [ew]; exact hw)
    · have hwl := ok.wish
      rw [ew] at hwl
      have hwl : 1 ≤ m ∧ m ≤ c.things := hwl
      walk_at "go"
      refine r_stat ?_
      walk_at "go"
      refine ⟨rfl, ?_⟩
      walk_at "go"
      refine r_dget ?_
      walk_at "go"
      refine ⟨d, _, rfl, get_dK ed3 rfl, ?_⟩
      walk_at "go"
      refine ⟨m, rfl, by omega, by omega, fun x H4 s4 hw => ?_⟩
      exact rest x H4 s4 (by rw [ew]; exact hw)
end

end TW

set_option Elab.async false
set_option linter.all false
set_option maxRecDepth 100000
set_option maxHeartbeats 4000000
namespace TW
open PySem PySem.Spec PyProof.Rows L2
local macro_rules | `(tactic| walk_at "st0") => `(tactic| with_reducible (first | refine r_seq ?_ | refine r_next ?_ | refine r_ret ?_ | refine r_retN ?_ | refine r_drop ?_ | refine r_asg ?_ | refine r_if ?_ | refine r_gName ?_ | refine r_par ?_ | refine r_c ?_ | refine r_cons ?_ | refine r_nil ?_ | refine r_op ?_ | refine r_CB ?_ | refine r_andV ?_ | refine r_orV ?_ | refine r_notV ?_ | refine r_tIf ?_ | refine r_B ?_ | refine r_Test ?_ | refine r_and ?_ | refine r_or ?_ | refine r_not ?_ | refine r_yes ?_ | refine r_bl ?_ | refine r_T ?_ | refine r_F ?_ | refine r_nT ?_ | refine r_nF ?_ | refine r_I0 ?_ | refine r_eqI ?_ | refine r_neI ?_ | refine r_eqB ?_ | refine r_neB ?_ | refine r_isN0 ?_ | refine r_isN1 ?_ | refine r_isN2 ?_ | refine r_notN0 ?_ | refine r_notN1 ?_ | refine r_notN2 ?_ | refine r_isNo ?_ | refine r_notNo ?_ | refine r_fld ?_ | refine r_sfld ?_ | refine r_tup ?_ | refine r_lst ?_ | refine r_call ?_ | refine r_make ?_ | refine r_sl ?_ | refine r_part ?_ | refine r_noPart ?_ | refine r_iList ?_ | refine r_iTup ?_ | refine r_iRng1 ?_ | refine r_iEnum ?_ | refine r_int1 ?_ | refine r_intB ?_ | refine r_abs ?_ | refine r_bm ?_ | refine r_lc ?_ | refine r_for ?_))
local macro_rules | `(tactic| walk_at "st") => `(tactic| first | walk_at "st0" | ((with_reducible refine' r_var ?e ?_); (case e => exact rfl)) | ((with_reducible refine' r_fldG ?e1 ?e2 ?e3 ?e4 ?_); (case e1 => assumption); (case e2 => assumption); (case e3 => assumption); (case e4 => exact rfl)) | ((with_reducible refine' r_isC ?e ?_); (case e => assumption)) | dsimp only)
local macro_rules | `(tactic| walk_at "go") => `(tactic| repeat (walk_at "st"))
section
variable {P : Program} {w : World} {K : PySem.W.Frag} {mg : Str → Option Value} {base : Heap} {B : Adr}
def spLawNext : Sp := fun vs H Q _ => ∃ (d st who t told : Nat) (c : Cs), vs = [.ref d, .int (st : Int), .int (who : Int), .int (t : Int), .int (told : Int)] ∧ PlAt H d c ∧ c.Ok ∧ st < c.rows.length ∧ who < c.ans ∧ t < c.heaps ∧ told < c.heaps ∧ Q (oN (nxt c.heaps c.rows st who t told)) H
theorem ok__law_next (T : Tx K mg B) : C8.Cal P w K mg base 1 "_law_next" spLawNext [] := by
  refine cal_of T.d_law_next scLawNext (fun _ _ _ _ _ _ us hl => match us, hl with | [_, _, _, _, _], _ => rfl) (fun vs H Q E h => ?_) (fun f cdv AA outer s H vs Q E hr h => ?_)
  · first | (obtain ⟨_, rfl, _⟩ := h; rfl) | (obtain ⟨_, _, rfl, _⟩ := h; rfl) | (obtain ⟨_, _, _, rfl, _⟩ := h; rfl) | (obtain ⟨_, _, _, _, rfl, _⟩ := h; rfl) | (obtain ⟨_, _, _, _, _, rfl, _⟩ := h; rfl) | (obtain ⟨_, _, _, _, _, _, rfl, _⟩ := h; rfl) | (obtain ⟨_, _, _, _, _, _, _, rfl, _⟩ := h; rfl) | (obtain ⟨_, _, _, _, _, _, _, _, rfl, _⟩ := h; rfl) | (obtain ⟨_, _, _, _, _, _, _, _, _, rfl, _⟩ := h; rfl) | (obtain ⟨_, _, _, _, _, _, _, _, _, _, rfl, _⟩ := h; rfl) | (obtain ⟨_, _, _, _, _, _, _, _, _, _, _, rfl, _⟩ := h; rfl) | (obtain ⟨_, _, _, _, _, _, _, _, _, _, _, _, rfl, _⟩ := h; rfl) | (obtain ⟨_, _, _, _, _, _, _, _, _, _, _, _, _, rfl, _⟩ := h; rfl) | (obtain ⟨_, _, _, _, _, _, _, _, _, _, _, _, _, _, rfl, _⟩ := h; rfl) | (obtain ⟨_, _, _, _, _, _, _, _, _, _, _, _, _, _, _, rfl, _⟩ := h; rfl) | (obtain ⟨_, _, _, _, _, _, _, _, _, _, _, _, _, _, _, _, rfl, _⟩ := h; rfl) | (obtain ⟨_, _, _, _, _, _, _, _, _, _, _, _, _, _, _, _, _, rfl, _⟩ := h; rfl) | (obtain ⟨_, _, _, _, _, _, _, _, _, _, _, _, _, _, _, _, _, _, rfl, _⟩ := h; rfl) | (obtain ⟨_, _, _, _, _, _, _, _, _, _, _, _, _, _, _, _, _, _, _, rfl, _⟩ := h; rfl)
  · refine ⟨(tRet (tOp (rIxL K) (tOp (rIxL K) (tDGet (tVar 0) (tC (.str "rows"))) (tVar 1)) (tOp qAdd (tOp qMul (tOp qAdd (tOp qMul (tVar 2) (tDGet (tVar 0) (tC (.str "heaps")))) (tVar 3)) (tDGet (tVar 0) (tC (.str "heaps")))) (tVar 4)))),
    (pss_one (ps_ret (pe_ix ix_list (pe_ix ix_list (pe_dget (hu_of hr) (pv 0) pe_str (fun _ _ => rfl)) (pv 1) (fun _ _ => rfl)) (pe_op op_add (pe_op op_mul (pe_op op_add (pe_op op_mul (pv 2) (pe_dget (hu_of hr) (pv 0) pe_str (fun _ _ => rfl))) (pv 3)) (pe_dget (hu_of hr) (pv 0) pe_str (fun _ _ => rfl))) (pv 4)) (fun _ _ => rfl)))), ?_⟩
    obtain ⟨d, st, who, t, told, c, rfl, hpl, ok, k1, k2, k3, k4, q⟩ := h
    obtain ⟨qv, rv, fv, mv, cv, ed, rq, rr, rf, hwi⟩ := hpl.ex
    obtain ⟨r, e1, e2⟩ := rows_get ok.rows k1 k2 k3 k4
    obtain ⟨ra, rz, rfl, er, rrz⟩ := rr.lst_inv
    obtain ⟨v, g3, g4⟩ := rrz.get (i := st) (d := dRowL r) (by rw [List.getElem?_map, e1]; rfl)
    obtain ⟨p, xs, rfl, g5, g6⟩ := Rp.lst_inv g4
    have e3 := RpA.os_inv g6
    subst e3
    have hh := ok.heaps
    have ha := ok.ans
    walk_at "go"
    refine r_dget ?_
    walk_at "go"
    refine ⟨d, _, rfl, get_dK ed rfl, ?_⟩
    walk_at "go"
    refine r_ixL er g3 ?_
    walk_at "go"
    refine r_dget ?_
    walk_at "go"
    refine ⟨d, _, rfl, get_dK ed rfl, ?_⟩
    walk_at "go"
    refine r_I ?_ (.inl ⟨by omega, by omega⟩)
    walk_at "go"
    refine r_dget ?_
    walk_at "go"
    refine ⟨d, _, rfl, get_dK ed rfl, ?_⟩
    walk_at "go"
    refine r_I ?_ (.inr ⟨by omega, by omega⟩)
    walk_at "go"
    rw [idx_cast]
    refine r_ixL g5 (by rw [List.getElem?_map, e2]; rfl) ?_
    exact q
theorem snoc_ind {α : Type} {M : List α → Prop} (h0 : M []) (h1 : ∀ (l : List α) (a : α), M l → M (l ++ [a])) (l : List α) : M l := by
  have h : ∀ r : List α, M r.reverse := fun r => by
    induction r with
    | nil => exact h0
    | cons a r ih =>
      rw [List.reverse_cons]
      exact h1 _ _ ih
  have e := h l.reverse
  rwa [List.reverse_reverse] at e
def letB (t : Option Nat) (h : Nat) : Bool := t.isNone || decide (t = some h)
def grow (heaps : Nat) (F : List (List Nat)) (t : Option Nat) : List (List Nat) := F.flatMap fun r => ((List.range heaps).filter (letB t)).map fun h => r ++ [h]
def ansOf (heaps : Nat) (ts : List (Option Nat)) : List (List Nat) := ts.foldl (grow heaps) [[]]
theorem ansOf_snoc (heaps : Nat) (ts : List (Option Nat)) (t : Option Nat) : ansOf heaps (ts ++ [t]) = grow heaps (ansOf heaps ts) t := by
  unfold ansOf
  rw [List.foldl_append]
  rfl
theorem grow_len {heaps n b : Nat} (hh : heaps ≤ 3) {F : List (List Nat)} {t : Option Nat} (hF : F.length ≤ b) : (grow heaps F t).length ≤ b * 3 := by
  unfold grow
  refine Nat.le_trans ?_ (Nat.mul_le_mul_right 3 hF)
  clear hF
  induction F with
  | nil => exact Nat.le_refl _
  | cons r F ih =>
    rw [List.flatMap_cons, List.length_append, List.length_map, List.length_cons]
    have := filt_len (n := heaps) (b := letB t)
    omega
theorem ansOf_mem {heaps : Nat} : ∀ {ts : List (Option Nat)} {r : List Nat}, r ∈ ansOf heaps ts → r.length = ts.length ∧ ∀ h ∈ r, h < heaps := by
  intro ts
  induction ts using snoc_ind with
  | h0 =>
    intro r hr
    rw [List.mem_singleton.mp hr]
    exact ⟨rfl, fun _ z => (nomatch z)⟩
  | h1 ts t ih =>
    intro r hr
    rw [ansOf_snoc] at hr
    unfold grow at hr
    obtain ⟨r0, h0, h1⟩ := List.mem_flatMap.mp hr
    obtain ⟨x, hx, rfl⟩ := List.mem_map.mp h1
    obtain ⟨h2, h3⟩ := ih h0
    refine ⟨by rw [List.length_append, List.length_append, h2]; rfl, fun y hy => ?_⟩
    rcases List.mem_append.mp hy with z | z
    · exact h3 y z
    · rw [List.mem_singleton.mp z]
      exact List.mem_range.mp (List.mem_filter.mp hx).1
theorem ansOf_len {heaps : Nat} (hh : heaps ≤ 3) : ∀ ts : List (Option Nat), (ansOf heaps ts).length ≤ 3 ^ ts.length := by
  intro ts
  induction ts using snoc_ind with
  | h0 => exact Nat.le_refl _
  | h1 ts t ih =>
    rw [ansOf_snoc, List.length_append]
    exact grow_len (n := 0) hh ih
theorem r_catT {a b : Addr} {xs ys : List V} {H : Hp} {Q : VK} (h1 : H a = some (.tup xs)) (h2 : H b = some (.tup ys)) (hl : xs.length + ys.length ≤ 1000) (hy : ys ≠ []) (h : ∀ p H', Same H H' → H' p = some (.tup (xs ++ ys)) → Q (.ref p) H') : rCatA K (.ref a) (.ref b) H Q := by
  refine ⟨a, b, xs, ys, rfl, rfl, SqT.of h1, SqT.of h2, szL (by omega), fun e => ?_, fun _ z => absurd z hy, fun _ _ p hp => h p _ (Same.new hp) upd_same⟩
  subst e
  exact h b H (Same.refl _) h2
theorem r_cat {a b : Addr} {xs ys : List V} {H : Hp} {Q : VK} (h1 : H a = some (.lst xs)) (h2 : H b = some (.lst ys)) (hl : xs.length + ys.length ≤ 100000) (h : ∀ p, H p = none → Q (.ref p) (L2.upd H p (.lst (xs ++ ys)))) : rCat (.ref a) (.ref b) H Q := ⟨a, b, xs, ys, rfl, rfl, h1, h2, szL hl, h⟩
def spLawAnswers : Sp := fun vs H Q _ => ∃ (d a : Nat) (c : Cs) (ts : List (Option Nat)), vs = [.ref d, .ref a] ∧ PlAt H d c ∧ c.Ok ∧ H a = some (.lst (ts.map oN)) ∧ ts.length ≤ 8 ∧ ∀ r H', Same H H' → Rp H' (.ref r) (.list ((ansOf c.heaps ts).map dT)) → Q (.ref r) H'
theorem ok__law_answers (T : Tx K mg B) : C8.Cal P w K mg base 1 "_law_answers" spLawAnswers [] := by
  refine cal_of T.d_law_answers scLawAnswers (fun _ _ _ _ _ _ us hl => match us, hl with | [_, _], _ => rfl) (fun vs H Q E h => ?_) (fun f cdv AA outer s H vs Q E hr h => ?_)
  · first | (obtain ⟨_, rfl, _⟩ := h; rfl) | (obtain ⟨_, _, rfl, _⟩ := h; rfl) | (obtain ⟨_, _, _, rfl, _⟩ := h; rfl) | (obtain ⟨_, _, _, _, rfl, _⟩ := h; rfl) | (obtain ⟨_, _, _, _, _, rfl, _⟩ := h; rfl) | (obtain ⟨_, _, _, _, _, _, rfl, _⟩ := h; rfl) | (obtain ⟨_, _, _, _, _, _, _, rfl, _⟩ := h; rfl) | (obtain ⟨_, _, _, _, _, _, _, _, rfl, _⟩ := h; rfl) | (obtain ⟨_, _, _, _, _, _, _, _, _, rfl, _⟩ := h; rfl) | (obtain ⟨_, _, _, _, _, _, _, _, _, _, rfl, _⟩ := h; rfl) | (obtain ⟨_, _, _, _, _, _, _, _, _, _, _, rfl, _⟩ := h; rfl) | (obtain ⟨_, _, _, _, _, _, _, _, _, _, _, _, rfl, _⟩ := h; rfl) | (obtain ⟨_, _, _, _, _, _, _, _, _, _, _, _, _, rfl, _⟩ := h; rfl) | (obtain ⟨_, _, _, _, _, _, _, _, _, _, _, _, _, _, rfl, _⟩ := h; rfl) | (obtain ⟨_, _, _, _, _, _, _, _, _, _, _, _, _, _, _, rfl, _⟩ := h; rfl) | (obtain ⟨_, _, _, _, _, _, _, _, _, _, _, _, _, _, _, _, rfl, _⟩ := h; rfl) | (obtain ⟨_, _, _, _, _, _, _, _, _, _, _, _, _, _, _, _, _, rfl, _⟩ := h; rfl) | (obtain ⟨_, _, _, _, _, _, _, _, _, _, _, _, _, _, _, _, _, _, rfl, _⟩ := h; rfl) | (obtain ⟨_, _, _, _, _, _, _, _, _, _, _, _, _, _, _, _, _, _, _, rfl, _⟩ := h; rfl)
  · refine ⟨(tSeq (tAsg (tLst (tCons (tTup tNil) tNil)) (gName 2))
    (tSeq (tFor (iList K (tVar 1)) (gName 3) (tSeq (tAsg (tLst tNil) (gName 4))
    (tSeq (tFor (iList K (tVar 2)) (gName 5) (tAsg (tOp rCat (tVar 4) (tLc (iRng1 (tCons (tDGet (tVar 0) (tC (.str "heaps"))) tNil)) (gName 6) (tOr (tTest (tOp rIsN (tVar 3) (tC .non))) (tTest (tOp rEq (tVar 3) (tVar 6)))) (tOp (rCatA K) (tVar 5) (tTup (tCons (tVar 6) tNil))) [6])) (gName 4)))
    (tAsg (tVar 4) (gName 2)))))
    (tRet (tVar 2)))),
    (pss_cons (ps_set (i := 2) scLawAnswers.nd rfl (Or.inl rfl) (pe_lst (pa_cons (pe_tup pa_nil) pa_nil)))
    (pss_cons (ps_for PassesOwn.never rfl (pi_list (pv 1)) (pg_name (i := 3) scLawAnswers.nd rfl (Or.inr rfl)) (pss_cons (ps_set (i := 4) scLawAnswers.nd rfl (Or.inl rfl) (pe_lst pa_nil))
    (pss_cons (ps_for PassesOwn.never rfl (pi_list (pv 2)) (pg_name (i := 5) scLawAnswers.nd rfl (Or.inr rfl)) (pss_one (ps_set (i := 4) scLawAnswers.nd rfl (Or.inl rfl) (pe_op op_cat (pv 4) (pe_lc (own := [("_law_heap", 6)]) (g := (gName 6)) (tt := (tOr (tTest (tOp rIsN (tVar 3) (tC .non))) (tTest (tOp rEq (tVar 3) (tVar 6))))) (te := (tOp (rCatA K) (tVar 5) (tTup (tCons (tVar 6) tNil)))) rfl scLawAnswers.nd (pi_range1 (by rfl) T.f_range (pa_cons (pe_dget (hu_of hr) (pv 0) pe_str (fun _ _ => rfl)) pa_nil)) (blkOk_by (own := [("_law_heap", 6)]) (N := nLawAnswers) (sc := defScope sLawAnswers) (by decide +kernel)) (fun _ _ _ _ _ => (pg_name (i := 6) scLawAnswers.nd rfl (Or.inl rfl))) (fun _ _ _ _ _ => (pts_one (PW.pt (pw_or (pt_cmpR op_isN1 (pv 3) pe_non (nomark _)) (pw_or1 (pt_cmpR op_eq (pv 3) (pv 6) (nomark _))))))) (fun _ _ _ _ _ => (pe_op op_catA (pv 5) (pe_tup (pa_cons (pv 6) pa_nil)))))))))
    (pss_one (ps_set (i := 2) scLawAnswers.nd rfl (Or.inl rfl) (pv 4))))))
    (pss_one (ps_ret (pv 2))))), ?_⟩
    obtain ⟨d, a, c, ts, rfl, hpl, ok, ha, hl8, q⟩ := h
    obtain ⟨qv, rv, fv, mv, cv, ed, _⟩ := hpl.ex
    have hh := ok.heaps
    walk_at "go"
    refine ⟨by simp [sizeLine_eq], fun t0 ht0 => ?_⟩
    walk_at "go"
    refine ⟨by simp [sizeLine_eq], fun l0 hl0 => ?_⟩
    have sa := Same.new (o := .tup []) ht0
    have sb := Same.new (o := .lst [.ref t0]) hl0
    have s0 := sa.trans sb
    have e0 : L2.upd (L2.upd H t0 (.tup [])) l0 (.lst [.ref t0]) l0 = some (.lst [.ref t0]) := upd_same
    have r0 : RpA (L2.upd (L2.upd H t0 (.tup [])) l0 (.lst [.ref t0])) [.ref t0] ((ansOf c.heaps []).map dT) := .cons (.tup (sb _ _ upd_same) .nil) .nil
    generalize L2.upd (L2.upd H t0 (.tup [])) l0 (.lst [.ref t0]) = H0 at s0 e0 r0 ⊢
    walk_at "go"
    refine ⟨a, rfl, ⟨_, SqL.of (s0 _ _ ha)⟩, for_1 walk_list yAt (fun i σ H' => Same H H' ∧ (∃ l zs v3 v4 v5, σ = [some (.ref d), some (.ref a), some (.ref l), v3, v4, v5, none] ∧ H' l = some (.lst zs) ∧ RpA H' zs ((ansOf c.heaps (ts.take i)).map dT))) ⟨s0, l0, _, _, _, _, rfl, e0, by rw [List.take_zero]; exact r0⟩ (fun i σ H' _ z => SqL.of (z.1 _ _ ha)) ?_ ?_⟩
    · rintro i x σ H1 hi ⟨s1, l, zs, v3, v4, v5, rfl, e1, r1⟩ hx
      obtain ⟨t, ht, rfl⟩ := map_get hx
      have et : ts.take (i + 1) = ts.take i ++ [t] := by
        rw [List.take_add_one, ht]
        rfl
      have hFl := ansOf_len hh.2 (ts.take i)
      have hFm := fun r => ansOf_mem (heaps := c.heaps) (ts := ts.take i) (r := r)
      have hti : (ts.take i).length ≤ 7 := by
        rw [List.length_take]
        rw [List.length_map] at hi
        omega
      have hpow : (ansOf c.heaps (ts.take i)).length ≤ 2187 := Nat.le_trans hFl (Nat.pow_le_pow_right (by decide) hti)
      rw [et, ansOf_snoc]
      generalize ansOf c.heaps (ts.take i) = F at r1 hFl hFm hpow ⊢
      have hzl : zs.length = F.length := by rw [r1.len, List.length_map]
      walk_at "go"
      refine ⟨by simp [sizeLine_eq], fun g0 hg0 => ?_⟩
      have s2 := Same.new (o := .lst []) hg0
      have eg : L2.upd H1 g0 (.lst []) g0 = some (.lst []) := upd_same
      generalize L2.upd H1 g0 (.lst []) = H2 at s2 eg ⊢
      walk_at "go"
      refine ⟨l, rfl, ⟨_, SqL.of (s2 _ _ e1)⟩, for_1 walk_list yAt (fun j σ H' => Same H1 H' ∧ (∃ g ws v5, σ = [some (.ref d), some (.ref a), some (.ref l), some (oN t), some (.ref g), v5, none] ∧ H' g = some (.lst ws) ∧ RpA H' ws ((grow c.heaps (F.take j) t).map dT))) ⟨s2, g0, _, _, rfl, eg, by rw [List.take_zero]; exact .nil⟩ (fun i σ H' _ z => SqL.of (z.1 _ _ e1)) ?_ ?_⟩
      · rintro j y σ H3 hj ⟨s3, g, ws, v5, rfl, e3, r3⟩ hy
        obtain ⟨dd, hdd, rd⟩ := r1.get' hy
        obtain ⟨r, hr, rfl⟩ := map_get hdd
        obtain ⟨rp, rfl, erp⟩ := Rp.nats_inv (rd.up s3)
        have hrl := (hFm r (List.mem_of_getElem? hr)).1
        have ed3 := (s1.trans s3) _ _ ed
        walk_at "go"
        refine r_dget ?_
        walk_at "go"
        refine ⟨d, _, rfl, get_dK ed3 rfl, ?_⟩
        walk_at "go"
        refine ⟨_, rfl, by omega, by omega, fun De hE => lc_1f (walk_range (lo := 0)) yFn hE (fun k v H => Rp H v (dT (r ++ [k]))) rd_m (rd_l fun k => noL_dT _) (letB t) (by omega) (fun _ _ => trivial) (fun x => rfl) (fun k z H4 Q4 hk s4 hz q4 => ?_) (fun k z H4 Q4 hk hb s4 hz q4 => ?_) fun H4 us s4 hl4 aa => ?_⟩
        · subst hz
          rw [Int.zero_add]
          walk_at "go"
          refine r_isO ?_
          walk_at "go"
          cases t with
          | none =>
            refine r_T ?_
            exact q4 _ (Same.refl _)
          | some tt =>
            refine r_F ?_
            walk_at "go"
            have e : letB (some tt) k = decide ((tt : Int) = (k : Int)) := by
              show (false || decide (some tt = some k)) = _
              rw [Bool.false_or]
              exact decide_eq_decide.mpr ⟨fun z => by rw [Option.some.inj z], fun z => by rw [Int.ofNat.inj z]⟩
            rw [e] at q4
            refine r_eqI (i := (tt : Int)) (j := (k : Int)) ?_
            walk_at "go"
            exact q4 _ (Same.refl _)
        · subst hz
          rw [Int.zero_add]
          walk_at "go"
          refine ⟨by simp [sizeLine_eq], fun t1 ht1 => ?_⟩
          have sx := Same.new (o := .tup [.int (k : Int)]) ht1
          refine r_catT (xs := vN r) (ys := [.int (k : Int)]) (sx _ _ (s4 _ _ erp)) upd_same (by rw [vN_len, hrl]; show _ + 1 ≤ 1000; omega) (by intro z; cases z) fun p H5 s5 e5 => ?_
          refine q4 _ _ (sx.trans s5) ?_
          have ev : vN r ++ [V.int (k : Int)] = vN (r ++ [k]) := by
            unfold vN
            rw [List.map_append]
            rfl
          rw [ev] at e5
          exact Rp.nats e5
        · have en : ((c.heaps : Nat) : Int).toNat = c.heaps := Int.toNat_natCast _
          rw [en] at aa
          have aa' := aa.rp
          have e4 := s4 _ _ e3
          have r4 := r3.up s4
          walk_at "go"
          have hwl : ws.length ≤ 2187 * 3 := by
            rw [r4.len, List.length_map]
            have : (F.take j).length ≤ 2187 := by
              rw [List.length_take]
              omega
            exact grow_len (n := 0) hh.2 this
          have hul : us.length ≤ 3 := by
            rw [aa'.len, List.length_map]
            exact Nat.le_trans filt_len hh.2
          refine r_cat e4 hl4 (by omega) fun g' hg' => ?_
          have s5 := Same.new (o := .lst (ws ++ us)) hg'
          walk_at "go"
          have ej : F.take (j + 1) = F.take j ++ [r] := by
            rw [List.take_add_one, hr]
            rfl
          refine ⟨(s3.trans s4).trans s5, g', _, _, rfl, upd_same, ?_⟩
          rw [ej]
          unfold grow
          rw [List.flatMap_append, List.flatMap_cons, List.flatMap_nil, List.append_nil, List.map_append]
          refine (r4.up s5).app ?_
          rw [List.map_map]
          exact aa'.up s5
      · rintro σ H3 ⟨s3, g, ws, v5, rfl, e3, r3⟩
        rw [hzl, List.take_length] at r3
        walk_at "go"
        exact ⟨s1.trans s3, g, ws, _, _, _, rfl, e3, r3⟩
    · rintro σ H1 ⟨s1, l, zs, v3, v4, v5, rfl, e1, r1⟩
      rw [List.length_map, List.take_length] at r1
      walk_at "go"
      exact q l H1 s1 (.lst e1 r1)
def endOf (c : Cs) (th : Nat) (ns r : List Nat) : Option Nat := (ns.zip r).foldl (fun s x => s.bind fun st => nxt c.heaps c.rows st (c.qs.getD x.1 (0, [])).1 ((c.qs.getD x.1 (0, [])).2.getD th 0) x.2) (some (c.firsts.getD th 0))
def endF (c : Cs) (th : Nat) (l : List (Nat × Nat)) : Option Nat := l.foldl (fun s x => s.bind fun st => nxt c.heaps c.rows st (c.qs.getD x.1 (0, [])).1 ((c.qs.getD x.1 (0, [])).2.getD th 0) x.2) (some (c.firsts.getD th 0))
theorem endF_snoc (c : Cs) (th : Nat) (l : List (Nat × Nat)) (x : Nat × Nat) : endF c th (l ++ [x]) = (endF c th l).bind fun st => nxt c.heaps c.rows st (c.qs.getD x.1 (0, [])).1 ((c.qs.getD x.1 (0, [])).2.getD th 0) x.2 := by
  unfold endF
  rw [List.foldl_append]
  rfl
theorem endF_lt {c : Cs} (ok : c.Ok) {th : Nat} (hth : th < c.things) : ∀ (l : List (Nat × Nat)) (s : Nat), endF c th l = some s → s < c.rows.length := by
  intro l
  induction l using snoc_ind with
  | h0 =>
    intro s hs
    have hlt : th < c.firsts.length := by rw [ok.flen]; exact hth
    have e : c.firsts.getD th 0 = s := Option.some.inj hs
    rw [List.getD_eq_getElem?_getD, List.getElem?_eq_getElem hlt] at e
    rw [← e]
    exact ok.firsts _ (List.getElem_mem hlt)
  | h1 l x ih =>
    intro s hs
    rw [endF_snoc] at hs
    obtain ⟨st, _, h2⟩ := Option.bind_eq_some_iff.mp hs
    exact nxt_lt ok h2
def spLawEnd : Sp := fun vs H Q _ => ∃ (d th a b : Nat) (c : Cs) (ns r : List Nat), vs = [.ref d, .int (th : Int), .ref a, .ref b] ∧ PlAt H d c ∧ c.Ok ∧ th < c.things ∧ H a = some (.lst (vN ns)) ∧ H b = some (.tup (vN r)) ∧ ns.length = r.length ∧ (∀ n ∈ ns, n < c.qs.length) ∧ (∀ h ∈ r, h < c.heaps) ∧ ∀ H', Same H H' → Q (oN (endOf c th ns r)) H'
theorem ok__law_end (T : Tx K mg B) : C8.Cal P w K mg base 2 "_law_end" spLawEnd [] := by
  have c__law_next := ok__law_next (P := P) (w := w) (base := base) T
  refine cal_of T.d_law_end scLawEnd (fun _ _ _ _ _ _ us hl => match us, hl with | [_, _, _, _], _ => rfl) (fun vs H Q E h => ?_) (fun f cdv AA outer s H vs Q E hr h => ?_)
  · first | (obtain ⟨_, rfl, _⟩ := h; rfl) | (obtain ⟨_, _, rfl, _⟩ := h; rfl) | (obtain ⟨_, _, _, rfl, _⟩ := h; rfl) | (obtain ⟨_, _, _, _, rfl, _⟩ := h; rfl) | (obtain ⟨_, _, _, _, _, rfl, _⟩ := h; rfl) | (obtain ⟨_, _, _, _, _, _, rfl, _⟩ := h; rfl) | (obtain ⟨_, _, _, _, _, _, _, rfl, _⟩ := h; rfl) | (obtain ⟨_, _, _, _, _, _, _, _, rfl, _⟩ := h; rfl) | (obtain ⟨_, _, _, _, _, _, _, _, _, rfl, _⟩ := h; rfl) | (obtain ⟨_, _, _, _, _, _, _, _, _, _, rfl, _⟩ := h; rfl) | (obtain ⟨_, _, _, _, _, _, _, _, _, _, _, rfl, _⟩ := h; rfl) | (obtain ⟨_, _, _, _, _, _, _, _, _, _, _, _, rfl, _⟩ := h; rfl) | (obtain ⟨_, _, _, _, _, _, _, _, _, _, _, _, _, rfl, _⟩ := h; rfl) | (obtain ⟨_, _, _, _, _, _, _, _, _, _, _, _, _, _, rfl, _⟩ := h; rfl) | (obtain ⟨_, _, _, _, _, _, _, _, _, _, _, _, _, _, _, rfl, _⟩ := h; rfl) | (obtain ⟨_, _, _, _, _, _, _, _, _, _, _, _, _, _, _, _, rfl, _⟩ := h; rfl) | (obtain ⟨_, _, _, _, _, _, _, _, _, _, _, _, _, _, _, _, _, rfl, _⟩ := h; rfl) | (obtain ⟨_, _, _, _, _, _, _, _, _, _, _, _, _, _, _, _, _, _, rfl, _⟩ := h; rfl) | (obtain ⟨_, _, _, _, _, _, _, _, _, _, _, _, _, _, _, _, _, _, _, rfl, _⟩ := h; rfl)
  · refine ⟨(tSeq (tAsg (tOp (rIxL K) (tDGet (tVar 0) (tC (.str "firsts"))) (tVar 1)) (gName 4))
    (tSeq (tFor (EZ.iZipM K (tCons (tVar 2) (tCons (tVar 3) tNil))) (gTup K 2 (gCons (gName 5) (gCons (gName 6) gNil))) (tSeq (tAsg (tOp (rIxL K) (tDGet (tVar 0) (tC (.str "questions"))) (tVar 5)) (gTup K 2 (gCons (gName 7) (gCons (gName 8) gNil))))
    (tIfS (tTest (tOp rNotN (tVar 4) (tC .non))) (tAsg (tCall spLawNext [] C8.E0 (tCons (tVar 0) (tCons (tVar 4) (tCons (tVar 7) (tCons (tOp (rIxT K) (tVar 8) (tVar 1)) (tCons (tVar 6) tNil)))))) (gName 4)) tNext)))
    (tRet (tVar 4)))),
    (pss_cons (ps_set (i := 4) scLawEnd.nd rfl (Or.inl rfl) (pe_ix ix_list (pe_dget (hu_of hr) (pv 0) pe_str (fun _ _ => rfl)) (pv 1) (fun _ _ => rfl)))
    (pss_cons (ps_for PassesOwn.never rfl (EZ.pi_zipM (by rfl) T.f_zip (pa_cons (pv 2) (pa_cons (pv 3) pa_nil))) (pg_tup (by rfl) (pgs_cons (pg_name (i := 5) scLawEnd.nd rfl (Or.inl rfl)) (pgs_cons (pg_name (i := 6) scLawEnd.nd rfl (Or.inl rfl)) pgs_nil))) (pss_cons (ps_asg (pe_ix ix_list (pe_dget (hu_of hr) (pv 0) pe_str (fun _ _ => rfl)) (pv 5) (fun _ _ => rfl)) (pg_tup (by rfl) (pgs_cons (pg_name (i := 7) scLawEnd.nd rfl (Or.inl rfl)) (pgs_cons (pg_name (i := 8) scLawEnd.nd rfl (Or.inl rfl)) pgs_nil))))
    (pss_one (ps_if (pt_cmpR op_notN1 (pv 4) pe_non (nomark _)) (pss_one (ps_set (i := 4) scLawEnd.nd rfl (Or.inl rfl) (C8.pe_c c__law_next hr (by decide) rfl (pa_cons (pv 0) (pa_cons (pv 4) (pa_cons (pv 7) (pa_cons (pe_ix ix_tup (pv 8) (pv 1) (fun _ _ => rfl)) (pa_cons (pv 6) pa_nil)))))))) pss_nil))))
    (pss_one (ps_ret (pv 4))))), ?_⟩
    obtain ⟨d, th, a, b, c, ns, r, rfl, hpl, ok, hth, ha, hb, hlen, hns, hr, q⟩ := h
    obtain ⟨qv, rv, fv, mv, cv, ed, rq, rr, rf, hwi⟩ := hpl.ex
    obtain ⟨qa, qz, rfl, eq, rqz⟩ := rq.lst_inv
    obtain ⟨fa, fz, rfl, ef, rfz⟩ := rf.lst_inv
    have efz := RpA.nats_inv rfz
    subst efz
    walk_at "go"
    refine r_dget ?_
    walk_at "go"
    refine ⟨d, _, rfl, get_dK ed rfl, ?_⟩
    walk_at "go"
    have hfl : th < c.firsts.length := by rw [ok.flen]; exact hth
    refine r_ixL ef (v := .int ((c.firsts.getD th 0 : Nat) : Int)) (vN_get (by rw [List.getD_eq_getElem?_getD, List.getElem?_eq_getElem hfl]; rfl)) ?_
    walk_at "go"
    refine r_iZipM ?_
    walk_at "go"
    refine ⟨a, b, _, _, rfl, SqL.of ha, SqT.of hb, for_2 (n := min (vN ns).length (vN r).length) (EZ.walk_zipM rfl) (fun i σ H' => Same H H' ∧ ∃ v5 v6 v7 v8, σ = [some (.ref d), some (.int (th : Int)), some (.ref a), some (.ref b), some (oN (endF c th ((ns.zip r).take i))), v5, v6, v7, v8]) ⟨Same.refl _, _, _, _, _, by rw [List.take_zero]; rfl⟩ (fun i σ H' _ z => ⟨SqL.of (z.1 _ _ ha), SqT.of (z.1 _ _ hb)⟩) ?_ ?_⟩
    · rintro i x y TT σ H1 hi ⟨s1, v5, v6, v7, v8, rfl⟩ hT hx hy
      obtain ⟨n, hn, rfl⟩ := vN_of hx
      obtain ⟨told, ht, rfl⟩ := vN_of hy
      have s2 := Same.newT (o := .tup [.int (n : Int), .int (told : Int)]) s1 hT
      generalize L2.upd H1 TT (.tup [.int (n : Int), .int (told : Int)]) = H2 at s2 ⊢
      have hnl := hns n (List.mem_of_getElem? hn)
      have htl := hr told (List.mem_of_getElem? ht)
      have ed2 := s2 _ _ ed
      have et : (ns.zip r).take (i + 1) = (ns.zip r).take i ++ [(n, told)] := by
        have ez : (ns.zip r)[i]? = some (n, told) := by
          rw [List.getElem?_zip_eq_some]
          exact ⟨hn, ht⟩
        rw [List.take_add_one, ez]
        rfl
      obtain ⟨vq, evq, rvq⟩ := rqz.get (i := n) (d := qD c.qs[n]) (by rw [List.getElem?_map, List.getElem?_eq_getElem hnl]; rfl)
      obtain ⟨t, hp, rfl, ett, ehp⟩ := q_inv rvq
      have qok := ok.qs _ (List.getElem_mem hnl)
      have egd : c.qs.getD n (0, []) = c.qs[n] := by
        rw [List.getD_eq_getElem?_getD, List.getElem?_eq_getElem hnl]
        rfl
      walk_at "go"
      refine r_dget ?_
      walk_at "go"
      refine ⟨d, _, rfl, get_dK ed2 rfl, ?_⟩
      walk_at "go"
      refine r_ixL (s2 _ _ eq) evq ?_
      refine r_gPair (s2 _ _ ett) ?_
      walk_at "go"
      refine r_notO ?_
      have hlt := endF_lt ok hth ((ns.zip r).take i)
      rw [et, endF_snoc]
      generalize endF c th ((ns.zip r).take i) = o at hlt ⊢
      cases o with
      | none =>
        walk_at "go"
        refine r_F ?_
        walk_at "go"
        exact ⟨s2, _, _, _, _, rfl⟩
      | some st =>
        walk_at "go"
        refine r_T ?_
        walk_at "go"
        have hq2 : th < c.qs[n].2.length := by rw [qok.len]; exact hth
        refine r_ixT (s2 _ _ ehp) (v := .int ((c.qs[n].2.getD th 0 : Nat) : Int)) (vN_get (by rw [List.getD_eq_getElem?_getD, List.getElem?_eq_getElem hq2]; rfl)) ?_
        walk_at "go"
        have hgl : c.qs[n].2.getD th 0 < c.heaps := by
          rw [List.getD_eq_getElem?_getD, List.getElem?_eq_getElem hq2]
          exact qok.heap _ (List.getElem_mem hq2)
        refine ⟨d, st, c.qs[n].1, c.qs[n].2.getD th 0, told, c, rfl, hpl.up s2, ok, hlt st rfl, qok.who, hgl, htl, ?_⟩
        walk_at "go"
        rw [Option.bind_some, egd]
        exact ⟨s2, _, _, _, _, rfl⟩
    · rintro σ H1 ⟨s1, v5, v6, v7, v8, rfl⟩
      rw [vN_len, vN_len, hlen, Nat.min_self, List.take_of_length_le (by rw [List.length_zip]; omega)]
      walk_at "go"
      exact q _ s1
end

end TW

set_option Elab.async false
set_option linter.all false
set_option maxRecDepth 100000
set_option maxHeartbeats 4000000
namespace TW
open PySem PySem.Spec PyProof.Rows L2
local macro_rules | `(tactic| walk_at "st0") => `(tactic| with_reducible (first | refine r_seq ?_ | refine r_next ?_ | refine r_ret ?_ | refine r_retN ?_ | refine r_drop ?_ | refine r_asg ?_ | refine r_if ?_ | refine r_gName ?_ | refine r_par ?_ | refine r_c ?_ | refine r_cons ?_ | refine r_nil ?_ | refine r_op ?_ | refine r_CB ?_ | refine r_andV ?_ | refine r_orV ?_ | refine r_notV ?_ | refine r_tIf ?_ | refine r_B ?_ | refine r_Test ?_ | refine r_and ?_ | refine r_or ?_ | refine r_not ?_ | refine r_yes ?_ | refine r_bl ?_ | refine r_T ?_ | refine r_F ?_ | refine r_nT ?_ | refine r_nF ?_ | refine r_I0 ?_ | refine r_eqI ?_ | refine r_neI ?_ | refine r_eqB ?_ | refine r_neB ?_ | refine r_isN0 ?_ | refine r_isN1 ?_ | refine r_isN2 ?_ | refine r_notN0 ?_ | refine r_notN1 ?_ | refine r_notN2 ?_ | refine r_isNo ?_ | refine r_notNo ?_ | refine r_fld ?_ | refine r_sfld ?_ | refine r_tup ?_ | refine r_lst ?_ | refine r_call ?_ | refine r_make ?_ | refine r_sl ?_ | refine r_part ?_ | refine r_noPart ?_ | refine r_iList ?_ | refine r_iTup ?_ | refine r_iRng1 ?_ | refine r_iEnum ?_ | refine r_int1 ?_ | refine r_intB ?_ | refine r_abs ?_ | refine r_bm ?_ | refine r_lc ?_ | refine r_for ?_))
local macro_rules | `(tactic| walk_at "st") => `(tactic| first | walk_at "st0" | ((with_reducible refine' r_var ?e ?_); (case e => exact rfl)) | ((with_reducible refine' r_fldG ?e1 ?e2 ?e3 ?e4 ?_); (case e1 => assumption); (case e2 => assumption); (case e3 => assumption); (case e4 => exact rfl)) | ((with_reducible refine' r_isC ?e ?_); (case e => assumption)) | dsimp only)
local macro_rules | `(tactic| walk_at "go") => `(tactic| repeat (walk_at "st"))
section
variable {P : Program} {w : World} {K : PySem.W.Frag} {mg : Str → Option Value} {base : Heap} {B : Adr}
/-- set(xs), with what its size is -/
def rSetL2 (K : PySem.W.Frag) (w : World) : List V → Hp → VK → Prop := fun vs H Q => ∃ (p : Addr) (ns : List Int), vs = [.ref p] ∧ SqL K H p (ns.map V.int) ∧ ns.length ≤ 1000 ∧
  ∀ (q : Addr) (c : Nat), (∃ l : List Int, l.Nodup ∧ l.length = c ∧ ∀ k, k ∈ l ↔ k ∈ ns) → H q = none → Q (.ref q) (L2.upd H q (SetO w q (fun j => decide (j ∈ ns)) c))
theorem call_setL2 {X : Cx} (hc : X.calm = true) : CallR X (.type "set") (rSetL2 X.K X.w) := by
  intro pins s σ H xs us Q I r h
  obtain ⟨p, ns, rfl, hq, hl, q⟩ := h
  obtain rfl := Vals.ref1 r
  obtain ⟨its, rv, pl, hz⟩ := I.list hq
  refine SI.set_of_list ns (I.ok.hd hc) pl.isList (by simpa using RZ.intsAre_vals rv) (by unfold scanBound; omega) fun h' tk c R hcn kk => ?_
  have R2 := R
  obtain ⟨o, es, ep, t, ho, hex, hd, g, nd, hm, hb, hf, hn, _⟩ := R2
  exact ⟨.ref _, L2.upd H s.heap.objs.size (SetO X.w s.heap.objs.size (fun j => decide (j ∈ ns)) c), I.laid (t' := tk) kk (Nat.le_refl _) (setO_new R), rfl, q _ _ ⟨es.toList.map keyOf, nd, by rw [List.length_map, Array.length_toList]; exact hn, fun k => by rw [← hm k]; exact decide_eq_true_iff⟩ (I.hok.fresh (Nat.le_refl _))⟩
/-- a rising list of whole numbers whose members are told -/
theorem sorted_to2 {ns : List Int} {R : Nat} {b : Nat → Bool} {S : Int → Bool} (h1 : ns.Pairwise (· < ·)) (h2 : ∀ k, k ∈ ns ↔ S k = true) (h3 : ∀ k, S k = true ↔ ∃ n : Nat, k = (n : Int) ∧ n < R ∧ b n = true) : ns.map V.int = vN ((List.range R).filter b) := by
  have e : ns = (ns.map Int.toNat).map natI := by
    rw [List.map_map]
    have : ∀ x ∈ ns, (natI ∘ Int.toNat) x = x := fun x hx => by
      obtain ⟨n, rfl, _⟩ := (h3 x).mp ((h2 x).mp hx)
      rfl
    conv => lhs; rw [← List.map_id ns]
    exact List.map_congr_left fun x hx => (this x hx).symm
  generalize ns.map Int.toNat = ms at e
  subst e
  have h4 : ms.Pairwise (· < ·) := (List.pairwise_map.mp h1).imp fun h => Int.ofNat_lt.mp h
  have e2 : ms = (List.range R).filter b := rise_ext h4 ((range_sorted R).filter b) fun x => by
    rw [List.mem_filter, List.mem_range]
    have h5 : x ∈ ms ↔ natI x ∈ ms.map natI := ⟨fun h => List.mem_map_of_mem h, fun h => by
      obtain ⟨y, hy, e⟩ := List.mem_map.mp h
      rw [← Int.ofNat.inj e]
      exact hy⟩
    rw [h5, h2, h3]
    exact ⟨fun ⟨n, e, h⟩ => by rw [Int.ofNat.inj e]; exact h, fun h => ⟨x, rfl, h⟩⟩
  rw [e2]
  unfold vN
  rw [List.map_map]
  rfl
def standsE (c : Cs) (ns : List Nat) (ts : List (Option Nat)) : List (List Nat) := (List.range c.things).map fun th => (List.range c.rows.length).filter fun s => decide (some s ∈ (ansOf c.heaps ts).map fun r => endOf c th ns r)
def spLawStands : Sp := fun vs H Q _ => ∃ (d a b : Nat) (c : Cs) (ns : List Nat) (ts : List (Option Nat)), vs = [.ref d, .ref a, .ref b] ∧ PlAt H d c ∧ c.Ok ∧ H a = some (.lst (vN ns)) ∧ H b = some (.lst (ts.map oN)) ∧ ns.length = ts.length ∧ ns.length ≤ 4 ∧ (∀ n ∈ ns, n < c.qs.length) ∧ ∀ r H', Same H H' → Rp H' (.ref r) (dS (standsE c ns ts)) → Q (.ref r) H'
theorem ok__law_stands (T : Tx K mg B) : C8.Cal P w K mg base 3 "_law_stands" spLawStands [] := by
  have c__law_answers := ok__law_answers (P := P) (w := w) (base := base) T
  have c__law_end := ok__law_end (P := P) (w := w) (base := base) T
  refine cal_of T.d_law_stands scLawStands (fun _ _ _ _ _ _ us hl => match us, hl with | [_, _, _], _ => rfl) (fun vs H Q E h => ?_) (fun f cdv AA outer s H vs Q E hr h => ?_)
  · first | (obtain ⟨_, rfl, _⟩ := h; rfl) | (obtain ⟨_, _, rfl, _⟩ := h; rfl) | (obtain ⟨_, _, _, rfl, _⟩ := h; rfl) | (obtain ⟨_, _, _, _, rfl, _⟩ := h; rfl) | (obtain ⟨_, _, _, _, _, rfl, _⟩ := h; rfl) | (obtain ⟨_, _, _, _, _, _, rfl, _⟩ := h; rfl) | (obtain ⟨_, _, _, _, _, _, _, rfl, _⟩ := h; rfl) | (obtain ⟨_, _, _, _, _, _, _, _, rfl, _⟩ := h; rfl) | (obtain ⟨_, _, _, _, _, _, _, _, _, rfl, _⟩ := h; rfl) | (obtain ⟨_, _, _, _, _, _, _, _, _, _, rfl, _⟩ := h; rfl) | (obtain ⟨_, _, _, _, _, _, _, _, _, _, _, rfl, _⟩ := h; rfl) | (obtain ⟨_, _, _, _, _, _, _, _, _, _, _, _, rfl, _⟩ := h; rfl) | (obtain ⟨_, _, _, _, _, _, _, _, _, _, _, _, _, rfl, _⟩ := h; rfl) | (obtain ⟨_, _, _, _, _, _, _, _, _, _, _, _, _, _, rfl, _⟩ := h; rfl) | (obtain ⟨_, _, _, _, _, _, _, _, _, _, _, _, _, _, _, rfl, _⟩ := h; rfl) | (obtain ⟨_, _, _, _, _, _, _, _, _, _, _, _, _, _, _, _, rfl, _⟩ := h; rfl) | (obtain ⟨_, _, _, _, _, _, _, _, _, _, _, _, _, _, _, _, _, rfl, _⟩ := h; rfl) | (obtain ⟨_, _, _, _, _, _, _, _, _, _, _, _, _, _, _, _, _, _, rfl, _⟩ := h; rfl) | (obtain ⟨_, _, _, _, _, _, _, _, _, _, _, _, _, _, _, _, _, _, _, rfl, _⟩ := h; rfl)
  · refine ⟨(tSeq (tPar 3 4 (tCons (tCall spLawAnswers [] C8.E0 (tCons (tVar 0) (tCons (tVar 2) tNil))) (tCons (tLst tNil) tNil)))
    (tSeq (tFor (iRng1 (tCons (tDGet (tVar 0) (tC (.str "things"))) tNil)) (gName 5) (tSeq (tAsg (tLc (iList K (tVar 3)) (gName 7) tYes (tCall spLawEnd [] C8.E0 (tCons (tVar 0) (tCons (tVar 5) (tCons (tVar 1) (tCons (tVar 7) tNil))))) [7]) (gName 6))
    (tDrop (tBM K "list" rAppend (tVar 4) (tCons (tCB (qTupS K) (tCons (tCB (rSortedSet w) (tCons (tCB (rSetL2 K w) (tCons (tLc (iList K (tVar 6)) (gName 8) (tTest (tOp rNotN (tVar 8) (tC .non))) (tVar 8) [8]) tNil)) tNil)) tNil)) tNil)))))
    (tRet (tCB (qTupS K) (tCons (tVar 4) tNil))))),
    (pss_cons (ps_par (i := 3) (j := 4) rfl scLawStands.nd rfl rfl (by decide) rfl rfl (pa_cons (C8.pe_c c__law_answers hr (by decide) rfl (pa_cons (pv 0) (pa_cons (pv 2) pa_nil))) (pa_cons (pe_lst pa_nil) pa_nil)) (by rfl))
    (pss_cons (ps_for PassesOwn.never rfl (pi_range1 (by rfl) T.f_range (pa_cons (pe_dget (hu_of hr) (pv 0) pe_str (fun _ _ => rfl)) pa_nil)) (pg_name (i := 5) scLawStands.nd rfl (Or.inr rfl)) (pss_cons (ps_setLc (i := 6) (own := [("_law_row", 7)]) (g := (gName 7)) (tt := tYes) (te := (tCall spLawEnd [] C8.E0 (tCons (tVar 0) (tCons (tVar 5) (tCons (tVar 1) (tCons (tVar 7) tNil)))))) rfl scLawStands.nd rfl rfl (sw_true rfl rfl rfl (by decide +kernel)) (pi_list (pv 3)) (blkOk_by (own := [("_law_row", 7)]) (N := nLawStands) (sc := defScope sLawStands) (by decide +kernel)) (fun _ _ _ _ _ => (pg_name (i := 7) scLawStands.nd rfl (Or.inl rfl))) (fun _ _ _ _ _ => pts_nil) (fun _ _ _ _ _ => (C8.pe_c c__law_end hr (by decide) rfl (pa_cons (pv 0) (pa_cons (pv 5) (pa_cons (pv 1) (pa_cons (pv 7) pa_nil)))))))
    (pss_one (ps_expr (pe_bm PySem.F.plainAttrs_list PySem.F.slot_list_append PySem.F.type_list_append mt_append (pv 4) (pa_cons (pe_callTy call_tuple_of (by rfl) T.f_tuple (by decide +kernel) (pa_cons (pe_callB (cr_sortedSet rfl) (by rfl) T.f_sorted (by decide +kernel) (pa_cons (pe_callTy (call_setL2 rfl) (by rfl) T.f_set (by decide +kernel) (pa_cons (pe_lc (own := [("_law_end_here", 8)]) (g := (gName 8)) (tt := (tTest (tOp rNotN (tVar 8) (tC .non)))) (te := (tVar 8)) rfl scLawStands.nd (pi_list (pv 6)) (blkOk_by (own := [("_law_end_here", 8)]) (N := nLawStands) (sc := defScope sLawStands) (by decide +kernel)) (fun _ _ _ _ _ => (pg_name (i := 8) scLawStands.nd rfl (Or.inl rfl))) (fun _ _ _ _ _ => (pts_one (pt_cmpR op_notN1 (pv 8) pe_non (nomark _)))) (fun _ _ _ _ _ => (pv 8))) pa_nil)) pa_nil)) pa_nil)) pa_nil))))))
    (pss_one (ps_ret (pe_callTy call_tuple_of (by rfl) T.f_tuple (by decide +kernel) (pa_cons (pv 4) pa_nil)))))), ?_⟩
    obtain ⟨d, a, b, c, ns, ts, rfl, hpl, ok, ha, hb, hlen, hle, hns, q⟩ := h
    obtain ⟨qv, rv, fv, mv, cv, ed, _⟩ := hpl.ex
    have hh := ok.heaps
    have hth := ok.things
    walk_at "go"
    refine ⟨d, b, c, ts, rfl, hpl, ok, hb, by omega, fun rl H1 s1 r1 => ?_⟩
    obtain ⟨_, rs, hrr, e1, r1⟩ := r1.lst_inv
    cases hrr
    have hal := ansOf_len hh.2 ts
    have hpow : (ansOf c.heaps ts).length ≤ 81 := Nat.le_trans hal (Nat.pow_le_pow_right (n := 3) (by decide) (show ts.length ≤ 4 by omega))
    have hrl : rs.length = (ansOf c.heaps ts).length := by rw [r1.len, List.length_map]
    walk_at "go"
    refine ⟨by simp [sizeLine_eq], fun D hD => ?_⟩
    have s2 := s1.trans (Same.new (o := .lst []) hD)
    have e2 := Same.new (o := .lst []) hD _ _ e1
    have r2 := r1.up (Same.new (o := .lst []) hD)
    have gD := Same.none s1 hD
    have eD : L2.upd H1 D (.lst []) D = some (.lst []) := upd_same
    have s12 : Same H1 (L2.upd H1 D (.lst [])) := Same.new hD
    generalize L2.upd H1 D (.lst []) = H2 at s2 e2 r2 eD s12 ⊢
    walk_at "go"
    refine ⟨_, _, rfl, ?_⟩
    walk_at "go"
    refine r_dget ?_
    walk_at "go"
    refine ⟨d, _, rfl, get_dK (s2 _ _ ed) rfl, ?_⟩
    walk_at "go"
    refine ⟨_, rfl, by omega, by omega, for_1 (walk_range (lo := 0)) yFn (fun i σ H' => Same H1 H' ∧ (∃ zs, H' D = some (.lst zs) ∧ RpA H' zs (((standsE c ns ts).take i).map dT)) ∧ ∃ v5 v6, σ = [some (.ref d), some (.ref a), some (.ref b), some (.ref rl), some (.ref D), v5, v6, none, none]) ⟨s12, ⟨[], eD, by rw [List.take_zero]; exact .nil⟩, _, _, rfl⟩ (fun _ _ _ _ _ => trivial) ?_ ?_⟩
    · rintro th x σ H3 hi ⟨s3, ⟨zs, e3, r3⟩, v5, v6, rfl⟩ rfl
      have hth' : th < c.things := by simpa using hi
      have sH3 := s1.trans s3
      rw [Int.zero_add]
      walk_at "go"
      refine ⟨rl, rfl, ⟨_, SqL.of (s3 _ _ e1)⟩, fun Dl hDl => lc_1 walk_list yAt hDl (fun j v _ => v = oN (endOf c th ns ((ansOf c.heaps ts).getD j []))) ri_m ri_l (by omega) (fun H s => SqL.of (s _ _ (s3 _ _ e1))) (fun x => rfl) (fun j y H4 Q4 hj s4 hy q4 => ?_) fun H4 ys s4 hl4 aa => ?_⟩
      · obtain ⟨dd, hdd, rd⟩ := r1.get' hy
        obtain ⟨r, hr, rfl⟩ := map_get hdd
        obtain ⟨rp, rfl, erp⟩ := Rp.nats_inv (rd.up (s3.trans s4))
        obtain ⟨m1, m2⟩ := ansOf_mem (List.mem_of_getElem? hr)
        walk_at "go"
        refine ⟨d, th, a, rp, c, ns, r, rfl, hpl.up (sH3.trans s4), ok, hth', (sH3.trans s4) _ _ ha, erp, by omega, hns, m2, fun H5 s5 => q4 _ _ s5 ?_⟩
        rw [getD_of hr]
      · have e := aa.eqs (f := fun j => oN (endOf c th ns ((ansOf c.heaps ts).getD j [])))
        rw [hrl, map_range_get (f := fun r => oN (endOf c th ns r)) [] rfl] at e
        subst e
        have e34 := s4 _ _ e3
        have r34 := r3.up s4
        walk_at "go"
        refine ⟨tyL e34, ?_⟩
        walk_at "go"
        have elst : (ansOf c.heaps ts).map (fun r => oN (endOf c th ns r)) = ((ansOf c.heaps ts).map fun r => endOf c th ns r).map oN := by
          rw [List.map_map]
          rfl
        rw [elst] at hl4
        generalize hes : ((ansOf c.heaps ts).map fun r => endOf c th ns r) = es at hl4
        have hesl : es.length ≤ 81 := by rw [← hes, List.length_map]; exact hpow
        have heslt : ∀ s, some s ∈ es → s < c.rows.length := fun s hs => by
          rw [← hes] at hs
          obtain ⟨r, _, e⟩ := List.mem_map.mp hs
          exact endF_lt ok hth' _ _ e
        refine ⟨Dl, rfl, ⟨_, SqL.of hl4⟩, fun De hE => lc_1f walk_list yAt hE (fun j v _ => v = .int (((es.getD j none).getD 0 : Nat) : Int)) ri_m ri_l (fun j => (es.getD j none).isSome) (by rw [List.length_map]; omega) (fun H s => SqL.of (s _ _ hl4)) (fun x => rfl) (fun j y H5 Q5 hj s5 hy q5 => ?_) (fun j y H5 Q5 hj hb5 s5 hy q5 => ?_) fun H5 us s5 hl5 bb => ?_⟩
        · obtain ⟨o, ho, rfl⟩ := map_get hy
          walk_at "go"
          refine r_notO ?_
          walk_at "go"
          rw [getD_of ho] at q5
          exact q5 _ (Same.refl _)
        · obtain ⟨o, ho, rfl⟩ := map_get hy
          rw [getD_of ho] at hb5
          walk_at "go"
          refine q5 _ _ (Same.refl _) ?_
          rw [getD_of ho]
          cases o with
          | none => cases hb5
          | some m => rfl
        · have eu := bb.eqs (f := fun j => .int (((es.getD j none).getD 0 : Nat) : Int))
          rw [List.length_map] at eu
          have eu2 : us = (((List.range es.length).filter fun j => (es.getD j none).isSome).map fun j => (((es.getD j none).getD 0 : Nat) : Int)).map V.int := by
            rw [eu, List.map_map]
            rfl
          generalize hms : (((List.range es.length).filter fun j => (es.getD j none).isSome).map fun j => (((es.getD j none).getD 0 : Nat) : Int)) = ms at eu2
          subst eu2
          have hmsl : ms.length ≤ 81 := by
            rw [← hms, List.length_map]
            exact Nat.le_trans filt_len hesl
          have hmem : ∀ k : Int, k ∈ ms ↔ ∃ n : Nat, k = (n : Int) ∧ some n ∈ es := fun k => by
            rw [← hms, List.mem_map]
            constructor
            · rintro ⟨j, hj, rfl⟩
              obtain ⟨hj1, hj2⟩ := List.mem_filter.mp hj
              have hjl := List.mem_range.mp hj1
              obtain ⟨n, hn⟩ := Option.isSome_iff_exists.mp hj2
              refine ⟨n, by rw [hn]; rfl, ?_⟩
              rw [List.getD_eq_getElem?_getD, List.getElem?_eq_getElem hjl] at hn
              rw [← show es[j] = some n from hn]
              exact List.getElem_mem hjl
            · rintro ⟨n, rfl, hn⟩
              obtain ⟨j, hj⟩ := List.mem_iff_getElem?.mp hn
              refine ⟨j, List.mem_filter.mpr ⟨List.mem_range.mpr (List.getElem?_eq_some_iff.mp hj).1, ?_⟩, ?_⟩
              · rw [getD_of hj]
                rfl
              · rw [getD_of hj]
                rfl
          walk_at "go"
          refine ⟨De, ms, rfl, SqL.of hl5, by omega, fun sq cn ⟨l, lnd, lln, lm⟩ hsq => ?_⟩
          walk_at "go"
          have hR := ok.rows.len
          have hcn : cn ≤ 3 := by
            rw [← lln]
            have hsub : ∀ x ∈ l, x ∈ (List.range c.rows.length).map natI := fun x hx => by
              obtain ⟨n, rfl, hn⟩ := (hmem x).mp ((lm x).mp hx)
              exact List.mem_map_of_mem (List.mem_range.mpr (heslt n hn))
            have := List.Nodup.length_le_of_subset lnd hsub
            rw [List.length_map, List.length_range] at this
            omega
          refine ⟨sq, _, cn, rfl, upd_same, by omega, fun ss p hs1 hs2 _ hp => ?_⟩
          walk_at "go"
          refine r_tupL upd_same fun tp htp => ?_
          walk_at "go"
          have ess : ss.map V.int = vN ((List.range c.rows.length).filter fun s => decide (some s ∈ es)) := sorted_to2 hs1 hs2 fun k => by
            rw [decide_eq_true_iff, hmem]
            exact ⟨fun ⟨n, e, hn⟩ => ⟨n, e, heslt n hn, decide_eq_true hn⟩, fun ⟨n, e, _, hn⟩ => ⟨n, e, of_decide_eq_true hn⟩⟩
          have sx5 : Same H5 (L2.upd (L2.upd (L2.upd H5 sq (SetO w sq (fun j => decide (j ∈ ms)) cn)) p (.lst (ss.map V.int))) tp (.tup (ss.map V.int))) := ((Same.new hsq).trans (Same.new hp)).trans (Same.new htp)
          have etp : (L2.upd (L2.upd (L2.upd H5 sq (SetO w sq (fun j => decide (j ∈ ms)) cn)) p (.lst (ss.map V.int))) tp (.tup (ss.map V.int))) tp = some (.tup (vN ((List.range c.rows.length).filter fun s => decide (some s ∈ es)))) := by
            rw [← ess]
            exact upd_same
          generalize L2.upd (L2.upd (L2.upd H5 sq (SetO w sq (fun j => decide (j ∈ ms)) cn)) p (.lst (ss.map V.int))) tp (.tup (ss.map V.int)) = H6 at sx5 etp ⊢
          have s46 := s5.trans sx5
          have eD6 := s46 _ _ e34
          have r6 := r34.up s46
          have hSl : (standsE c ns ts).length = c.things := by
            unfold standsE
            rw [List.length_map, List.length_range]
          have hzl : zs.length ≤ 4 := by
            rw [r34.len, List.length_map, List.length_take]
            omega
          refine r_append eD6 (szT (by omega)) ?_
          walk_at "go"
          refine ⟨Same.mut ((s3.trans s4).trans s46) hD, ⟨_, upd_same, ?_⟩, _, _, rfl⟩
          have est : (standsE c ns ts)[th]? = some ((List.range c.rows.length).filter fun s => decide (some s ∈ es)) := by
            unfold standsE
            rw [List.getElem?_map, List.getElem?_range hth', Option.map_some, hes]
          rw [List.take_add_one, est, List.map_append]
          exact RpA.snoc (rpA_keepL eD6 _ _ (noLs_map noL_dT _) r6) (rp_keepL eD6 _ _ (noL_dT _) (Rp.nats etp))
    · rintro σ H3 ⟨s3, ⟨zs, e3, r3⟩, v5, v6, rfl⟩
      have en : ((c.things : Nat) : Int).toNat = c.things := Int.toNat_natCast _
      have hSl : (standsE c ns ts).length = c.things := by
        unfold standsE
        rw [List.length_map, List.length_range]
      rw [en, List.take_of_length_le (by omega)] at r3
      walk_at "go"
      refine r_tupL e3 fun tp htp => ?_
      exact q _ _ ((s1.trans s3).trans (Same.new htp)) (.tup upd_same (r3.up (Same.new htp)))
def spLawOpen : Sp := fun vs H Q _ => ∃ (p : Nat) (S : List (List Nat)), vs = [.ref p] ∧ Rp H (.ref p) (dS S) ∧ S.length ≤ 4 ∧ ∀ r H', Same H H' → H' r = some (.tup (vN (opens S))) → Q (.ref r) H'
theorem ok__law_open (T : Tx K mg B) : C8.Cal P w K mg base 1 "_law_open" spLawOpen [] := by
  refine cal_of T.d_law_open scLawOpen (fun _ _ _ _ _ _ us hl => match us, hl with | [_], _ => rfl) (fun vs H Q E h => ?_) (fun f cdv AA outer s H vs Q E hr h => ?_)
  · first | (obtain ⟨_, rfl, _⟩ := h; rfl) | (obtain ⟨_, _, rfl, _⟩ := h; rfl) | (obtain ⟨_, _, _, rfl, _⟩ := h; rfl) | (obtain ⟨_, _, _, _, rfl, _⟩ := h; rfl) | (obtain ⟨_, _, _, _, _, rfl, _⟩ := h; rfl) | (obtain ⟨_, _, _, _, _, _, rfl, _⟩ := h; rfl) | (obtain ⟨_, _, _, _, _, _, _, rfl, _⟩ := h; rfl) | (obtain ⟨_, _, _, _, _, _, _, _, rfl, _⟩ := h; rfl) | (obtain ⟨_, _, _, _, _, _, _, _, _, rfl, _⟩ := h; rfl) | (obtain ⟨_, _, _, _, _, _, _, _, _, _, rfl, _⟩ := h; rfl) | (obtain ⟨_, _, _, _, _, _, _, _, _, _, _, rfl, _⟩ := h; rfl) | (obtain ⟨_, _, _, _, _, _, _, _, _, _, _, _, rfl, _⟩ := h; rfl) | (obtain ⟨_, _, _, _, _, _, _, _, _, _, _, _, _, rfl, _⟩ := h; rfl) | (obtain ⟨_, _, _, _, _, _, _, _, _, _, _, _, _, _, rfl, _⟩ := h; rfl) | (obtain ⟨_, _, _, _, _, _, _, _, _, _, _, _, _, _, _, rfl, _⟩ := h; rfl) | (obtain ⟨_, _, _, _, _, _, _, _, _, _, _, _, _, _, _, _, rfl, _⟩ := h; rfl) | (obtain ⟨_, _, _, _, _, _, _, _, _, _, _, _, _, _, _, _, _, rfl, _⟩ := h; rfl) | (obtain ⟨_, _, _, _, _, _, _, _, _, _, _, _, _, _, _, _, _, _, rfl, _⟩ := h; rfl) | (obtain ⟨_, _, _, _, _, _, _, _, _, _, _, _, _, _, _, _, _, _, _, rfl, _⟩ := h; rfl)
  · refine ⟨(tRet (tCB (qTupS K) (tCons (tLc (iRng1 (tCons (tCB (Evl.rLenS K) (tCons (tVar 0) tNil)) tNil)) (gName 1) (tTest (tOp (rNeD K) (tOp (rIxT K) (tVar 0) (tVar 1)) (tTup tNil))) (tVar 1) [1]) tNil))),
    (pss_one (ps_ret (pe_callTy call_tuple_of (by rfl) T.f_tuple (by decide +kernel) (pa_cons (pe_lc (own := [("_law_thing", 1)]) (g := (gName 1)) (tt := (tTest (tOp (rNeD K) (tOp (rIxT K) (tVar 0) (tVar 1)) (tTup tNil)))) (te := (tVar 1)) rfl scLawOpen.nd (pi_range1 (by rfl) T.f_range (pa_cons (pe_callB call_len_seq (by rfl) T.f_len (by decide +kernel) (pa_cons (pv 0) pa_nil)) pa_nil)) (blkOk_by (own := [("_law_thing", 1)]) (N := nLawOpen) (sc := defScope sLawOpen) (by decide +kernel)) (fun _ _ _ _ _ => (pg_name (i := 1) scLawOpen.nd rfl (Or.inl rfl))) (fun _ _ _ _ _ => (pts_one (pt_cmpR (op_neD hr.units) (pe_ix ix_tup (pv 0) (pv 1) (fun _ _ => rfl)) (pe_tup pa_nil) (nomark _)))) (fun _ _ _ _ _ => (pv 1))) pa_nil)))), ?_⟩
    obtain ⟨p, S, rfl, hp, hl, q⟩ := h
    obtain ⟨_, zs, hpp, e1, rz⟩ := Rp.tup_inv hp
    cases hpp
    have hzl : zs.length = S.length := by rw [rz.len, List.length_map]
    walk_at "go"
    refine r_lenT e1 ?_
    walk_at "go"
    refine ⟨_, rfl, by omega, by omega, fun De hE => lc_1f (walk_range (lo := 0)) yFn hE (fun j v _ => v = .int (j : Int)) ri_m ri_l (fun i => !decide (S.getD i [] = [])) (by omega) (fun _ _ => trivial) (fun x => rfl) (fun j x H8 Q8 hj s8 hx q8 => ?_) (fun j x H8 Q8 hj hb s8 hx q8 => ?_) fun H8 us s8 hl8 bb => ?_⟩
    · subst hx
      have hj' : j < zs.length := by simpa using hj
      obtain ⟨d, hd, rd⟩ := rz.get' (List.getElem?_eq_getElem hj')
      obtain ⟨T, hT, rfl⟩ := map_get hd
      rw [Int.zero_add]
      walk_at "go"
      refine r_ixT (s8 _ _ e1) (List.getElem?_eq_getElem hj') ?_
      walk_at "go"
      refine ⟨by simp [sizeLine_eq], fun t ht => ?_⟩
      refine r_neD (d := dT T) (e := dT []) (rd.up (s8.trans (Same.new ht))) (.tup upd_same .nil) ((shp_dN T).sh (by decide)) ((shp_dN []).sh (by decide)) ?_
      rw [eqv_dN]
      walk_at "go"
      rw [getD_of hT] at q8
      exact q8 _ (Same.new ht)
    · subst hx
      rw [Int.zero_add]
      walk_at "go"
      exact q8 _ _ (Same.refl _) rfl
    · have en : ((zs.length : Nat) : Int).toNat = zs.length := Int.toNat_natCast _
      rw [en, hzl] at bb
      have e := bb.eqs (f := fun j => .int (j : Int))
      walk_at "go"
      refine r_tupL hl8 fun t ht => q _ _ (s8.trans (Same.new ht)) ?_
      rw [e]
      exact upd_same
end

end TW

set_option Elab.async false
set_option linter.all false
set_option maxRecDepth 100000
set_option maxHeartbeats 4000000
namespace TW
open PySem PySem.Spec PyProof.Rows L2
local macro_rules | `(tactic| walk_at "st0") => `(tactic| with_reducible (first | refine r_seq ?_ | refine r_next ?_ | refine r_ret ?_ | refine r_retN ?_ | refine r_drop ?_ | refine r_asg ?_ | refine r_if ?_ | refine r_gName ?_ | refine r_par ?_ | refine r_c ?_ | refine r_cons ?_ | refine r_nil ?_ | refine r_op ?_ | refine r_CB ?_ | refine r_andV ?_ | refine r_orV ?_ | refine r_notV ?_ | refine r_tIf ?_ | refine r_B ?_ | refine r_Test ?_ | refine r_and ?_ | refine r_or ?_ | refine r_not ?_ | refine r_yes ?_ | refine r_bl ?_ | refine r_T ?_ | refine r_F ?_ | refine r_nT ?_ | refine r_nF ?_ | refine r_I0 ?_ | refine r_eqI ?_ | refine r_neI ?_ | refine r_eqB ?_ | refine r_neB ?_ | refine r_isN0 ?_ | refine r_isN1 ?_ | refine r_isN2 ?_ | refine r_notN0 ?_ | refine r_notN1 ?_ | refine r_notN2 ?_ | refine r_isNo ?_ | refine r_notNo ?_ | refine r_fld ?_ | refine r_sfld ?_ | refine r_tup ?_ | refine r_lst ?_ | refine r_call ?_ | refine r_make ?_ | refine r_sl ?_ | refine r_part ?_ | refine r_noPart ?_ | refine r_iList ?_ | refine r_iTup ?_ | refine r_iRng1 ?_ | refine r_iEnum ?_ | refine r_int1 ?_ | refine r_intB ?_ | refine r_abs ?_ | refine r_bm ?_ | refine r_lc ?_ | refine r_for ?_))
local macro_rules | `(tactic| walk_at "st") => `(tactic| first | walk_at "st0" | ((with_reducible refine' r_var ?e ?_); (case e => exact rfl)) | ((with_reducible refine' r_fldG ?e1 ?e2 ?e3 ?e4 ?_); (case e1 => assumption); (case e2 => assumption); (case e3 => assumption); (case e4 => exact rfl)) | ((with_reducible refine' r_isC ?e ?_); (case e => assumption)) | dsimp only)
local macro_rules | `(tactic| walk_at "go") => `(tactic| repeat (walk_at "st"))
section
variable {P : Program} {w : World} {K : PySem.W.Frag} {mg : Str → Option Value} {base : Heap} {B : Adr}
theorem r_xf {a : Addr} {cls : Value} {d : Option Addr} {C : Addr} {f : Str} {te : TE} {σ : L2.St} {H : Hp} {Q : VK} (h : te σ H fun x H1 => x = .ref a ∧ cls = .ref C ∧ ∃ (dd : Addr) (fs : List (Str × V)) (v : V), d = some dd ∧ H1 dd = some (.xd fs) ∧ fs.lookup f = some v ∧ Q v H1) : tXf a cls d C f te σ H Q := h
def spLawIsRefused (B : Adr) : Sp := fun vs H Q _ => ∃ (e pa k a t : Nat) (c : Cs) (ns : List Nat) (ts : List (Option Nat)) (s : Sv), vs = [.ref e, .int (a : Int), .int (t : Int)] ∧ EvAt B H e pa c ns ts k s ∧ c.Ok ∧ k ≤ 50 ∧ ts[a]? = some none ∧ t < c.heaps ∧ LogOk c ns ts ∧ LogOk c ns (ts.set a (some t)) ∧
  (opens (standsOf c (ns.zip (ts.set a (some t)))) = [] → ∀ H', Same H H' → Q (.int (a : Int)) H') ∧
  (opens (standsOf c (ns.zip (ts.set a (some t)))) ≠ [] → ∀ H' s', Same (cut H e pa) H' → EvAt B H' e pa c ns (ts.set a (some t)) (k + 1) s' → Q .non H')
theorem ok__law_is_refused (T : Tx K mg B) : C8.Cal P w K mg base 8 "_law_is_refused" (spLawIsRefused B) [] := by
  have c_Evening_hear := ok_Evening_hear (P := P) (w := w) (base := base) T
  refine cal_of T.d_law_is_refused scLawIsRefused (fun _ _ _ _ _ _ us hl => match us, hl with | [_, _, _], _ => rfl) (fun vs H Q E h => ?_) (fun f cdv AA outer s H vs Q E hr h => ?_)
  · first | (obtain ⟨_, rfl, _⟩ := h; rfl) | (obtain ⟨_, _, rfl, _⟩ := h; rfl) | (obtain ⟨_, _, _, rfl, _⟩ := h; rfl) | (obtain ⟨_, _, _, _, rfl, _⟩ := h; rfl) | (obtain ⟨_, _, _, _, _, rfl, _⟩ := h; rfl) | (obtain ⟨_, _, _, _, _, _, rfl, _⟩ := h; rfl) | (obtain ⟨_, _, _, _, _, _, _, rfl, _⟩ := h; rfl) | (obtain ⟨_, _, _, _, _, _, _, _, rfl, _⟩ := h; rfl) | (obtain ⟨_, _, _, _, _, _, _, _, _, rfl, _⟩ := h; rfl) | (obtain ⟨_, _, _, _, _, _, _, _, _, _, rfl, _⟩ := h; rfl) | (obtain ⟨_, _, _, _, _, _, _, _, _, _, _, rfl, _⟩ := h; rfl) | (obtain ⟨_, _, _, _, _, _, _, _, _, _, _, _, rfl, _⟩ := h; rfl) | (obtain ⟨_, _, _, _, _, _, _, _, _, _, _, _, _, rfl, _⟩ := h; rfl) | (obtain ⟨_, _, _, _, _, _, _, _, _, _, _, _, _, _, rfl, _⟩ := h; rfl) | (obtain ⟨_, _, _, _, _, _, _, _, _, _, _, _, _, _, _, rfl, _⟩ := h; rfl) | (obtain ⟨_, _, _, _, _, _, _, _, _, _, _, _, _, _, _, _, rfl, _⟩ := h; rfl) | (obtain ⟨_, _, _, _, _, _, _, _, _, _, _, _, _, _, _, _, _, rfl, _⟩ := h; rfl) | (obtain ⟨_, _, _, _, _, _, _, _, _, _, _, _, _, _, _, _, _, _, rfl, _⟩ := h; rfl) | (obtain ⟨_, _, _, _, _, _, _, _, _, _, _, _, _, _, _, _, _, _, _, rfl, _⟩ := h; rfl)
  · refine ⟨(tSeq (fun D σ H => ((tDrop (ME.tMethS B.Evening "hear" (spEveningHear B) (WE (wAs K (.ref B.Broken) 3 (fun a cls d => (tRet (tXf a cls d B.Broken "asking" (tVar 3)))) (fun _ _ _ _ => False) D)) (tVar 0) (tCons (tVar 1) (tCons (tVar 2) tNil)))) : TS) D σ H)
    (tRet (tC .non))),
    (pss_cons (ps_try_as (tb := fun W => (tDrop (ME.tMethS B.Evening "hear" (spEveningHear B) (WE W) (tVar 0) (tCons (tVar 1) (tCons (tVar 2) tNil))))) (ts := fun a cls d => (tRet (tXf a cls d B.Broken "asking" (tVar 3)))) (Wout := fun _ _ _ _ => False) rfl rfl scLawIsRefused.nd rfl rfl ⟨rfl, by decide, .inl T.g_Broken⟩ ME.noTakes (fun W pn xe tk hp => (pss_one (ps_expr (ME.pe_mtS c_Evening_hear hr (by decide) (fun σ => passAt tk σ) (pv 0) (pa_cons (pv 1) (pa_cons (pv 2) pa_nil)))))) (fun a oe cls d pn hz hf => (pss_one (ps_ret (pe_xf T.bk.xf T.bk.no hz hf (pv 3))))))
    (pss_one (ps_ret pe_non))), ?_⟩
    obtain ⟨e, pa, k, a, t, c, ns, ts, s, rfl, hev, ok, hk, hta, htc, lo0, lo, q1, q2⟩ := h
    obtain ⟨dx, ca, un, nw, pv, h1, h2, h3, h4, h5⟩ := hev.ex
    refine r_seq ?_
    show (tDrop _ : TS) _ _ _
    refine r_drop (r_bmS ?_)
    walk_at "go"
    refine ⟨e, dx, _, rfl, h1, rfl, ?_⟩
    walk_at "go"
    refine ⟨e, pa, k, a, t, c, ns, ts, s, rfl, hev, ok, hk, hta, htc, lo0, lo, fun z d H' s1 ed => ?_, fun z H' s' s1 hev' => ?_⟩
    · refine ⟨true, T.bk.me, fun _ ea hea => ?_, fun z => by cases z⟩
      refine r_ret (r_xf (r_var rfl ⟨rfl, rfl, d, _, _, rfl, ed, rfl, ?_⟩))
      exact q1 z H' s1
    · walk_at "go"
      exact q2 z H' s' s1 hev'
theorem eraseIdx_map {α β : Type} (f : α → β) : ∀ (l : List α) (i : Nat), (l.eraseIdx i).map f = (l.map f).eraseIdx i
  | [], _ => rfl
  | a :: l, 0 => rfl
  | a :: l, i + 1 => by
    rw [List.eraseIdx_cons_succ, List.map_cons, List.map_cons, List.eraseIdx_cons_succ, eraseIdx_map f l i]
theorem perm_erase {l : List Nat} {v : Nat} (h : v < l.length) : ([l[v]] ++ l.eraseIdx v).Perm l := L2.erase_perm l v l[v] (List.getElem?_eq_getElem h)
theorem seqIx {v n : Nat} (h : v < n) : seqIndex? (v : Int) n = some v := by
  first
    | exact HT.seqIx_nat h
    | (unfold seqIndex?; simp; omega)
    | (unfold seqIndex?; rw [if_neg (by omega), if_pos (by omega)]; rfl)
def spLawOrder : Sp := fun vs H Q _ => ∃ (p cl n m : Nat), vs = [.ref p, .int (m : Int)] ∧ PotAt H p cl n ∧ n ≤ 950 ∧ m ≤ 4 ∧ ∀ r os H', Same (del H p) H' → PotAt H' p cl (n + 4) → r ≠ p → H' r = some (.lst (vN os)) → os.Perm (List.range m) → Q (.ref r) H'
theorem ok__law_order (T : Tx K mg B) : C8.Cal P w K mg base 2 "_law_order" spLawOrder [] := by
  have c__law_dip := ok__law_dip (P := P) (w := w) (base := base) T
  refine cal_of T.d_law_order scLawOrder (fun _ _ _ _ _ _ us hl => match us, hl with | [_, _], _ => rfl) (fun vs H Q E h => ?_) (fun f cdv AA outer s H vs Q E hr h => ?_)
  · first | (obtain ⟨_, rfl, _⟩ := h; rfl) | (obtain ⟨_, _, rfl, _⟩ := h; rfl) | (obtain ⟨_, _, _, rfl, _⟩ := h; rfl) | (obtain ⟨_, _, _, _, rfl, _⟩ := h; rfl) | (obtain ⟨_, _, _, _, _, rfl, _⟩ := h; rfl) | (obtain ⟨_, _, _, _, _, _, rfl, _⟩ := h; rfl) | (obtain ⟨_, _, _, _, _, _, _, rfl, _⟩ := h; rfl) | (obtain ⟨_, _, _, _, _, _, _, _, rfl, _⟩ := h; rfl) | (obtain ⟨_, _, _, _, _, _, _, _, _, rfl, _⟩ := h; rfl) | (obtain ⟨_, _, _, _, _, _, _, _, _, _, rfl, _⟩ := h; rfl) | (obtain ⟨_, _, _, _, _, _, _, _, _, _, _, rfl, _⟩ := h; rfl) | (obtain ⟨_, _, _, _, _, _, _, _, _, _, _, _, rfl, _⟩ := h; rfl) | (obtain ⟨_, _, _, _, _, _, _, _, _, _, _, _, _, rfl, _⟩ := h; rfl) | (obtain ⟨_, _, _, _, _, _, _, _, _, _, _, _, _, _, rfl, _⟩ := h; rfl) | (obtain ⟨_, _, _, _, _, _, _, _, _, _, _, _, _, _, _, rfl, _⟩ := h; rfl) | (obtain ⟨_, _, _, _, _, _, _, _, _, _, _, _, _, _, _, _, rfl, _⟩ := h; rfl) | (obtain ⟨_, _, _, _, _, _, _, _, _, _, _, _, _, _, _, _, _, rfl, _⟩ := h; rfl) | (obtain ⟨_, _, _, _, _, _, _, _, _, _, _, _, _, _, _, _, _, _, rfl, _⟩ := h; rfl) | (obtain ⟨_, _, _, _, _, _, _, _, _, _, _, _, _, _, _, _, _, _, _, rfl, _⟩ := h; rfl)
  · refine ⟨(tSeq (tPar 2 3 (tCons (tLstRg (tRg1 (tVar 1))) (tCons (tLst tNil) tNil)))
    (tSeq (tFor (iRng1 (tCons (tVar 1) tNil)) (gName 4) (tDrop (tBM K "list" rAppend (tVar 3) (tCons (tBM K "list" rPopAt (tVar 2) (tCons (tCall spLawDip [] C8.E0 (tCons (tVar 0) (tCons (tCB (Evl.rLenS K) (tCons (tVar 2) tNil)) tNil))) tNil)) tNil))))
    (tRet (tVar 3)))),
    (pss_cons (ps_par (i := 2) (j := 3) rfl scLawOrder.nd rfl rfl (by decide) rfl rfl (pa_cons (pe_listRg (by rfl) (by rfl) T.f_list (prg_1 (by rfl) T.f_range (pv 1))) (pa_cons (pe_lst pa_nil) pa_nil)) (by rfl))
    (pss_cons (ps_for PassesOwn.never rfl (pi_range1 (by rfl) T.f_range (pa_cons (pv 1) pa_nil)) (pg_name (i := 4) scLawOrder.nd rfl (Or.inl rfl)) (pss_one (ps_expr (pe_bm PySem.F.plainAttrs_list PySem.F.slot_list_append PySem.F.type_list_append mt_append (pv 3) (pa_cons (pe_bm PySem.F.plainAttrs_list PySem.F.slot_list_pop PySem.F.type_list_pop mt_popAt (pv 2) (pa_cons (C8.pe_c c__law_dip hr (by decide) rfl (pa_cons (pv 0) (pa_cons (pe_callB call_len_seq (by rfl) T.f_len (by decide +kernel) (pa_cons (pv 2) pa_nil)) pa_nil))) pa_nil)) pa_nil)))))
    (pss_one (ps_ret (pv 3))))), ?_⟩
    obtain ⟨p, cl, n, m, rfl, hp, hn, hm, q⟩ := h
    walk_at "go"
    refine r_lstRg ?_
    walk_at "go"
    refine ⟨_, rfl, RgOk.of_le (by omega) (by omega) (by omega) (by omega), fun L hL => ?_⟩
    rw [rgV_nat]
    obtain ⟨nL1, nL2⟩ := hp.new hL
    walk_at "go"
    refine ⟨by simp [sizeLine_eq], fun D hD => ?_⟩
    have hDL : D ≠ L := Ne.symm (ne_of_none (upd_same (H := H)) hD)
    have hD0 : H D = none := by rw [upd_ne hDL] at hD; exact hD
    obtain ⟨nD1, nD2⟩ := hp.new hD0
    have gL : del H p L = none := by rw [del_ne nL1]; exact hL
    have gD : del H p D = none := by rw [del_ne nD1]; exact hD0
    have s0 : Same (del H p) (L2.upd (L2.upd H L (.lst (vN (List.range m)))) D (.lst [])) := Same.mut (Same.mut del_le gL) gD
    have p0 := (hp.upd (o := .lst (vN (List.range m))) nL1 nL2).upd (o := .lst []) nD1 nD2
    have eD0 : L2.upd (L2.upd H L (.lst (vN (List.range m)))) D (.lst []) D = some (.lst []) := upd_same
    have eL0 : L2.upd (L2.upd H L (.lst (vN (List.range m)))) D (.lst []) L = some (.lst (vN (List.range m))) := by
      rw [upd_ne (Ne.symm hDL)]
      exact upd_same
    generalize L2.upd (L2.upd H L (.lst (vN (List.range m)))) D (.lst []) = H0 at s0 p0 eD0 eL0 ⊢
    walk_at "go"
    refine ⟨_, _, rfl, ?_⟩
    walk_at "go"
    refine ⟨_, rfl, by omega, by omega, for_1 (walk_range (lo := 0)) yFn (fun i σ H' => Same (del H p) H' ∧ PotAt H' p cl (n + i) ∧ (∃ ls fs, H' L = some (.lst (vN ls)) ∧ H' D = some (.lst (vN fs)) ∧ fs.length = i ∧ (fs ++ ls).Perm (List.range m)) ∧ ∃ v4, σ = [some (.ref p), some (.int (m : Int)), some (.ref L), some (.ref D), v4])
      ⟨s0, p0, ⟨List.range m, [], eL0, eD0, rfl, List.Perm.refl _⟩, _, rfl⟩ (fun _ _ _ _ _ => trivial) ?_ ?_⟩
    · rintro i x σ H1 hi ⟨s1, p1, ⟨ls, fs, eL1, eD1, hfl, hpm⟩, v4, rfl⟩ rfl
      have hi' : i < m := by simpa using hi
      have hll : fs.length + ls.length = m := by
        have := hpm.length_eq
        rwa [List.length_append, List.length_range] at this
      walk_at "go"
      refine ⟨tyL eD1, ?_⟩
      walk_at "go"
      refine ⟨tyL eL1, ?_⟩
      walk_at "go"
      refine r_lenL eL1 ?_
      walk_at "go"
      rw [vN_len]
      refine ⟨p, cl, n + i, ls.length, rfl, p1, by omega, by omega, by omega, fun v H2 hv s2 p2 => ?_⟩
      have eL2 : H2 L = some (.lst (vN ls)) := s2 _ _ (by rw [del_ne nL1]; exact eL1)
      have eD2 : H2 D = some (.lst (vN fs)) := s2 _ _ (by rw [del_ne nD1]; exact eD1)
      have sd2 : Same (del H p) H2 := (del_of s1 del_same).trans s2
      walk_at "go"
      have hvl : ls[v]? = some ls[v] := List.getElem?_eq_getElem hv
      refine ⟨L, _, _, v, _, rfl, rfl, eL2, by omega, by omega, seqIx (by rw [vN_len]; exact hv), vN_get hvl, ?_⟩
      have eD3 : L2.upd H2 L (.lst ((vN ls).eraseIdx v)) D = some (.lst (vN fs)) := by
        rw [upd_ne hDL]
        exact eD2
      have eL3 : L2.upd H2 L (.lst ((vN ls).eraseIdx v)) L = some (.lst (vN (ls.eraseIdx v))) := by
        rw [upd_same]
        unfold vN
        rw [← eraseIdx_map]
      have s3 : Same (del H p) (L2.upd H2 L (.lst ((vN ls).eraseIdx v))) := Same.mut sd2 gL
      have p3 := p2.upd (o := .lst ((vN ls).eraseIdx v)) nL1 nL2
      generalize L2.upd H2 L (.lst ((vN ls).eraseIdx v)) = H3 at eD3 eL3 s3 p3 ⊢
      walk_at "go"
      refine r_append eD3 (by rw [vN_len]; exact szT (by omega)) ?_
      walk_at "go"
      have ev : vN fs ++ [V.int (ls[v] : Int)] = vN (fs ++ [ls[v]]) := by
        unfold vN
        rw [List.map_append]
        rfl
      rw [ev]
      refine ⟨Same.mut s3 gD, p3.upd nD1 nD2, ⟨ls.eraseIdx v, fs ++ [ls[v]], by rw [upd_ne (Ne.symm hDL)]; exact eL3, upd_same, by rw [List.length_append, hfl]; rfl, ?_⟩, _, rfl⟩
      refine List.Perm.trans ?_ hpm
      rw [List.append_assoc]
      refine List.Perm.append_left fs ?_
      exact perm_erase hv
    · rintro σ H1 ⟨s1, p1, ⟨ls, fs, eL1, eD1, hfl, hpm⟩, v4, rfl⟩
      have en : ((m : Nat) : Int).toNat = m := Int.toNat_natCast _
      rw [en] at hfl p1
      have hl0 : ls = [] := by
        have := hpm.length_eq
        rw [List.length_append, List.length_range, hfl] at this
        exact List.eq_nil_of_length_eq_zero (by omega)
      subst hl0
      rw [List.append_nil] at hpm
      walk_at "go"
      exact q D fs H1 s1 (p1.le (by omega)) nD1 eD1 hpm
end

end TW

set_option Elab.async false
set_option linter.all false
set_option maxRecDepth 100000
set_option maxHeartbeats 4000000
namespace TW
open PySem PySem.Spec PyProof.Rows L2
/-! ### the plain law -/
/-- each thing's stands of F are among those of G -/
structure Sub (F G : List (List Nat)) : Prop where
  len : F.length = G.length
  each : ∀ i s, s ∈ F.getD i [] → s ∈ G.getD i []
theorem opens_ne {F : List (List Nat)} : opens F ≠ [] ↔ ∃ i s, s ∈ F.getD i [] := by
  constructor
  · intro h
    obtain ⟨i, hi⟩ := List.exists_mem_of_ne_nil _ h
    obtain ⟨_, h2⟩ := List.mem_filter.mp hi
    have h3 : F.getD i [] ≠ [] := fun z => by
      rw [z] at h2
      simp at h2
    obtain ⟨s, hs⟩ := List.exists_mem_of_ne_nil _ h3
    exact ⟨i, s, hs⟩
  · rintro ⟨i, s, hs⟩ z
    have hl : i < F.length := by
      rcases Nat.lt_or_ge i F.length with h | h
      · exact h
      · rw [List.getD_eq_getElem?_getD, List.getElem?_eq_none h] at hs
        cases hs
    have hm : i ∈ opens F := List.mem_filter.mpr ⟨List.mem_range.mpr hl, by
      cases e : F.getD i [] with
      | nil =>
        rw [e] at hs
        cases hs
      | cons a l => rfl⟩
    rw [z] at hm
    cases hm
theorem Sub.opens {F G : List (List Nat)} (h : Sub F G) (ho : TW.opens F ≠ []) : TW.opens G ≠ [] := by
  obtain ⟨i, s, hs⟩ := opens_ne.mp ho
  exact opens_ne.mpr ⟨i, s, h.each i s hs⟩
theorem stage_get {c : Cs} {F : List (List Nat)} {nt : Nat × Option Nat} {i : Nat} (hi : i < F.length) : (stage c F nt).getD i [] = stA c (c.qs.getD nt.1 (0, [])) nt.2 i (F.getD i []) := by
  unfold stage
  rw [List.getD_eq_getElem?_getD, List.getElem?_map, List.getElem?_range hi]
  rfl
theorem stage_len (c : Cs) (F : List (List Nat)) (nt : Nat × Option Nat) : (stage c F nt).length = F.length := by
  unfold stage
  rw [List.length_map, List.length_range]
theorem mem_stA {c : Cs} (ok : c.Ok) {q : Nat × List Nat} {t : Option Nat} {th : Nat} {S : List Nat} {s : Nat} : s ∈ stA c q t th S ↔ ∃ st ∈ S, ∃ h ∈ lets c.heaps t, nxt c.heaps c.rows st q.1 (q.2.getD th 0) h = some s := by
  unfold stA
  rw [List.mem_filter, List.mem_range, decide_eq_true_iff]
  constructor
  · rintro ⟨_, h⟩
    obtain ⟨st, h1, h2⟩ := List.mem_flatMap.mp h
    obtain ⟨x, h3, h4⟩ := List.mem_filterMap.mp h2
    exact ⟨st, h1, x, h3, h4⟩
  · rintro ⟨st, h1, x, h3, h4⟩
    have hm : s ∈ outs c q t th S := List.mem_flatMap.mpr ⟨st, h1, List.mem_filterMap.mpr ⟨x, h3, h4⟩⟩
    exact ⟨outs_lt ok hm, hm⟩
/-- t lets what u lets, at least -/
def Lets (heaps : Nat) (u t : Option Nat) : Prop := ∀ h, h ∈ lets heaps u → h ∈ lets heaps t
theorem stage_sub {c : Cs} (ok : c.Ok) {F G : List (List Nat)} (h : Sub F G) {n : Nat} {u t : Option Nat} (l : Lets c.heaps u t) : Sub (stage c F (n, u)) (stage c G (n, t)) := by
  refine ⟨by rw [stage_len, stage_len, h.len], fun i s hs => ?_⟩
  by_cases hi : i < F.length
  · rw [stage_get hi, mem_stA ok] at hs
    obtain ⟨st, h1, x, h2, h3⟩ := hs
    rw [stage_get (by rw [← h.len]; exact hi), mem_stA ok]
    exact ⟨st, h.each i st h1, x, l x h2, h3⟩
  · rw [List.getD_eq_getElem?_getD, List.getElem?_eq_none (by rw [stage_len]; omega)] at hs
    cases hs
theorem Sub.refl (F : List (List Nat)) : Sub F F := ⟨rfl, fun _ _ h => h⟩
/-- the more is heard, the less is left -/
theorem standsOf_sub {c : Cs} (ok : c.Ok) : ∀ (ns : List Nat) (us ts : List (Option Nat)), us.length = ts.length → (∀ (i : Nat) (u t : Option Nat), us[i]? = some u → ts[i]? = some t → Lets c.heaps u t) → Sub (standsOf c (ns.zip us)) (standsOf c (ns.zip ts)) := by
  have gen : ∀ (ns : List Nat) (us ts : List (Option Nat)) (F G : List (List Nat)), us.length = ts.length → (∀ (i : Nat) (u t : Option Nat), us[i]? = some u → ts[i]? = some t → Lets c.heaps u t) → Sub F G → Sub ((ns.zip us).foldl (stage c) F) ((ns.zip ts).foldl (stage c) G) := by
    intro ns
    induction ns with
    | nil => intro us ts F G _ _ h; exact h
    | cons n ns ih =>
      intro us ts F G hl hx h
      cases us with
      | nil =>
        cases ts with
        | nil => exact h
        | cons => cases hl
      | cons u us =>
        cases ts with
        | nil => cases hl
        | cons t ts =>
          rw [List.zip_cons_cons, List.zip_cons_cons, List.foldl_cons, List.foldl_cons]
          exact ih us ts _ _ (Nat.succ.inj hl) (fun i a b h1 h2 => hx (i + 1) a b h1 h2) (stage_sub ok h (hx 0 u t rfl rfl))
  intro ns us ts hl hx
  exact gen ns us ts _ _ hl hx (Sub.refl _)
theorem lets_none {heaps : Nat} {u : Option Nat} (h : ∀ x, u = some x → x < heaps) : Lets heaps u none := fun x hx => by
  cases u with
  | none => exact hx
  | some y =>
    rw [List.mem_singleton.mp hx]
    exact List.mem_range.mpr (h y rfl)
/-- an asking that is not heard keeps what is open -/
theorem stage_none {c : Cs} (ok : c.Ok) {F : List (List Nat)} (f : FOk c F) {n : Nat} (hn : n < c.qs.length) {i s : Nat} (h : s ∈ F.getD i []) : ∃ s', s' ∈ (stage c F (n, none)).getD i [] := by
  have hi : i < F.length := by
    rcases Nat.lt_or_ge i F.length with z | z
    · exact z
    · rw [List.getD_eq_getElem?_getD, List.getElem?_eq_none z] at h
      cases h
  rw [stage_get hi]
  have hq : c.qs.getD n (0, []) ∈ c.qs := by
    rw [List.getD_eq_getElem?_getD, List.getElem?_eq_getElem hn]
    exact List.getElem_mem hn
  have qok := ok.qs _ hq
  have hth : i < c.things := by rw [← f.len]; exact hi
  have hg : (c.qs.getD n (0, [])).2.getD i 0 < c.heaps := by
    have : i < (c.qs.getD n (0, [])).2.length := by rw [qok.len]; exact hth
    rw [List.getD_eq_getElem?_getD (l := (c.qs.getD n (0, [])).2), List.getElem?_eq_getElem this]
    exact qok.heap _ (List.getElem_mem this)
  have hFi : F.getD i [] ∈ F := by
    rw [List.getD_eq_getElem?_getD, List.getElem?_eq_getElem hi]
    exact List.getElem_mem hi
  obtain ⟨told, h1, h2⟩ := ok.rows.live s _ _ ((f.each _ hFi).2 s h) qok.who hg
  obtain ⟨s', e⟩ := Option.ne_none_iff_exists'.mp h2
  exact ⟨s', (mem_stA ok).mpr ⟨s, h, told, List.mem_range.mpr h1, e⟩⟩
theorem alive_snoc {c : Cs} (ok : c.Ok) {log : List (Nat × Option Nat)} {n : Nat} (hn : n < c.qs.length) (h : opens (standsOf c log) ≠ []) : opens (standsOf c (log ++ [(n, none)])) ≠ [] := by
  obtain ⟨i, s, hs⟩ := opens_ne.mp h
  rw [standsOf_snoc]
  obtain ⟨s', h'⟩ := stage_none ok (standsOf_ok ok log) hn hs
  exact opens_ne.mpr ⟨i, s', h'⟩
theorem alive_nil {c : Cs} (ok : c.Ok) : opens (standsOf c []) ≠ [] := by
  have h1 := ok.things
  have h2 := ok.flen
  refine opens_ne.mpr ⟨0, c.firsts.getD 0 0, ?_⟩
  show c.firsts.getD 0 0 ∈ (c.firsts.map fun f => [f]).getD 0 []
  cases e : c.firsts with
  | nil =>
    rw [e] at h2
    simp at h2
    omega
  | cons f fs => exact List.mem_singleton.mpr rfl
theorem alive_asked {c : Cs} (ok : c.Ok) : ∀ ns : List Nat, (∀ n ∈ ns, n < c.qs.length) → opens (standsOf c (ns.zip (List.replicate ns.length none))) ≠ [] := by
  intro ns
  induction ns using snoc_ind with
  | h0 => intro _; exact alive_nil ok
  | h1 ns n ih =>
    intro h
    have e : (ns ++ [n]).zip (List.replicate (ns ++ [n]).length none) = ns.zip (List.replicate ns.length none) ++ [(n, (none : Option Nat))] := by
      rw [List.length_append, show ns.length + [n].length = ns.length + 1 from rfl, List.replicate_succ', List.zip_append (by rw [List.length_replicate])]
      rfl
    rw [e]
    exact alive_snoc ok (h n (List.mem_append_right _ List.mem_cons_self)) (ih fun x hx => h x (List.mem_append_left _ hx))
/-- by all answers, or stage by stage: the same is left -/
theorem mem_grow {heaps : Nat} {F : List (List Nat)} {t : Option Nat} {r : List Nat} : r ∈ grow heaps F t ↔ ∃ r0 ∈ F, ∃ h, h < heaps ∧ letB t h = true ∧ r = r0 ++ [h] := by
  unfold grow
  rw [List.mem_flatMap]
  constructor
  · rintro ⟨r0, h0, h1⟩
    obtain ⟨x, hx, rfl⟩ := List.mem_map.mp h1
    obtain ⟨h2, h3⟩ := List.mem_filter.mp hx
    exact ⟨r0, h0, x, List.mem_range.mp h2, h3, rfl⟩
  · rintro ⟨r0, h0, x, h2, h3, rfl⟩
    exact ⟨r0, h0, List.mem_map.mpr ⟨x, List.mem_filter.mpr ⟨List.mem_range.mpr h2, h3⟩, rfl⟩⟩
theorem letB_lets {heaps : Nat} {t : Option Nat} (ht : ∀ x, t = some x → x < heaps) (h : Nat) : (h < heaps ∧ letB t h = true) ↔ h ∈ lets heaps t := by
  cases t with
  | none => exact ⟨fun z => List.mem_range.mpr z.1, fun z => ⟨List.mem_range.mp z, rfl⟩⟩
  | some x =>
    have e : letB (some x) h = decide (some x = some h) := Bool.false_or _
    rw [e, decide_eq_true_iff]
    exact ⟨fun z => List.mem_singleton.mpr (Option.some.inj z.2).symm, fun z => by
      have z2 := List.mem_singleton.mp z
      subst z2
      exact ⟨ht h rfl, rfl⟩⟩
theorem zip_snoc {α β : Type} {l : List α} {m : List β} {a : α} {b : β} (h : l.length = m.length) : (l ++ [a]).zip (m ++ [b]) = l.zip m ++ [(a, b)] := by
  rw [List.zip_append h]
  rfl
theorem end_mem {c : Cs} (ok : c.Ok) : ∀ (ts : List (Option Nat)) (ns : List Nat), ns.length = ts.length → (∀ x, some x ∈ ts → x < c.heaps) → ∀ th, th < c.things → ∀ s, s ∈ (standsOf c (ns.zip ts)).getD th [] ↔ some s ∈ (ansOf c.heaps ts).map fun r => endOf c th ns r := by
  intro ts
  induction ts using snoc_ind with
  | h0 =>
    intro ns hl _ th hth s
    have e : ns = [] := List.eq_nil_of_length_eq_zero (by rw [hl]; rfl)
    subst e
    have hlt : th < c.firsts.length := by rw [ok.flen]; exact hth
    have e1 : (standsOf c (([] : List Nat).zip ([] : List (Option Nat)))).getD th [] = [c.firsts.getD th 0] := by
      show (c.firsts.map fun f => [f]).getD th [] = _
      rw [List.getD_eq_getElem?_getD, List.getElem?_map, List.getElem?_eq_getElem hlt, List.getD_eq_getElem?_getD, List.getElem?_eq_getElem hlt]
      rfl
    rw [e1, List.mem_singleton]
    show s = c.firsts.getD th 0 ↔ some s ∈ [some (c.firsts.getD th 0)]
    rw [List.mem_singleton]
    exact ⟨fun z => by rw [z], fun z => Option.some.inj z⟩
  | h1 ts t ih =>
    intro ns hl hts th hth s
    obtain ⟨ns0, n, rfl⟩ : ∃ l a, ns = l ++ [a] := by
      have hne : ns ≠ [] := fun z => by
        rw [z, List.length_append] at hl
        simp at hl
      exact ⟨ns.dropLast, ns.getLast hne, (List.dropLast_concat_getLast hne).symm⟩
    have hl0 : ns0.length = ts.length := by
      rw [List.length_append, List.length_append] at hl
      exact Nat.succ.inj hl
    have fok := standsOf_ok ok (ns0.zip ts)
    have hi : th < (standsOf c (ns0.zip ts)).length := by rw [fok.len]; exact hth
    rw [zip_snoc hl0, standsOf_snoc, stage_get hi, mem_stA ok, ansOf_snoc]
    have ih2 := ih ns0 hl0 (fun x hx => hts x (List.mem_append_left _ hx)) th hth
    have hlb := letB_lets (heaps := c.heaps) (t := t) fun x hx => hts x (List.mem_append_right _ (List.mem_singleton.mpr hx.symm))
    have hend : ∀ r0 h, r0.length = ts.length → endOf c th (ns0 ++ [n]) (r0 ++ [h]) = (endOf c th ns0 r0).bind fun st => nxt c.heaps c.rows st (c.qs.getD n (0, [])).1 ((c.qs.getD n (0, [])).2.getD th 0) h := fun r0 h hr0 => by
      have := endF_snoc c th (ns0.zip r0) (n, h)
      rw [← zip_snoc (by rw [hl0, hr0])] at this
      exact this
    constructor
    · rintro ⟨st, h1, x, h2, h3⟩
      obtain ⟨r0, h4, h5⟩ := List.mem_map.mp ((ih2 st).mp h1)
      refine List.mem_map.mpr ⟨r0 ++ [x], mem_grow.mpr ⟨r0, h4, x, ((hlb x).mpr h2).1, ((hlb x).mpr h2).2, rfl⟩, ?_⟩
      rw [hend r0 x (ansOf_mem h4).1, h5]
      exact h3
    · intro h
      obtain ⟨r, h1, h2⟩ := List.mem_map.mp h
      obtain ⟨r0, h3, x, h4, h5, rfl⟩ := mem_grow.mp h1
      rw [hend r0 x (ansOf_mem h3).1] at h2
      obtain ⟨st, h6, h7⟩ := Option.bind_eq_some_iff.mp h2
      exact ⟨st, (ih2 st).mpr (List.mem_map.mpr ⟨r0, h3, h6⟩), x, (hlb x).mp ⟨h4, h5⟩, h7⟩
theorem stands_rise {c : Cs} (ok : c.Ok) (log : List (Nat × Option Nat)) : ∀ S ∈ standsOf c log, S.Pairwise (· < ·) := by
  induction log using snoc_ind with
  | h0 =>
    intro S hS
    obtain ⟨f, _, rfl⟩ := List.mem_map.mp hS
    exact List.pairwise_singleton _ _
  | h1 log x ih =>
    intro S hS
    rw [standsOf_snoc] at hS
    unfold stage at hS
    obtain ⟨i, _, rfl⟩ := List.mem_map.mp hS
    exact (range_sorted _).filter _
theorem standsE_eq {c : Cs} (ok : c.Ok) {ns : List Nat} {ts : List (Option Nat)} (hl : ns.length = ts.length) (ht : ∀ x, some x ∈ ts → x < c.heaps) : standsE c ns ts = standsOf c (ns.zip ts) := by
  have fok := standsOf_ok ok (ns.zip ts)
  unfold standsE
  refine List.ext_getElem (by rw [List.length_map, List.length_range, fok.len]) fun th h1 h2 => ?_
  rw [List.length_map, List.length_range] at h1
  rw [List.getElem_map, List.getElem_range]
  have hm : (standsOf c (ns.zip ts))[th] ∈ standsOf c (ns.zip ts) := List.getElem_mem h2
  have hg : (standsOf c (ns.zip ts)).getD th [] = (standsOf c (ns.zip ts))[th] := by
    rw [List.getD_eq_getElem?_getD, List.getElem?_eq_getElem h2]
    rfl
  refine rise_ext ((range_sorted _).filter _) (stands_rise ok _ _ hm) fun s => ?_
  have h3 := end_mem ok ts ns hl ht th h1 s
  rw [hg] at h3
  rw [List.mem_filter, List.mem_range, decide_eq_true_iff, ← h3]
  exact ⟨fun z => z.2, fun z => ⟨(fok.each _ hm).2 s z, z⟩⟩
/-! the hearing in an order -/
def unb (c : Cs) (ns : List Nat) (ts : List (Option Nat)) : Prop := opens (standsOf c (ns.zip ts)) ≠ []
instance {c : Cs} {ns : List Nat} {ts : List (Option Nat)} : Decidable (unb c ns ts) := inferInstanceAs (Decidable (_ ≠ _))
structure Hd where
  heard : List (Option Nat)
  refused : List Nat
def hear1 (c : Cs) (ns ans : List Nat) (h : Hd) (p : Nat) : Hd := if unb c ns (h.heard.set p (some (ans.getD p 0))) then ⟨h.heard.set p (some (ans.getD p 0)), h.refused⟩ else ⟨h.heard, h.refused ++ [p]⟩
def hearF (c : Cs) (ns ans : List Nat) (order : List Nat) : Hd := order.foldl (hear1 c ns ans) ⟨List.replicate ns.length none, []⟩
theorem hearF_snoc (c : Cs) (ns ans order : List Nat) (p : Nat) : hearF c ns ans (order ++ [p]) = hear1 c ns ans (hearF c ns ans order) p := by
  unfold hearF
  rw [List.foldl_append]
  rfl
/-- what holds on the way -/
structure HdI (c : Cs) (ns ans order : List Nat) (h : Hd) : Prop where
  len : h.heard.length = ns.length
  at_ : ∀ i : Nat, i < ns.length → h.heard[i]? = some none ∨ (i ∈ order ∧ h.heard[i]? = some (some (ans.getD i 0)))
  unb : unb c ns h.heard
  full : h.refused = [] → ∀ i, i < ns.length → i ∈ order → h.heard[i]? = some (some (ans.getD i 0))
theorem hdI {c : Cs} (ok : c.Ok) {ns ans : List Nat} (hns : ∀ n ∈ ns, n < c.qs.length) : ∀ order : List Nat, (∀ p ∈ order, p < ns.length) → HdI c ns ans order (hearF c ns ans order) := by
  intro order
  induction order using snoc_ind with
  | h0 =>
    intro _
    refine ⟨List.length_replicate, fun i hi => .inl ?_, alive_asked ok ns hns, fun _ i _ hi => by cases hi⟩
    show (List.replicate ns.length none)[i]? = _
    rw [List.getElem?_replicate, if_pos hi]
  | h1 order p ih =>
    intro hp
    have h := ih fun x hx => hp x (List.mem_append_left _ hx)
    have hpl := hp p (List.mem_append_right _ List.mem_cons_self)
    rw [hearF_snoc]
    generalize hearF c ns ans order = hd at h
    unfold hear1
    by_cases hu : TW.unb c ns (hd.heard.set p (some (ans.getD p 0)))
    · rw [if_pos hu]
      refine ⟨by rw [List.length_set, h.len], fun i hi => ?_, hu, fun hr i hi him => ?_⟩
      · by_cases e : p = i
        · subst e
          exact .inr ⟨List.mem_append_right _ List.mem_cons_self, by rw [List.getElem?_set_self (by rw [h.len]; exact hi)]⟩
        · show (hd.heard.set p _)[i]? = _ ∨ _
          rw [List.getElem?_set_ne e]
          exact (h.at_ i hi).imp id fun z => ⟨List.mem_append_left _ z.1, z.2⟩
      · by_cases e : p = i
        · subst e
          show (hd.heard.set p _)[p]? = _
          rw [List.getElem?_set_self (by rw [h.len]; exact hi)]
        · show (hd.heard.set p _)[i]? = _
          rw [List.getElem?_set_ne e]
          refine h.full hr i hi ?_
          rcases List.mem_append.mp him with z | z
          · exact z
          · exact absurd (List.mem_singleton.mp z).symm e
    · rw [if_neg hu]
      refine ⟨h.len, fun i hi => (h.at_ i hi).imp id fun z => ⟨List.mem_append_left _ z.1, z.2⟩, h.unb, fun hr => ?_⟩
      exact absurd hr (by
        show hd.refused ++ [p] ≠ []
        exact List.append_ne_nil_of_right_ne_nil _ (by intro z; cases z))
def fullT (ans : List Nat) : List (Option Nat) := ans.map some
theorem heard_full {c : Cs} {ns ans order : List Nat} {h : Hd} (hI : HdI c ns ans order h) (hl : ans.length = ns.length) (hm : ∀ i, i < ns.length → i ∈ order) (hr : h.refused = []) : h.heard = fullT ans := by
  refine List.ext_getElem? fun i => ?_
  by_cases hi : i < ns.length
  · rw [hI.full hr i hi (hm i hi)]
    unfold fullT
    rw [List.getElem?_map, List.getElem?_eq_getElem (by omega), List.getD_eq_getElem?_getD, List.getElem?_eq_getElem (by omega)]
    rfl
  · rw [List.getElem?_eq_none (by rw [hI.len]; omega), List.getElem?_eq_none (by unfold fullT; rw [List.length_map]; omega)]
/-- nothing is refused in an order just if all the answers go together -/
theorem refused_iff {c : Cs} (ok : c.Ok) {ns ans order : List Nat} (hns : ∀ n ∈ ns, n < c.qs.length) (hl : ans.length = ns.length) (ha : ∀ a ∈ ans, a < c.heaps) (ho : order.Perm (List.range ns.length)) : (hearF c ns ans order).refused = [] ↔ unb c ns (fullT ans) := by
  have hlt : ∀ p ∈ order, p < ns.length := fun p hp => List.mem_range.mp (ho.mem_iff.mp hp)
  have hm : ∀ i, i < ns.length → i ∈ order := fun i hi => ho.mem_iff.mpr (List.mem_range.mpr hi)
  constructor
  · intro hr
    have hI := hdI (ans := ans) ok hns order hlt
    have e := heard_full hI hl hm hr
    rw [← e]
    exact hI.unb
  · intro hu
    have key : ∀ o : List Nat, (∀ p ∈ o, p < ns.length) → (hearF c ns ans o).refused = [] := by
      intro o
      induction o using snoc_ind with
      | h0 => intro _; rfl
      | h1 o p ih =>
        intro hp
        have hI := hdI (ans := ans) ok hns o fun x hx => hp x (List.mem_append_left _ hx)
        have ih2 := ih fun x hx => hp x (List.mem_append_left _ hx)
        have hpl := hp p (List.mem_append_right _ List.mem_cons_self)
        rw [hearF_snoc]
        generalize hearF c ns ans o = hd at hI ih2
        have hun : TW.unb c ns (hd.heard.set p (some (ans.getD p 0))) := by
          refine Sub.opens (standsOf_sub ok ns (fullT ans) _ (by unfold fullT; rw [List.length_map, List.length_set, hI.len, hl]) fun i u t h1 h2 => ?_) hu
          have hil : i < ns.length := by
            have := (List.getElem?_eq_some_iff.mp h1).1
            unfold fullT at this
            rw [List.length_map] at this
            omega
          have hu1 : u = some (ans.getD i 0) := by
            unfold fullT at h1
            rw [List.getElem?_map, List.getElem?_eq_getElem (by omega)] at h1
            rw [List.getD_eq_getElem?_getD, List.getElem?_eq_getElem (by omega)]
            exact (Option.some.inj h1).symm
          have hal : ans.getD i 0 < c.heaps := by
            rw [List.getD_eq_getElem?_getD, List.getElem?_eq_getElem (by omega)]
            exact ha _ (List.getElem_mem _)
          have cases2 : t = none ∨ t = some (ans.getD i 0) := by
            by_cases e : p = i
            · subst e
              rw [List.getElem?_set_self (by rw [hI.len]; exact hil)] at h2
              exact .inr (Option.some.inj h2).symm
            · rw [List.getElem?_set_ne e] at h2
              rcases hI.at_ i hil with z | z
              · rw [z] at h2
                exact .inl (Option.some.inj h2).symm
              · rw [z.2] at h2
                exact .inr (Option.some.inj h2).symm
          rcases cases2 with rfl | rfl
          · exact lets_none fun x hx => by
              rw [hu1] at hx
              rw [← Option.some.inj hx]
              exact hal
          · rw [hu1]
            exact fun x hx => hx
        unfold hear1
        rw [if_pos hun]
        exact ih2
    exact key order hlt
end TW

set_option Elab.async false
set_option linter.all false
set_option maxRecDepth 100000
set_option maxHeartbeats 4000000
namespace TW
open PySem PySem.Spec PyProof.Rows L2
local macro_rules | `(tactic| walk_at "st0") => `(tactic| with_reducible (first | refine r_seq ?_ | refine r_next ?_ | refine r_ret ?_ | refine r_retN ?_ | refine r_drop ?_ | refine r_asg ?_ | refine r_if ?_ | refine r_gName ?_ | refine r_par ?_ | refine r_c ?_ | refine r_cons ?_ | refine r_nil ?_ | refine r_op ?_ | refine r_CB ?_ | refine r_andV ?_ | refine r_orV ?_ | refine r_notV ?_ | refine r_tIf ?_ | refine r_B ?_ | refine r_Test ?_ | refine r_and ?_ | refine r_or ?_ | refine r_not ?_ | refine r_yes ?_ | refine r_bl ?_ | refine r_T ?_ | refine r_F ?_ | refine r_nT ?_ | refine r_nF ?_ | refine r_I0 ?_ | refine r_eqI ?_ | refine r_neI ?_ | refine r_eqB ?_ | refine r_neB ?_ | refine r_isN0 ?_ | refine r_isN1 ?_ | refine r_isN2 ?_ | refine r_notN0 ?_ | refine r_notN1 ?_ | refine r_notN2 ?_ | refine r_isNo ?_ | refine r_notNo ?_ | refine r_fld ?_ | refine r_sfld ?_ | refine r_tup ?_ | refine r_lst ?_ | refine r_call ?_ | refine r_make ?_ | refine r_sl ?_ | refine r_part ?_ | refine r_noPart ?_ | refine r_iList ?_ | refine r_iTup ?_ | refine r_iRng1 ?_ | refine r_iEnum ?_ | refine r_int1 ?_ | refine r_intB ?_ | refine r_abs ?_ | refine r_bm ?_ | refine r_lc ?_ | refine r_for ?_))
local macro_rules | `(tactic| walk_at "st") => `(tactic| first | walk_at "st0" | ((with_reducible refine' r_var ?e ?_); (case e => exact rfl)) | ((with_reducible refine' r_fldG ?e1 ?e2 ?e3 ?e4 ?_); (case e1 => assumption); (case e2 => assumption); (case e3 => assumption); (case e4 => exact rfl)) | ((with_reducible refine' r_isC ?e ?_); (case e => assumption)) | dsimp only)
local macro_rules | `(tactic| walk_at "go") => `(tactic| repeat (walk_at "st"))
section
variable {P : Program} {w : World} {K : PySem.W.Frag} {mg : Str → Option Value} {base : Heap} {B : Adr}
theorem nones_ok {c : Cs} {ns : List Nat} (hl : ns.length ≤ 4) (hns : ∀ n ∈ ns, n < c.qs.length) : LogOk c ns (List.replicate ns.length none) := ⟨List.length_replicate.symm, by omega, hns, fun h hh => by
  have := List.eq_of_mem_replicate hh
  cases this⟩
def spLawAsked (B : Adr) : Sp := fun vs H Q _ => ∃ (d a : Nat) (c : Cs) (ns : List Nat), vs = [.ref d, .ref a] ∧ PlAt H d c ∧ c.Ok ∧ H a = some (.lst (vN ns)) ∧ ns.length ≤ 4 ∧ (∀ n ∈ ns, n < c.qs.length) ∧ ∀ e pa H' s, Same H H' → H e = none → H pa = none → EvAt B H' e pa c ns (List.replicate ns.length none) ns.length s → Q (.ref e) H'
theorem ok__law_asked (T : Tx K mg B) : C8.Cal P w K mg base 8 "_law_asked" (spLawAsked B) [] := by
  have c__law_case := ok__law_case (P := P) (w := w) (base := base) T
  have c_Evening := ok_Evening (P := P) (w := w) (base := base) T
  have c_Evening_ask := ok_Evening_ask (P := P) (w := w) (base := base) T
  refine cal_of T.d_law_asked scLawAsked (fun _ _ _ _ _ _ us hl => match us, hl with | [_, _], _ => rfl) (fun vs H Q E h => ?_) (fun f cdv AA outer s H vs Q E hr h => ?_)
  · first | (obtain ⟨_, rfl, _⟩ := h; rfl) | (obtain ⟨_, _, rfl, _⟩ := h; rfl) | (obtain ⟨_, _, _, rfl, _⟩ := h; rfl) | (obtain ⟨_, _, _, _, rfl, _⟩ := h; rfl) | (obtain ⟨_, _, _, _, _, rfl, _⟩ := h; rfl) | (obtain ⟨_, _, _, _, _, _, rfl, _⟩ := h; rfl) | (obtain ⟨_, _, _, _, _, _, _, rfl, _⟩ := h; rfl) | (obtain ⟨_, _, _, _, _, _, _, _, rfl, _⟩ := h; rfl) | (obtain ⟨_, _, _, _, _, _, _, _, _, rfl, _⟩ := h; rfl) | (obtain ⟨_, _, _, _, _, _, _, _, _, _, rfl, _⟩ := h; rfl) | (obtain ⟨_, _, _, _, _, _, _, _, _, _, _, rfl, _⟩ := h; rfl) | (obtain ⟨_, _, _, _, _, _, _, _, _, _, _, _, rfl, _⟩ := h; rfl) | (obtain ⟨_, _, _, _, _, _, _, _, _, _, _, _, _, rfl, _⟩ := h; rfl) | (obtain ⟨_, _, _, _, _, _, _, _, _, _, _, _, _, _, rfl, _⟩ := h; rfl) | (obtain ⟨_, _, _, _, _, _, _, _, _, _, _, _, _, _, _, rfl, _⟩ := h; rfl) | (obtain ⟨_, _, _, _, _, _, _, _, _, _, _, _, _, _, _, _, rfl, _⟩ := h; rfl) | (obtain ⟨_, _, _, _, _, _, _, _, _, _, _, _, _, _, _, _, _, rfl, _⟩ := h; rfl) | (obtain ⟨_, _, _, _, _, _, _, _, _, _, _, _, _, _, _, _, _, _, rfl, _⟩ := h; rfl) | (obtain ⟨_, _, _, _, _, _, _, _, _, _, _, _, _, _, _, _, _, _, _, rfl, _⟩ := h; rfl)
  · refine ⟨(tSeq (tAsg (tMake B.Evening (spIEvening B) [] C8.E0 (tCons (tCall (spLawCase B) [] C8.E0 (tCons (tVar 0) tNil)) tNil)) (gName 2))
    (tSeq (tFor (iList K (tVar 1)) (gName 3) (tDrop (tMeth B.Evening "ask" (spEveningAsk B) [] C8.E0 (tVar 2) (tCons (tVar 3) tNil))))
    (tRet (tVar 2)))),
    (pss_cons (ps_set (i := 2) scLawAsked.nd rfl (Or.inl rfl) (C8.pe_mk c_Evening hr (by decide) rfl (pa_cons (C8.pe_c c__law_case hr (by decide) rfl (pa_cons (pv 0) pa_nil)) pa_nil)))
    (pss_cons (ps_for PassesOwn.never rfl (pi_list (pv 1)) (pg_name (i := 3) scLawAsked.nd rfl (Or.inl rfl)) (pss_one (ps_expr (C8.pe_mt c_Evening_ask hr (by decide) (pv 2) (pa_cons (pv 3) pa_nil)))))
    (pss_one (ps_ret (pv 2))))), ?_⟩
    obtain ⟨d, a, c, ns, rfl, hpl, ok, ha, hl, hns, q⟩ := h
    walk_at "go"
    refine ⟨d, c, rfl, hpl, ok, fun ca H1 s1 _ hca => ?_⟩
    walk_at "go"
    intro e dx he hdx hne
    refine ⟨H1, e, dx, ca, c, rfl, Same.mut (Same.new hdx) he, he, upd_same, hca, ok, fun pa H2 s s2 hpa hev => ⟨rfl, ?_⟩⟩
    have he0 := Same.none s1 he
    have hp0 := Same.none s1 hpa
    have s02 := s1.trans s2
    walk_at "go"
    refine ⟨a, rfl, ⟨_, SqL.of (s02 _ _ ha)⟩, for_1 walk_list yAt (fun i σ H' => Same H H' ∧ (∃ s, EvAt B H' e pa c (ns.take i) (List.replicate i none) i s) ∧ ∃ v, σ = [some (.ref d), some (.ref a), some (.ref e), v]) ⟨s02, ⟨s, hev⟩, _, rfl⟩ (fun i σ H' _ z => SqL.of (z.1 _ _ ha)) ?_ ?_⟩
    · rintro i x σ H3 hi ⟨s3, ⟨sv, hev3⟩, v, rfl⟩ hx
      obtain ⟨n, hn, rfl⟩ := vN_of hx
      rw [vN_len] at hi
      obtain ⟨dx3, ca3, un3, nw3, pv3, h31, _⟩ := hev3.ex
      have et : ns.take (i + 1) = ns.take i ++ [n] := by
        rw [List.take_add_one, hn]
        rfl
      have hti : (ns.take i).length = i := by
        rw [List.length_take]
        omega
      have hnt : ∀ m ∈ ns.take i ++ [n], m < c.qs.length := fun m hm => by
        rw [← et] at hm
        exact hns m (List.mem_of_mem_take hm)
      have hll : (ns.take i ++ [n]).length = i + 1 := by rw [List.length_append, hti]; rfl
      have elr : List.replicate i (none : Option Nat) ++ [none] = List.replicate (ns.take i ++ [n]).length none := by
        rw [hll, List.replicate_succ']
      walk_at "go"
      refine r_meth ?_
      walk_at "go"
      refine ⟨e, dx3, _, rfl, h31, rfl, ?_⟩
      walk_at "go"
      refine ⟨e, pa, i, n, c, ns.take i, List.replicate i none, sv, rfl, hev3, ok, hns n (List.mem_of_getElem? hn), by omega, by omega, ?_, ?_, fun H4 s4 sc hev4 => ?_⟩
      · rw [elr]
        exact nones_ok (by omega) hnt
      · rw [elr]
        exact alive_asked ok _ hnt
      · walk_at "go"
        refine ⟨(cut_of s3 he0 hp0).trans sc, ⟨s4, ?_⟩, _, rfl⟩
        rw [et, List.replicate_succ']
        exact hev4
    · rintro σ H3 ⟨s3, ⟨sv, hev3⟩, v, rfl⟩
      rw [vN_len, List.take_length] at hev3
      walk_at "go"
      exact q e pa H3 sv s3 he0 hp0 hev3
end

end TW

set_option Elab.async false
set_option linter.all false
set_option maxRecDepth 100000
set_option maxHeartbeats 4000000
namespace TW
open PySem PySem.Spec PyProof.Rows L2
local macro_rules | `(tactic| walk_at "st0") => `(tactic| with_reducible (first | refine r_seq ?_ | refine r_next ?_ | refine r_ret ?_ | refine r_retN ?_ | refine r_drop ?_ | refine r_asg ?_ | refine r_if ?_ | refine r_gName ?_ | refine r_par ?_ | refine r_c ?_ | refine r_cons ?_ | refine r_nil ?_ | refine r_op ?_ | refine r_CB ?_ | refine r_andV ?_ | refine r_orV ?_ | refine r_notV ?_ | refine r_tIf ?_ | refine r_B ?_ | refine r_Test ?_ | refine r_and ?_ | refine r_or ?_ | refine r_not ?_ | refine r_yes ?_ | refine r_bl ?_ | refine r_T ?_ | refine r_F ?_ | refine r_nT ?_ | refine r_nF ?_ | refine r_I0 ?_ | refine r_eqI ?_ | refine r_neI ?_ | refine r_eqB ?_ | refine r_neB ?_ | refine r_isN0 ?_ | refine r_isN1 ?_ | refine r_isN2 ?_ | refine r_notN0 ?_ | refine r_notN1 ?_ | refine r_notN2 ?_ | refine r_isNo ?_ | refine r_notNo ?_ | refine r_fld ?_ | refine r_sfld ?_ | refine r_tup ?_ | refine r_lst ?_ | refine r_call ?_ | refine r_make ?_ | refine r_sl ?_ | refine r_part ?_ | refine r_noPart ?_ | refine r_iList ?_ | refine r_iTup ?_ | refine r_iRng1 ?_ | refine r_iEnum ?_ | refine r_int1 ?_ | refine r_intB ?_ | refine r_abs ?_ | refine r_bm ?_ | refine r_lc ?_ | refine r_for ?_))
local macro_rules | `(tactic| walk_at "st") => `(tactic| first | walk_at "st0" | ((with_reducible refine' r_var ?e ?_); (case e => exact rfl)) | ((with_reducible refine' r_fldG ?e1 ?e2 ?e3 ?e4 ?_); (case e1 => assumption); (case e2 => assumption); (case e3 => assumption); (case e4 => exact rfl)) | ((with_reducible refine' r_isC ?e ?_); (case e => assumption)) | dsimp only)
local macro_rules | `(tactic| walk_at "go") => `(tactic| repeat (walk_at "st"))
section
variable {P : Program} {w : World} {K : PySem.W.Frag} {mg : Str → Option Value} {base : Heap} {B : Adr}
/-- the heap without its lists -/
def NL (H : Hp) : Hp := fun b => match H b with
  | some (.lst _) => none
  | o => o
theorem nl_at {H : Hp} {b : Addr} {o : HO} (h : H b = some o) (n : ∀ xs, o ≠ .lst xs) : NL H b = some o := by
  unfold NL
  rw [h]
  cases o with
  | lst xs => exact absurd rfl (n xs)
  | _ => rfl
theorem nl_inv {H : Hp} {b : Addr} {o : HO} (h : NL H b = some o) : H b = some o ∧ ∀ xs, o ≠ .lst xs := by
  unfold NL at h
  cases e : H b with
  | none =>
    rw [e] at h
    cases h
  | some u =>
    rw [e] at h
    cases u with
    | lst xs => cases h
    | _ =>
      refine ⟨h, ?_⟩
      cases h
      intro xs z
      cases z
theorem rp_nl {H : Hp} (d : PyData) (v : V) (nl : noL d = true) (h : Rp H v d) : Rp (NL H) v d := by
  have key : ∀ H2 : Hp, (∀ (a : Addr) (xs : List V), H a = some (.tup xs) → H2 a = some (.tup xs)) → ∀ (d : PyData) (v : V), Rp H v d → noL d = true → Rp H2 v d := by
    intro H2 k d v h
    exact Rp.rec (motive_1 := fun v d _ => noL d = true → Rp H2 v d) (motive_2 := fun vs ds _ => noLs ds = true → RpA H2 vs ds) (fun _ => .non) (fun b _ => .bl b) (fun i _ => .int i) (fun x _ => .str x)
      (fun _ _ _ n => by rw [noL] at n; cases n) (fun h1 _ ih n => .tup (k _ _ h1) (ih (by rw [noL] at n; exact n))) (fun _ => .nil) (fun _ _ i1 i2 n => by
        rw [noLs] at n
        obtain ⟨n1, n2⟩ := Bool.and_eq_true_iff.mp n
        exact .cons (i1 n1) (i2 n2)) h
  exact key _ (fun a xs h => nl_at h (by intro ys z; cases z)) d v h nl
theorem QsAt.nl {H : Hp} : ∀ {vs : List V} {qs : List (Nat × List Nat)}, QsAt B H vs qs → QsAt B (NL H) vs qs
  | _, _, .nil => .nil
  | _, _, .cons h t => by
    obtain ⟨dx, hp, idle, h1, h2⟩ := h.ex
    exact .cons ⟨dx, hp, idle, nl_at h1 (by intro ys z; cases z), nl_at h2 (by intro ys z; cases z)⟩ t.nl
theorem CaseAt.nl {H : Hp} {a : Addr} {c : Cs} (h : CaseAt B H a c) : CaseAt B (NL H) a c := by
  obtain ⟨dx, st, ru, fp, wi, h1, hst, hru, h4, hwi⟩ := h.ex
  refine ⟨dx, st, ru, fp, wi, nl_at h1 (by intro ys z; cases z), ?_, ?_, nl_at h4 (by intro ys z; cases z), ?_⟩
  · obtain ⟨dx, qp, vs, g1, g2, g3⟩ := hst.ex
    exact ⟨dx, qp, vs, nl_at g1 (by intro ys z; cases z), nl_at g2 (by intro ys z; cases z), g3.nl⟩
  · obtain ⟨dx, rp, ev, g1, g2⟩ := hru.ex
    exact ⟨dx, rp, ev, nl_at g1 (by intro ys z; cases z), rp_nl _ _ (by rw [noL]; exact noLs_map (fun r => noL_row r) _) g2⟩
  · rcases hwi.ex with ⟨cs, dx, p, g1, g2, g3, g4⟩ | ⟨m, dx, g1, g2⟩
    · exact ⟨.inl ⟨cs, dx, p, g1, nl_at g2 (by intro ys z; cases z), nl_at g3 (by intro ys z; cases z), g4⟩⟩
    · exact ⟨.inr ⟨m, dx, g1, nl_at g2 (by intro ys z; cases z)⟩⟩
theorem StdAt.nl {H : Hp} {x : Addr} {c : Cs} {ns : List Nat} {ts : List (Option Nat)} {k : Nat} {s : Sv} (h : StdAt B H x c ns ts k s) : StdAt B (NL H) x c ns ts k s := by
  obtain ⟨⟨d, e1⟩, ⟨p, xs, f1, f2, f3⟩, a, b, g, i, j, l, m, o⟩ := h
  exact ⟨⟨d, nl_at e1 (by intro ys z; cases z)⟩, ⟨p, xs, f1, nl_at f2 (by intro ys z; cases z), f3⟩, rp_nl _ _ (noL_ask ns) a, rp_nl _ _ (noL_told ts) b, rp_nl _ _ (noL_dT _) g, rp_nl _ _ (noL_log _ _) i, rp_nl _ _ (noL_dS _) j, rp_nl _ _ (noL_dT _) l, rp_nl _ _ (noL_sure _ _) m, o⟩
theorem EvAt.keep {H : Hp} {e pa R : Addr} {c : Cs} {ns : List Nat} {ts : List (Option Nat)} {k : Nat} {s : Sv} {xs ys : List V} (h : EvAt B H e pa c ns ts k s) (hR : H R = some (.lst xs)) (hne : R ≠ pa) : EvAt B (L2.upd H R (.lst ys)) e pa c ns ts k s := by
  obtain ⟨dx, ca, un, nw, pv, h1, h2, h3, h4, h5⟩ := h.ex
  have hRe : e ≠ R := ne_of h1 hR (by intro z; cases z)
  have sm : Same (NL (cut H e pa)) (cut (L2.upd H R (.lst ys)) e pa) := fun b o hb => by
    obtain ⟨g1, g2⟩ := nl_inv hb
    have b1 : b ≠ e := fun z => by rw [z, cut_e] at g1; cases g1
    have b2 : b ≠ pa := fun z => by rw [z, cut_p] at g1; cases g1
    rw [cut_ne b1 b2] at g1 ⊢
    have b3 : b ≠ R := fun z => by
      rw [z, hR] at g1
      exact g2 xs (Option.some.inj g1).symm
    rw [upd_ne b3]
    exact g1
  exact ⟨dx, ca, un, nw, pv, by rw [upd_ne hRe]; exact h1, by rw [upd_ne (Ne.symm hne)]; exact h2, h3, h4.nl.up sm, h5.nl.up sm⟩
theorem eqv_self {d : PyData} {n : Nat} (h : Shp d n) : PyData.eqv d d = true := SeqAt.eqv_refl d h.lay
theorem shp_log (ns : List Nat) (ts : List (Option Nat)) : Shp (.tuple [dT ns, .tuple (ts.map dO)]) 2 := shp_tup fun d hd => by
  rcases List.mem_cons.mp hd with rfl | hd
  · exact shp_dN ns
  · rw [List.mem_singleton.mp hd]
    exact shp_tup (shp_map (fun o => by
      cases o with
      | none => exact shp_none
      | some n => exact shp_int _) ts)
theorem shp_sure (c : Cs) (os : List Nat) : Shp (sureD c os) 1 := by
  unfold sureD
  split
  · exact shp_up shp_none (by decide)
  · split
    · split
      · exact shp_dN os
      · exact shp_up (shp_int _) (by decide)
    · exact shp_up shp_none (by decide)
theorem r_par3 {i j l : Nat} {ta : TA} {D : Ends} {σ : L2.St} {H : Hp} (h : ta σ H fun vs H1 => ∃ u v w, vs = [u, v, w] ∧ D.nx (((σ.set i (some u)).set j (some v)).set l (some w)) H1) : tPar3 i j l ta D σ H := h
def tHearTail : TS := (tSeq (tIfS (tOr (tTest (tOp rNe (tOp rEq (tVar 10) (tVar 7)) (tOp (rEqD K) (tCall spLawOpen [] C8.E0 (tCons (tVar 9) tNil)) (tTup tNil)))) (tAnd (tTest (tOp rNotN (tVar 10) (tC .non))) (tTest (tOp rNe (tVar 10) (tVar 7))))) (tRet (tC .non)) tNext)
    (tSeq (tIfS (tTest (tOp rIsN (tVar 10) (tC .non))) (tAsg (tVar 8) (gName 5)) (tDrop (tBM K "list" rAppend (tVar 6) (tCons (tVar 7) tNil))))
    (tIfS (tOr (tTest (tOp (rNeD K) (tFld K (tVar 4) "log") (tTup (tCons (tCB (qTupS K) (tCons (tVar 1) tNil)) (tCons (tCB (qTupS K) (tCons (tVar 5) tNil)) tNil))))) (tTest (tOp (rNeD K) (tFld K (tVar 4) "stands") (tCall spLawStands [] C8.E0 (tCons (tVar 0) (tCons (tVar 1) (tCons (tVar 5) tNil))))))) (tRet (tC .non)) tNext)))
theorem hear_tail (T : Tx K mg B) {D : Ends} {d a1 a2 a3 e pa hl Rf p l8 r9 k : Nat} {o : Option Nat} {c : Cs} {ns ans : List Nat} {hd : Hd} {s : Sv} {H3 : Hp} (hpl : PlAt H3 d c) (ok : c.Ok) (ha1 : H3 a1 = some (.lst (vN ns))) (hl4 : ns.length ≤ 4) (hns : ∀ n ∈ ns, n < c.qs.length)
    (hev : EvAt B H3 e pa c ns (hear1 c ns ans hd p).heard k s) (h8 : H3 l8 = some (.lst ((hd.heard.set p (some (ans.getD p 0))).map oN))) (hh : H3 hl = some (.lst (hd.heard.map oN))) (hR : H3 Rf = some (.lst (vN hd.refused))) (hRl : hd.refused.length ≤ 100) (hRp : Rf ≠ pa) (hRd : Rf ≠ a1 ∧ Rf ≠ l8 ∧ Rf ≠ hl)
    (hRc : del H3 Rf a1 = some (.lst (vN ns)) ∧ PlAt (del H3 Rf) d c)
    (h9 : Rp H3 (.ref r9) (dS (standsOf c (ns.zip (hd.heard.set p (some (ans.getD p 0))))))) (hlen : hd.heard.length = ns.length) (htold : ∀ x, some x ∈ (hear1 c ns ans hd p).heard → x < c.heaps)
    (ho : (o = some p ∧ ¬ unb c ns (hd.heard.set p (some (ans.getD p 0)))) ∨ (o = none ∧ unb c ns (hd.heard.set p (some (ans.getD p 0)))))
    (hnx : ∀ H4 hl', Same (del H3 Rf) H4 → EvAt B H4 e pa c ns (hear1 c ns ans hd p).heard k s → (hl' = l8 ∨ hl' = hl) → H4 hl' = some (.lst ((hear1 c ns ans hd p).heard.map oN)) → H4 Rf = some (.lst (vN (hear1 c ns ans hd p).refused)) →
      D.nx [some (.ref d), some (.ref a1), some (.ref a2), some (.ref a3), some (.ref e), some (.ref hl'), some (.ref Rf), some (.int (p : Int)), some (.ref l8), some (.ref r9), some (oN o)] H4) :
    (tHearTail (K := K)) D [some (.ref d), some (.ref a1), some (.ref a2), some (.ref a3), some (.ref e), some (.ref hl), some (.ref Rf), some (.int (p : Int)), some (.ref l8), some (.ref r9), some (oN o)] H3 := by
  have hCEvening := T.c_Evening
  have hAEvening_log := T.a_Evening_log
  have hAEvening_stands := T.a_Evening_stands
  have hth := ok.things
  have fok := standsOf_ok ok (ns.zip (hd.heard.set p (some (ans.getD p 0))))
  -- the last check
  have last : ∀ H4 hl', Same (del H3 Rf) H4 → EvAt B H4 e pa c ns (hear1 c ns ans hd p).heard k s → (hl' = l8 ∨ hl' = hl) → H4 hl' = some (.lst ((hear1 c ns ans hd p).heard.map oN)) → H4 Rf = some (.lst (vN (hear1 c ns ans hd p).refused)) → hl' ≠ Rf → (hear1 c ns ans hd p).heard.length = ns.length →
      (tIfS (tOr (tTest (tOp (rNeD K) (tFld K (tVar 4) "log") (tTup (tCons (tCB (qTupS K) (tCons (tVar 1) tNil)) (tCons (tCB (qTupS K) (tCons (tVar 5) tNil)) tNil))))) (tTest (tOp (rNeD K) (tFld K (tVar 4) "stands") (tCall spLawStands [] C8.E0 (tCons (tVar 0) (tCons (tVar 1) (tCons (tVar 5) tNil))))))) (tRet (tC .non)) tNext : TS) D
        [some (.ref d), some (.ref a1), some (.ref a2), some (.ref a3), some (.ref e), some (.ref hl'), some (.ref Rf), some (.int (p : Int)), some (.ref l8), some (.ref r9), some (oN o)] H4 := by
    intro H4 hl' s4 hev4 hor e4 eR4 hne hlen4
    obtain ⟨dx, ca, un, nw, pv, g1, g2, g3, g4, g5⟩ := hev4.ex
    have a14 := s4 _ _ hRc.1
    have sv := g5.sv.up cut_le
    walk_at "go"
    refine r_tupL a14 fun nt hnt => ?_
    have sa := Same.new (o := .tup (vN ns)) hnt
    walk_at "go"
    refine r_tupL (sa _ _ e4) fun ht hht => ?_
    have sb := Same.new (o := .tup ((hear1 c ns ans hd p).heard.map oN)) hht
    walk_at "go"
    refine ⟨by simp [sizeLine_eq], fun lg hlg => ?_⟩
    have sc := Same.new (o := .tup [.ref nt, .ref ht]) hlg
    have sm := (sa.trans sb).trans sc
    refine r_neD (d := .tuple [dT ns, .tuple ((hear1 c ns ans hd p).heard.map dO)]) (e := .tuple [dT ns, .tuple ((hear1 c ns ans hd p).heard.map dO)]) (sv.log.up sm)
      (.tup upd_same (.cons ((Rp.nats (upd_same (H := H4) (a := nt))).up (sb.trans sc)) (.cons (.tup (sc _ _ upd_same) (RpA.os _)) .nil))) ((shp_log _ _).sh (by decide)) ((shp_log _ _).sh (by decide)) ?_
    rw [eqv_self (shp_log _ _)]
    have e5 := sm _ _ e4
    have a15 := sm _ _ a14
    have g15 := sm _ _ g1
    have st5 := sv.stands.up sm
    have pl5 := (hRc.2.up s4).up sm
    have ev5 := hev4.up sm
    have eR5 := sm _ _ eR4
    have s5 := s4.trans sm
    generalize L2.upd (L2.upd (L2.upd H4 nt (.tup (vN ns))) ht (.tup ((hear1 c ns ans hd p).heard.map oN))) lg (.tup [.ref nt, .ref ht]) = H5 at e5 a15 g15 st5 pl5 ev5 eR5 s5 ⊢
    walk_at "go"
    refine ⟨d, a1, hl', c, ns, _, rfl, pl5, ok, a15, e5, hlen4.symm, hl4, hns, fun r H6 s6 hr => ?_⟩
    rw [standsE_eq ok hlen4.symm htold] at hr
    refine r_neD (st5.up s6) hr ((shp_dS _).sh (by decide)) ((shp_dS _).sh (by decide)) ?_
    rw [eqv_self (shp_dS _)]
    walk_at "go"
    exact hnx H6 hl' (s5.trans s6) (ev5.up s6) hor (s6 _ _ e5) (s6 _ _ eR5)
  unfold tHearTail
  refine r_seq (r_if (r_or (r_Test (r_op (r_op (r_var rfl (r_var rfl ?_))))))) 
  refine r_eqO (b := some p) (r_op ?_)
  walk_at "go"
  refine ⟨r9, _, rfl, h9, by rw [fok.len]; omega, fun op H4 s4 eop => ?_⟩
  walk_at "go"
  refine ⟨by simp [sizeLine_eq], fun em hem => ?_⟩
  have s5 := Same.new (o := .tup []) hem
  refine r_eqD (d := dT (opens (standsOf c (ns.zip (hd.heard.set p (some (ans.getD p 0))))))) (e := dT []) ((Rp.nats eop).up s5) (.tup upd_same .nil) ((shp_dN _).sh (by decide)) ((shp_dN []).sh (by decide)) ?_
  rw [eqv_dN]
  have sm := s4.trans s5
  generalize L2.upd H4 em (.tup []) = H5 at s5 sm ⊢
  have d5 : Same (del H3 Rf) H5 := del_le.trans sm
  rcases ho with ⟨rfl, hu⟩ | ⟨rfl, hu⟩
  · have hz : opens (standsOf c (ns.zip (hd.heard.set p (some (ans.getD p 0))))) = [] := by
      unfold unb at hu
      exact Classical.not_not.mp hu
    have e1 : hear1 c ns ans hd p = ⟨hd.heard, hd.refused ++ [p]⟩ := by
      unfold hear1
      rw [if_neg hu]
    rw [decide_eq_true rfl, decide_eq_true hz]
    walk_at "go"
    refine r_bF (by decide) ?_
    walk_at "go"
    refine r_notO ?_
    walk_at "go"
    refine r_T ?_
    walk_at "go"
    refine r_neO (b := some p) ?_
    rw [decide_eq_true rfl]
    walk_at "go"
    refine r_isO ?_
    walk_at "go"
    refine r_F ?_
    walk_at "go"
    have R5 := sm _ _ hR
    refine ⟨tyL R5, ?_⟩
    walk_at "go"
    refine r_append R5 (by rw [vN_len]; exact szT (by omega)) ?_
    have ev : vN hd.refused ++ [V.int (p : Int)] = vN (hear1 c ns ans hd p).refused := by
      rw [e1]
      unfold vN
      rw [List.map_append]
      rfl
    rw [ev]
    refine last _ hl (Same.mut d5 del_same) ((hev.up sm).keep R5 hRp) (.inr rfl) ?_ upd_same (Ne.symm hRd.2.2) (by rw [e1]; exact hlen)
    rw [upd_ne (Ne.symm hRd.2.2), e1]
    exact sm _ _ hh
  · have hz : ¬ opens (standsOf c (ns.zip (hd.heard.set p (some (ans.getD p 0))))) = [] := hu
    have e1 : hear1 c ns ans hd p = ⟨hd.heard.set p (some (ans.getD p 0)), hd.refused⟩ := by
      unfold hear1
      rw [if_pos hu]
    rw [decide_eq_false (by intro z; cases z), decide_eq_false hz]
    walk_at "go"
    refine r_bF (by decide) ?_
    walk_at "go"
    refine r_notO ?_
    walk_at "go"
    refine r_F ?_
    walk_at "go"
    refine r_isO ?_
    refine r_bl (r_T (r_asg (r_var rfl (r_gName ?_))))
    refine last H5 l8 d5 (hev.up sm) (.inl rfl) (by rw [e1]; exact sm _ _ h8) (by rw [e1]; exact sm _ _ hR) (Ne.symm hRd.2.1) (by rw [e1, List.length_set]; exact hlen)
end

end TW

set_option Elab.async false
set_option linter.all false
set_option maxRecDepth 100000
set_option maxHeartbeats 4000000
namespace TW
open PySem PySem.Spec PyProof.Rows L2
local macro_rules | `(tactic| walk_at "st0") => `(tactic| with_reducible (first | refine r_seq ?_ | refine r_next ?_ | refine r_ret ?_ | refine r_retN ?_ | refine r_drop ?_ | refine r_asg ?_ | refine r_if ?_ | refine r_gName ?_ | refine r_par ?_ | refine r_c ?_ | refine r_cons ?_ | refine r_nil ?_ | refine r_op ?_ | refine r_CB ?_ | refine r_andV ?_ | refine r_orV ?_ | refine r_notV ?_ | refine r_tIf ?_ | refine r_B ?_ | refine r_Test ?_ | refine r_and ?_ | refine r_or ?_ | refine r_not ?_ | refine r_yes ?_ | refine r_bl ?_ | refine r_T ?_ | refine r_F ?_ | refine r_nT ?_ | refine r_nF ?_ | refine r_I0 ?_ | refine r_eqI ?_ | refine r_neI ?_ | refine r_eqB ?_ | refine r_neB ?_ | refine r_isN0 ?_ | refine r_isN1 ?_ | refine r_isN2 ?_ | refine r_notN0 ?_ | refine r_notN1 ?_ | refine r_notN2 ?_ | refine r_isNo ?_ | refine r_notNo ?_ | refine r_fld ?_ | refine r_sfld ?_ | refine r_tup ?_ | refine r_lst ?_ | refine r_call ?_ | refine r_make ?_ | refine r_sl ?_ | refine r_part ?_ | refine r_noPart ?_ | refine r_iList ?_ | refine r_iTup ?_ | refine r_iRng1 ?_ | refine r_iEnum ?_ | refine r_int1 ?_ | refine r_intB ?_ | refine r_abs ?_ | refine r_bm ?_ | refine r_lc ?_ | refine r_for ?_))
local macro_rules | `(tactic| walk_at "st") => `(tactic| first | walk_at "st0" | ((with_reducible refine' r_var ?e ?_); (case e => exact rfl)) | ((with_reducible refine' r_fldG ?e1 ?e2 ?e3 ?e4 ?_); (case e1 => assumption); (case e2 => assumption); (case e3 => assumption); (case e4 => exact rfl)) | ((with_reducible refine' r_isC ?e ?_); (case e => assumption)) | dsimp only)
local macro_rules | `(tactic| walk_at "go") => `(tactic| repeat (walk_at "st"))
section
variable {P : Program} {w : World} {K : PySem.W.Frag} {mg : Str → Option Value} {base : Heap} {B : Adr}
theorem EvAt.le {H : Hp} {e pa : Addr} {c : Cs} {ns : List Nat} {ts : List (Option Nat)} {k k' : Nat} {s : Sv} (h : EvAt B H e pa c ns ts k s) (hk : k ≤ k') : EvAt B H e pa c ns ts k' s := by
  obtain ⟨dx, ca, un, nw, pv, h1, h2, h3, h4, h5, ⟨p, xs, g1, g2, g3⟩, r1, r2, r3, r4, r5, r6, r7, r8⟩ := h.ex
  exact ⟨dx, ca, un, nw, pv, h1, h2, by omega, h4, h5, ⟨p, xs, g1, g2, by omega⟩, r1, r2, r3, r4, r5, r6, r7, r8⟩
theorem ixNat {p n : Nat} (h : p < n) : ixN n (p : Int) = some p := by
  unfold ixN
  first | (rw [if_pos (by omega)]; rfl) | simp <;> omega
theorem rep_none (n : Nat) : (List.replicate n [V.non]).flatten = (List.replicate n (none : Option Nat)).map oN := by
  induction n with
  | zero => rfl
  | succ n ih =>
    rw [List.replicate_succ, List.flatten_cons, ih, List.replicate_succ, List.map_cons]
    rfl
theorem hear1_told {c : Cs} {ns ans : List Nat} {hd : Hd} {p : Nat} {b : Nat} (h : ∀ x, some x ∈ hd.heard → x < b) (hp : ans.getD p 0 < b) : (∀ x, some x ∈ (hear1 c ns ans hd p).heard → x < b) ∧ ∀ x, some x ∈ hd.heard.set p (some (ans.getD p 0)) → x < b := by
  have h2 : ∀ x, some x ∈ hd.heard.set p (some (ans.getD p 0)) → x < b := fun x hx => by
    rcases List.mem_or_eq_of_mem_set hx with z | z
    · exact h x z
    · rw [Option.some.inj z]
      exact hp
  refine ⟨?_, h2⟩
  unfold hear1
  split
  · exact h2
  · exact h
theorem hdI_told {c : Cs} {ns ans order : List Nat} {h : Hd} {b : Nat} (hI : HdI c ns ans order h) (ha : ∀ i, i < ns.length → ans.getD i 0 < b) : ∀ x, some x ∈ h.heard → x < b := fun x hx => by
  obtain ⟨i, hi⟩ := List.mem_iff_getElem?.mp hx
  have hil : i < ns.length := by
    rw [← hI.len]
    exact (List.getElem?_eq_some_iff.mp hi).1
  rcases hI.at_ i hil with z | ⟨_, z⟩
  · rw [z] at hi
    cases hi
  · rw [z] at hi
    rw [← Option.some.inj (Option.some.inj hi)]
    exact ha i hil
def resD (c : Cs) (ns : List Nat) (h : Hd) (rf : List Nat) : PyData := .tuple [.list (dN rf), .tuple [dS (standsOf c (ns.zip h.heard)), sureD c (opens (standsOf c (ns.zip h.heard))), dT (opens (standsOf c (ns.zip h.heard)))]]
def spLawHearingRight (B : Adr) : Sp := fun vs H Q _ => ∃ (d a1 a2 a3 : Nat) (c : Cs) (ns ans os : List Nat), vs = [.ref d, .ref a1, .ref a2, .ref a3] ∧ PlAt H d c ∧ c.Ok ∧ H a1 = some (.lst (vN ns)) ∧ H a2 = some (.lst (vN ans)) ∧ H a3 = some (.lst (vN os)) ∧ ns.length ≤ 4 ∧ ans.length = ns.length ∧ (∀ n ∈ ns, n < c.qs.length) ∧ (∀ a ∈ ans, a < c.heaps) ∧ os.Perm (List.range ns.length) ∧
  ∀ v H' rf, Same H H' → rf.Perm (hearF c ns ans os).refused → Rp H' v (resD c ns (hearF c ns ans os) rf) → Q v H'
theorem ok__law_hearing_right (T : Tx K mg B) : C8.Cal P w K mg base 9 "_law_hearing_right" (spLawHearingRight B) [] := by
  have c__law_asked := ok__law_asked (P := P) (w := w) (base := base) T
  have c__law_stands := ok__law_stands (P := P) (w := w) (base := base) T
  have c__law_is_refused := ok__law_is_refused (P := P) (w := w) (base := base) T
  have c__law_open := ok__law_open (P := P) (w := w) (base := base) T
  refine cal_of T.d_law_hearing_right scLawHearingRight (fun _ _ _ _ _ _ us hl => match us, hl with | [_, _, _, _], _ => rfl) (fun vs H Q E h => ?_) (fun f cdv AA outer s H vs Q E hr h => ?_)
  · first | (obtain ⟨_, rfl, _⟩ := h; rfl) | (obtain ⟨_, _, rfl, _⟩ := h; rfl) | (obtain ⟨_, _, _, rfl, _⟩ := h; rfl) | (obtain ⟨_, _, _, _, rfl, _⟩ := h; rfl) | (obtain ⟨_, _, _, _, _, rfl, _⟩ := h; rfl) | (obtain ⟨_, _, _, _, _, _, rfl, _⟩ := h; rfl) | (obtain ⟨_, _, _, _, _, _, _, rfl, _⟩ := h; rfl) | (obtain ⟨_, _, _, _, _, _, _, _, rfl, _⟩ := h; rfl) | (obtain ⟨_, _, _, _, _, _, _, _, _, rfl, _⟩ := h; rfl) | (obtain ⟨_, _, _, _, _, _, _, _, _, _, rfl, _⟩ := h; rfl) | (obtain ⟨_, _, _, _, _, _, _, _, _, _, _, rfl, _⟩ := h; rfl) | (obtain ⟨_, _, _, _, _, _, _, _, _, _, _, _, rfl, _⟩ := h; rfl) | (obtain ⟨_, _, _, _, _, _, _, _, _, _, _, _, _, rfl, _⟩ := h; rfl) | (obtain ⟨_, _, _, _, _, _, _, _, _, _, _, _, _, _, rfl, _⟩ := h; rfl) | (obtain ⟨_, _, _, _, _, _, _, _, _, _, _, _, _, _, _, rfl, _⟩ := h; rfl) | (obtain ⟨_, _, _, _, _, _, _, _, _, _, _, _, _, _, _, _, rfl, _⟩ := h; rfl) | (obtain ⟨_, _, _, _, _, _, _, _, _, _, _, _, _, _, _, _, _, rfl, _⟩ := h; rfl) | (obtain ⟨_, _, _, _, _, _, _, _, _, _, _, _, _, _, _, _, _, _, rfl, _⟩ := h; rfl) | (obtain ⟨_, _, _, _, _, _, _, _, _, _, _, _, _, _, _, _, _, _, _, rfl, _⟩ := h; rfl)
  · refine ⟨(tSeq (tPar3 4 5 6 (tCons (tCall (spLawAsked B) [] C8.E0 (tCons (tVar 0) (tCons (tVar 1) tNil))) (tCons (tOp rRep (tLst (tCons (tC .non) tNil)) (tCB (Evl.rLenS K) (tCons (tVar 1) tNil))) (tCons (tLst tNil) tNil))))
    (tSeq (tFor (iList K (tVar 3)) (gName 7) (tSeq (tAsg (tCB (Evl.rListS K) (tCons (tVar 5) tNil)) (gName 8))
    (tSeq (tAsg (tOp (rIxL K) (tVar 2) (tVar 7)) (gSub (tVar 8) (tVar 7) rSetL))
    (tSeq (tAsg (tCall spLawStands [] C8.E0 (tCons (tVar 0) (tCons (tVar 1) (tCons (tVar 8) tNil)))) (gName 9))
    (tSeq (tAsg (tCall (spLawIsRefused B) [] C8.E0 (tCons (tVar 4) (tCons (tVar 7) (tCons (tOp (rIxL K) (tVar 2) (tVar 7)) tNil)))) (gName 10))
    (tSeq (tIfS (tOr (tTest (tOp rNe (tOp rEq (tVar 10) (tVar 7)) (tOp (rEqD K) (tCall spLawOpen [] C8.E0 (tCons (tVar 9) tNil)) (tTup tNil)))) (tAnd (tTest (tOp rNotN (tVar 10) (tC .non))) (tTest (tOp rNe (tVar 10) (tVar 7))))) (tRet (tC .non)) tNext)
    (tSeq (tIfS (tTest (tOp rIsN (tVar 10) (tC .non))) (tAsg (tVar 8) (gName 5)) (tDrop (tBM K "list" rAppend (tVar 6) (tCons (tVar 7) tNil))))
    (tIfS (tOr (tTest (tOp (rNeD K) (tFld K (tVar 4) "log") (tTup (tCons (tCB (qTupS K) (tCons (tVar 1) tNil)) (tCons (tCB (qTupS K) (tCons (tVar 5) tNil)) tNil))))) (tTest (tOp (rNeD K) (tFld K (tVar 4) "stands") (tCall spLawStands [] C8.E0 (tCons (tVar 0) (tCons (tVar 1) (tCons (tVar 5) tNil))))))) (tRet (tC .non)) tNext))))))))
    (tRet (tTup (tCons (tCB (rSorted K) (tCons (tVar 6) tNil)) (tCons (tTup (tCons (tFld K (tVar 4) "stands") (tCons (tFld K (tVar 4) "sure") (tCons (tFld K (tVar 4) "open_things") tNil)))) tNil)))))),
    (pss_cons (ps_par3 (i := 4) (j := 5) (l := 6) rfl scLawHearingRight.nd rfl rfl rfl (by decide) (by decide) (by decide) rfl rfl rfl (pa_cons (C8.pe_c c__law_asked hr (by decide) rfl (pa_cons (pv 0) (pa_cons (pv 1) pa_nil))) (pa_cons (pe_op op_rep (pe_lst (pa_cons pe_non pa_nil)) (pe_callB call_len_seq (by rfl) T.f_len (by decide +kernel) (pa_cons (pv 1) pa_nil))) (pa_cons (pe_lst pa_nil) pa_nil))) (by rfl))
    (pss_cons (ps_for PassesOwn.never rfl (pi_list (pv 3)) (pg_name (i := 7) scLawHearingRight.nd rfl (Or.inl rfl)) (pss_cons (ps_set (i := 8) scLawHearingRight.nd rfl (Or.inl rfl) (pe_callTy call_list_of (by rfl) T.f_list (by decide +kernel) (pa_cons (pv 5) pa_nil)))
    (pss_cons (ps_asg (pe_ix ix_list (pv 2) (pv 7) (fun _ _ => rfl)) (pg_sub (pv 8) (pv 7) set_list))
    (pss_cons (ps_set (i := 9) scLawHearingRight.nd rfl (Or.inl rfl) (C8.pe_c c__law_stands hr (by decide) rfl (pa_cons (pv 0) (pa_cons (pv 1) (pa_cons (pv 8) pa_nil)))))
    (pss_cons (ps_set (i := 10) scLawHearingRight.nd rfl (Or.inl rfl) (C8.pe_c c__law_is_refused hr (by decide) rfl (pa_cons (pv 4) (pa_cons (pv 7) (pa_cons (pe_ix ix_list (pv 2) (pv 7) (fun _ _ => rfl)) pa_nil)))))
    (pss_cons (ps_if (PW.pt (pw_or (pt_cmpR op_ne (pe_cmpR op_eq (pv 10) (pv 7) (nomark _)) (pe_cmpR (op_eqD hr.units) (C8.pe_c c__law_open hr (by decide) rfl (pa_cons (pv 9) pa_nil)) (pe_tup pa_nil) (nomark _)) (nomark _)) (pw_or1 (PW.pt (pw_and (pt_cmpR op_notN1 (pv 10) pe_non (nomark _)) (pw_and1 (pt_cmpR op_ne (pv 10) (pv 7) (nomark _)))))))) (pss_one (ps_ret pe_non)) pss_nil)
    (pss_cons (ps_if (pt_cmpR op_isN1 (pv 10) pe_non (nomark _)) (pss_one (ps_set (i := 5) scLawHearingRight.nd rfl (Or.inl rfl) (pv 8))) (pss_one (ps_expr (pe_bm PySem.F.plainAttrs_list PySem.F.slot_list_append PySem.F.type_list_append mt_append (pv 6) (pa_cons (pv 7) pa_nil)))))
    (pss_one (ps_if (PW.pt (pw_or (pt_cmpR (op_neD hr.units) (pe_fld (pv 4) rfl) (pe_tup (pa_cons (pe_callTy call_tuple_of (by rfl) T.f_tuple (by decide +kernel) (pa_cons (pv 1) pa_nil)) (pa_cons (pe_callTy call_tuple_of (by rfl) T.f_tuple (by decide +kernel) (pa_cons (pv 5) pa_nil)) pa_nil))) (nomark _)) (pw_or1 (pt_cmpR (op_neD hr.units) (pe_fld (pv 4) rfl) (C8.pe_c c__law_stands hr (by decide) rfl (pa_cons (pv 0) (pa_cons (pv 1) (pa_cons (pv 5) pa_nil)))) (nomark _))))) (pss_one (ps_ret pe_non)) pss_nil)))))))))
    (pss_one (ps_ret (pe_tup (pa_cons (pe_callB cr_sorted (by rfl) T.f_sorted (by decide +kernel) (pa_cons (pv 6) pa_nil)) (pa_cons (pe_tup (pa_cons (pe_fld (pv 4) rfl) (pa_cons (pe_fld (pv 4) rfl) (pa_cons (pe_fld (pv 4) rfl) pa_nil)))) pa_nil))))))), ?_⟩
    have hCEvening := T.c_Evening
    have hAEvening_log := T.a_Evening_log
    have hAEvening_stands := T.a_Evening_stands
    have hAEvening_open_things := T.a_Evening_open_things
    have hAEvening_sure := T.a_Evening_sure
    obtain ⟨d, a1, a2, a3, c, ns, ans, os, rfl, hpl, ok, ha1, ha2, ha3, hl4, hal, hns, hans, hos, q⟩ := h
    have holt : ∀ p ∈ os, p < ns.length := fun p hp => List.mem_range.mp (hos.mem_iff.mp hp)
    have hol : os.length = ns.length := by rw [hos.length_eq, List.length_range]
    have hond : os.Nodup := hos.nodup_iff.mpr List.nodup_range
    have hag : ∀ i, i < ns.length → ans.getD i 0 < c.heaps := fun i hi => by
      rw [List.getD_eq_getElem?_getD, List.getElem?_eq_getElem (by omega)]
      exact hans _ (List.getElem_mem _)
    have hI : ∀ i, HdI c ns ans (os.take i) (hearF c ns ans (os.take i)) := fun i => hdI ok hns _ fun p hp => holt p (List.mem_of_mem_take hp)
    refine r_seq (r_par3 ?_)
    walk_at "go"
    refine ⟨d, a1, c, ns, rfl, hpl, ok, ha1, hl4, hns, fun e pa H1 s0 s1 he hpa hev => ?_⟩
    walk_at "go"
    refine ⟨by simp [sizeLine_eq], fun l1 hl1 => ?_⟩
    have sa := Same.new (o := .lst [.non]) hl1
    walk_at "go"
    refine r_lenL ((s1.trans sa) _ _ ha1) ?_
    rw [vN_len]
    refine ⟨l1, _, [.non], rfl, rfl, upd_same, by omega, by omega, by rw [Int.toNat_natCast]; exact szL (by show 1 * ns.length ≤ 100000; omega), fun hl0 hhl0 => ?_⟩
    rw [Int.toNat_natCast, rep_none]
    have sb := Same.new (o := .lst ((List.replicate ns.length (none : Option Nat)).map oN)) hhl0
    walk_at "go"
    refine ⟨by simp [sizeLine_eq], fun Rf hRf => ?_⟩
    have sc := Same.new (o := .lst []) hRf
    have s12 := (sa.trans sb).trans sc
    have ehl : L2.upd (L2.upd (L2.upd H1 l1 (.lst [.non])) hl0 (.lst ((List.replicate ns.length (none : Option Nat)).map oN))) Rf (.lst []) hl0 = some (.lst ((List.replicate ns.length (none : Option Nat)).map oN)) := sc _ _ upd_same
    have eRf : L2.upd (L2.upd (L2.upd H1 l1 (.lst [.non])) hl0 (.lst ((List.replicate ns.length (none : Option Nat)).map oN))) Rf (.lst []) Rf = some (.lst []) := upd_same
    obtain ⟨dx1, ca1, un1, nw1, pv1, h11, h12, _⟩ := hev.ex
    have nRp : Rf ≠ pa := Ne.symm (ne_of_none ((sa.trans sb) _ _ h12) hRf)
    have nhp : hl0 ≠ pa := Ne.symm (ne_of_none (sa _ _ h12) hhl0)
    have nhR : hl0 ≠ Rf := ne_of_none (upd_same (H := L2.upd H1 l1 (.lst [.non])) (a := hl0)) hRf
    have gRf : H Rf = none := Same.none (s1.trans (sa.trans sb)) hRf
    generalize L2.upd (L2.upd (L2.upd H1 l1 (.lst [.non])) hl0 (.lst ((List.replicate ns.length (none : Option Nat)).map oN))) Rf (.lst []) = H2 at s12 ehl eRf ⊢
    have s02 := s1.trans s12
    refine ⟨_, _, _, rfl, ?_⟩
    refine r_seq (r_for (r_iList (r_var rfl ⟨a3, rfl, ⟨_, SqL.of (s02 _ _ ha3)⟩, ?_⟩)))
    refine for_1 walk_list yAt (fun i σ H' => Same H H' ∧ (∃ s, EvAt B H' e pa c ns (hearF c ns ans (os.take i)).heard (ns.length + i) s) ∧ ∃ hl, H' hl = some (.lst ((hearF c ns ans (os.take i)).heard.map oN)) ∧ hl ≠ pa ∧ hl ≠ Rf ∧ H' Rf = some (.lst (vN (hearF c ns ans (os.take i)).refused)) ∧
      ∃ v7 v8 v9 v10, σ = [some (.ref d), some (.ref a1), some (.ref a2), some (.ref a3), some (.ref e), some (.ref hl), some (.ref Rf), v7, v8, v9, v10]) ⟨s02, ⟨s0, hev.up s12⟩, hl0, by rw [List.take_zero]; exact ehl, nhp, nhR, by rw [List.take_zero]; exact eRf, _, _, _, _, rfl⟩ (fun i σ H' _ z => SqL.of (z.1 _ _ ha3)) ?_ ?_
    · rintro i x σ H3 hi ⟨s3, ⟨sv, hev3⟩, hl, ehl3, nhp3, nhR3, eRf3, v7, v8, v9, v10, rfl⟩ hx
      obtain ⟨p, hp, rfl⟩ := vN_of hx
      rw [vN_len] at hi
      have hpl' := holt p (List.mem_of_getElem? hp)
      have hIi := hI i
      have et : os.take (i + 1) = os.take i ++ [p] := by
        rw [List.take_add_one, hp]
        rfl
      have hnp : p ∉ os.take i := fun z => by
        obtain ⟨j, hj, ej⟩ := List.mem_take_iff_getElem.mp z
        obtain ⟨hil, eil⟩ := List.getElem?_eq_some_iff.mp hp
        exact absurd (ej.trans eil.symm) (List.pairwise_iff_getElem.mp hond j i (by omega) hil (by omega))
      have hRl : (hearF c ns ans (os.take i)).refused.length ≤ 100 := by
        have gen : ∀ o : List Nat, (hearF c ns ans o).refused.length ≤ o.length := by
          intro o
          induction o using snoc_ind with
          | h0 => exact Nat.le_refl _
          | h1 o y ih =>
            rw [hearF_snoc, List.length_append]
            unfold hear1
            split
            · exact Nat.le_succ_of_le ih
            · rw [List.length_append]
              exact Nat.succ_le_succ ih
        have := gen (os.take i)
        rw [List.length_take] at this
        omega
      generalize hH : hearF c ns ans (os.take i) = hd at hev3 ehl3 eRf3 hIi hRl
      have htold := hdI_told hIi hag
      obtain ⟨ht1, ht2⟩ := hear1_told (c := c) (ns := ns) htold (hag p hpl')
      have hnone : hd.heard[p]? = some none := (hIi.at_ p hpl').elim id fun z => absurd z.1 hnp
      have lo0 : LogOk c ns hd.heard := ⟨hIi.len.symm, by omega, hns, htold⟩
      have lo1 : LogOk c ns (hd.heard.set p (some (ans.getD p 0))) := ⟨by rw [List.length_set]; exact hIi.len.symm, by omega, hns, ht2⟩
      obtain ⟨dx3, ca3, un3, nw3, pv3, h31, h32, _⟩ := hev3.ex
      have hap : ans[p]? = some (ans.getD p 0) := by
        rw [List.getD_eq_getElem?_getD, List.getElem?_eq_getElem (by omega)]
        rfl
      walk_at "go"
      refine r_listL ehl3 fun l8 hl8 => ?_
      have sd := Same.new (o := .lst (hd.heard.map oN)) hl8
      have n8p : l8 ≠ pa := Ne.symm (ne_of_none h32 hl8)
      have n8R : l8 ≠ Rf := Ne.symm (ne_of_none eRf3 hl8)
      have n8h : l8 ≠ hl := Ne.symm (ne_of_none ehl3 hl8)
      have g8 : H l8 = none := Same.none s3 hl8
      walk_at "go"
      refine r_ixL ((s3.trans sd) _ _ ha2) (vN_get hap) ?_
      refine r_gSub ?_
      walk_at "go"
      refine ⟨l8, _, _, p, rfl, rfl, upd_same, ixNat (by rw [List.length_map, hIi.len]; exact hpl'), ?_⟩
      have e84 : L2.upd (L2.upd H3 l8 (.lst (hd.heard.map oN))) l8 (.lst ((hd.heard.map oN).set p (.int ((ans.getD p 0 : Nat) : Int)))) l8 = some (.lst ((hd.heard.set p (some (ans.getD p 0))).map oN)) := by
        rw [List.map_set]
        exact upd_same
      have s34 : Same H3 (L2.upd (L2.upd H3 l8 (.lst (hd.heard.map oN))) l8 (.lst ((hd.heard.map oN).set p (.int ((ans.getD p 0 : Nat) : Int))))) := Same.mut sd hl8
      generalize L2.upd (L2.upd H3 l8 (.lst (hd.heard.map oN))) l8 (.lst ((hd.heard.map oN).set p (.int ((ans.getD p 0 : Nat) : Int)))) = H4 at e84 s34 ⊢
      have s04 := s3.trans s34
      walk_at "go"
      refine ⟨d, a1, l8, c, ns, _, rfl, hpl.up s04, ok, s04 _ _ ha1, e84, by rw [List.length_set]; exact hIi.len.symm, hl4, hns, fun r9 H5 s5 hr9 => ?_⟩
      rw [standsE_eq ok lo1.len ht2] at hr9
      have s05 := s04.trans s5
      have e85 := s5 _ _ e84
      have eh5 := s5 _ _ (s34 _ _ ehl3)
      have eR5 := s5 _ _ (s34 _ _ eRf3)
      have ev5 := (hev3.up s34).up s5
      have h51 := s5 _ _ (s34 _ _ h31)
      have h52 := s5 _ _ (s34 _ _ h32)
      walk_at "go"
      refine r_ixL (s05 _ _ ha2) (vN_get hap) ?_
      walk_at "go"
      have step : ∀ (o : Option Nat) (H6 : Hp) (k : Nat) (s6 : Sv), k ≤ ns.length + (i + 1) → Same H H6 → EvAt B H6 e pa c ns (hear1 c ns ans hd p).heard k s6 → H6 l8 = some (.lst ((hd.heard.set p (some (ans.getD p 0))).map oN)) → H6 hl = some (.lst (hd.heard.map oN)) → H6 Rf = some (.lst (vN hd.refused)) → Rp H6 (.ref r9) (dS (standsOf c (ns.zip (hd.heard.set p (some (ans.getD p 0)))))) →
          ((o = some p ∧ ¬ unb c ns (hd.heard.set p (some (ans.getD p 0)))) ∨ (o = none ∧ unb c ns (hd.heard.set p (some (ans.getD p 0))))) →
          ∀ (NX : L2.St → Hp → Prop), (tHearTail (K := K)) { nx := (fun i σ H' => Same H H' ∧ (∃ s, EvAt B H' e pa c ns (hearF c ns ans (os.take i)).heard (ns.length + i) s) ∧ ∃ hl, H' hl = some (.lst ((hearF c ns ans (os.take i)).heard.map oN)) ∧ hl ≠ pa ∧ hl ≠ Rf ∧ H' Rf = some (.lst (vN (hearF c ns ans (os.take i)).refused)) ∧
            ∃ v7 v8 v9 v10, σ = [some (.ref d), some (.ref a1), some (.ref a2), some (.ref a3), some (.ref e), some (.ref hl), some (.ref Rf), v7, v8, v9, v10]) (i + 1), rt := Q, bk := NX, ct := (fun i σ H' => Same H H' ∧ (∃ s, EvAt B H' e pa c ns (hearF c ns ans (os.take i)).heard (ns.length + i) s) ∧ ∃ hl, H' hl = some (.lst ((hearF c ns ans (os.take i)).heard.map oN)) ∧ hl ≠ pa ∧ hl ≠ Rf ∧ H' Rf = some (.lst (vN (hearF c ns ans (os.take i)).refused)) ∧
            ∃ v7 v8 v9 v10, σ = [some (.ref d), some (.ref a1), some (.ref a2), some (.ref a3), some (.ref e), some (.ref hl), some (.ref Rf), v7, v8, v9, v10]) (i + 1) }
            [some (.ref d), some (.ref a1), some (.ref a2), some (.ref a3), some (.ref e), some (.ref hl), some (.ref Rf), some (.int (p : Int)), some (.ref l8), some (.ref r9), some (oN o)] H6 := by
        intro o H6 k s6 hk s06 ev6 e86 eh6 eR6 r96 ho NX
        have sG : Same H (del H6 Rf) := del_of s06 gRf
        refine hear_tail (pa := pa) (hd := hd) (ans := ans) (k := k) (s := s6) T (hpl.up s06) ok (s06 _ _ ha1) hl4 hns ev6 e86 eh6 eR6 hRl nRp ⟨ne_of_none (H := H) (by first | exact ha1) gRf |> Ne.symm, Ne.symm n8R, Ne.symm nhR3⟩ ⟨sG _ _ ha1, hpl.up sG⟩ r96 hIi.len ht1 ho fun H7 hl' s7 ev7 hor e7 eR7 => ?_
        refine ⟨sG.trans s7, ⟨s6, ?_⟩, hl', ?_, ?_, ?_, ?_, _, _, _, _, rfl⟩
        · rw [et, hearF_snoc, hH]
          exact ev7.le hk
        · rw [et, hearF_snoc, hH]
          exact e7
        · rcases hor with rfl | rfl
          · exact n8p
          · exact nhp3
        · rcases hor with rfl | rfl
          · exact n8R
          · exact nhR3
        · rw [et, hearF_snoc, hH]
          exact eR7
      refine ⟨e, pa, ns.length + i, p, ans.getD p 0, c, ns, hd.heard, sv, rfl, ev5, ok, by omega, hnone, hag p hpl', lo0, lo1, fun z H6 s6 => ?_, fun z H6 s6' s6 ev6 => ?_⟩
      · have hu : ¬ unb c ns (hd.heard.set p (some (ans.getD p 0))) := fun u => u z
        have e1 : (hear1 c ns ans hd p).heard = hd.heard := by
          unfold hear1
          rw [if_neg hu]
        exact step (some p) H6 (ns.length + i) sv (by omega) (s05.trans s6) (by rw [e1]; exact ev5.up s6) (s6 _ _ e85) (s6 _ _ eh5) (s6 _ _ eR5) (hr9.up s6) (.inl ⟨rfl, hu⟩) _
      · have hu : unb c ns (hd.heard.set p (some (ans.getD p 0))) := z
        have e1 : (hear1 c ns ans hd p).heard = hd.heard.set p (some (ans.getD p 0)) := by
          unfold hear1
          rw [if_pos hu]
        have ne_e : ∀ {b : Addr} {xs : List V}, H5 b = some (.lst xs) → b ≠ e := fun hb => ne_of hb h51 (by intro z; cases z)
        exact step none H6 (ns.length + i + 1) s6' (by omega) ((cut_of s05 he hpa).trans s6) (by rw [e1]; exact ev6) (s6 _ _ (by rw [cut_ne (ne_e e85) n8p]; exact e85)) (s6 _ _ (by rw [cut_ne (ne_e eh5) nhp3]; exact eh5)) (s6 _ _ (by rw [cut_ne (ne_e eR5) nRp]; exact eR5)) ((rp_cut h51 h52 _ _ (noL_dS _) hr9).up s6) (.inr ⟨rfl, hu⟩) _
    · rintro σ H3 ⟨s3, ⟨sv, hev3⟩, hl, ehl3, nhp3, nhR3, eRf3, v7, v8, v9, v10, rfl⟩
      rw [vN_len, List.take_of_length_le (Nat.le_refl _)] at hev3 eRf3
      generalize hH : hearF c ns ans os = hd at hev3 eRf3 q
      obtain ⟨dx3, ca3, un3, nw3, pv3, h31, h32, h33, h34, h35⟩ := hev3.ex
      have svv := h35.sv.up cut_le
      have evn : vN hd.refused = (hd.refused.map natI).map V.int := by
        unfold vN
        rw [List.map_map]
        rfl
      have hrl : hd.refused.length ≤ 4 := by
        have gen : ∀ o : List Nat, (hearF c ns ans o).refused.length ≤ o.length := by
          intro o
          induction o using snoc_ind with
          | h0 => exact Nat.le_refl _
          | h1 o y ih =>
            rw [hearF_snoc, List.length_append]
            unfold hear1
            split
            · exact Nat.le_succ_of_le ih
            · rw [List.length_append]
              exact Nat.succ_le_succ ih
        have := gen os
        rw [hH] at this
        omega
      walk_at "go"
      refine ⟨Rf, hd.refused.map natI, rfl, by rw [← evn]; exact SqL.of eRf3, by rw [List.length_map]; omega, fun ms pr hm1 hm2 hpr => ?_⟩
      obtain ⟨rf, rfl, hrf⟩ := map_natI hm1
      have e1 := upd_same (H := H3) (a := pr) (o := .lst ((rf.map natI).map V.int))
      have sx := Same.new (o := .lst ((rf.map natI).map V.int)) hpr
      have h41 := sx _ _ h31
      have sv4 := svv.up sx
      have s4 := s3.trans sx
      have r4 : Rp (L2.upd H3 pr (.lst ((rf.map natI).map V.int))) (.ref pr) (.list (dN rf)) := .lst e1 (by
        have : (rf.map natI).map V.int = vN rf := by
          unfold vN
          rw [List.map_map]
          rfl
        rw [this]
        exact RpA.nats _ rf)
      generalize L2.upd H3 pr (.lst ((rf.map natI).map V.int)) = H4 at h41 sv4 s4 r4 ⊢
      walk_at "go"
      refine ⟨by simp [sizeLine_eq], fun t1 ht1 => ?_⟩
      walk_at "go"
      refine ⟨by simp [sizeLine_eq], fun t2 ht2 => ?_⟩
      have sy := Same.new (o := .tup [sv.stands, sv.sure, sv.opn]) ht1
      have sz := Same.new (o := .tup [.ref pr, .ref t1]) ht2
      refine q _ _ rf (s4.trans (sy.trans sz)) hrf ?_
      exact .tup upd_same (.cons (r4.up (sy.trans sz)) (.cons (.tup (sz _ _ upd_same) (.cons (sv4.stands.up (sy.trans sz)) (.cons (sv4.sure.up (sy.trans sz)) (.cons (sv4.opn.up (sy.trans sz)) .nil)))) .nil))
end

end TW

set_option Elab.async false
set_option linter.all false
set_option maxRecDepth 100000
set_option maxHeartbeats 4000000
namespace TW
open PySem PySem.Spec PyProof.Rows L2
local macro_rules | `(tactic| walk_at "st0") => `(tactic| with_reducible (first | refine r_seq ?_ | refine r_next ?_ | refine r_ret ?_ | refine r_retN ?_ | refine r_drop ?_ | refine r_asg ?_ | refine r_if ?_ | refine r_gName ?_ | refine r_par ?_ | refine r_c ?_ | refine r_cons ?_ | refine r_nil ?_ | refine r_op ?_ | refine r_CB ?_ | refine r_andV ?_ | refine r_orV ?_ | refine r_notV ?_ | refine r_tIf ?_ | refine r_B ?_ | refine r_Test ?_ | refine r_and ?_ | refine r_or ?_ | refine r_not ?_ | refine r_yes ?_ | refine r_bl ?_ | refine r_T ?_ | refine r_F ?_ | refine r_nT ?_ | refine r_nF ?_ | refine r_I0 ?_ | refine r_eqI ?_ | refine r_neI ?_ | refine r_eqB ?_ | refine r_neB ?_ | refine r_isN0 ?_ | refine r_isN1 ?_ | refine r_isN2 ?_ | refine r_notN0 ?_ | refine r_notN1 ?_ | refine r_notN2 ?_ | refine r_isNo ?_ | refine r_notNo ?_ | refine r_fld ?_ | refine r_sfld ?_ | refine r_tup ?_ | refine r_lst ?_ | refine r_call ?_ | refine r_make ?_ | refine r_sl ?_ | refine r_part ?_ | refine r_noPart ?_ | refine r_iList ?_ | refine r_iTup ?_ | refine r_iRng1 ?_ | refine r_iEnum ?_ | refine r_int1 ?_ | refine r_intB ?_ | refine r_abs ?_ | refine r_bm ?_ | refine r_lc ?_ | refine r_for ?_))
local macro_rules | `(tactic| walk_at "st") => `(tactic| first | walk_at "st0" | ((with_reducible refine' r_var ?e ?_); (case e => exact rfl)) | ((with_reducible refine' r_fldG ?e1 ?e2 ?e3 ?e4 ?_); (case e1 => assumption); (case e2 => assumption); (case e3 => assumption); (case e4 => exact rfl)) | ((with_reducible refine' r_isC ?e ?_); (case e => assumption)) | dsimp only)
local macro_rules | `(tactic| walk_at "go") => `(tactic| repeat (walk_at "st"))
section
variable {P : Program} {w : World} {K : PySem.W.Frag} {mg : Str → Option Value} {base : Heap} {B : Adr}
theorem set_last {α : Type} (x y : α) : ∀ l : List α, (l ++ [x]).set l.length y = l ++ [y]
  | [] => rfl
  | a :: l => by
    rw [List.cons_append, List.length_cons, List.set_cons_succ, set_last x y l, List.cons_append]
theorem unh_some (l : List Nat) : unh (l.map some) = [] := by
  unfold unh
  refine List.filter_eq_nil_iff.mpr fun i hi => ?_
  rw [List.length_map] at hi
  have hl := List.mem_range.mp hi
  rw [List.getD_eq_getElem?_getD, List.getElem?_map, List.getElem?_eq_getElem hl]
  exact Bool.false_ne_true
theorem unh_last (l : List Nat) : unh (l.map some ++ [none]) = [l.length] := by
  unfold unh
  rw [List.length_append, List.length_map, show l.length + [none (α := Nat)].length = l.length + 1 from rfl, List.range_succ, List.filter_append]
  have e1 : (List.range l.length).filter (fun i => ((l.map some ++ [none]).getD i none).isNone) = [] := by
    refine List.filter_eq_nil_iff.mpr fun i hi => ?_
    have hl := List.mem_range.mp hi
    rw [List.getD_eq_getElem?_getD, List.getElem?_append_left (by rw [List.length_map]; exact hl), List.getElem?_map, List.getElem?_eq_getElem hl]
    exact Bool.false_ne_true
  have e2 : ((l.map some ++ [none]).getD l.length none).isNone = true := by
    rw [List.getD_eq_getElem?_getD, List.getElem?_append_right (by rw [List.length_map]; exact Nat.le_refl _), List.length_map, Nat.sub_self]
    rfl
  have e3 : [l.length].filter (fun i => ((l.map some ++ [none]).getD i none).isNone) = [l.length] := by
    rw [List.filter_cons, if_pos e2]
    rfl
  rw [e1, e3]
  rfl
theorem none_left {F : List (List Nat)} (h : opens F = []) : F = List.replicate F.length [] := by
  refine List.ext_getElem (by rw [List.length_replicate]) fun i h1 h2 => ?_
  rw [List.getElem_replicate]
  cases e : F[i] with
  | nil => rfl
  | cons a l =>
    exfalso
    refine opens_ne.mpr ⟨i, a, ?_⟩ h
    rw [List.getD_eq_getElem?_getD, List.getElem?_eq_getElem h1, Option.getD_some, e]
    exact List.mem_cons_self
theorem vN_take (l : List Nat) (i : Nat) : (vN l).take i = vN (l.take i) := by
  unfold vN
  rw [List.map_take]
theorem vN_some (l : List Nat) : vN l = (l.map some).map oN := by
  unfold vN
  rw [List.map_map]
  rfl
theorem rep_flat (n : Nat) (v : V) : (List.replicate n [v]).flatten = List.replicate n v := by
  induction n with
  | zero => rfl
  | succ n ih =>
    rw [List.replicate_succ, List.flatten_cons, ih, List.replicate_succ]
    rfl
theorem rpA_rep {H : Hp} {v : V} {d : PyData} (h : Rp H v d) : ∀ n : Nat, RpA H (List.replicate n v) (List.replicate n d)
  | 0 => .nil
  | n + 1 => .cons h (rpA_rep h n)
theorem eqv_o (o : Option Nat) (p : Nat) : PyData.eqv (dO o) (.int (p : Int)) = decide (o = some p) := by
  cases o with
  | none =>
    show PyData.eqv .none (.int (p : Int)) = _
    rw [PyData.eqv, decide_eq_false (by intro z; cases z)]
  | some n =>
    show PyData.eqv (.int (n : Int)) (.int (p : Int)) = _
    rw [eqv_nat]
    exact decide_eq_decide.mpr ⟨fun z => by rw [z], Option.some.inj⟩
theorem shp_o (o : Option Nat) : Shp (dO o) 0 := by
  cases o with
  | none => exact shp_none
  | some n => exact shp_int _
def spLawOneByOneRight (B : Adr) : Sp := fun vs H Q _ => ∃ (d a1 a2 : Nat) (c : Cs) (ns ans : List Nat), vs = [.ref d, .ref a1, .ref a2] ∧ PlAt H d c ∧ c.Ok ∧ H a1 = some (.lst (vN ns)) ∧ H a2 = some (.lst (vN ans)) ∧ ns.length ≤ 4 ∧ ans.length = ns.length ∧ (∀ n ∈ ns, n < c.qs.length) ∧ (∀ a ∈ ans, a < c.heaps) ∧ ∀ H', Same H H' → Q (.bl true) H'
theorem ok__law_one_by_one_right (T : Tx K mg B) : C8.Cal P w K mg base 9 "_law_one_by_one_right" (spLawOneByOneRight B) [] := by
  have c__law_case := ok__law_case (P := P) (w := w) (base := base) T
  have c_Evening := ok_Evening (P := P) (w := w) (base := base) T
  have c_Evening_ask := ok_Evening_ask (P := P) (w := w) (base := base) T
  have c__law_stands := ok__law_stands (P := P) (w := w) (base := base) T
  have c__law_open := ok__law_open (P := P) (w := w) (base := base) T
  have c_is_broken := ok_is_broken (P := P) (w := w) (base := base) T
  have c__law_is_refused := ok__law_is_refused (P := P) (w := w) (base := base) T
  have c_stands_left := ok_stands_left (P := P) (w := w) (base := base) T
  refine cal_of T.d_law_one_by_one_right scLawOneByOneRight (fun _ _ _ _ _ _ us hl => match us, hl with | [_, _, _], _ => rfl) (fun vs H Q E h => ?_) (fun f cdv AA outer s H vs Q E hr h => ?_)
  · first | (obtain ⟨_, rfl, _⟩ := h; rfl) | (obtain ⟨_, _, rfl, _⟩ := h; rfl) | (obtain ⟨_, _, _, rfl, _⟩ := h; rfl) | (obtain ⟨_, _, _, _, rfl, _⟩ := h; rfl) | (obtain ⟨_, _, _, _, _, rfl, _⟩ := h; rfl) | (obtain ⟨_, _, _, _, _, _, rfl, _⟩ := h; rfl) | (obtain ⟨_, _, _, _, _, _, _, rfl, _⟩ := h; rfl) | (obtain ⟨_, _, _, _, _, _, _, _, rfl, _⟩ := h; rfl) | (obtain ⟨_, _, _, _, _, _, _, _, _, rfl, _⟩ := h; rfl) | (obtain ⟨_, _, _, _, _, _, _, _, _, _, rfl, _⟩ := h; rfl) | (obtain ⟨_, _, _, _, _, _, _, _, _, _, _, rfl, _⟩ := h; rfl) | (obtain ⟨_, _, _, _, _, _, _, _, _, _, _, _, rfl, _⟩ := h; rfl) | (obtain ⟨_, _, _, _, _, _, _, _, _, _, _, _, _, rfl, _⟩ := h; rfl) | (obtain ⟨_, _, _, _, _, _, _, _, _, _, _, _, _, _, rfl, _⟩ := h; rfl) | (obtain ⟨_, _, _, _, _, _, _, _, _, _, _, _, _, _, _, rfl, _⟩ := h; rfl) | (obtain ⟨_, _, _, _, _, _, _, _, _, _, _, _, _, _, _, _, rfl, _⟩ := h; rfl) | (obtain ⟨_, _, _, _, _, _, _, _, _, _, _, _, _, _, _, _, _, rfl, _⟩ := h; rfl) | (obtain ⟨_, _, _, _, _, _, _, _, _, _, _, _, _, _, _, _, _, _, rfl, _⟩ := h; rfl) | (obtain ⟨_, _, _, _, _, _, _, _, _, _, _, _, _, _, _, _, _, _, _, rfl, _⟩ := h; rfl)
  · refine ⟨(tSeq (tPar 3 4 (tCons (tCall (spLawCase B) [] C8.E0 (tCons (tVar 0) tNil)) (tCons (tMake B.Evening (spIEvening B) [] C8.E0 (tCons (tCall (spLawCase B) [] C8.E0 (tCons (tVar 0) tNil)) tNil)) tNil)))
    (tSeq (tFor (iEnum K (tCons (tVar 1) tNil)) (gTup K 2 (gCons (gName 5) (gCons (gName 6) gNil))) (tSeq (tAsg (tMeth B.Evening "ask" (spEveningAsk B) [] C8.E0 (tVar 4) (tCons (tVar 6) tNil)) (gName 7))
    (tSeq (tAsg (tTup (tCons (tSl (rSlL K) (tVar 1) tNoPart (tPart (tOp qAdd (tVar 5) (tC (.int 1))))) (tCons (tSl (rSlL K) (tVar 2) tNoPart (tPart (tOp qAdd (tVar 5) (tC (.int 1))))) tNil))) (gName 8))
    (tSeq (tAsg (tOp (rEqD K) (tCall spLawOpen [] C8.E0 (tCons (tCall spLawStands [] C8.E0 (tCons (tVar 0) (tCons (tOp (rIxT K) (tVar 8) (tC (.int 0))) (tCons (tOp (rIxT K) (tVar 8) (tC (.int 1))) tNil)))) tNil)) (tTup tNil)) (gName 9))
    (tSeq (tIfS (tOr (tTest (tOp rNe (tCall (spIsBroken B) [] C8.E0 (tCons (tVar 3) (tCons (tOp (rIxT K) (tVar 8) (tC (.int 0))) (tCons (tOp (rIxT K) (tVar 8) (tC (.int 1))) tNil)))) (tVar 9))) (tTest (tOp rNe (tOp (rEqD K) (tCall (spLawIsRefused B) [] C8.E0 (tCons (tVar 4) (tCons (tVar 7) (tCons (tOp (rIxL K) (tVar 2) (tVar 5)) tNil)))) (tVar 5)) (tVar 9)))) (tRet (tC (.bl false))) tNext)
    (tSeq (tIfS (tB (tVar 9)) (tRet (tAndV (tOp (rEqD K) (tFld K (tVar 4) "unheard") (tTup (tCons (tVar 5) tNil))) (tOp (rEqD K) (tCall (spStandsLeft B) [] C8.E0 (tCons (tVar 3) (tCons (tOp (rIxT K) (tVar 8) (tC (.int 0))) (tCons (tOp (rIxT K) (tVar 8) (tC (.int 1))) tNil)))) (tCB (qTupS K) (tCons (tOp rRep (tLst (tCons (tTup tNil) tNil)) (tDGet (tVar 0) (tC (.str "things")))) tNil))))) tNext)
    (tIfS (tOr (tTest (tOp (rNeD K) (tFld K (tVar 4) "unheard") (tTup tNil))) (tTest (tOp (rNeD K) (tFld K (tVar 4) "stands") (tCall (spStandsLeft B) [] C8.E0 (tCons (tVar 3) (tCons (tOp (rIxT K) (tVar 8) (tC (.int 0))) (tCons (tOp (rIxT K) (tVar 8) (tC (.int 1))) tNil))))))) (tRet (tC (.bl false))) tNext)))))))
    (tRet (tC (.bl true))))),
    (pss_cons (ps_par (i := 3) (j := 4) rfl scLawOneByOneRight.nd rfl rfl (by decide) rfl rfl (pa_cons (C8.pe_c c__law_case hr (by decide) rfl (pa_cons (pv 0) pa_nil)) (pa_cons (C8.pe_mk c_Evening hr (by decide) rfl (pa_cons (C8.pe_c c__law_case hr (by decide) rfl (pa_cons (pv 0) pa_nil)) pa_nil)) pa_nil)) (by rfl))
    (pss_cons (ps_for PassesOwn.never rfl (pi_enum (by rfl) T.f_enumerate (pa_cons (pv 1) pa_nil)) (pg_tup (by rfl) (pgs_cons (pg_name (i := 5) scLawOneByOneRight.nd rfl (Or.inl rfl)) (pgs_cons (pg_name (i := 6) scLawOneByOneRight.nd rfl (Or.inl rfl)) pgs_nil))) (pss_cons (ps_set (i := 7) scLawOneByOneRight.nd rfl (Or.inl rfl) (C8.pe_mt c_Evening_ask hr (by decide) (pv 4) (pa_cons (pv 6) pa_nil)))
    (pss_cons (ps_set (i := 8) scLawOneByOneRight.nd rfl (Or.inl rfl) (pe_tup (pa_cons (pe_slice sl_list (pv 1) po_none (po_some (pe_op op_add (pv 5) pe_int))) (pa_cons (pe_slice sl_list (pv 2) po_none (po_some (pe_op op_add (pv 5) pe_int))) pa_nil))))
    (pss_cons (ps_set (i := 9) scLawOneByOneRight.nd rfl (Or.inl rfl) (pe_cmpR (op_eqD hr.units) (C8.pe_c c__law_open hr (by decide) rfl (pa_cons (C8.pe_c c__law_stands hr (by decide) rfl (pa_cons (pv 0) (pa_cons (pe_ix ix_tup (pv 8) pe_int (fun _ _ => rfl)) (pa_cons (pe_ix ix_tup (pv 8) pe_int (fun _ _ => rfl)) pa_nil)))) pa_nil)) (pe_tup pa_nil) (nomark _)))
    (pss_cons (ps_if (PW.pt (pw_or (pt_cmpR op_ne (C8.pe_c c_is_broken hr (by decide) rfl (pa_cons (pv 3) (pa_cons (pe_ix ix_tup (pv 8) pe_int (fun _ _ => rfl)) (pa_cons (pe_ix ix_tup (pv 8) pe_int (fun _ _ => rfl)) pa_nil)))) (pv 9) (nomark _)) (pw_or1 (pt_cmpR op_ne (pe_cmpR (op_eqD hr.units) (C8.pe_c c__law_is_refused hr (by decide) rfl (pa_cons (pv 4) (pa_cons (pv 7) (pa_cons (pe_ix ix_list (pv 2) (pv 5) (fun _ _ => rfl)) pa_nil)))) (pv 5) (nomark _)) (pv 9) (nomark _))))) (pss_one (ps_ret pe_bl)) pss_nil)
    (pss_cons (ps_if (pt_val (pv 9)) (pss_one (ps_ret (pe_and (pe_cmpR (op_eqD hr.units) (pe_fld (pv 4) rfl) (pe_tup (pa_cons (pv 5) pa_nil)) (nomark _)) (pe_one (pe_cmpR (op_eqD hr.units) (C8.pe_c c_stands_left hr (by decide) rfl (pa_cons (pv 3) (pa_cons (pe_ix ix_tup (pv 8) pe_int (fun _ _ => rfl)) (pa_cons (pe_ix ix_tup (pv 8) pe_int (fun _ _ => rfl)) pa_nil)))) (pe_callTy call_tuple_of (by rfl) T.f_tuple (by decide +kernel) (pa_cons (pe_op op_rep (pe_lst (pa_cons (pe_tup pa_nil) pa_nil)) (pe_dget (hu_of hr) (pv 0) pe_str (fun _ _ => rfl))) pa_nil)) (nomark _)))))) pss_nil)
    (pss_one (ps_if (PW.pt (pw_or (pt_cmpR (op_neD hr.units) (pe_fld (pv 4) rfl) (pe_tup pa_nil) (nomark _)) (pw_or1 (pt_cmpR (op_neD hr.units) (pe_fld (pv 4) rfl) (C8.pe_c c_stands_left hr (by decide) rfl (pa_cons (pv 3) (pa_cons (pe_ix ix_tup (pv 8) pe_int (fun _ _ => rfl)) (pa_cons (pe_ix ix_tup (pv 8) pe_int (fun _ _ => rfl)) pa_nil)))) (nomark _))))) (pss_one (ps_ret pe_bl)) pss_nil))))))))
    (pss_one (ps_ret pe_bl)))), ?_⟩
    have hCEvening := T.c_Evening
    have hAEvening_unheard := T.a_Evening_unheard
    have hAEvening_stands := T.a_Evening_stands
    obtain ⟨d, a1, a2, c, ns, ans, rfl, hpl, ok, ha1, ha2, hl4, hal, hns, hans, q⟩ := h
    have hth := ok.things
    refine r_seq (r_par ?_)
    walk_at "go"
    refine ⟨d, c, rfl, hpl, ok, fun ca H1 s1 _ hca => ?_⟩
    walk_at "go"
    refine ⟨d, c, rfl, hpl.up s1, ok, fun cb H2 s2 _ hcb => ?_⟩
    walk_at "go"
    intro e dx he hdx hne
    refine ⟨H2, e, dx, cb, c, rfl, Same.mut (Same.new hdx) he, he, upd_same, hcb, ok, fun pa H3 s0 s3 hpa hev => ⟨rfl, ?_⟩⟩
    have s02 := s1.trans s2
    have hca2 := hca.up s2
    clear hdx hne
    refine r_nil ⟨_, _, rfl, ?_⟩
    refine r_seq (r_for (r_iEnum (r_cons (r_var rfl (r_nil ⟨a1, _, rfl, SqL.of ((s02.trans s3) _ _ ha1), ?_⟩)))))
    refine for_2 walk_enum (fun i σ H' => Same H2 H' ∧ (∃ s, EvAt B H' e pa c (ns.take i) ((ans.take i).map some) (2 * i) s) ∧ unb c (ns.take i) ((ans.take i).map some) ∧ ∃ v5 v6 v7 v8 v9, σ = [some (.ref d), some (.ref a1), some (.ref a2), some (.ref ca), some (.ref e), v5, v6, v7, v8, v9])
      ⟨s3, ⟨s0, hev⟩, alive_nil ok, _, _, _, _, _, rfl⟩ (fun i σ H' _ z => SqL.of ((s02.trans z.1) _ _ ha1)) ?_ ?_
    · rintro i x y TT σ H4 hi ⟨s4, ⟨sv, hev4⟩, hu, v5, v6, v7, v8, v9, rfl⟩ hT hx hy
      cases hx
      obtain ⟨n, hn, rfl⟩ := vN_of hy
      rw [vN_len] at hi
      have hnq := hns n (List.mem_of_getElem? hn)
      have hai : ans[i]? = some (ans.getD i 0) := by
        rw [List.getD_eq_getElem?_getD, List.getElem?_eq_getElem (by omega)]
        rfl
      have hah : ans.getD i 0 < c.heaps := hans _ (List.mem_of_getElem? hai)
      have en : ns.take (i + 1) = ns.take i ++ [n] := by
        rw [List.take_add_one, hn]
        rfl
      have ea : ans.take (i + 1) = ans.take i ++ [ans.getD i 0] := by
        rw [List.take_add_one, hai]
        rfl
      have hnl : (ns.take i).length = i := by
        rw [List.length_take]
        omega
      have hatl : (ans.take i).length = i := by
        rw [List.length_take]
        omega
      have sT := Same.new (o := .tup [.int ((i : Nat) : Int), .int (n : Int)]) hT
      have hev5 := hev4.up sT
      have s5 := s4.trans sT
      generalize L2.upd H4 TT (.tup [.int ((i : Nat) : Int), .int (n : Int)]) = H5 at hev5 s5 ⊢
      obtain ⟨dx5, ca5, un5, nw5, pv5, h51, h52, _⟩ := hev5.ex
      have hnt : ∀ m ∈ ns.take i ++ [n], m < c.qs.length := fun m hm => by
        rw [← en] at hm
        exact hns m (List.mem_of_mem_take hm)
      have hsome : ∀ (k x : Nat), some x ∈ (ans.take k).map some → x < c.heaps := fun k x hx => by
        obtain ⟨z, hz, e⟩ := List.mem_map.mp hx
        rw [← Option.some.inj e]
        exact hans _ (List.mem_of_mem_take hz)
      have loA : LogOk c (ns.take i ++ [n]) ((ans.take i).map some ++ [none]) := ⟨by rw [List.length_append, List.length_append, hnl, List.length_map, hatl]; rfl, by rw [List.length_append, hnl]; show i + 1 ≤ 8; omega, hnt, fun h hh => by
        rcases List.mem_append.mp hh with z | z
        · exact hsome i h z
        · cases List.mem_singleton.mp z⟩
      have loB : LogOk c (ns.take (i + 1)) ((ans.take (i + 1)).map some) := ⟨by rw [List.length_map, List.length_take, List.length_take]; omega, by rw [List.length_take]; omega, fun m hm => hns m (List.mem_of_mem_take hm), hsome (i + 1)⟩
      have hop : opens (standsOf c ((ns.take i ++ [n]).zip ((ans.take i).map some ++ [none]))) ≠ [] := by
        rw [zip_snoc (by rw [hnl, List.length_map, hatl])]
        exact alive_snoc ok hnq hu
      have eset : ((ans.take i).map some ++ [none]).set i (some (ans.getD i 0)) = (ans.take (i + 1)).map some := by
        have h1 := set_last (none : Option Nat) (some (ans.getD i 0)) ((ans.take i).map some)
        rw [List.length_map, hatl] at h1
        rw [h1, ea, List.map_append]
        rfl
      walk_at "go"
      refine r_meth ?_
      walk_at "go"
      refine ⟨e, dx5, _, rfl, h51, rfl, ?_⟩
      walk_at "go"
      refine ⟨e, pa, 2 * i, n, c, ns.take i, (ans.take i).map some, sv, rfl, hev5, ok, hnq, by omega, by omega, loA, hop, fun H6 sv6 sc hev6 => ?_⟩
      have s6 : Same H2 H6 := (cut_of s5 he hpa).trans sc
      rw [hnl]
      walk_at "go"
      refine ⟨_, rfl, ?_⟩
      refine ⟨a1, _, rfl, SqL.of ((s02.trans s6) _ _ ha1), fun l1 hl1 => ?_⟩
      rw [show ((i : Int) + 1) = ((i + 1 : Nat) : Int) from rfl, cutV_to (by rw [vN_len]; omega), vN_take]
      have q1 := Same.new (o := .lst (vN (ns.take (i + 1)))) hl1
      have f1 : L2.upd H6 l1 (.lst (vN (ns.take (i + 1)))) l1 = some (.lst (vN (ns.take (i + 1)))) := upd_same
      generalize L2.upd H6 l1 (.lst (vN (ns.take (i + 1)))) = H7 at q1 f1 ⊢
      walk_at "go"
      refine ⟨_, rfl, ?_⟩
      refine ⟨a2, _, rfl, SqL.of (((s02.trans s6).trans q1) _ _ ha2), fun l2 hl2 => ?_⟩
      rw [show ((i : Int) + 1) = ((i + 1 : Nat) : Int) from rfl, cutV_to (by rw [vN_len]; omega), vN_take, vN_some (ans.take (i + 1))]
      have q2 := Same.new (o := .lst (((ans.take (i + 1)).map some).map oN)) hl2
      have f2 : L2.upd H7 l2 (.lst (((ans.take (i + 1)).map some).map oN)) l2 = some (.lst (((ans.take (i + 1)).map some).map oN)) := upd_same
      generalize L2.upd H7 l2 (.lst (((ans.take (i + 1)).map some).map oN)) = H8 at q2 f2 ⊢
      walk_at "go"
      refine ⟨by simp [sizeLine_eq], fun ct hct => ?_⟩
      have q3 := Same.new (o := .tup [.ref l1, .ref l2]) hct
      have f3 : L2.upd H8 ct (.tup [.ref l1, .ref l2]) ct = some (.tup [.ref l1, .ref l2]) := upd_same
      have m69 := (q1.trans q2).trans q3
      have f19 := (q2.trans q3) _ _ f1
      have f29 := q3 _ _ f2
      generalize L2.upd H8 ct (.tup [.ref l1, .ref l2]) = H9 at f3 m69 f19 f29 ⊢
      have ev9 := hev6.up m69
      have s9 := s6.trans m69
      walk_at "go"
      refine r_ixT (k := 0) f3 rfl ?_
      walk_at "go"
      refine r_ixT (k := 1) f3 rfl ?_
      walk_at "go"
      refine ⟨d, l1, l2, c, ns.take (i + 1), (ans.take (i + 1)).map some, rfl, (hpl.up s02).up s9, ok, f19, f29, loB.len, by rw [List.length_take]; omega, loB.num, fun r9 HA sA hr9 => ?_⟩
      rw [standsE_eq ok loB.len loB.told] at hr9
      have fok := standsOf_ok ok ((ns.take (i + 1)).zip ((ans.take (i + 1)).map some))
      walk_at "go"
      refine ⟨r9, _, rfl, hr9, by rw [fok.len]; omega, fun op HB sB eop => ?_⟩
      walk_at "go"
      refine ⟨by simp [sizeLine_eq], fun em hem => ?_⟩
      have q4 := Same.new (o := .tup []) hem
      refine r_eqD (d := dT (opens (standsOf c ((ns.take (i + 1)).zip ((ans.take (i + 1)).map some))))) (e := dT []) ((Rp.nats eop).up q4) (.tup upd_same .nil) ((shp_dN _).sh (by decide)) ((shp_dN []).sh (by decide)) ?_
      rw [eqv_dN]
      have mC := (sA.trans sB).trans q4
      generalize L2.upd HB em (.tup []) = HC at mC ⊢
      have evC := ev9.up mC
      have sC := s9.trans mC
      have f3C := mC _ _ f3
      have f1C := mC _ _ f19
      have f2C := mC _ _ f29
      generalize hb : decide (opens (standsOf c ((ns.take (i + 1)).zip ((ans.take (i + 1)).map some))) = []) = b
      walk_at "go"
      refine r_ixT (k := 0) f3C rfl ?_
      walk_at "go"
      refine r_ixT (k := 1) f3C rfl ?_
      walk_at "go"
      refine ⟨ca, l1, l2, c, ns.take (i + 1), (ans.take (i + 1)).map some, rfl, hca2.up sC, ok, f1C, f2C, loB, fun HD sD => ?_⟩
      rw [hb]
      walk_at "go"
      rw [decide_eq_true (p := b = b) rfl]
      have mD := mC.trans sD
      have evD := evC.up sD
      have s2D := sC.trans sD
      have f3D := sD _ _ f3C
      have f1D := sD _ _ f1C
      have f2D := sD _ _ f2C
      walk_at "go"
      refine r_ixL ((s02.trans s2D) _ _ ha2) (vN_get hai) ?_
      walk_at "go"
      obtain ⟨dxD, caD, unD, nwD, pvD, hD1, hD2, _⟩ := evD.ex
      refine ⟨e, pa, 2 * i + 1, i, ans.getD i 0, c, ns.take i ++ [n], (ans.take i).map some ++ [none], sv6, rfl, evD, ok, by omega, by rw [List.getElem?_append_right (by rw [List.length_map, hatl]; exact Nat.le_refl _), List.length_map, hatl, Nat.sub_self]; rfl, hah, loA, by rw [eset, ← en]; exact loB, fun z HE sE => ?_, fun z HE sv' sE hevE => ?_⟩
      · -- broken
        rw [eset, ← en] at z
        have hbt : b = true := by
          rw [← hb]
          exact decide_eq_true z
        walk_at "go"
        refine r_eqD (d := dO (some i)) (e := .int (i : Int)) (.int _) (.int _) ((shp_int _).sh (by decide)) ((shp_int _).sh (by decide)) ?_
        rw [eqv_o, decide_eq_true rfl, hbt]
        walk_at "go"
        refine r_bF (by decide) ?_
        walk_at "go"
        obtain ⟨dxE, caE, unE, nwE, pvE, hE1, hE2, hE3, hE4, hE5⟩ := (evD.up sE).ex
        have svE := hE5.sv.up cut_le
        have s2E := s2D.trans sE
        walk_at "go"
        refine ⟨by simp [sizeLine_eq], fun t1 ht1 => ?_⟩
        have w1 := Same.new (o := .tup [.int (i : Int)]) ht1
        have hun : unh ((ans.take i).map some ++ [none]) = [i] := by rw [unh_last, hatl]
        refine r_eqD (d := dT [i]) (e := dT [i]) ((hun ▸ svE.unheard).up w1) (.tup upd_same (.cons (.int _) .nil)) ((shp_dN _).sh (by decide)) ((shp_dN _).sh (by decide)) ?_
        rw [eqv_dN, decide_eq_true rfl]
        have s2F := s2E.trans w1
        have f3F := w1 _ _ (sE _ _ f3D)
        have f1F := w1 _ _ (sE _ _ f1D)
        have f2F := w1 _ _ (sE _ _ f2D)
        generalize L2.upd HE t1 (.tup [.int (i : Int)]) = HF at s2F f3F f1F f2F ⊢
        walk_at "go"
        refine r_ixT (k := 0) f3F rfl ?_
        walk_at "go"
        refine r_ixT (k := 1) f3F rfl ?_
        walk_at "go"
        refine ⟨ca, l1, l2, c, ns.take (i + 1), (ans.take (i + 1)).map some, rfl, hca2.up s2F, ok, f1F, f2F, loB, fun r HG sG hr => ?_⟩
        have s2G := s2F.trans sG
        walk_at "go"
        refine ⟨by simp [sizeLine_eq], fun t2 ht2 => ?_⟩
        have w2 := Same.new (o := .tup []) ht2
        walk_at "go"
        refine ⟨by simp [sizeLine_eq], fun l3 hl3 => ?_⟩
        have w3 := Same.new (o := .lst [.ref t2]) hl3
        have g3 : L2.upd (L2.upd HG t2 (.tup [])) l3 (.lst [.ref t2]) l3 = some (.lst [.ref t2]) := upd_same
        have g2 := w3 _ _ (upd_same (H := HG) (a := t2) (o := .tup []))
        have w23 := w2.trans w3
        generalize L2.upd (L2.upd HG t2 (.tup [])) l3 (.lst [.ref t2]) = HI at g3 g2 w23 ⊢
        obtain ⟨qv, rv, fv, mv, cv, edH, _⟩ := hpl.ex
        refine r_dget ?_
        walk_at "go"
        refine ⟨d, _, rfl, get_dK (((s02.trans s2G).trans w23) _ _ edH) rfl, ?_⟩
        refine ⟨l3, _, [.ref t2], rfl, rfl, g3, by omega, by omega, by rw [Int.toNat_natCast]; exact szL (by show 1 * c.things ≤ 100000; omega), fun l5 hl5 => ?_⟩
        rw [Int.toNat_natCast, rep_flat]
        walk_at "go"
        refine r_tupL upd_same fun t6 ht6 => ?_
        have w4 := (Same.new (o := .lst (List.replicate c.things (.ref t2))) hl5).trans (Same.new (o := .tup (List.replicate c.things (.ref t2))) ht6)
        refine r_eqD (d := dS (standsOf c ((ns.take (i + 1)).zip ((ans.take (i + 1)).map some)))) (e := dS (List.replicate c.things [])) ((hr.up w23).up w4) ?_ ((shp_dS _).sh (by decide)) ((shp_dS _).sh (by decide)) ?_
        · refine .tup upd_same ?_
          rw [List.map_replicate]
          exact rpA_rep ((Rp.nats (S := []) g2).up w4) _
        · have ez := none_left z
          rw [fok.len] at ez
          rw [eqv_dS, decide_eq_true ez]
          exact q _ (((s02.trans s2G).trans w23).trans w4)
      · -- not broken
        rw [eset, ← en] at z hevE
        have hbt : b = false := by
          rw [← hb]
          exact decide_eq_false z
        walk_at "go"
        refine r_eqD (d := dO none) (e := .int (i : Int)) .non (.int _) (shp_none.sh (by decide)) ((shp_int _).sh (by decide)) ?_
        rw [eqv_o, decide_eq_false (by intro z; cases z), hbt]
        walk_at "go"
        refine r_bF (by decide) ?_
        walk_at "go"
        obtain ⟨dxE, caE, unE, nwE, pvE, hE1, hE2, hE3, hE4, hE5⟩ := hevE.ex
        have svE := hE5.sv.up cut_le
        have s2E : Same H2 HE := (cut_of s2D he hpa).trans sE
        have tupc : ∀ {b : Addr} {xs : List V}, HD b = some (.tup xs) → HE b = some (.tup xs) := fun hb => sE _ _ (by rw [cut_ne (ne_of hb hD1 (by intro z; cases z)) (ne_of hb hD2 (by intro z; cases z))]; exact hb)
        have f3E := tupc f3D
        obtain ⟨dx6, ca6, un6, nw6, pv6, _, h6pa, _⟩ := hev6.ex
        have n1 : l1 ≠ pa := Ne.symm (ne_of_none h6pa hl1)
        have n2 : l2 ≠ pa := Ne.symm (ne_of_none (q1 _ _ h6pa) hl2)
        have f1E : HE l1 = some (.lst (vN (ns.take (i + 1)))) := sE _ _ (by rw [cut_ne (ne_of f1D hD1 (by intro z; cases z)) n1]; exact f1D)
        have f2E : HE l2 = some (.lst (((ans.take (i + 1)).map some).map oN)) := sE _ _ (by rw [cut_ne (ne_of f2D hD1 (by intro z; cases z)) n2]; exact f2D)
        walk_at "go"
        refine ⟨by simp [sizeLine_eq], fun t1 ht1 => ?_⟩
        have w1 := Same.new (o := .tup []) ht1
        refine r_neD (d := dT []) (e := dT []) (((unh_some (ans.take (i + 1))) ▸ svE.unheard).up w1) (.tup upd_same .nil) ((shp_dN _).sh (by decide)) ((shp_dN _).sh (by decide)) ?_
        rw [eqv_dN, decide_eq_true rfl]
        have s2F := s2E.trans w1
        have f3F := w1 _ _ f3E
        have f1F := w1 _ _ f1E
        have f2F := w1 _ _ f2E
        have stF := svE.stands.up w1
        have evF := hevE.up w1
        have hF1 := w1 _ _ hE1
        generalize L2.upd HE t1 (.tup []) = HF at s2F f3F f1F f2F stF evF hF1 ⊢
        walk_at "go"
        refine r_ixT (k := 0) f3F rfl ?_
        walk_at "go"
        refine r_ixT (k := 1) f3F rfl ?_
        walk_at "go"
        refine ⟨ca, l1, l2, c, ns.take (i + 1), (ans.take (i + 1)).map some, rfl, hca2.up s2F, ok, f1F, f2F, loB, fun r HG sG hr => ?_⟩
        refine r_neD (stF.up sG) hr ((shp_dS _).sh (by decide)) ((shp_dS _).sh (by decide)) ?_
        rw [eqv_self (shp_dS _)]
        walk_at "go"
        exact ⟨s2F.trans sG, ⟨sv', (evF.up sG).le (by omega)⟩, z, _, _, _, _, _, rfl⟩
    · rintro σ H4 ⟨s4, _, _, v5, v6, v7, v8, v9, rfl⟩
      walk_at "go"
      exact q _ (s02.trans s4)
end

end TW

set_option Elab.async false
set_option linter.all false
set_option maxRecDepth 100000
set_option maxHeartbeats 4000000
namespace TW
open PySem PySem.Spec PyProof.Rows L2
local macro_rules | `(tactic| walk_at "st0") => `(tactic| with_reducible (first | refine r_seq ?_ | refine r_next ?_ | refine r_ret ?_ | refine r_retN ?_ | refine r_drop ?_ | refine r_asg ?_ | refine r_if ?_ | refine r_gName ?_ | refine r_par ?_ | refine r_c ?_ | refine r_cons ?_ | refine r_nil ?_ | refine r_op ?_ | refine r_CB ?_ | refine r_andV ?_ | refine r_orV ?_ | refine r_notV ?_ | refine r_tIf ?_ | refine r_B ?_ | refine r_Test ?_ | refine r_and ?_ | refine r_or ?_ | refine r_not ?_ | refine r_yes ?_ | refine r_bl ?_ | refine r_T ?_ | refine r_F ?_ | refine r_nT ?_ | refine r_nF ?_ | refine r_I0 ?_ | refine r_eqI ?_ | refine r_neI ?_ | refine r_eqB ?_ | refine r_neB ?_ | refine r_isN0 ?_ | refine r_isN1 ?_ | refine r_isN2 ?_ | refine r_notN0 ?_ | refine r_notN1 ?_ | refine r_notN2 ?_ | refine r_isNo ?_ | refine r_notNo ?_ | refine r_fld ?_ | refine r_sfld ?_ | refine r_tup ?_ | refine r_lst ?_ | refine r_call ?_ | refine r_make ?_ | refine r_sl ?_ | refine r_part ?_ | refine r_noPart ?_ | refine r_iList ?_ | refine r_iTup ?_ | refine r_iRng1 ?_ | refine r_iEnum ?_ | refine r_int1 ?_ | refine r_intB ?_ | refine r_abs ?_ | refine r_bm ?_ | refine r_lc ?_ | refine r_for ?_))
local macro_rules | `(tactic| walk_at "st") => `(tactic| first | walk_at "st0" | ((with_reducible refine' r_var ?e ?_); (case e => exact rfl)) | ((with_reducible refine' r_fldG ?e1 ?e2 ?e3 ?e4 ?_); (case e1 => assumption); (case e2 => assumption); (case e3 => assumption); (case e4 => exact rfl)) | ((with_reducible refine' r_isC ?e ?_); (case e => assumption)) | dsimp only)
local macro_rules | `(tactic| walk_at "go") => `(tactic| repeat (walk_at "st"))
section
variable {P : Program} {w : World} {K : PySem.W.Frag} {mg : Str → Option Value} {base : Heap} {B : Adr}
def tMany (K : PySem.W.Frag) : TE := (tIf (tTest (tOp (rNeD K) (tDGet (tVar 2) (tC (.str "questions"))) (tLst tNil))) (tCall spLawOut [] C8.E0 (tCons (tVar 1) (tCons (tLst (tCons (tC (.int 3)) (tCons (tC (.int 4)) (tCons (tC (.int 2)) (tCons (tC (.int 4)) (tCons (tC (.int 1)) (tCons (tC (.int 0)) tNil))))))) tNil))) (tC (.int 0)))
theorem r_many {σ : L2.St} {H : Hp} {Q : VK} {p cl d n : Nat} {c : Cs} (e1 : σ[1]? = some (some (.ref p))) (e2 : σ[2]? = some (some (.ref d))) (hp : PotAt H p cl n) (hn : n ≤ 900) (hpl : PlAt (del H p) d c)
    (h : ∀ m H', Same (del H p) H' → PotAt H' p cl (n + 1) → m ≤ 4 → (0 < m → c.qs ≠ []) → Q (.int ((m : Nat) : Int)) H') : tMany K σ H Q := by
  obtain ⟨qv, rv, fv, mv, cv, ed, rq, _⟩ := (hpl.up del_le).ex
  refine r_tIf (r_Test (r_op (r_dget (r_var e2 (r_c ⟨d, _, rfl, get_dK ed rfl, r_lst (r_nil ⟨by simp [sizeLine_eq], fun a ha => ?_⟩)⟩)))))
  obtain ⟨n1, n2⟩ := hp.new ha
  have sa := Same.new (o := .lst []) ha
  refine r_neD (d := .list (c.qs.map qD)) (e := .list []) (rq.up sa) (.lst upd_same .nil) ((shp_lst (shp_map shp_q c.qs)).sh (by decide)) ((shp_lst (n := 0) (ds := []) (fun _ z => nomatch z)).sh (by decide)) ?_
  rw [eqv_nilL]
  refine r_bl ?_
  have p2 := hp.upd (o := .lst []) n1 n2
  by_cases hz : c.qs.map qD = []
  · rw [decide_eq_true hz]
    show tC (.int 0) σ _ Q
    refine r_c ?_
    exact h 0 _ (del_le.trans sa) (p2.le (by omega)) (by omega) (fun z => absurd z (by decide))
  · rw [decide_eq_false hz]
    refine r_call (r_cons (r_var e1 (r_cons (r_lst (r_cons (r_c (r_cons (r_c (r_cons (r_c (r_cons (r_c (r_cons (r_c (r_cons (r_c (r_nil ⟨by simp [sizeLine_eq], fun b hb => ?_⟩)))))))))))))))))
    obtain ⟨m1, m2⟩ := p2.new hb
    refine r_nil ⟨p, cl, n, b, [3, 4, 2, 4, 1, 0], rfl, p2.upd m1 m2, by omega, upd_same, m1, by decide, by decide, fun x H3 hx s3 p3 => ?_⟩
    obtain ⟨m, rfl, m4⟩ : ∃ m : Nat, x = (m : Int) ∧ m ≤ 4 := ⟨x.toNat, by simp at hx; omega, by simp at hx; omega⟩
    refine h m H3 ?_ p3 m4 (fun _ z => hz (by rw [z]; rfl))
    exact (del_up (sa.trans (Same.new hb))).trans s3
theorem res_inv {H : Hp} {v : V} {c : Cs} {ns rf : List Nat} {hd : Hd} (h : Rp H v (resD c ns hd rf)) : ∃ t x y, v = .ref t ∧ H t = some (.tup [x, y]) ∧ Rp H x (.list (dN rf)) ∧ Rp H y (.tuple [dS (standsOf c (ns.zip hd.heard)), sureD c (opens (standsOf c (ns.zip hd.heard))), dT (opens (standsOf c (ns.zip hd.heard)))]) := by
  obtain ⟨t, zs, rfl, e, r⟩ := Rp.tup_inv h
  obtain ⟨x, r1, rfl, rx, r2⟩ := r.cons_inv
  obtain ⟨y, r3, rfl, ry, r4⟩ := r2.cons_inv
  cases r4.nil_inv
  exact ⟨t, x, y, rfl, e, rx, ry⟩
theorem res_del {H : Hp} {v : V} {c : Cs} {ns rf : List Nat} {hd : Hd} {p cl n : Nat} (hp : PotAt H p cl n) (h : Rp H v (resD c ns hd rf)) : Rp (del H p) v (resD c ns hd rf) := by
  obtain ⟨cells, turn, rest, h1, _⟩ := hp.ex
  obtain ⟨t, x, y, rfl, e, rx, ry⟩ := res_inv h
  obtain ⟨l, zs, rfl, el, rz⟩ := rx.lst_inv
  have hl : l ≠ p := by
    intro z
    rw [z, h1] at el
    cases el
    cases rf with
    | nil => cases rz.nil_inv
    | cons a r =>
      obtain ⟨_, _, z1, z2, _⟩ := RpA.cons_inv (d := .int (a : Int)) (ds := dN r) rz
      cases z1
      cases z2.int_inv
  have ht : t ≠ p := ne_of e h1 (by intro z; cases z)
  have ez := rz.nats_inv
  subst ez
  refine .tup (by rw [del_ne ht]; exact e) (.cons (.lst (by rw [del_ne hl]; exact el) (RpA.nats _ _)) (.cons (rp_delN h1 _ _ ?_ ry) .nil))
  rw [noL, noLs, noLs, noLs, noL_dS, noL_sure, noL_dT]
  rfl
theorem shp_res (c : Cs) (ns rf : List Nat) (hd : Hd) : Shp (resD c ns hd rf) 4 := by
  unfold resD
  refine shp_tup fun d h => ?_
  rcases List.mem_cons.mp h with rfl | h
  · exact shp_up (shp_lst (shp_map (fun n : Nat => shp_int (n : Int)) rf)) (by decide)
  · rw [List.mem_singleton.mp h]
    refine shp_tup fun d h => ?_
    rcases List.mem_cons.mp h with rfl | h
    · exact shp_dS _
    · rcases List.mem_cons.mp h with rfl | h
      · exact shp_up (shp_sure _ _) (by decide)
      · rw [List.mem_singleton.mp h]
        exact shp_up (shp_dN _) (by decide)
theorem res_eq {c : Cs} (ok : c.Ok) {ns ans os rf : List Nat} (hns : ∀ n ∈ ns, n < c.qs.length) (hl : ans.length = ns.length) (ha : ∀ a ∈ ans, a < c.heaps) (ho : os.Perm (List.range ns.length)) (hr : rf.Perm (hearF c ns ans os).refused) (z : rf = []) :
    resD c ns (hearF c ns ans os) rf = resD c ns ⟨fullT ans, []⟩ [] := by
  have e : (hearF c ns ans os).refused = [] := by
    rw [z] at hr
    exact List.nil_perm.mp hr
  have hI := hdI (ans := ans) ok hns os (fun p hp => List.mem_range.mp (ho.mem_iff.mp hp))
  have eh := heard_full hI hl (fun i hi => ho.mem_iff.mpr (List.mem_range.mpr hi)) e
  unfold resD
  rw [eh, z]
theorem rf_iff {c : Cs} (ok : c.Ok) {ns ans os rf : List Nat} (hns : ∀ n ∈ ns, n < c.qs.length) (hl : ans.length = ns.length) (ha : ∀ a ∈ ans, a < c.heaps) (ho : os.Perm (List.range ns.length)) (hr : rf.Perm (hearF c ns ans os).refused) :
    rf = [] ↔ unb c ns (fullT ans) := by
  rw [← refused_iff ok hns hl ha ho]
  constructor
  · intro z
    rw [z] at hr
    exact List.nil_perm.mp hr
  · intro z
    rw [z] at hr
    exact List.perm_nil.mp hr
theorem dN_nil {l : List Nat} : dN l = [] ↔ l = [] := by
  unfold dN
  exact List.map_eq_nil_iff
theorem shp_rf (rf : List Nat) : SeqAt.shaped (.list (dN rf)) = true := (shp_lst (shp_map (fun n : Nat => shp_int (n : Int)) rf)).sh (by decide)
def spLaw (K : PySem.W.Frag) : Sp := fun vs H Q _ => ∃ (a : Nat) (xs : List Int), vs = [.ref a] ∧ SqL K H a (xs.map V.int) ∧ ∀ H', Same H H' → Q (.bl true) H'
theorem fnok_of {x : Str} {st : Stmt} {f : Addr} {fd : FuncData} {N ps : List Str} {k : Nat} {sp : Sp} (F : FunD K x x (defArgs st) (defBody st) (defScope st) [] [] f fd) (S : FnScope N ps (defScope st))
    (len : ∀ vs H Q E, sp vs H Q E → vs.length = ps.length)
    (hbody : ∀ (f : Addr) (cdv : Value) (A : Around) (outer : List Env) (s : Shared) (H : Hp) (vs : List V) (Q : VK) (E : XK), Room k (A.deeper (envOfC x (defScope st) s.heap.objs.size f cdv)) → sp vs H Q E →
      ∃ t, PSs (cxOf C8.CX0 P w K mg base N x (defScope st) f cdv A outer s H E).nox (defBody st) t ∧ t { nx := fun _ H' => Q .non H', rt := Q } (start N vs) H) : FnOk P w K mg base C8.CX0 (k + 1) f fd ps sp :=
  F.ok S len (fun cdv A outer s H vs Q E hr h => by
    obtain ⟨t, h1, h2⟩ := hbody f cdv A outer s H vs Q E hr h
    exact ⟨t, h1.nox, h2⟩)
theorem ok_law (T : Tx K mg B) {f : Addr} {fd : FuncData} (F : FunD K "law" "law" (defArgs sLaw) (defBody sLaw) (defScope sLaw) [] [] f fd) : FnOk P w K mg base C8.CX0 10 f fd ["_law_script"] (spLaw K) := by
  have c__law_pot := ok__law_pot (P := P) (w := w) (base := base) T
  have c__law_plain := ok__law_plain (P := P) (w := w) (base := base) T
  have c__law_out := ok__law_out (P := P) (w := w) (base := base) T
  have c__law_dip := ok__law_dip (P := P) (w := w) (base := base) T
  have c__law_hearing_right := ok__law_hearing_right (P := P) (w := w) (base := base) T
  have c__law_order := ok__law_order (P := P) (w := w) (base := base) T
  have c__law_one_by_one_right := ok__law_one_by_one_right (P := P) (w := w) (base := base) T
  refine fnok_of F scLaw (fun vs H Q E h => ?_) (fun f cdv AA outer s H vs Q E hr h => ?_)
  · first | (obtain ⟨_, rfl, _⟩ := h; rfl) | (obtain ⟨_, _, rfl, _⟩ := h; rfl) | (obtain ⟨_, _, _, rfl, _⟩ := h; rfl) | (obtain ⟨_, _, _, _, rfl, _⟩ := h; rfl) | (obtain ⟨_, _, _, _, _, rfl, _⟩ := h; rfl) | (obtain ⟨_, _, _, _, _, _, rfl, _⟩ := h; rfl) | (obtain ⟨_, _, _, _, _, _, _, rfl, _⟩ := h; rfl) | (obtain ⟨_, _, _, _, _, _, _, _, rfl, _⟩ := h; rfl) | (obtain ⟨_, _, _, _, _, _, _, _, _, rfl, _⟩ := h; rfl) | (obtain ⟨_, _, _, _, _, _, _, _, _, _, rfl, _⟩ := h; rfl) | (obtain ⟨_, _, _, _, _, _, _, _, _, _, _, rfl, _⟩ := h; rfl) | (obtain ⟨_, _, _, _, _, _, _, _, _, _, _, _, rfl, _⟩ := h; rfl) | (obtain ⟨_, _, _, _, _, _, _, _, _, _, _, _, _, rfl, _⟩ := h; rfl) | (obtain ⟨_, _, _, _, _, _, _, _, _, _, _, _, _, _, rfl, _⟩ := h; rfl) | (obtain ⟨_, _, _, _, _, _, _, _, _, _, _, _, _, _, _, rfl, _⟩ := h; rfl) | (obtain ⟨_, _, _, _, _, _, _, _, _, _, _, _, _, _, _, _, rfl, _⟩ := h; rfl) | (obtain ⟨_, _, _, _, _, _, _, _, _, _, _, _, _, _, _, _, _, rfl, _⟩ := h; rfl) | (obtain ⟨_, _, _, _, _, _, _, _, _, _, _, _, _, _, _, _, _, _, rfl, _⟩ := h; rfl) | (obtain ⟨_, _, _, _, _, _, _, _, _, _, _, _, _, _, _, _, _, _, _, rfl, _⟩ := h; rfl)
  · refine ⟨(tSeq (tAsg (tCall (spLawPot K) [] C8.E0 (tCons (tVar 0) tNil)) (gName 1))
    (tSeq (tAsg (tCall spLawPlain [] C8.E0 (tCons (tVar 1) tNil)) (gName 2))
    (tSeq (tAsg (tMany K) (gName 3))
    (tSeq (tAsg (tLc (iRng1 (tCons (tVar 3) tNil)) (gName 9) tYes (tCall spLawDip [] C8.E0 (tCons (tVar 1) (tCons (tCB (Evl.rLenS K) (tCons (tDGet (tVar 2) (tC (.str "questions"))) tNil)) tNil))) [9]) (gName 4))
    (tSeq (tAsg (tLc (iRng1 (tCons (tVar 3) tNil)) (gName 9) tYes (tCall spLawDip [] C8.E0 (tCons (tVar 1) (tCons (tDGet (tVar 2) (tC (.str "heaps"))) tNil))) [9]) (gName 5))
    (tSeq (tAsg (tCall (spLawHearingRight B) [] C8.E0 (tCons (tVar 2) (tCons (tVar 4) (tCons (tVar 5) (tCons (tLstRg (tRg1 (tVar 3))) tNil))))) (gName 6))
    (tSeq (tAsg (tCall (spLawHearingRight B) [] C8.E0 (tCons (tVar 2) (tCons (tVar 4) (tCons (tVar 5) (tCons (tCall spLawOrder [] C8.E0 (tCons (tVar 1) (tCons (tVar 3) tNil))) tNil))))) (gName 7))
    (tSeq (tAsg (tCall (spLawHearingRight B) [] C8.E0 (tCons (tVar 2) (tCons (tVar 4) (tCons (tVar 5) (tCons (tCall spLawOrder [] C8.E0 (tCons (tVar 1) (tCons (tVar 3) tNil))) tNil))))) (gName 8))
    (tSeq (tIfS (tOr (tTest (tOp rIsN (tVar 6) (tC .non))) (tOr (tTest (tOp rIsN (tVar 7) (tC .non))) (tTest (tOp rIsN (tVar 8) (tC .non))))) (tRet (tC (.bl false))) tNext)
    (tSeq (tIfS (tTest (tOp (rNeD K) (tLc (iTup K (tTup (tCons (tVar 6) (tCons (tVar 7) (tCons (tVar 8) tNil))))) (gName 10) (tTest (tOp rNe (tOp (rEqD K) (tOp (rIxT K) (tVar 10) (tC (.int 0))) (tLst tNil)) (tOp (rEqD K) (tOp (rIxT K) (tVar 6) (tC (.int 0))) (tLst tNil)))) (tVar 10) [10]) (tLst tNil))) (tRet (tC (.bl false))) tNext)
    (tSeq (tIfS (tAnd (tTest (tOp (rEqD K) (tOp (rIxT K) (tVar 6) (tC (.int 0))) (tLst tNil))) (tOr (tTest (tOp (rNeD K) (tVar 7) (tVar 6))) (tTest (tOp (rNeD K) (tVar 8) (tVar 6))))) (tRet (tC (.bl false))) tNext)
    (tRet (tCall (spLawOneByOneRight B) [] C8.E0 (tCons (tVar 2) (tCons (tVar 4) (tCons (tVar 5) tNil)))))))))))))))),
    (pss_cons (ps_set (i := 1) scLaw.nd rfl (Or.inr rfl) (C8.pe_c c__law_pot hr (by decide) rfl (pa_cons (pv 0) pa_nil)))
    (pss_cons (ps_set (i := 2) scLaw.nd rfl (Or.inr rfl) (C8.pe_c c__law_plain hr (by decide) rfl (pa_cons (pv 1) pa_nil)))
    (pss_cons (ps_set (i := 3) scLaw.nd rfl (Or.inl rfl) (pe_ifExp (pt_cmpR (op_neD hr.units) (pe_dget (hu_of hr) (pv 2) pe_str (fun _ _ => rfl)) (pe_lst pa_nil) (nomark _)) (C8.pe_c c__law_out hr (by decide) rfl (pa_cons (pv 1) (pa_cons (pe_lst (pa_cons pe_int (pa_cons pe_int (pa_cons pe_int (pa_cons pe_int (pa_cons pe_int (pa_cons pe_int pa_nil))))))) pa_nil))) pe_int))
    (pss_cons (ps_setLc (i := 4) (own := [("_law_turn", 9)]) (g := (gName 9)) (tt := tYes) (te := (tCall spLawDip [] C8.E0 (tCons (tVar 1) (tCons (tCB (Evl.rLenS K) (tCons (tDGet (tVar 2) (tC (.str "questions"))) tNil)) tNil)))) rfl scLaw.nd rfl rfl (sw_true rfl rfl rfl (by decide +kernel)) (pi_range1 (by rfl) T.f_range (pa_cons (pv 3) pa_nil)) (blkOk_by (own := [("_law_turn", 9)]) (N := nLaw) (sc := defScope sLaw) (by decide +kernel)) (fun _ _ _ _ _ => (pg_name (i := 9) scLaw.nd rfl (Or.inl rfl))) (fun _ _ _ _ _ => pts_nil) (fun _ _ _ _ _ => (C8.pe_c c__law_dip hr (by decide) rfl (pa_cons (pv 1) (pa_cons (pe_callB call_len_seq (by rfl) T.f_len (by decide +kernel) (pa_cons (pe_dget (hu_of hr) (pv 2) pe_str (fun _ _ => rfl)) pa_nil)) pa_nil)))))
    (pss_cons (ps_setLc (i := 5) (own := [("_law_turn", 9)]) (g := (gName 9)) (tt := tYes) (te := (tCall spLawDip [] C8.E0 (tCons (tVar 1) (tCons (tDGet (tVar 2) (tC (.str "heaps"))) tNil)))) rfl scLaw.nd rfl rfl (sw_true rfl rfl rfl (by decide +kernel)) (pi_range1 (by rfl) T.f_range (pa_cons (pv 3) pa_nil)) (blkOk_by (own := [("_law_turn", 9)]) (N := nLaw) (sc := defScope sLaw) (by decide +kernel)) (fun _ _ _ _ _ => (pg_name (i := 9) scLaw.nd rfl (Or.inl rfl))) (fun _ _ _ _ _ => pts_nil) (fun _ _ _ _ _ => (C8.pe_c c__law_dip hr (by decide) rfl (pa_cons (pv 1) (pa_cons (pe_dget (hu_of hr) (pv 2) pe_str (fun _ _ => rfl)) pa_nil)))))
    (pss_cons (ps_set (i := 6) scLaw.nd rfl (Or.inr rfl) (C8.pe_c c__law_hearing_right hr (by decide) rfl (pa_cons (pv 2) (pa_cons (pv 4) (pa_cons (pv 5) (pa_cons (pe_listRg (by rfl) (by rfl) T.f_list (prg_1 (by rfl) T.f_range (pv 3))) pa_nil))))))
    (pss_cons (ps_set (i := 7) scLaw.nd rfl (Or.inl rfl) (C8.pe_c c__law_hearing_right hr (by decide) rfl (pa_cons (pv 2) (pa_cons (pv 4) (pa_cons (pv 5) (pa_cons (C8.pe_c c__law_order hr (by decide) rfl (pa_cons (pv 1) (pa_cons (pv 3) pa_nil))) pa_nil))))))
    (pss_cons (ps_set (i := 8) scLaw.nd rfl (Or.inl rfl) (C8.pe_c c__law_hearing_right hr (by decide) rfl (pa_cons (pv 2) (pa_cons (pv 4) (pa_cons (pv 5) (pa_cons (C8.pe_c c__law_order hr (by decide) rfl (pa_cons (pv 1) (pa_cons (pv 3) pa_nil))) pa_nil))))))
    (pss_cons (ps_if (PW.pt (pw_or (pt_cmpR op_isN1 (pv 6) pe_non (nomark _)) (pw_or (pt_cmpR op_isN1 (pv 7) pe_non (nomark _)) (pw_or1 (pt_cmpR op_isN1 (pv 8) pe_non (nomark _)))))) (pss_one (ps_ret pe_bl)) pss_nil)
    (pss_cons (ps_if (pt_cmpR (op_neD hr.units) (pe_lc (own := [("_law_one", 10)]) (g := (gName 10)) (tt := (tTest (tOp rNe (tOp (rEqD K) (tOp (rIxT K) (tVar 10) (tC (.int 0))) (tLst tNil)) (tOp (rEqD K) (tOp (rIxT K) (tVar 6) (tC (.int 0))) (tLst tNil))))) (te := (tVar 10)) rfl scLaw.nd (pi_tup (pe_tup (pa_cons (pv 6) (pa_cons (pv 7) (pa_cons (pv 8) pa_nil))))) (blkOk_by (own := [("_law_one", 10)]) (N := nLaw) (sc := defScope sLaw) (by decide +kernel)) (fun _ _ _ _ _ => (pg_name (i := 10) scLaw.nd rfl (Or.inl rfl))) (fun _ _ _ _ _ => (pts_one (pt_cmpR op_ne (pe_cmpR (op_eqD hr.units) (pe_ix ix_tup (pv 10) pe_int (fun _ _ => rfl)) (pe_lst pa_nil) (nomark _)) (pe_cmpR (op_eqD hr.units) (pe_ix ix_tup (pv 6) pe_int (fun _ _ => rfl)) (pe_lst pa_nil) (nomark _)) (nomark _)))) (fun _ _ _ _ _ => (pv 10))) (pe_lst pa_nil) (nomark _)) (pss_one (ps_ret pe_bl)) pss_nil)
    (pss_cons (ps_if (PW.pt (pw_and (pt_cmpR (op_eqD hr.units) (pe_ix ix_tup (pv 6) pe_int (fun _ _ => rfl)) (pe_lst pa_nil) (nomark _)) (pw_and1 (PW.pt (pw_or (pt_cmpR (op_neD hr.units) (pv 7) (pv 6) (nomark _)) (pw_or1 (pt_cmpR (op_neD hr.units) (pv 8) (pv 6) (nomark _)))))))) (pss_one (ps_ret pe_bl)) pss_nil)
    (pss_one (ps_ret (C8.pe_c c__law_one_by_one_right hr (by decide) rfl (pa_cons (pv 2) (pa_cons (pv 4) (pa_cons (pv 5) pa_nil))))))))))))))))), ?_⟩
    obtain ⟨a, xs, rfl, hsq, q⟩ := h
    walk_at "go"
    refine ⟨a, xs, rfl, hsq, fun p cl H1 s1 hp0 p1 => ?_⟩
    walk_at "go"
    refine ⟨p, cl, rfl, p1, fun d c H2 s2 p2 ok hpl => ?_⟩
    have b2 : Same H (del H2 p) := (del_of s1 hp0).trans (del_of s2 del_same)
    walk_at "go"
    refine r_many rfl rfl p2 (by omega) hpl fun m H3 s3 p3 m4 hq => ?_
    have u3 : Same (del H2 p) (del H3 p) := del_of s3 del_same
    have b3 := b2.trans u3
    have hpl3 := hpl.up u3
    have hq3 := ok.qlen
    have hh := ok.heaps
    have en : ((m : Nat) : Int).toNat = m := Int.toNat_natCast _
    clear s1 s2 s3 hpl p1 p2 hp0 u3 b2
    walk_at "go"
    refine ⟨_, rfl, by omega, by omega, fun Dl hDl => lc_pot (walk_range (lo := 0)) yFn hDl p3 (fun _ y => ∃ v : Nat, y = V.int (v : Int) ∧ v < c.qs.length) (by omega) (fun _ _ => trivial) (fun _ => rfl) (fun j y H4 Q4 hj s4 p4 _ k => ?_) fun H4 ys s4 p4 e4 aa => ?_⟩
    · obtain ⟨qv, rv, fv, mv, cv, ed, rq, _⟩ := (hpl3.up s4).ex
      obtain ⟨qa, qz, rfl, eq, rqz⟩ := rq.lst_inv
      have hql : qz.length = c.qs.length := by rw [rqz.len, List.length_map]
      have hpos := List.length_pos_iff.mpr (hq (by omega))
      walk_at "go"
      refine r_dget ?_
      walk_at "go"
      refine ⟨d, _, rfl, get_dK ed rfl, ?_⟩
      walk_at "go"
      refine r_lenL eq ?_
      walk_at "go"
      rw [hql]
      exact ⟨p, cl, _, c.qs.length, rfl, p4, by omega, by omega, by omega, fun v H5 hv s5 p5 => k _ _ s5 p5 ⟨v, rfl, hv⟩⟩
    obtain ⟨ns, rfl, hnl, hnb⟩ := aa.nats
    rw [List.length_range, en] at hnl
    rw [en] at p4
    have nD := (p3.new hDl).1
    have e4' : del H4 p Dl = some (.lst (vN ns)) := by rw [del_ne nD]; exact e4
    have u4 : Same (del H3 p) (del H4 p) := del_of s4 del_same
    have b4 := b3.trans u4
    have hpl4 := hpl3.up u4
    clear s4 p3 b3 u4 e4 hpl3 hDl aa
    walk_at "go"
    refine ⟨_, rfl, by omega, by omega, fun De hDe => lc_pot (walk_range (lo := 0)) yFn hDe p4 (fun _ y => ∃ v : Nat, y = V.int (v : Int) ∧ v < c.heaps) (by omega) (fun _ _ => trivial) (fun _ => rfl) (fun j y H5 Q5 hj s5 p5 _ k => ?_) fun H5 ys s5 p5 e5 aa => ?_⟩
    · obtain ⟨qv, rv, fv, mv, cv, ed, _⟩ := (hpl4.up s5).ex
      walk_at "go"
      refine r_dget ?_
      walk_at "go"
      refine ⟨d, _, rfl, get_dK ed rfl, ?_⟩
      walk_at "go"
      exact ⟨p, cl, _, c.heaps, rfl, p5, by omega, by omega, by omega, fun v H6 hv s6 p6 => k _ _ s6 p6 ⟨v, rfl, hv⟩⟩
    obtain ⟨ans, rfl, hal, hab⟩ := aa.nats
    rw [List.length_range, en] at hal
    rw [en] at p5
    have nE := (p4.new hDe).1
    have e5' : del H5 p De = some (.lst (vN ans)) := by rw [del_ne nE]; exact e5
    have u5 : Same (del H4 p) (del H5 p) := del_of s5 del_same
    have b5 := b4.trans u5
    have hpl5 := hpl4.up u5
    have d5 := u5 _ _ e4'
    clear s5 p4 b4 u5 e5 hpl4 hDe aa e4'
    -- the first hearing
    walk_at "go"
    refine r_lstRg ?_
    walk_at "go"
    refine ⟨_, rfl, RgOk.of_le (by omega) (by omega) (by omega) (by omega), fun l hl => ?_⟩
    obtain ⟨n1, n2⟩ := p5.new hl
    have sl := Same.new (o := .lst (rgV 0 (m : Int))) hl
    rw [rgV_nat] at sl ⊢
    have p6 := p5.upd (o := .lst (vN (List.range m))) n1 n2
    have e6 : L2.upd H5 l (.lst (vN (List.range m))) l = some (.lst (vN (List.range m))) := upd_same
    have sl' := del_up (p := p) sl
    generalize L2.upd H5 l (.lst (vN (List.range m))) = H6 at sl sl' p6 e6 ⊢
    walk_at "go"
    have pm1 : (List.range m).Perm (List.range ns.length) := by rw [hnl]
    refine ⟨d, Dl, De, l, c, ns, ans, List.range m, rfl, (hpl5.up sl').up del_le, ok, del_le _ _ (sl' _ _ d5), del_le _ _ (sl' _ _ e5'), e6, by omega, by omega, hnb, hab, pm1, fun v1 H7 rf1 s7 q1 r1 => ?_⟩
    have u7 := sl'.trans (del_up (p := p) s7)
    have p7 := p6.up s7
    have b7 := b5.trans u7
    have hpl7 := hpl5.up u7
    have d7 := u7 _ _ d5
    have e7 := u7 _ _ e5'
    replace r1 := res_del p7 r1
    clear s7 sl sl' p6 e6 p5 b5 hpl5 d5 e5' u7 n1 n2 hl
    -- the second
    walk_at "go"
    refine ⟨p, cl, _, m, rfl, p7, by omega, by omega, fun l2 os2 H8 s8 p8 nl2 el2 pm2 => ?_⟩
    have u8 : Same (del H7 p) (del H8 p) := del_of s8 del_same
    walk_at "go"
    have pm2' : os2.Perm (List.range ns.length) := by rw [hnl]; exact pm2
    refine ⟨d, Dl, De, l2, c, ns, ans, os2, rfl, hpl7.up s8, ok, s8 _ _ d7, s8 _ _ e7, el2, by omega, by omega, hnb, hab, pm2', fun v2 H9 rf2 s9 q2 r2 => ?_⟩
    have u9 := u8.trans (del_up (p := p) s9)
    have p9 := p8.up s9
    have b9 := b7.trans u9
    have hpl9 := hpl7.up u9
    have d9 := u9 _ _ d7
    have e9 := u9 _ _ e7
    replace r1 := r1.up u9
    replace r2 := res_del p9 r2
    clear s9 s8 p8 p7 b7 hpl7 d7 e7 u8 u9 el2 nl2
    -- the third
    walk_at "go"
    refine ⟨p, cl, _, m, rfl, p9, by omega, by omega, fun l3 os3 HA sA pA nl3 el3 pm3 => ?_⟩
    walk_at "go"
    have pm3' : os3.Perm (List.range ns.length) := by rw [hnl]; exact pm3
    refine ⟨d, Dl, De, l3, c, ns, ans, os3, rfl, hpl9.up sA, ok, sA _ _ d9, sA _ _ e9, el3, by omega, by omega, hnb, hab, pm3', fun v3 HB rf3 sB q3 r3 => ?_⟩
    have uB := sA.trans sB
    have bB := b9.trans uB
    have hplB := hpl9.up uB
    have dB := uB _ _ d9
    have eB := uB _ _ e9
    replace r1 := r1.up uB
    replace r2 := r2.up uB
    clear sB sA pA p9 b9 hpl9 d9 e9 uB el3 nl3
    -- the comparisons
    have i1 := rf_iff ok hnb (by omega) hab pm1 q1
    have i2 := rf_iff ok hnb (by omega) hab pm2' q2
    have i3 := rf_iff ok hnb (by omega) hab pm3' q3
    have w1 := res_eq ok hnb (by omega) hab pm1 q1
    have w2 := res_eq ok hnb (by omega) hab pm2' q2
    have w3 := res_eq ok hnb (by omega) hab pm3' q3
    obtain ⟨t1, x1, y1, rfl, f1, g1, _⟩ := res_inv r1
    obtain ⟨t2, x2, y2, rfl, f2, g2, _⟩ := res_inv r2
    obtain ⟨t3, x3, y3, rfl, f3, g3, _⟩ := res_inv r3
    walk_at "go"
    refine ⟨by simp [sizeLine_eq], fun T hT => ?_⟩
    have sT := Same.new (o := .tup [V.ref t1, V.ref t2, V.ref t3]) hT
    have eT : L2.upd HB T (.tup [V.ref t1, V.ref t2, V.ref t3]) T = some (.tup [V.ref t1, V.ref t2, V.ref t3]) := upd_same
    generalize L2.upd HB T (.tup [V.ref t1, V.ref t2, V.ref t3]) = HC at sT eT ⊢
    walk_at "go"
    have fr : ∀ (j : Nat) (y : V), ([V.ref t1, V.ref t2, V.ref t3] : List V)[j]? = some y → ∃ (t : Addr) (x x' : V) (rf : List Nat), y = V.ref t ∧ HB t = some (.tup [x, x']) ∧ Rp HB x (.list (dN rf)) ∧ (rf = [] ↔ unb c ns (fullT ans)) := by
      intro j y hy
      match j, hy with
      | 0, hy => exact ⟨t1, x1, y1, rf1, (Option.some.inj hy).symm, f1, g1, i1⟩
      | 1, hy => exact ⟨t2, x2, y2, rf2, (Option.some.inj hy).symm, f2, g2, i2⟩
      | 2, hy => exact ⟨t3, x3, y3, rf3, (Option.some.inj hy).symm, f3, g3, i3⟩
      | (k + 3), hy => cases hy
    refine ⟨T, rfl, ⟨_, SqT.of eT⟩, fun Dm hDm => lc_1f walk_tup yAt hDm (fun _ _ _ => True) (fun _ _ _ _ _ h => h) (fun _ _ _ _ _ _ _ h => h) (fun _ => false) (by show 3 ≤ 100000; decide) (fun H s => SqT.of (s _ _ eT)) (fun x => rfl) (fun j y H8 Q8 hj s8 hy q8 => ?_) (fun j y H8 Q8 hj hb s8 hy q8 => by cases hb) fun H8 us s8 hl8 bb => ?_⟩
    · obtain ⟨t, x, x', rf, rfl, ft, gt, it⟩ := fr j y hy
      have sB8 := sT.trans s8
      walk_at "go"
      refine r_ixT (k := 0) (sB8 _ _ ft) rfl ?_
      walk_at "go"
      refine ⟨by simp [sizeLine_eq], fun z1 hz1 => ?_⟩
      have sz1 := Same.new (o := .lst []) hz1
      refine r_eqD (d := .list (dN rf)) (e := .list []) ((gt.up sB8).up sz1) (.lst upd_same .nil) (shp_rf _) (shp_rf []) ?_
      rw [eqv_nilL]
      generalize L2.upd H8 z1 (.lst []) = H9 at sz1 ⊢
      walk_at "go"
      refine r_ixT (k := 0) (sz1 _ _ (sB8 _ _ f1)) rfl ?_
      walk_at "go"
      refine ⟨by simp [sizeLine_eq], fun z2 hz2 => ?_⟩
      have sz2 := Same.new (o := .lst []) hz2
      refine r_eqD (d := .list (dN rf1)) (e := .list []) (((g1.up sB8).up sz1).up sz2) (.lst upd_same .nil) (shp_rf _) (shp_rf []) ?_
      rw [eqv_nilL]
      refine r_neB ?_
      have ez : decide (decide (dN rf = []) = decide (dN rf1 = [])) = true := decide_eq_true (decide_eq_decide.mpr (dN_nil.trans ((it.trans i1.symm).trans dN_nil.symm)))
      rw [ez]
      walk_at "go"
      exact q8 _ (sz1.trans sz2)
    have sC := sT.trans s8
    have eus : us = [] := by
      have e : (List.range [V.ref t1, V.ref t2, V.ref t3].length).filter (fun _ => false) = [] := List.filter_eq_nil_iff.mpr fun _ _ => Bool.false_ne_true
      rw [e] at bb
      cases bb
      rfl
    subst eus
    walk_at "go"
    refine ⟨by simp [sizeLine_eq], fun z3 hz3 => ?_⟩
    have sz3 := Same.new (o := .lst []) hz3
    refine r_neD (d := .list []) (e := .list []) (.lst (sz3 _ _ hl8) .nil) (.lst upd_same .nil) (shp_rf []) (shp_rf []) ?_
    rw [eqv_nilL, decide_eq_true rfl]
    replace sC := sC.trans sz3
    generalize L2.upd H8 z3 (.lst []) = HD at sC ⊢
    walk_at "go"
    refine r_ixT (k := 0) (sC _ _ f1) rfl ?_
    walk_at "go"
    refine ⟨by simp [sizeLine_eq], fun z4 hz4 => ?_⟩
    have sz4 := Same.new (o := .lst []) hz4
    refine r_eqD (d := .list (dN rf1)) (e := .list []) ((g1.up sC).up sz4) (.lst upd_same .nil) (shp_rf _) (shp_rf []) ?_
    rw [eqv_nilL]
    replace sC := sC.trans sz4
    generalize L2.upd HD z4 (.lst []) = HE at sC ⊢
    have fin : ∀ HF, Same HB HF → ∀ E, spLawOneByOneRight B [V.ref d, V.ref Dl, V.ref De] HF Q E := fun HF sF E =>
      ⟨d, Dl, De, c, ns, ans, rfl, hplB.up sF, ok, sF _ _ dB, sF _ _ eB, by omega, by omega, hnb, hab, fun HG sG => q _ (bB.trans (sF.trans sG))⟩
    by_cases hz : dN rf1 = []
    · have z1 := dN_nil.mp hz
      have z2 := i2.mpr (i1.mp z1)
      have z3 := i3.mpr (i1.mp z1)
      have v1 := w1 z1
      have v2 := w2 z2
      have v3 := w3 z3
      rw [v1] at r1
      rw [v2] at r2
      rw [v3] at r3
      rw [decide_eq_true hz]
      walk_at "go"
      refine r_neD (r2.up sC) (r1.up sC) ((shp_res _ _ _ _).sh (by decide)) ((shp_res _ _ _ _).sh (by decide)) ?_
      rw [eqv_self (shp_res _ _ _ _)]
      walk_at "go"
      refine r_neD (r3.up sC) (r1.up sC) ((shp_res _ _ _ _).sh (by decide)) ((shp_res _ _ _ _).sh (by decide)) ?_
      rw [eqv_self (shp_res _ _ _ _)]
      walk_at "go"
      exact fin _ sC E
    · rw [decide_eq_false hz]
      walk_at "go"
      exact fin _ sC E
end

end TW

set_option Elab.async false
set_option linter.all false
set_option maxRecDepth 100000
set_option maxHeartbeats 4000000
namespace TW
open PySem PySem.Spec PyProof.Rows L2
/-! ### the law behind the head -/
theorem lawFacts {P : Program} {w : World} {K : PySem.W.Frag} {h : Heap} {mg : Str → Option Value} {f : Addr} (X : K.In h) (G : h.Ns mainGlobals mg) (hfa : mg ("law" : Str) = some (.ref f)) (e : obsW K = valW) :
    ∃ fd : FuncData, (∀ (s : Shared) (v : Value), BindsTo s fd ⟨[v], []⟩ [("_law_script", v)]) ∧ ∀ base : Heap, K.In base → base.Ns mainGlobals mg → FnOk P w K mg base C8.CX0 10 f fd ["_law_script"] (spLaw K) := by
  have T := tx X G e
  obtain ⟨f2, fd, F, gm⟩ := T.d_law.ex
  cases hfa.symm.trans gm
  have b := FunD.bindsA (ps := ["_law_script"]) F fun _ _ _ _ _ _ us hl => match us, hl with | [_], _ => rfl
  exact ⟨fd, fun s v => b s [v] rfl, fun base _ _ => ok_law T F⟩
end TW

set_option Elab.async false
set_option linter.all false
set_option maxRecDepth 100000
set_option maxHeartbeats 4000000
open PySem PySem.W PySem.Calls PyProof.Rows
theorem PySem.Challenge.cw_truthwell_k82_whole_broken_at_the_first_holds : PySem.Challenge.rw_truthwell_k82_whole_broken_at_the_first.Holds := by
  w_on; o_law
  refine HandSHeadRun.head_any (r := OpenLaw.row PySem.Challenge.rw_truthwell_k82_whole_broken_at_the_first) (q := TW.qv) (H := TW.hkW) (ob := TW.ob) (M := 60000) (loose := TW.names) (d := HandSHeadRun.topDef (OpenLaw.row PySem.Challenge.rw_truthwell_k82_whole_broken_at_the_first).prog 115) (kwd := []) TW.ob_eq
    (by kernel_rfl) (fun s => by kernel_rfl) TW.runW (by kernel_rfl) (by kernel_rfl) (by kernel_rfl) (by rfl) (by first | assumption | decide +kernel) (by decide +kernel) ⟨rfl, rfl, rfl, rfl, rfl, by decide +kernel⟩ ?hw ?hc
  case hw => w_witness2
  case hc =>
    refine L2.walk_ofE (l := PySem.Challenge.rw_truthwell_k82_whole_broken_at_the_first) (n := 63) (k := 10) (x := "_law_script") (CX := C8.CX0) rfl (by decide) (by kernel_rfl) ⟨rfl, by decide, by decide⟩ ?F (fun _ _ _ _ z => z)
    intro w mg fa h Y G hmg0
    obtain ⟨K, KX, c⟩ := Y
    have hmg : mg ("law" : PySem.Str) = some (.ref fa) := by
      have e : (HandSHeadRun.topDef (OpenLaw.row PySem.Challenge.rw_truthwell_k82_whole_broken_at_the_first).prog 115).name = ("law" : PySem.Str) := by kernel_rfl
      rw [← e]
      exact hmg0
    obtain ⟨fd, hb, hF⟩ := TW.lawFacts (P := (PySem.Challenge.rw_truthwell_k82_whole_broken_at_the_first).prog) (w := w) KX G hmg c
    exact ⟨K, fd, TW.spLaw K, KX, hb, fun H a ns hl _ hS => ⟨a, ns, rfl, hS, fun _ _ => rfl⟩, hF⟩
