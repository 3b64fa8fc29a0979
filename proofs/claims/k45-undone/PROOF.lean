import PyProof.Rows.All
import Wide.All
import OpenK.AllK
import Wide.FinOn
import HandS.ForMost
import HandS.ForExc
import HandS.Codes
import HandS.ClsMeth
import HandS.TryElse
import HandS.StrMore
import HandS.CallSlots
import HandS.Rev
import HandS.Style
import KE.OsRunLaw
import PySem.Challenge.RW_pactroom_k45_undone_from_the_last
set_option Elab.async false
set_option linter.all false
set_option maxRecDepth 100000
namespace Pk
open PySem L2
/-! ### the text by places -/
def top (i : Nat) : Stmt := PySem.Challenge.pw_pactroom_k45_undone_from_the_last.main.body.getD i (.Pass ⟨0, 0, 0, 0⟩)
abbrev s_whole : Stmt := top 7
abbrev s_stHouse : Stmt := inClass (top 10) 0
abbrev s_stSure : Stmt := inClass (top 10) 4
abbrev s_ceInit : Stmt := inClass (top 11) 0
abbrev s_ceHouse : Stmt := inClass (top 11) 1
abbrev s_atCell : Stmt := inClass (top 11) 3
abbrev s_taSp : Stmt := inClass (top 12) 2
abbrev s_meSp : Stmt := inClass (top 13) 1
abbrev s_suInit : Stmt := inClass (top 14) 0
abbrev s_suHouse : Stmt := inClass (top 14) 1
abbrev s_suSp : Stmt := inClass (top 14) 4
abbrev s_giSure : Stmt := inClass (top 15) 1
abbrev s_giSp : Stmt := inClass (top 15) 2
abbrev s_adInit : Stmt := inClass (top 16) 0
abbrev s_adSp : Stmt := inClass (top 16) 3
abbrev s_plInit : Stmt := inClass (top 17) 0
abbrev s_plDone : Stmt := inClass (top 17) 1
abbrev s_neInit : Stmt := inClass (top 18) 0
abbrev s_neDone : Stmt := inClass (top 18) 1
abbrev s_atCellOr : Stmt := top 19
abbrev s_stepOr : Stmt := top 20
abbrev s_readStep : Stmt := top 21
abbrev s_paInit : Stmt := inClass (top 24) 0
abbrev s_readPact : Stmt := top 25
abbrev s_turning : Stmt := top 26
abbrev s_leInit : Stmt := inClass (top 30) 0
abbrev s_place : Stmt := inClass (top 30) 1
abbrev s_stepNext : Stmt := inClass (top 30) 2
abbrev s_handNow : Stmt := inClass (top 30) 3
abbrev s_plainSteps : Stmt := inClass (top 30) 4
abbrev s_sendStep : Stmt := inClass (top 30) 5
abbrev s_turn : Stmt := inClass (top 30) 8
abbrev s_waInit : Stmt := inClass (top 31) 0
abbrev s_go : Stmt := inClass (top 31) 1
abbrev s_goBack : Stmt := inClass (top 31) 2
abbrev s_close : Stmt := inClass (top 31) 3
abbrev s_came : Stmt := inClass (top 31) 4
abbrev s_up : Stmt := inClass (top 31) 5
abbrev s_end_ : Stmt := inClass (top 31) 6
abbrev s_shInit : Stmt := inClass (top 33) 0
abbrev s_row : Stmt := inClass (top 33) 1
abbrev s_send : Stmt := inClass (top 33) 2
abbrev s_rowsTold : Stmt := inClass (top 33) 3
abbrev s_lettersTold : Stmt := inClass (top 33) 4
abbrev s_sdInit : Stmt := inClass (top 35) 0
abbrev s_keep : Stmt := inClass (top 35) 1
abbrev s_news : Stmt := inClass (top 35) 8
abbrev s_lCell : Stmt := top 37
abbrev s_lAmount : Stmt := top 38
abbrev s_lStep : Stmt := top 39
abbrev s_lSteps : Stmt := top 40
abbrev s_lLast : Stmt := top 41
abbrev s_lPlain : Stmt := top 42
abbrev s_lWay : Stmt := top 43
abbrev s_lBack : Stmt := top 44
abbrev s_lDue : Stmt := top 45
abbrev s_lCame : Stmt := top 46
abbrev s_law : Stmt := top 47
theorem sc_whole : FnScope ["word", "most", "figures"] ["word", "most"] (C8.fnScope s_whole) := C8.fnScope_by (by decide +kernel)
theorem sc_stHouse : FnScope ["self"] ["self"] (C8.fnScope s_stHouse) := C8.fnScope_by (by decide +kernel)
theorem sc_stSure : FnScope ["self"] ["self"] (C8.fnScope s_stSure) := C8.fnScope_by (by decide +kernel)
theorem sc_ceInit : FnScope ["self", "where", "cell"] ["self", "where", "cell"] (C8.fnScope s_ceInit) := C8.fnScope_by (by decide +kernel)
theorem sc_ceHouse : FnScope ["self"] ["self"] (C8.fnScope s_ceHouse) := C8.fnScope_by (by decide +kernel)
theorem sc_atCell : FnScope ["self", "word"] ["self", "word"] (C8.fnScope s_atCell) := C8.fnScope_by (by decide +kernel)
theorem sc_taSp : FnScope ["self"] ["self"] (C8.fnScope s_taSp) := C8.fnScope_by (by decide +kernel)
theorem sc_meSp : FnScope ["self"] ["self"] (C8.fnScope s_meSp) := C8.fnScope_by (by decide +kernel)
theorem sc_suInit : FnScope ["self", "where", "low", "high"] ["self", "where", "low", "high"] (C8.fnScope s_suInit) := C8.fnScope_by (by decide +kernel)
theorem sc_suHouse : FnScope ["self"] ["self"] (C8.fnScope s_suHouse) := C8.fnScope_by (by decide +kernel)
theorem sc_suSp : FnScope ["self"] ["self"] (C8.fnScope s_suSp) := C8.fnScope_by (by decide +kernel)
theorem sc_giSure : FnScope ["self"] ["self"] (C8.fnScope s_giSure) := C8.fnScope_by (by decide +kernel)
theorem sc_giSp : FnScope ["self"] ["self"] (C8.fnScope s_giSp) := C8.fnScope_by (by decide +kernel)
theorem sc_adInit : FnScope ["self", "where", "cell", "amount"] ["self", "where", "cell", "amount"] (C8.fnScope s_adInit) := C8.fnScope_by (by decide +kernel)
theorem sc_adSp : FnScope ["self"] ["self"] (C8.fnScope s_adSp) := C8.fnScope_by (by decide +kernel)
theorem sc_plInit : FnScope ["self", "amount"] ["self", "amount"] (C8.fnScope s_plInit) := C8.fnScope_by (by decide +kernel)
theorem sc_plDone : FnScope ["self", "hand", "value_of"] ["self", "hand", "value_of"] (C8.fnScope s_plDone) := C8.fnScope_by (by decide +kernel)
theorem sc_neInit : FnScope ["self", "amount"] ["self", "amount"] (C8.fnScope s_neInit) := C8.fnScope_by (by decide +kernel)
theorem sc_neDone : FnScope ["self", "hand", "value_of"] ["self", "hand", "value_of"] (C8.fnScope s_neDone) := C8.fnScope_by (by decide +kernel)
theorem sc_atCellOr : FnScope ["word", "where", "cell"] ["word", "where", "cell"] (C8.fnScope s_atCellOr) := C8.fnScope_by (by decide +kernel)
theorem sc_stepOr : FnScope ["word", "numbers", "many"] ["word", "numbers"] (C8.fnScope s_stepOr) := C8.fnScope_by (by decide +kernel)
theorem sc_readStep : FnScope ["text", "words", "numbers", "word", "number", "step"] ["text"] (C8.fnScope s_readStep) := C8.fnScope_by (by decide +kernel)
theorem sc_paInit : FnScope ["self", "manner", "steps"] ["self", "manner", "steps"] (C8.fnScope s_paInit) := C8.fnScope_by (by decide +kernel)
theorem sc_readPact : FnScope ["text", "manner", "blank", "rest", "parts", "steps", "k", "step"] ["text"] (C8.fnScope s_readPact) := C8.fnScope_by (by decide +kernel)
theorem sc_turning : FnScope ["pact", "k"] ["pact"] (C8.fnScope s_turning) := C8.fnScope_by (by decide +kernel)
theorem sc_leInit : FnScope ["self", "name", "pact"] ["self", "name", "pact"] (C8.fnScope s_leInit) := C8.fnScope_by (by decide +kernel)
theorem sc_place : FnScope ["self"] ["self"] (C8.fnScope s_place) := C8.fnScope_by (by decide +kernel)
theorem sc_stepNext : FnScope ["self"] ["self"] (C8.fnScope s_stepNext) := C8.fnScope_by (by decide +kernel)
theorem sc_handNow : FnScope ["self"] ["self"] (C8.fnScope s_handNow) := C8.fnScope_by (by decide +kernel)
theorem sc_plainSteps : FnScope ["self", "step", "hand"] ["self"] (C8.fnScope s_plainSteps) := C8.fnScope_by (by decide +kernel)
theorem sc_sendStep : FnScope ["self", "sheet", "word", "step"] ["self", "sheet", "word"] (C8.fnScope s_sendStep) := C8.fnScope_by (by decide +kernel)
theorem sc_turn : FnScope ["self", "sheet"] ["self", "sheet"] (C8.fnScope s_turn) := C8.fnScope_by (by decide +kernel)
theorem sc_waInit : FnScope ["self", "name", "pact"] ["self", "name", "pact"] (C8.fnScope s_waInit) := C8.fnScope_by (by decide +kernel)
theorem sc_go : FnScope ["self", "sheet"] ["self", "sheet"] (C8.fnScope s_go) := C8.fnScope_by (by decide +kernel)
theorem sc_goBack : FnScope ["self", "sheet", "step"] ["self", "sheet"] (C8.fnScope s_goBack) := C8.fnScope_by (by decide +kernel)
theorem sc_close : FnScope ["self", "sheet"] ["self", "sheet"] (C8.fnScope s_close) := C8.fnScope_by (by decide +kernel)
theorem sc_came : FnScope ["self", "sheet", "word", "sender", "more", "step"] ["self", "sheet", "word", "sender", "more"] (C8.fnScope s_came) := C8.fnScope_by (by decide +kernel)
theorem sc_up : FnScope ["self", "outcome", "hands"] ["self", "outcome", "hands"] (C8.fnScope s_up) := C8.fnScope_by (by decide +kernel)
theorem sc_end_ : FnScope ["self", "sheet", "outcome"] ["self", "sheet", "outcome"] (C8.fnScope s_end_) := C8.fnScope_by (by decide +kernel)
theorem sc_shInit : FnScope ["self", "stand"] ["self", "stand"] (C8.fnScope s_shInit) := C8.fnScope_by (by decide +kernel)
theorem sc_row : FnScope ["self", "row"] ["self", "row"] (C8.fnScope s_row) := C8.fnScope_by (by decide +kernel)
theorem sc_send : FnScope ["self", "to", "word", "name", "more"] ["self", "to", "word", "name", "more"] (C8.fnScope s_send) := C8.fnScope_by (by decide +kernel)
theorem sc_rowsTold : FnScope ["self"] ["self"] (C8.fnScope s_rowsTold) := C8.fnScope_by (by decide +kernel)
theorem sc_lettersTold : FnScope ["self", "news", "wish"] ["self"] (C8.fnScope s_lettersTold) := C8.fnScope_by (by decide +kernel)
theorem sc_sdInit : FnScope ["self", "cells"] ["self", "cells"] (C8.fnScope s_sdInit) := C8.fnScope_by (by decide +kernel)
theorem sc_keep : FnScope ["self", "row", "word", "name"] ["self", "row"] (C8.fnScope s_keep) := C8.fnScope_by (by decide +kernel)
theorem sc_news : FnScope ["self", "name"] ["self"] (C8.fnScope s_news) := C8.fnScope_by (by decide +kernel)
theorem sc_lCell : FnScope ["_law_script", "_law_k"] ["_law_script", "_law_k"] (C8.fnScope s_lCell) := C8.fnScope_by (by decide +kernel)
theorem sc_lAmount : FnScope ["_law_number"] ["_law_number"] (C8.fnScope s_lAmount) := C8.fnScope_by (by decide +kernel)
theorem sc_lStep : FnScope ["_law_number", "_law_given", "_law_none", "_law_house", "_law_cell", "_law_amount_here", "_law_way_here", "_law_head", "_law_text"] ["_law_number", "_law_given", "_law_none"] (C8.fnScope s_lStep) := C8.fnScope_by (by decide +kernel)
theorem sc_lSteps : FnScope ["_law_script", "_law_steps_here", "_law_given", "_law_none", "_law_k", "_law_step_here"] ["_law_script"] (C8.fnScope s_lSteps) := C8.fnScope_by (by decide +kernel)
theorem sc_lLast : FnScope ["_law_hands"] ["_law_hands"] (C8.fnScope s_lLast) := C8.fnScope_by (by decide +kernel)
theorem sc_lPlain : FnScope ["_law_steps_here", "_law_hands", "_law_word", "_law_house", "_law_text", "_law_amount_here"] ["_law_steps_here", "_law_hands"] (C8.fnScope s_lPlain) := C8.fnScope_by (by decide +kernel)
theorem sc_lWay : FnScope ["_law_lead", "_law_sheet", "_law_steps_here", "_law_many", "_law_script", "_law_hands", "_law_fate", "_law_k", "_law_hand", "_law_at", "_law_fates"] ["_law_lead", "_law_sheet", "_law_steps_here", "_law_many", "_law_script"] (C8.fnScope s_lWay) := C8.fnScope_by (by decide +kernel)
theorem sc_lBack : FnScope ["_law_steps_here", "_law_found", "_law_k", "_law_step_here"] ["_law_steps_here"] (C8.fnScope s_lBack) := C8.fnScope_by (by decide +kernel)
theorem sc_lDue : FnScope ["_law_name", "_law_steps_here", "_law_back_here", "_law_step_here"] ["_law_name", "_law_steps_here", "_law_back_here"] (C8.fnScope s_lDue) := C8.fnScope_by (by decide +kernel)
theorem sc_lCame : FnScope ["_law_lead", "_law_sheet", "_law_steps_here", "_law_back_here", "_law_number", "_law_other"] ["_law_lead", "_law_sheet", "_law_steps_here", "_law_back_here", "_law_number"] (C8.fnScope s_lCame) := C8.fnScope_by (by decide +kernel)
theorem sc_law : FnScope ["_law_script", "_law_name", "_law_steps_here", "_law_lead", "_law_sheet", "_law_back_here", "_law_many", "_law_way_here", "_law_sent", "_law_fate", "_law_moved", "_law_number", "_law_due_here", "_law_rows", "_law_step_here"] ["_law_script"] (C8.fnScope s_law) := C8.fnScope_by (by decide +kernel)
/-! ### the addresses of what the top has made -/
structure Adr where
  (cStep cCell cTake cMean cSum cGive cAdd cPlus cNeed cPact cLead cWalk cSheet cStand cNoNeed : Addr)
  (f_whole f_stHouse f_stSure f_ceInit f_ceHouse f_atCell f_taSp f_meSp f_suInit f_suHouse f_suSp f_giSure f_giSp f_adInit f_adSp f_plInit f_plDone f_neInit f_neDone f_atCellOr f_stepOr f_readStep f_paInit f_readPact f_turning f_leInit f_place f_stepNext f_handNow f_plainSteps f_sendStep f_turn f_waInit f_go f_goBack f_close f_came f_up f_end_ f_shInit f_row f_send f_rowsTold f_lettersTold f_sdInit f_keep f_news f_lCell f_lAmount f_lStep f_lSteps f_lLast f_lPlain f_lWay f_lBack f_lDue f_lCame f_law f_noCell : Addr)
structure Fn1 (K : PySem.W.Frag) (x qual : Str) (st : Stmt) (ps : List Str) (f : Addr) : Prop where
  ex : ∃ fd : FuncData, C8.Fun K x qual st f fd ∧ Binds K fd ps []
  kp : PySem.W.keepIn K (.ref f) = true
/-- what the top has written -/
structure Txt (K : PySem.W.Frag) (mg : Str → Option Value) (a : Adr) : Prop where
  cTake : Cls K a.cTake
  kTake : Mk K a.cTake a.f_ceInit
  gTake : mg "TakeStep" = some (.ref a.cTake)
  nTake_where : NoAttr K a.cTake "where"
  nTake_cell : NoAttr K a.cTake "cell"
  cMean : Cls K a.cMean
  kMean : Mk K a.cMean a.f_ceInit
  gMean : mg "MeanStep" = some (.ref a.cMean)
  nMean_where : NoAttr K a.cMean "where"
  nMean_cell : NoAttr K a.cMean "cell"
  cSum : Cls K a.cSum
  kSum : Mk K a.cSum a.f_suInit
  gSum : mg "SumStep" = some (.ref a.cSum)
  nSum_where : NoAttr K a.cSum "where"
  nSum_low : NoAttr K a.cSum "low"
  nSum_high : NoAttr K a.cSum "high"
  cGive : Cls K a.cGive
  kGive : Mk K a.cGive a.f_ceInit
  gGive : mg "GiveStep" = some (.ref a.cGive)
  nGive_where : NoAttr K a.cGive "where"
  nGive_cell : NoAttr K a.cGive "cell"
  cAdd : Cls K a.cAdd
  kAdd : Mk K a.cAdd a.f_adInit
  gAdd : mg "AddStep" = some (.ref a.cAdd)
  nAdd_where : NoAttr K a.cAdd "where"
  nAdd_cell : NoAttr K a.cAdd "cell"
  nAdd_amount : NoAttr K a.cAdd "amount"
  cPlus : Cls K a.cPlus
  kPlus : Mk K a.cPlus a.f_plInit
  gPlus : mg "PlusStep" = some (.ref a.cPlus)
  nPlus_amount : NoAttr K a.cPlus "amount"
  cNeed : Cls K a.cNeed
  kNeed : Mk K a.cNeed a.f_neInit
  gNeed : mg "NeedStep" = some (.ref a.cNeed)
  nNeed_amount : NoAttr K a.cNeed "amount"
  cPact : Cls K a.cPact
  kPact : Mk K a.cPact a.f_paInit
  gPact : mg "Pact" = some (.ref a.cPact)
  nPact_manner : NoAttr K a.cPact "manner"
  nPact_steps : NoAttr K a.cPact "steps"
  cWalk : Cls K a.cWalk
  kWalk : Mk K a.cWalk a.f_waInit
  gWalk : mg "WalkedLead" = some (.ref a.cWalk)
  nWalk_name : NoAttr K a.cWalk "name"
  nWalk_pact : NoAttr K a.cWalk "pact"
  nWalk_hands : NoAttr K a.cWalk "hands"
  nWalk_fate : NoAttr K a.cWalk "fate"
  nWalk_waited : NoAttr K a.cWalk "waited"
  nWalk_back_at : NoAttr K a.cWalk "back_at"
  nWalk_closed : NoAttr K a.cWalk "closed"
  cSheet : Cls K a.cSheet
  kSheet : Mk K a.cSheet a.f_shInit
  gSheet : mg "Sheet" = some (.ref a.cSheet)
  nSheet_ground : NoAttr K a.cSheet "ground"
  nSheet_lines : NoAttr K a.cSheet "lines"
  nSheet_wishes : NoAttr K a.cSheet "wishes"
  cStand : Cls K a.cStand
  kStand : Mk K a.cStand a.f_sdInit
  gStand : mg "Stand" = some (.ref a.cStand)
  nStand_numbers : NoAttr K a.cStand "numbers"
  nStand_texts : NoAttr K a.cStand "texts"
  nStand_worked : NoAttr K a.cStand "worked"
  nStand_readies : NoAttr K a.cStand "readies"
  nStand_ends : NoAttr K a.cStand "ends"
  nStand_marks : NoAttr K a.cStand "marks"
  nStand_overs : NoAttr K a.cStand "overs"
  mTake_house : Meth K a.cTake "house" a.f_ceHouse
  mMean_house : Meth K a.cMean "house" a.f_ceHouse
  mGive_house : Meth K a.cGive "house" a.f_ceHouse
  mAdd_house : Meth K a.cAdd "house" a.f_ceHouse
  mSum_house : Meth K a.cSum "house" a.f_suHouse
  mPlus_house : Meth K a.cPlus "house" a.f_stHouse
  mNeed_house : Meth K a.cNeed "house" a.f_stHouse
  mTake_sure : Meth K a.cTake "sure" a.f_stSure
  mMean_sure : Meth K a.cMean "sure" a.f_stSure
  mAdd_sure : Meth K a.cAdd "sure" a.f_stSure
  mSum_sure : Meth K a.cSum "sure" a.f_stSure
  mPlus_sure : Meth K a.cPlus "sure" a.f_stSure
  mNeed_sure : Meth K a.cNeed "sure" a.f_stSure
  mGive_sure : Meth K a.cGive "sure" a.f_giSure
  mTake_at_cell : Meth K a.cTake "at_cell" a.f_atCell
  mMean_at_cell : Meth K a.cMean "at_cell" a.f_atCell
  mGive_at_cell : Meth K a.cGive "at_cell" a.f_atCell
  mAdd_at_cell : Meth K a.cAdd "at_cell" a.f_atCell
  mTake_spelled : Meth K a.cTake "spelled" a.f_taSp
  mMean_spelled : Meth K a.cMean "spelled" a.f_meSp
  mSum_spelled : Meth K a.cSum "spelled" a.f_suSp
  mGive_spelled : Meth K a.cGive "spelled" a.f_giSp
  mAdd_spelled : Meth K a.cAdd "spelled" a.f_adSp
  mPlus_step_done : Meth K a.cPlus "step_done" a.f_plDone
  mNeed_step_done : Meth K a.cNeed "step_done" a.f_neDone
  mWalk_place : Meth K a.cWalk "place" a.f_place
  mWalk_step_next : Meth K a.cWalk "step_next" a.f_stepNext
  mWalk_hand_now : Meth K a.cWalk "hand_now" a.f_handNow
  mWalk_plain_steps : Meth K a.cWalk "plain_steps" a.f_plainSteps
  mWalk_send_step : Meth K a.cWalk "send_step" a.f_sendStep
  mWalk_turn : Meth K a.cWalk "turn" a.f_turn
  mWalk_go : Meth K a.cWalk "go" a.f_go
  mWalk_go_back : Meth K a.cWalk "go_back" a.f_goBack
  mWalk_close : Meth K a.cWalk "close" a.f_close
  mWalk_came : Meth K a.cWalk "came" a.f_came
  mWalk_up : Meth K a.cWalk "up" a.f_up
  mWalk_end : Meth K a.cWalk "end" a.f_end_
  mSheet_row : Meth K a.cSheet "row" a.f_row
  mSheet_send : Meth K a.cSheet "send" a.f_send
  mSheet_rows_told : Meth K a.cSheet "rows_told" a.f_rowsTold
  mSheet_letters_told : Meth K a.cSheet "letters_told" a.f_lettersTold
  mStand_keep : Meth K a.cStand "keep" a.f_keep
  mStand_news : Meth K a.cStand "news" a.f_news
  F_whole : Fn1 K "whole_or_none" "whole_or_none" s_whole ["word", "most"] a.f_whole
  F_stHouse : Fn1 K "house" "Step.house" s_stHouse ["self"] a.f_stHouse
  F_stSure : Fn1 K "sure" "Step.sure" s_stSure ["self"] a.f_stSure
  F_ceInit : Fn1 K "__init__" "CellStep.__init__" s_ceInit ["self", "where", "cell"] a.f_ceInit
  F_ceHouse : Fn1 K "house" "CellStep.house" s_ceHouse ["self"] a.f_ceHouse
  F_atCell : Fn1 K "at_cell" "CellStep.at_cell" s_atCell ["self", "word"] a.f_atCell
  F_taSp : Fn1 K "spelled" "TakeStep.spelled" s_taSp ["self"] a.f_taSp
  F_meSp : Fn1 K "spelled" "MeanStep.spelled" s_meSp ["self"] a.f_meSp
  F_suInit : Fn1 K "__init__" "SumStep.__init__" s_suInit ["self", "where", "low", "high"] a.f_suInit
  F_suHouse : Fn1 K "house" "SumStep.house" s_suHouse ["self"] a.f_suHouse
  F_suSp : Fn1 K "spelled" "SumStep.spelled" s_suSp ["self"] a.f_suSp
  F_giSure : Fn1 K "sure" "GiveStep.sure" s_giSure ["self"] a.f_giSure
  F_giSp : Fn1 K "spelled" "GiveStep.spelled" s_giSp ["self"] a.f_giSp
  F_adInit : Fn1 K "__init__" "AddStep.__init__" s_adInit ["self", "where", "cell", "amount"] a.f_adInit
  F_adSp : Fn1 K "spelled" "AddStep.spelled" s_adSp ["self"] a.f_adSp
  F_plInit : Fn1 K "__init__" "PlusStep.__init__" s_plInit ["self", "amount"] a.f_plInit
  F_plDone : Fn1 K "step_done" "PlusStep.step_done" s_plDone ["self", "hand", "value_of"] a.f_plDone
  F_neInit : Fn1 K "__init__" "NeedStep.__init__" s_neInit ["self", "amount"] a.f_neInit
  F_neDone : Fn1 K "step_done" "NeedStep.step_done" s_neDone ["self", "hand", "value_of"] a.f_neDone
  F_atCellOr : Fn1 K "at_cell_or_none" "at_cell_or_none" s_atCellOr ["word", "where", "cell"] a.f_atCellOr
  F_stepOr : Fn1 K "step_or_none" "step_or_none" s_stepOr ["word", "numbers"] a.f_stepOr
  F_readStep : Fn1 K "read_step" "read_step" s_readStep ["text"] a.f_readStep
  F_paInit : Fn1 K "__init__" "Pact.__init__" s_paInit ["self", "manner", "steps"] a.f_paInit
  F_readPact : Fn1 K "read_pact" "read_pact" s_readPact ["text"] a.f_readPact
  F_turning : Fn1 K "turning" "turning" s_turning ["pact"] a.f_turning
  F_leInit : Fn1 K "__init__" "Lead.__init__" s_leInit ["self", "name", "pact"] a.f_leInit
  F_place : Fn1 K "place" "Lead.place" s_place ["self"] a.f_place
  F_stepNext : Fn1 K "step_next" "Lead.step_next" s_stepNext ["self"] a.f_stepNext
  F_handNow : Fn1 K "hand_now" "Lead.hand_now" s_handNow ["self"] a.f_handNow
  F_plainSteps : Fn1 K "plain_steps" "Lead.plain_steps" s_plainSteps ["self"] a.f_plainSteps
  F_sendStep : Fn1 K "send_step" "Lead.send_step" s_sendStep ["self", "sheet", "word"] a.f_sendStep
  F_turn : Fn1 K "turn" "Lead.turn" s_turn ["self", "sheet"] a.f_turn
  F_waInit : Fn1 K "__init__" "WalkedLead.__init__" s_waInit ["self", "name", "pact"] a.f_waInit
  F_go : Fn1 K "go" "WalkedLead.go" s_go ["self", "sheet"] a.f_go
  F_goBack : Fn1 K "go_back" "WalkedLead.go_back" s_goBack ["self", "sheet"] a.f_goBack
  F_close : Fn1 K "close" "WalkedLead.close" s_close ["self", "sheet"] a.f_close
  F_came : Fn1 K "came" "WalkedLead.came" s_came ["self", "sheet", "word", "sender", "more"] a.f_came
  F_up : Fn1 K "up" "WalkedLead.up" s_up ["self", "outcome", "hands"] a.f_up
  F_end_ : Fn1 K "end" "WalkedLead.end" s_end_ ["self", "sheet", "outcome"] a.f_end_
  F_shInit : Fn1 K "__init__" "Sheet.__init__" s_shInit ["self", "stand"] a.f_shInit
  F_row : Fn1 K "row" "Sheet.row" s_row ["self", "row"] a.f_row
  F_send : Fn1 K "send" "Sheet.send" s_send ["self", "to", "word", "name", "more"] a.f_send
  F_rowsTold : Fn1 K "rows_told" "Sheet.rows_told" s_rowsTold ["self"] a.f_rowsTold
  F_lettersTold : Fn1 K "letters_told" "Sheet.letters_told" s_lettersTold ["self"] a.f_lettersTold
  F_sdInit : Fn1 K "__init__" "Stand.__init__" s_sdInit ["self", "cells"] a.f_sdInit
  F_keep : Fn1 K "keep" "Stand.keep" s_keep ["self", "row"] a.f_keep
  F_news : Fn1 K "news" "Stand.news" s_news ["self"] a.f_news
  F_lCell : Fn1 K "_law_cell_at" "_law_cell_at" s_lCell ["_law_script", "_law_k"] a.f_lCell
  F_lAmount : Fn1 K "_law_amount" "_law_amount" s_lAmount ["_law_number"] a.f_lAmount
  F_lStep : Fn1 K "_law_step" "_law_step" s_lStep ["_law_number", "_law_given", "_law_none"] a.f_lStep
  F_lSteps : Fn1 K "_law_steps" "_law_steps" s_lSteps ["_law_script"] a.f_lSteps
  F_lLast : Fn1 K "_law_last" "_law_last" s_lLast ["_law_hands"] a.f_lLast
  F_lPlain : Fn1 K "_law_plain" "_law_plain" s_lPlain ["_law_steps_here", "_law_hands"] a.f_lPlain
  F_lWay : Fn1 K "_law_way" "_law_way" s_lWay ["_law_lead", "_law_sheet", "_law_steps_here", "_law_many", "_law_script"] a.f_lWay
  F_lBack : Fn1 K "_law_back" "_law_back" s_lBack ["_law_steps_here"] a.f_lBack
  F_lDue : Fn1 K "_law_due" "_law_due" s_lDue ["_law_name", "_law_steps_here", "_law_back_here"] a.f_lDue
  F_lCame : Fn1 K "_law_came" "_law_came" s_lCame ["_law_lead", "_law_sheet", "_law_steps_here", "_law_back_here", "_law_number"] a.f_lCame
  F_law : Fn1 K "law" "law" s_law ["_law_script"] a.f_law
  g_whole : mg "whole_or_none" = some (.ref a.f_whole)
  g_atCellOr : mg "at_cell_or_none" = some (.ref a.f_atCellOr)
  g_stepOr : mg "step_or_none" = some (.ref a.f_stepOr)
  g_readStep : mg "read_step" = some (.ref a.f_readStep)
  g_readPact : mg "read_pact" = some (.ref a.f_readPact)
  g_turning : mg "turning" = some (.ref a.f_turning)
  g_lCell : mg "_law_cell_at" = some (.ref a.f_lCell)
  g_lAmount : mg "_law_amount" = some (.ref a.f_lAmount)
  g_lStep : mg "_law_step" = some (.ref a.f_lStep)
  g_lSteps : mg "_law_steps" = some (.ref a.f_lSteps)
  g_lLast : mg "_law_last" = some (.ref a.f_lLast)
  g_lPlain : mg "_law_plain" = some (.ref a.f_lPlain)
  g_lWay : mg "_law_way" = some (.ref a.f_lWay)
  g_lBack : mg "_law_back" = some (.ref a.f_lBack)
  g_lDue : mg "_law_due" = some (.ref a.f_lDue)
  g_lCame : mg "_law_came" = some (.ref a.f_lCame)
  g_law : mg "law" = some (.ref a.f_law)
  g_noCell : mg "no_cell" = some (.ref a.f_noCell)
  z_len : mg "len" = none
  z_str : mg "str" = none
  z_int : mg "int" = none
  z_list : mg "list" = none
  z_range : mg "range" = none
  z_tuple : mg "tuple" = none
  z_sorted : mg "sorted" = none
  z_enumerate : mg "enumerate" = none
  z_reversed : mg "reversed" = none
  v_FIGURES : ∃ u, mg "FIGURES" = some u ∧ RelV (.str "0123456789") u
  v_MOST_FIGURES_TOLD : ∃ u, mg "MOST_FIGURES_TOLD" = some u ∧ RelV (.int 40) u
  v_MOST_STEPS : ∃ u, mg "MOST_STEPS" = some u ∧ RelV (.int 12) u
  v_PATIENCE : ∃ u, mg "PATIENCE" = some u ∧ RelV (.int 4) u
  gLead : mg "Lead" = some (.ref a.cLead)
  rLead : ∃ mc, ClX.CRead K a.cLead mc ∧ ClX.CVal K a.cLead mc "__init__" (.ref a.f_leInit) (.ref a.f_leInit)
  gCell : mg "CellStep" = some (.ref a.cCell)
  rCell : ∃ mc, ClX.CRead K a.cCell mc ∧ ClX.CVal K a.cCell mc "__init__" (.ref a.f_ceInit) (.ref a.f_ceInit)
  gNoNeed : mg "NoNeed" = some (.ref a.cNoNeed)
  xNoNeed : PySem.W.excIn K a.cNoNeed [.type "ValueError", .type "Exception", .type "BaseException", .type "object"] "ValueError.__new__" = true
  kNoNeed : PySem.W.keepIn K (.ref a.cNoNeed) = true
  bNoNeed : PySem.W.subIn K (.ref a.cNoNeed) (.type "BaseException") = some true
  tNoNeed : PySem.W.typeIn K (.ref a.cNoNeed) = some (.type "type")
  eNoNeed : PySem.W.exmOne K (.ref a.cNoNeed) (.ref a.cNoNeed) = some true
end Pk

set_option Elab.async false
set_option linter.all false
set_option maxRecDepth 100000
set_option maxHeartbeats 2000000
/-! Rules of our own over the layer: a def reached through its class; a method of an object whose class is open; list(reversed(xs)). -/
namespace Pk
open PySem PySem.Spec PyProof.Rows L2
/-! ### C.m(e, ..): the def m of the class C, called with its self written -/
def tCFn (C : Addr) (sp : Sp) (E : XK) (ta : TE) (t : TA) : TE := fun σ H Q => ta σ H fun x H1 => x = .ref C ∧ t σ H1 fun vs H2 => sp vs H2 Q E
/-- a method of the class at C, whatever it lets out -/
structure MetX (P : Program) (w : World) (K : PySem.W.Frag) (mg : Str → Option Value) (base : Heap) (CX : CXT) (k : Nat) (C : Addr) (m : Str) (sp : Sp) : Prop where
  ex : ∃ (f : Addr) (fd : FuncData) (ps : List Str), Cls K C ∧ Meth K C m f ∧ FnOk P w K mg base CX k f fd ps sp ∧ Binds K fd ps []
/-- o.m(e, ..), o an instance of some class that has m -/
def tMethD (P : Program) (w : World) (K : PySem.W.Frag) (mg : Str → Option Value) (base : Heap) (CX : CXT) (k : Nat) (m : Str) (E : L2.St → XK) (ta : TE) (t : TA) : TE := fun σ H Q =>
  ta σ H fun x H1 => ∃ a C dx fs sp, x = .ref a ∧ H1 a = some (.ins C dx fs) ∧ fs.lookup m = none ∧ MetX P w K mg base CX k C m sp ∧ t σ H1 fun vs H2 => sp (x :: vs) H2 Q (E σ)
section
variable {X : Cx} {CX : CXT} {k : Nat} {C g : Addr} {mc : Value} {fd : FuncData} {ps : List Str} {sp : Sp} {o e : Expr} {es : List Expr} {m : Str} {pos apos : Pos} {ta : TE} {t : TA} {pl : Sem Bool}
theorem pe_cfn {E : XK} (he : PE X o ta) (r : ClX.CRead X.K C mc) (c : ClX.CVal X.K C mc m (.ref g) (.ref g)) (kp : PySem.W.keepIn X.K (.ref g) = true) (F : FnOk X.prog X.w X.K X.mg X.base CX k g fd ps sp)
    (hr : Room k X.A) (hb : Binds X.K fd ps []) (hx : Passes CX X E) (ha : PA X (e :: es) t)
    (hst : starEach (e :: es) X.env = (false, eval e X.env) :: starEach es X.env := by rfl) (hpl : (backTo pos (starEach es X.env)).any (·.1) = false := by rfl)
    (ht : eval (.Call (.Attribute o m apos) (e :: es) [] pos) X.env = (do
      let ov ← eval o X.env
      standAt apos.atName
      let (f, first) ← holding [ov] (getMethod ov m pl)
      callWith pos f first (backTo pos (starEach (e :: es) X.env)) (backToKw pos (keywordEach [] X.env))) := by rfl) :
    PE X (.Call (.Attribute o m apos) (e :: es) [] pos) (tCFn C sp E ta t) := by
  refine ⟨fun pins s σ H Q I h => ?_⟩
  refine PySem.W.methodCall_KW (pl := pl) (thn (he.run pins s σ H _ I h) fun u s1 ⟨x, H1, I1, rx, ex, q⟩ => ?_) ht
  subst ex
  obtain rfl : u = Value.ref C := rx
  refine PySem.W.method_cls I1.kIn r.ga (ClX.getcval_ok I1 r c fun s2 I2 => ?_)
  refine PySem.W.callWith_K (first := []) (h₀ := X.base) I.ok.mod.kin kp (thn (ha.run pos pins s2 σ H1 _ I2 q) fun us s3 ⟨vs, H2, I3, rv, q2⟩ => ⟨I3.kIn, ?_⟩) hst hpl
  exact run_fnS (E := fun _ => E) F hr hb (fun pins' H' s' ev s'' => hx pins' σ H' s' ev s'') I3 rv q2
theorem pe_methD {E : L2.St → XK} (he : PE X o ta) (hr : Room k X.A) (hx : ∀ σ, PassesAt CX X σ (E σ)) (ha : PA X (e :: es) t)
    (hst : starEach (e :: es) X.env = (false, eval e X.env) :: starEach es X.env := by rfl) (hpl : (backTo pos (starEach es X.env)).any (·.1) = false := by rfl)
    (ht : eval (.Call (.Attribute o m apos) (e :: es) [] pos) X.env = (do
      let ov ← eval o X.env
      standAt apos.atName
      let (f, first) ← holding [ov] (getMethod ov m pl)
      callWith pos f first (backTo pos (starEach (e :: es) X.env)) (backToKw pos (keywordEach [] X.env))) := by rfl) :
    PE X (.Call (.Attribute o m apos) (e :: es) [] pos) (tMethD X.prog X.w X.K X.mg X.base CX k m E ta t) := by
  refine ⟨fun pins s σ H Q I h => ?_⟩
  refine PySem.W.methodCall_KW (pl := pl) (thn (he.run pins s σ H _ I h) fun u s1 ⟨x, H1, I1, rx, a, C, dx, fs, sp, ex, ea, l, ⟨f, fd, ps, c, hm, F, hb⟩, q⟩ => ?_) ht
  subst ex
  obtain rfl : u = Value.ref a := rx
  refine getmeth_ok I1 ea c hm l ?_
  refine PySem.W.callWith_K (first := [.ref a]) (h₀ := X.base) I.ok.mod.kin hm.kp (thn (ha.run pos pins s1 σ H1 _ I1 q) fun us s2 ⟨vs, H2, I2, r, q2⟩ => ⟨I2.kIn, ?_⟩) hst hpl
  exact run_fnS (us := .ref a :: us) (vs := .ref a :: vs) F hr hb (hx σ) I2 (.cons rfl r) q2
theorem pe_methD0 {E : L2.St → XK} (he : PE X o ta) (hr : Room k X.A) (hx : ∀ σ, PassesAt CX X σ (E σ))
    (ht : eval (.Call (.Attribute o m apos) [] [] pos) X.env = (do
      let ov ← eval o X.env
      standAt apos.atName
      let (f, first) ← holding [ov] (getMethod ov m pl)
      callWith pos f first (backTo pos (starEach [] X.env)) (backToKw pos (keywordEach [] X.env))) := by rfl) :
    PE X (.Call (.Attribute o m apos) [] [] pos) (tMethD X.prog X.w X.K X.mg X.base CX k m E ta tNil) := by
  refine ⟨fun pins s σ H Q I h => ?_⟩
  refine PySem.W.methodCall_KW (pl := pl) (thn (he.run pins s σ H _ I h) fun u s1 ⟨x, H1, I1, rx, a, C, dx, fs, sp, ex, ea, l, ⟨f, fd, ps, c, hm, F, hb⟩, q⟩ => ?_) ht
  subst ex
  obtain rfl : u = Value.ref a := rx
  refine getmeth_ok I1 ea c hm l ?_
  exact PySem.W.callWith_K0 (first := [.ref a]) I1.kIn hm.kp (run_fnS (us := [.ref a]) (vs := [.ref a]) F hr hb (hx σ) I1 (.cons rfl .nil) q)
theorem passC8 {E : L2.St → XK} : ∀ σ, PassesAt C8.CX0 X σ (E σ) := fun _ _ _ _ _ _ _ h => h.elim
end
theorem MetX.of {P : Program} {w : World} {K : PySem.W.Frag} {mg : Str → Option Value} {base : Heap} {k : Nat} {C : Addr} {m : Str} {sp : Sp} (h : C8.Met P w K mg base k C m sp []) : MetX P w K mg base C8.CX0 k C m sp := by
  obtain ⟨f, fd, ps, ds, c, me, F, b, d⟩ := h.ex
  cases d
  exact ⟨f, fd, ps, c, me, F, b⟩
section
variable {P : Program} {w : World} {K : PySem.W.Frag} {mg : Str → Option Value} {base : Heap}
/-! ### the promise of a def, by its body: by its name, as a method, as a class's maker -/
theorem cal1 {x : Str} {st : Stmt} {f : Addr} {N ps : List Str} {k : Nat} {sp : Sp} (F : Fn1 K x x st ps f) (hm : mg x = some (.ref f)) (S : FnScope N ps (C8.fnScope st)) (len : ∀ vs H Q E, sp vs H Q E → vs.length = ps.length)
    (hbody : ∀ (cdv : Value) (A : Around) (outer : List Env) (s : Shared) (H : Hp) (vs : List V) (Q : VK) (E : XK), Room k (A.deeper (envOfC x (C8.fnScope st) s.heap.objs.size f cdv)) → sp vs H Q E →
      ∃ t, PSs (cxOf C8.CX0 P w K mg base N x (C8.fnScope st) f cdv A outer s H E).nox (C8.fnBody st) t ∧ t { nx := fun _ H' => Q .non H', rt := Q } (start N vs) H) : C8.Cal P w K mg base (k + 1) x sp [] := by
  obtain ⟨⟨fd, F1, b⟩, kp⟩ := F
  exact C8.cal0 ⟨F1, hm, kp⟩ b .nil S len hbody
theorem met1 {m qual : Str} {C : Addr} {st : Stmt} {f : Addr} {N ps : List Str} {k : Nat} {sp : Sp} (c : Cls K C) (me : Meth K C m f) (F : Fn1 K m qual st ps f) (S : FnScope N ps (C8.fnScope st)) (len : ∀ vs H Q E, sp vs H Q E → vs.length = ps.length)
    (hbody : ∀ (cdv : Value) (A : Around) (outer : List Env) (s : Shared) (H : Hp) (vs : List V) (Q : VK) (E : XK), Room k (A.deeper (envOfC qual (C8.fnScope st) s.heap.objs.size f cdv)) → sp vs H Q E →
      ∃ t, PSs (cxOf C8.CX0 P w K mg base N qual (C8.fnScope st) f cdv A outer s H E).nox (C8.fnBody st) t ∧ t { nx := fun _ H' => Q .non H', rt := Q } (start N vs) H) : C8.Met P w K mg base (k + 1) C m sp [] := by
  obtain ⟨⟨fd, F1, b⟩, kp⟩ := F
  exact C8.met0 c me F1 b S len hbody
theorem mak1 {x qual : Str} {C : Addr} {st : Stmt} {f : Addr} {N ps : List Str} {k : Nat} {sp : Sp} (M : Mk K C f) (hm : mg x = some (.ref C)) (F : Fn1 K "__init__" qual st ps f) (S : FnScope N ps (C8.fnScope st)) (len : ∀ vs H Q E, sp vs H Q E → vs.length = ps.length)
    (hbody : ∀ (cdv : Value) (A : Around) (outer : List Env) (s : Shared) (H : Hp) (vs : List V) (Q : VK) (E : XK), Room k (A.deeper (envOfC qual (C8.fnScope st) s.heap.objs.size f cdv)) → sp vs H Q E →
      ∃ t, PSs (cxOf C8.CX0 P w K mg base N qual (C8.fnScope st) f cdv A outer s H E).nox (C8.fnBody st) t ∧ t { nx := fun _ H' => Q .non H', rt := Q } (start N vs) H) : C8.Mak P w K mg base (k + 1) x C sp [] := by
  obtain ⟨⟨fd, F1, b⟩, kp⟩ := F
  exact C8.mak0 M hm F1 b .nil S len hbody
/-- a def that is reached by its address (an __init__ called through its class) -/
theorem fna1 {x qual : Str} {st : Stmt} {f : Addr} {N ps : List Str} {k : Nat} {sp : Sp} (F : Fn1 K x qual st ps f) (S : FnScope N ps (C8.fnScope st)) (len : ∀ vs H Q E, sp vs H Q E → vs.length = ps.length)
    (hbody : ∀ (cdv : Value) (A : Around) (outer : List Env) (s : Shared) (H : Hp) (vs : List V) (Q : VK) (E : XK), Room k (A.deeper (envOfC qual (C8.fnScope st) s.heap.objs.size f cdv)) → sp vs H Q E →
      ∃ t, PSs (cxOf C8.CX0 P w K mg base N qual (C8.fnScope st) f cdv A outer s H E).nox (C8.fnBody st) t ∧ t { nx := fun _ H' => Q .non H', rt := Q } (start N vs) H) : C8.CalAt P w K mg base (k + 1) f sp := by
  obtain ⟨⟨fd, F1, b⟩, kp⟩ := F
  exact ⟨fd, ps, C8.fn0 F1 S len hbody, kp, b⟩
/-- a method that may raise -/
theorem metX1 {m qual : Str} {C : Addr} {st : Stmt} {f : Addr} {N ps : List Str} {k : Nat} {sp : Sp} (c : Cls K C) (me : Meth K C m f) (F : Fn1 K m qual st ps f) (S : FnScope N ps (C8.fnScope st)) (len : ∀ vs H Q E, sp vs H Q E → vs.length = ps.length)
    (hbody : ∀ (cdv : Value) (A : Around) (outer : List Env) (s : Shared) (H : Hp) (vs : List V) (Q : VK) (E : XK), Room k (A.deeper (envOfC qual (C8.fnScope st) s.heap.objs.size f cdv)) → sp vs H Q E →
      ∃ t, PSs (cxOf (L2.CX P w) P w K mg base N qual (C8.fnScope st) f cdv A outer s H E) (C8.fnBody st) t ∧ t { nx := fun _ H' => Q .non H', rt := Q } (start N vs) H) : MetX P w K mg base (L2.CX P w) (k + 1) C m sp := by
  obtain ⟨⟨fd, F1, b⟩, kp⟩ := F
  obtain ⟨oc, od, dV, kV, doc, pm, an, cdv, ct, osl, rfl, lk, hcd⟩ := F1.ex
  exact ⟨f, _, ps, c, me, fn_of lk hcd S len fun A outer s H vs Q E hr hsp => hbody cdv A outer s H vs Q E hr hsp, b⟩
end
/-! ### list(reversed(xs)) -/
section
variable {prog : Program} {w : World} {A : Around} {E : Value → Shared → Prop} {s : Shared}
theorem list_rev_new {it l : Addr} {items : Array Value} {Q : Value → Shared → Prop} (hh : A.handled = none) (hit : s.heap.IsRevIter it l ((items.size : Int) - 1)) (hl : s.heap.IsList l items) (hne : l ≠ it) (hn : items.size ≤ sizeLine)
    (hQ : ∀ (h' : Heap) (tk : Nat) (acc : Array Value) (c : Nat), (∀ b o, b ≠ it → s.heap.get? b = some o → h'.get? b = some o) → h'.get? s.heap.objs.size = some { cls := .type "list", dict := none, data := .seq acc c, slots := #[] } →
      ItemsOf (fun i v => items[items.size - 1 - i]? = some v) acc items.size → Q (.ref s.heap.objs.size) { s with heap := h', toks := tk }) :
    wpAny (model prog w) A (call (.type "list") [.ref it]) Q E s := by
  obtain ⟨oi, hoi, _⟩ := id hit
  obtain ⟨ol, hol, _⟩ := id hl
  have hSi : s.heap.objs.size ≠ it := Nat.ne_of_gt (Heap.lt_size hoi)
  have hSl : s.heap.objs.size ≠ l := Nat.ne_of_gt (Heap.lt_size hol)
  have hSf : s.heap.objs.size ∉ [it, l] := by
    simp only [List.mem_cons, List.not_mem_nil, or_false, not_or]
    exact ⟨hSi, hSl⟩
  refine callType_codes (Q₁ := fun obj s₁ => obj = .ref s.heap.objs.size ∧ s₁ = { s with heap := s.heap.push { cls := .type "list", data := .seq #[] } }) F.called_list (F.typeCall_list_1 _) F.entry_list_init
    (code_list_new _ ⟨rfl, rfl⟩) fun obj s₁ h₁ => ?_
  obtain ⟨rfl, rfl⟩ := h₁
  have hS : (s.heap.push { cls := .type "list", data := .seq #[] }).get? s.heap.objs.size = some { cls := .type "list", data := .seq #[] } := Heap.get?_push_size _ rfl
  refine ⟨⟨_, hS, rfl⟩, F.args_list_init_2 _ _, ?_⟩
  have W := (Walks.listRev (prog := prog) (w := w) (A := A.in1.in1) hh it l hne items).toS
  show wpAny _ _ (do let old ← Builtin.List.listItems (.ref s.heap.objs.size); Builtin.List.listUpdate (.ref s.heap.objs.size) (fun _ => #[]); letGo old.toList.reverse; Builtin.List.listExtendWith (.ref s.heap.objs.size) (.ref it) .none) _ _ _
  refine wpAny_bind ?_
  unfold Builtin.List.listItems
  refine wpAny_bind (wpAny_seqItems hS rfl (wpAny_pure ?_))
  show wpAny _ _ (updateSeq s.heap.objs.size (fun _ => #[]) >>= fun _ => letGo (#[] : Array Value).toList.reverse >>= fun _ => Builtin.List.listExtendWith (.ref s.heap.objs.size) (.ref it) .none) _ _ _
  refine wpAny_bind (wpAny_updateSeq hS rfl ?_)
  have hS₂ := Heap.get?_update_self (Obj.mapSeq (fun _ => (#[] : Array Value))) hS rfl
  have oth : ∀ b o, b ≠ s.heap.objs.size → (s.heap.push { cls := .type "list", data := .seq #[] }).get? b = some o → ((s.heap.push { cls := .type "list", data := .seq #[] }).update s.heap.objs.size (Obj.mapSeq (fun _ => (#[] : Array Value)))).get? b = some o :=
    fun b o hb e => (Heap.get?_update_other _ _ (Ne.symm hb)).trans e
  refine wpAny_bind (wpAny_letGo ?_)
  generalize hh2 : ((s.heap.push { cls := .type "list", data := .seq #[] }).update s.heap.objs.size (Obj.mapSeq (fun _ => (#[] : Array Value)))) = h2 at hS₂ oth ⊢
  have hit2 : h2.IsRevIter it l ((items.size : Int) - 1) := hit.at fun o e => oth _ _ (Ne.symm hSi) (Heap.get?_push_of_some _ e)
  have hl2 : h2.IsList l items := by
    obtain ⟨o, ho, r⟩ := hl
    exact ⟨o, oth _ _ (Ne.symm hSl) (Heap.get?_push_of_some _ ho), r⟩
  have hT : ({ s with heap := h2 } : Shared).TypeIs (.ref it) "list_reverseiterator" := Heap.IsRevIter.typeIs (s := { s with heap := h2 }) hit2
  have h1 : Builtin.List.listSameRef (.ref s.heap.objs.size) (.ref it) = false := by simp [Builtin.List.listSameRef, hSi]
  unfold Builtin.List.listExtendWith
  refine wpAny_bind (wpAny_typeOf hT ?_)
  rw [if_neg (by rw [h1]; decide)]
  refine wpAny_bind (wpAny_pyIter_revIter (s := { s with heap := h2 }) hit2 ?_)
  refine wpAny_bind (wpAny_holding ?_)
  unfold Builtin.List.listLengthHint
  refine wpAny_bind (wpAny_specialOf hT RT.nolen_lri ?_)
  show wpAny _ _ (specialOf (Value.ref it) (Str.ofString "__length_hint__") >>= _) _ _ _
  refine wpAny_bind (wpAny_specialOf hT RT.hint_lri ?_)
  generalize hid : ("list_reverseiterator.__length_hint__" : String) = id0
  wp_delta
  rw [show splitId id0 = some ("list_reverseiterator", "__length_hint__") from by subst hid; decide +kernel]
  subst hid
  refine wpAny_bind (wpAny_isInstance (b := true) hT (by rw [isSubtype_type]; kernel_rfl) ?_)
  refine wpAny_pure ?_
  rw [if_neg (by decide)]
  have e0 : ((items.size : Nat) : Int) - 1 - ((0 : Nat) : Int) = (items.size : Int) - 1 := by omega
  refine wpAny_pure ⟨plainId_quiet F.plain_extend_loop _, codeAny_extend_loopS W hn _ hSf _ items.size 0 _ _ _ rfl (Nat.zero_le _) ⟨Nat.zero_le _, by rw [e0]; exact hit2, hl2⟩ hS₂ (ItemsOf.nil _) fun s' acc' c' hm hS' hacc => ?_⟩
  refine ⟨rfl, ?_⟩
  rw [Moved.eq_with hm]
  refine hQ s'.heap s'.toks acc' c' (fun b o hb e => hm.heap b o (fun hmem => ?_) (oth b o (Nat.ne_of_lt (Heap.lt_size e)) (Heap.get?_push_of_some _ e))) hS' hacc
  rcases List.mem_cons.mp hmem with e' | hmem
  · exact absurd (Heap.lt_size e) (by rw [e']; exact Nat.lt_irrefl _)
  · exact hb (List.mem_singleton.mp hmem)
end
/-- list(reversed(x)), x a list: a new list -/
def tLstRev (K : PySem.W.Frag) (te : TE) : TE := fun σ H Q => te σ H fun v H1 => ∃ (a : Addr) (xs : List V), v = .ref a ∧ SqL K H1 a xs ∧ ∀ q, H1 q = none → Q (.ref q) (upd H1 q (.lst xs.reverse))
section
variable {X : Cx}
theorem pe_lstRev {e : Expr} {te : TE} {p p2 pos pos2 : Pos} (hc : X.calm = true) (hg : Gl X "list") (hm : X.mg "list" = none) (hg2 : Gl X "reversed") (hm2 : X.mg "reversed" = none) (he : PE X e te)
    (hs : starEach [e] X.env = (false, eval e X.env) :: starEach [] X.env := by rfl)
    (hs2 : starEach [.Call (.Name "reversed" p2) [e] [] pos2] X.env = (false, eval (.Call (.Name "reversed" p2) [e] [] pos2) X.env) :: starEach [] X.env := by rfl) :
    PE X (.Call (.Name "list" p) [.Call (.Name "reversed" p2) [e] [] pos2] [] pos) (tLstRev X.K te) := by
  refine ⟨fun pins s σ H Q I h => ?_⟩
  refine Call_ (ld_blt I hg hm (show bootBuiltins "list" = some (.type "list") from by decide +kernel) (PyProof.Rows.callWith_type1 (args_cons (Call_ (ld_blt I hg2 hm2 PyProof.Rows.boot_reversed (PyProof.Rows.callWith_type1 (args_cons (thn (he.run pins s σ H _ I h) fun u s1 ⟨v, H1, I1, r1, q1⟩ => args_nil ?_) hs) hs rfl))) hs2) hs2 rfl))
  obtain ⟨a, xs, ev, hq, q⟩ := q1
  subst ev
  obtain rfl : u = Value.ref a := r1
  obtain ⟨its, rv, p', hz⟩ := I1.list hq
  refine call_reversed_list p'.isList (args_nil ?_)
  have hl := p'.isList
  obtain ⟨ol, hol, _⟩ := id hl
  have hne : a ≠ s1.heap.objs.size := Nat.ne_of_lt (Heap.lt_size hol)
  have hn : its.toArray.size ≤ sizeLine := by rw [List.size_toArray, ← rv.length]; exact hz
  refine list_rev_new (s := { s1 with heap := s1.heap.push (revObj a ((its.toArray.size : Int) - 1)) }) (I1.ok.hd hc) ⟨_, Heap.get?_push_size _ rfl, rfl, rfl⟩ (hl.push _) hne hn fun h' tk acc c hk hS hi => ?_
  have hsz : (s1.heap.push (revObj a ((its.toArray.size : Int) - 1))).objs.size = s1.heap.objs.size + 1 := Heap.size_push _ _
  have k0 : ∀ b o, s1.heap.get? b = some o → h'.get? b = some o := fun b o e => hk b o (Nat.ne_of_lt (Heap.lt_size e)) (Heap.get?_push_of_some _ e)
  have hp : s1.heap.objs.size ≤ (s1.heap.push (revObj a ((its.toArray.size : Int) - 1))).objs.size := by rw [hsz]; exact Nat.le_succ _
  refine ⟨.ref _, upd H1 _ (.lst xs.reverse), I1.laid (t' := tk) k0 hp ⟨by rw [List.length_reverse]; exact hz, acc.toList, c, RT.vals_rev rv hi, ?_⟩, rfl, q _ (I1.hok.fresh hp)⟩
  rw [Array.toArray_toList]
  exact hS
end
end Pk

set_option Elab.async false
set_option linter.all false
set_option maxRecDepth 100000
set_option maxHeartbeats 1000000
/-! The texts: a whole number's, a step's, a pact's; what reading them back asks. No program in sight. -/
namespace Pk
open PySem PySem.Builtin PySem.Builtin.Str L2 SX
/-! ### a whole number -/
def num (n : Int) : List Nat := if n < 0 then 45 :: TL.numL n.natAbs else TL.numL n.natAbs
def tx (n : Int) : Str := Str.ofString (toString n)
theorem tx_S (n : Int) : tx n = S (num n) := by
  cases n with
  | ofNat m =>
    have h : ¬ (Int.ofNat m < 0) := by simp
    unfold num tx
    rw [if_neg h]
    exact num_S m
  | negSucc m =>
    unfold num tx
    rw [if_pos (Int.negSucc_lt_zero m)]
    refine TL.ext_tl ?_
    have e := TL.tl_num (m + 1)
    rw [TL.tl_ofString] at e ⊢
    have e2 : toString (Int.negSucc m) = "-" ++ toString (((m + 1 : Nat) : Int)) := rfl
    rw [e2, String.toList_append, List.map_append, e]
    rfl
theorem num_mem {n : Int} {c : Nat} (h : c ∈ num n) : c = 45 ∨ (48 ≤ c ∧ c ≤ 57) := by
  unfold num at h
  split at h
  · rcases List.mem_cons.mp h with h | h
    · exact .inl h
    · exact .inr (TL.numL_digits _ c h)
  · exact .inr (TL.numL_digits _ c h)
theorem num_free {n : Int} {c : Nat} (h : c ≠ 45 ∧ (c < 48 ∨ 57 < c)) : c ∉ num n := fun hm => by
  rcases num_mem hm with e | e <;> omega
theorem num_ne (n : Int) : num n ≠ [] := by
  unfold num
  split
  · simp
  · exact TL.numL_ne _
theorem numL_head (n : Nat) : 0 < n → (TL.numL n).head? ≠ some 48 := by
  induction n using Nat.strongRecOn with
  | ind n ih =>
    intro h
    by_cases h10 : n < 10
    · rw [TL.numL_lt h10]
      simp
      omega
    · have h1 := ih (n / 10) (by omega) (by omega)
      rw [TL.numL_step (by omega)]
      cases e : TL.numL (n / 10) with
      | nil => exact absurd e (TL.numL_ne _)
      | cons c r =>
        rw [e] at h1
        exact h1
/-- the bound on what a text may write: forty figures -/
def Forty (n : Int) : Prop := n.natAbs < 10 ^ 40
theorem numL_40 {n : Int} (h : Forty n) : (TL.numL n.natAbs).length ≤ 40 := TL.numL_len (by decide) h
theorem num_41 {n : Int} (h : Forty n) : (num n).length ≤ 41 := by
  have := numL_40 h
  unfold num
  split
  · simp; omega
  · omega
theorem log2_40 {n : Int} (h : Forty n) : n.natAbs.log2 < 1920 := by
  have h0 : n.natAbs < 2 ^ 200 := Nat.lt_trans h (by decide)
  by_cases hz : n.natAbs = 0
  · rw [hz]; decide
  · exact Nat.lt_trans ((Nat.log2_lt hz).mpr h0) (by decide)
/-- int(text) -/
theorem int_num {n : Int} (h : Forty n) : intText? (S (num n)) = some n := by
  have h4 := numL_40 h
  have hv := TL.numL_val n.natAbs
  unfold num
  by_cases hn : n < 0
  · rw [if_pos hn]
    have e := intText_neg (x := S (45 :: TL.numL n.natAbs)) (cs := TL.numL n.natAbs) rfl (TL.numL_digits _) (TL.numL_ne _) (by rw [S_len, List.length_cons]; omega)
    rw [e, hv]
    congr 1
    omega
  · rw [if_neg hn]
    have e := intText_digits (x := S (TL.numL n.natAbs)) (TL.numL_digits _) (TL.numL_ne _) (by rw [S_len]; omega)
    rw [e]
    show some (((NumText.digitsVal (TL.numL n.natAbs) : Nat) : Int)) = _
    rw [hv]
    congr 1
    omega
/-- the figures of a word: the word without its minus -/
theorem num_neg {n : Int} (h : n < 0) : num n = 45 :: TL.numL n.natAbs := if_pos h
theorem num_pos {n : Int} (h : ¬ n < 0) : num n = TL.numL n.natAbs := if_neg h
theorem starts_minus (l : List Nat) : Txt.startswith (S l) (S [45]) = (l.head? == some 45) := by
  have e : Txt.startswith (S l) (S [45]) = (decide (0 + 1 ≤ l.length) && ((l.drop 0).take 1 == [45])) := by
    unfold Txt.startswith
    rw [StrLaws.subAt_eq, S_len, S_len]
    rfl
  rw [e]
  cases l with
  | nil => rfl
  | cons c r => simp
/-- word.startswith("-") -/
theorem num_starts (n : Int) : Txt.startswith (S (num n)) (S [45]) = decide (n < 0) := by
  rw [starts_minus]
  by_cases h : n < 0
  · rw [num_neg h, decide_eq_true h]
    rfl
  · rw [num_pos h, decide_eq_false h]
    cases e : TL.numL n.natAbs with
    | nil => rfl
    | cons c r =>
      have := TL.numL_digits n.natAbs c (by rw [e]; exact List.mem_cons_self)
      simp
      omega
/-- word[1:] -/
theorem num_rest {n : Int} (h : n < 0) : cutS (S (num n)) (some 1) none = S (TL.numL n.natAbs) := by
  rw [C8.cutS_slice, slice_from (by decide), num_neg h]
  rfl
theorem tw_all {p : Nat → Bool} : ∀ l : List Nat, (∀ c ∈ l, p c = true) → l.takeWhile p = l
  | [], _ => rfl
  | c :: r, h => by rw [List.takeWhile_cons, if_pos (h c List.mem_cons_self), tw_all r fun d hd => h d (List.mem_cons_of_mem _ hd)]
/-- figures.strip(FIGURES) -/
theorem strip_digits {l : List Nat} (h : NumText.AllDigits l) (hne : l ≠ []) : Txt.stripChars (S l) (S [48, 49, 50, 51, 52, 53, 54, 55, 56, 57]) = S [] := by
  have hp : ∀ c ∈ l, (S [48, 49, 50, 51, 52, 53, 54, 55, 56, 57]).cps.contains c = true := fun c hc => by
    have := h c hc
    have : c = 48 ∨ c = 49 ∨ c = 50 ∨ c = 51 ∨ c = 52 ∨ c = 53 ∨ c = 54 ∨ c = 55 ∨ c = 56 ∨ c = 57 := by omega
    rcases this with e | e | e | e | e | e | e | e | e | e <;> subst e <;> decide +kernel
  generalize ep : (S [48, 49, 50, 51, 52, 53, 54, 55, 56, 57]).cps.contains = p at hp
  have e1 : stripLo p true (S l) = l.length := by
    unfold stripLo
    rw [if_pos rfl]
    show (l.takeWhile p).length = _
    rw [tw_all l hp]
  have e2 : stripHi p true (S l) l.length = l.length := by
    unfold stripHi
    rw [if_pos rfl, S_len]
    show l.length - ((l.drop l.length).reverse.takeWhile p).length = l.length
    rw [List.drop_length]
    rfl
  have hl : l.length ≠ 0 := fun e => hne (List.length_eq_zero_iff.mp e)
  have e3 : stripSame p true true (S l) = false := by
    unfold stripSame
    rw [e1]
    have : (l.length == 0) = false := beq_eq_false_iff_ne.mpr hl
    rw [this]
    rfl
  unfold Txt.stripChars
  rw [ep]
  unfold Txt.stripBy
  rw [e3, if_neg Bool.false_ne_true]
  unfold stripped
  rw [e1, e2]
  refine TL.ext_tl ?_
  rw [TL.tl_strSub]
  show (l.drop l.length).take (l.length - l.length) = []
  rw [List.drop_length]
  exact List.take_nil
/-! ### a step -/
inductive Sd where
  | take (h c : Int) | mean (h c : Int) | sum (h l u : Int) | give (h c : Int) | add (h c v : Int) | plus (v : Int) | need (v : Int)
def Sd.word : Sd → Str
  | .take _ _ => "take" | .mean _ _ => "mean" | .sum _ _ _ => "sum" | .give _ _ => "give" | .add _ _ _ => "add" | .plus _ => "plus" | .need _ => "need"
def Sd.wordL : Sd → List Nat
  | .take _ _ => [116, 97, 107, 101] | .mean _ _ => [109, 101, 97, 110] | .sum _ _ _ => [115, 117, 109] | .give _ _ => [103, 105, 118, 101] | .add _ _ _ => [97, 100, 100]
  | .plus _ => [112, 108, 117, 115] | .need _ => [110, 101, 101, 100]
def Sd.nums : Sd → List Int
  | .take h c => [h, c] | .mean h c => [h, c] | .sum h l u => [h, l, u] | .give h c => [h, c] | .add h c v => [h, c, v] | .plus v => [v] | .need v => [v]
/-- its text, as the law and its own method put it together -/
def Sd.text : Sd → Str
  | .take h c => "take" ++ " " ++ tx h ++ " " ++ tx c
  | .mean h c => "mean" ++ " " ++ tx h ++ " " ++ tx c
  | .sum h l u => "sum" ++ " " ++ tx h ++ " " ++ tx l ++ " " ++ tx u
  | .give h c => "give" ++ " " ++ tx h ++ " " ++ tx c
  | .add h c v => "add" ++ " " ++ tx h ++ " " ++ tx c ++ " " ++ tx v
  | .plus v => "plus " ++ tx v
  | .need v => "need " ++ tx v
def Sd.house : Sd → Option Int
  | .take h _ => some h | .mean h _ => some h | .sum h _ _ => some h | .give h _ => some h | .add h _ _ => some h | .plus _ => none | .need _ => none
def Sd.isGive : Sd → Bool
  | .give _ _ => true | _ => false
def Small (h : Int) : Prop := 0 ≤ h ∧ h < 8
def Sd.Ok : Sd → Prop
  | .take h c => Small h ∧ Small c
  | .mean h c => Small h ∧ Small c
  | .sum h l u => Small h ∧ Small l ∧ Small u ∧ l ≤ u
  | .give h c => Small h ∧ Small c
  | .add h c v => Small h ∧ Small c ∧ Forty v
  | .plus v => Forty v
  | .need v => Forty v
theorem Small.forty {h : Int} (x : Small h) : Forty h := by
  obtain ⟨a, b⟩ := x
  unfold Forty
  have : h.natAbs < 8 := by omega
  exact Nat.lt_trans this (by decide)
theorem Sd.nums_forty {s : Sd} (k : s.Ok) : ∀ n ∈ s.nums, Forty n := by
  intro n hn
  cases s with
  | take h c =>
    obtain ⟨a, b⟩ := k
    simp only [Sd.nums, List.mem_cons, List.not_mem_nil, or_false] at hn
    rcases hn with rfl | rfl
    · exact a.forty
    · exact b.forty
  | mean h c =>
    obtain ⟨a, b⟩ := k
    simp only [Sd.nums, List.mem_cons, List.not_mem_nil, or_false] at hn
    rcases hn with rfl | rfl
    · exact a.forty
    · exact b.forty
  | give h c =>
    obtain ⟨a, b⟩ := k
    simp only [Sd.nums, List.mem_cons, List.not_mem_nil, or_false] at hn
    rcases hn with rfl | rfl
    · exact a.forty
    · exact b.forty
  | sum h l u =>
    obtain ⟨a, b, c, _⟩ := k
    simp only [Sd.nums, List.mem_cons, List.not_mem_nil, or_false] at hn
    rcases hn with rfl | rfl | rfl
    · exact a.forty
    · exact b.forty
    · exact c.forty
  | add h c v =>
    obtain ⟨a, b, d⟩ := k
    simp only [Sd.nums, List.mem_cons, List.not_mem_nil, or_false] at hn
    rcases hn with rfl | rfl | rfl
    · exact a.forty
    · exact b.forty
    · exact d
  | plus v =>
    simp only [Sd.nums, List.mem_cons, List.not_mem_nil, or_false] at hn
    subst hn
    exact k
  | need v =>
    simp only [Sd.nums, List.mem_cons, List.not_mem_nil, or_false] at hn
    subst hn
    exact k
def Sd.parts (s : Sd) : List (List Nat) := s.wordL :: s.nums.map num
def Sd.codes (s : Sd) : List Nat := TL.joinL [32] s.parts
theorem blank_S : (" " : Str) = S [32] := by decide +kernel
theorem semi_S : ("; " : Str) = S [59, 32] := by decide +kernel
theorem walkedb_S : ("walked " : Str) = S [119, 97, 108, 107, 101, 100, 32] := by decide +kernel
theorem walked_S : ("walked" : Str) = S [119, 97, 108, 107, 101, 100] := by decide +kernel
theorem minus_S : ("-" : Str) = S [45] := by decide +kernel
theorem figures_S : ("0123456789" : Str) = S [48, 49, 50, 51, 52, 53, 54, 55, 56, 57] := by decide +kernel
theorem nil_S : ("" : Str) = S [] := by decide +kernel
theorem nought_S : ("0" : Str) = S [48] := by decide +kernel
theorem w_take : ("take" : Str) = S [116, 97, 107, 101] := by decide +kernel
theorem w_mean : ("mean" : Str) = S [109, 101, 97, 110] := by decide +kernel
theorem w_sum : ("sum" : Str) = S [115, 117, 109] := by decide +kernel
theorem w_give : ("give" : Str) = S [103, 105, 118, 101] := by decide +kernel
theorem w_add : ("add" : Str) = S [97, 100, 100] := by decide +kernel
theorem w_plus : ("plus " : Str) = S [112, 108, 117, 115, 32] := by decide +kernel
theorem w_need : ("need " : Str) = S [110, 101, 101, 100, 32] := by decide +kernel
theorem w_plus' : ("plus" : Str) = S [112, 108, 117, 115] := by decide +kernel
theorem w_need' : ("need" : Str) = S [110, 101, 101, 100] := by decide +kernel
theorem word_S (s : Sd) : s.word = S s.wordL := by
  cases s
  · exact w_take
  · exact w_mean
  · exact w_sum
  · exact w_give
  · exact w_add
  · exact w_plus'
  · exact w_need'
theorem text_S (s : Sd) : s.text = S s.codes := by
  cases s <;>
    simp only [Sd.text, tx_S, blank_S, w_take, w_mean, w_sum, w_give, w_add, w_plus, w_need, S_cat, Sd.codes, Sd.parts, Sd.wordL, Sd.nums, List.map_cons, List.map_nil, TL.joinL] <;>
    exact congrArg S (by simp)
theorem parts_no {s : Sd} {c : Nat} (h : c < 45) : ∀ p ∈ s.parts, c ∉ p := by
  intro p hp
  rcases List.mem_cons.mp hp with e | e
  · subst e
    intro hc
    cases s <;> (simp only [Sd.wordL, List.mem_cons, List.not_mem_nil, or_false] at hc; omega)
  · obtain ⟨n, _, rfl⟩ := List.mem_map.mp e
    exact num_free ⟨by omega, by omega⟩
theorem joinL_mem {c : Nat} {sep : List Nat} : ∀ {ps : List (List Nat)}, c ∈ TL.joinL sep ps → c ∈ sep ∨ ∃ p ∈ ps, c ∈ p
  | [], h => by simp [TL.joinL] at h
  | [p], h => by
    simp only [TL.joinL] at h
    exact .inr ⟨p, List.mem_cons_self, h⟩
  | p :: q :: r, h => by
    simp only [TL.joinL, List.mem_append] at h
    rcases h with h | h | h
    · exact .inr ⟨p, List.mem_cons_self, h⟩
    · exact .inl h
    · rcases joinL_mem (ps := q :: r) h with h | ⟨x, hx, h⟩
      · exact .inl h
      · exact .inr ⟨x, List.mem_cons_of_mem _ hx, h⟩
theorem codes_no59 (s : Sd) : 59 ∉ s.codes := fun h => by
  rcases joinL_mem h with h | ⟨p, hp, h⟩
  · simp at h
  · rcases List.mem_cons.mp hp with e | e
    · subst e
      cases s <;> (simp only [Sd.wordL, List.mem_cons, List.not_mem_nil, or_false] at h; omega)
    · obtain ⟨n, _, rfl⟩ := List.mem_map.mp e
      exact num_free ⟨by omega, by omega⟩ h
/-- text.split(" ") -/
theorem text_split (s : Sd) : Txt.split s.text " " = (s.word :: s.nums.map tx) := by
  rw [text_S, blank_S, split_S (by simp) (by decide), Sd.codes, spl_join (c := 32) (sep := []) (by simp [Sd.parts]) (fun p hp => parts_no (by decide) p hp)]
  simp only [Sd.parts, List.map_cons, List.map_map, word_S]
  congr 1
  exact List.map_congr_left fun n _ => (tx_S n).symm
theorem codes_len {s : Sd} (k : s.Ok) : s.codes.length ≤ 200 := by
  have h := Sd.nums_forty k
  cases s <;> simp only [Sd.nums, List.forall_mem_cons, List.not_mem_nil, false_imp_iff, implies_true, and_true] at h <;>
    simp only [Sd.codes, Sd.parts, Sd.wordL, Sd.nums, List.map_cons, List.map_nil, TL.joinL, List.length_append, List.length_cons, List.length_nil]
  · have := num_41 h.1; have := num_41 h.2; omega
  · have := num_41 h.1; have := num_41 h.2; omega
  · have := num_41 h.1; have := num_41 h.2.1; have := num_41 h.2.2; omega
  · have := num_41 h.1; have := num_41 h.2; omega
  · have := num_41 h.1; have := num_41 h.2.1; have := num_41 h.2.2; omega
  · have := num_41 h; omega
  · have := num_41 h; omega
theorem text_len {s : Sd} (k : s.Ok) : s.text.length ≤ 200 := by
  rw [text_S, S_len]
  exact codes_len k
theorem tx_len {n : Int} (h : Forty n) : (tx n).length ≤ 41 := by
  rw [tx_S, S_len]
  exact num_41 h
/-! ### a pact -/
def restOf (l : List Sd) : Str := Txt.join "; " (l.map Sd.text)
theorem rest_S (l : List Sd) : restOf l = S (TL.joinL [59, 32] (l.map Sd.codes)) := by
  unfold restOf
  have e : l.map Sd.text = (l.map Sd.codes).map S := by
    rw [List.map_map]
    exact List.map_congr_left fun s _ => text_S s
  rw [semi_S, e, join_S]
theorem rest_split {l : List Sd} (h : l ≠ []) : Txt.split (restOf l) "; " = l.map Sd.text := by
  rw [rest_S, semi_S, split_S (by simp) (by decide), spl_join (c := 59) (sep := [32]) (by simpa using h) (fun p hp => by
    obtain ⟨s, _, rfl⟩ := List.mem_map.mp hp
    exact codes_no59 s), List.map_map]
  exact List.map_congr_left fun s _ => (text_S s).symm
theorem pact_part (l : List Sd) : Txt.partition ("walked " ++ restOf l) " " = (("walked" : Str), (" " : Str), restOf l) := by
  have e : ("walked " : Str) ++ restOf l = "walked" ++ " " ++ restOf l := by
    rw [walkedb_S, walked_S, blank_S, rest_S, S_cat, S_cat, S_cat]
    rfl
  rw [e]
  exact TL.partition_app (s := 32) (S := []) (by rw [blank_S]) (by rw [walked_S]; decide)
theorem joinL_len {m : Nat} {sep : List Nat} : ∀ {ps : List (List Nat)}, (∀ p ∈ ps, p.length ≤ m) → (TL.joinL sep ps).length ≤ ps.length * (m + sep.length)
  | [], _ => by simp [TL.joinL]
  | [p], h => by
    have := h p List.mem_cons_self
    simp only [TL.joinL, List.length_cons, List.length_nil]
    omega
  | p :: q :: r, h => by
    have h1 := h p List.mem_cons_self
    have h2 := joinL_len (m := m) (sep := sep) (ps := q :: r) fun x hx => h x (List.mem_cons_of_mem _ hx)
    simp only [TL.joinL, List.length_append, List.length_cons] at h2 ⊢
    have e : (r.length + 1 + 1) * (m + sep.length) = (r.length + 1) * (m + sep.length) + (m + sep.length) := Nat.succ_mul _ _
    omega
theorem rest_len {l : List Sd} (h : l.length ≤ 12) (k : ∀ s ∈ l, s.Ok) : (restOf l).length ≤ 5000 := by
  rw [rest_S, S_len]
  have h1 := joinL_len (m := 200) (sep := [59, 32]) (ps := l.map Sd.codes) (fun p hp => by
    obtain ⟨s, hs, rfl⟩ := List.mem_map.mp hp
    exact codes_len (k s hs))
  rw [List.length_map] at h1
  have e : ([59, 32] : List Nat).length = 2 := rfl
  rw [e] at h1
  have : l.length * (200 + 2) ≤ 12 * 202 := Nat.mul_le_mul_right _ h
  omega
end Pk

set_option Elab.async false
set_option linter.all false
set_option maxRecDepth 100000
set_option maxHeartbeats 2000000
/-! Steps as objects: their shape, and what their methods promise. -/
namespace Pk
open PySem PySem.Spec PyProof.Rows L2
/-! ### a step as an object -/
def Sd.cls (a : Adr) : Sd → Addr
  | .take _ _ => a.cTake | .mean _ _ => a.cMean | .sum _ _ _ => a.cSum | .give _ _ => a.cGive | .add _ _ _ => a.cAdd | .plus _ => a.cPlus | .need _ => a.cNeed
def Sd.flds : Sd → List (Str × V)
  | .take h c => [("where", .int h), ("cell", .int c)]
  | .mean h c => [("where", .int h), ("cell", .int c)]
  | .give h c => [("where", .int h), ("cell", .int c)]
  | .add h c v => [("where", .int h), ("cell", .int c), ("amount", .int v)]
  | .sum h l u => [("where", .int h), ("low", .int l), ("high", .int u)]
  | .plus v => [("amount", .int v)]
  | .need v => [("amount", .int v)]
def StepAt (a : Adr) (H : Hp) (p : Addr) (s : Sd) : Prop := ∃ dx, H p = some (.ins (s.cls a) dx s.flds)
theorem StepAt.same {a : Adr} {H H' : Hp} {p : Addr} {s : Sd} (x : StepAt a H p s) (e : Same H H') : StepAt a H' p s := let ⟨dx, h⟩ := x; ⟨dx, e _ _ h⟩
def Sd.houseV (s : Sd) : V := match s.house with | some h => .int h | none => .non
/-! ### what the methods promise of a step s -/
def spHouse (a : Adr) (s : Sd) : Sp := fun vs H Q _ => ∃ p dx, vs = [.ref p] ∧ H p = some (.ins (s.cls a) dx s.flds) ∧ Q s.houseV H
def spSure (a : Adr) (s : Sd) : Sp := fun vs H Q _ => ∃ p dx, vs = [.ref p] ∧ H p = some (.ins (s.cls a) dx s.flds) ∧ Q (.bl s.isGive) H
def spSpelled (a : Adr) (s : Sd) : Sp := fun vs H Q _ => ∃ p dx, vs = [.ref p] ∧ H p = some (.ins (s.cls a) dx s.flds) ∧ Q (.str s.text) H
/-- the hand behind a step at no house; none: the need is not met -/
def Sd.handed (s : Sd) (h : Int) : Option Int := match s with | .plus v => some (h + v) | .need v => if h < v then none else some h | _ => some h
def spDone (a : Adr) (s : Sd) : Sp := fun vs H Q E => ∃ p dx h x, vs = [.ref p, .int h, x] ∧ H p = some (.ins (s.cls a) dx s.flds) ∧
  (s.handed h = none → E (.ref a.cNoNeed) none H) ∧ ∀ k, s.handed h = some k → ∀ (t : Addr) (y : V) (H' : Hp), Same H H' → H' t = some (.tup [.int k, y]) → Q (.ref t) H'
theorem Same.upd {H : Hp} {p : Addr} {o : HO} (h : H p = Option.none) : Same H (upd H p o) := fun b u e => by rw [upd_ne (ne_of_none e h)]; exact e
section
variable {P : Program} {w : World} {K : PySem.W.Frag} {mg : Str → Option Value} {base : Heap} {a : Adr}
/-! ### house -/
theorem m_ceHouse {C : Addr} (c : Cls K C) (me : Meth K C "house" a.f_ceHouse) (n : NoAttr K C "where") (F : Fn1 K "house" "CellStep.house" s_ceHouse ["self"] a.f_ceHouse) :
    C8.Met P w K mg base 1 C "house" (fun vs H Q _ => ∃ p dx fs v, vs = [.ref p] ∧ H p = some (.ins C dx fs) ∧ fs.lookup ("where" : Str) = some v ∧ Q v H) [] := by
  refine met1 c me F sc_ceHouse (fun vs H Q E h => ?_) (fun cdv A outer s H vs Q E hr h => ?_)
  · obtain ⟨p, dx, fs, v, rfl, _⟩ := h
    rfl
  · obtain ⟨p, dx, fs, v, rfl, hp, l, k⟩ := h
    refine ⟨_, (pss_one (ps_ret (pe_fld (pv 0) rfl))), ?_⟩
    exact ⟨_, rfl, p, C, dx, _, _, rfl, hp, c, n, l, k⟩
theorem m_suHouse (T : Txt K mg a) :
    C8.Met P w K mg base 1 a.cSum "house" (fun vs H Q _ => ∃ p dx fs v, vs = [.ref p] ∧ H p = some (.ins a.cSum dx fs) ∧ fs.lookup ("where" : Str) = some v ∧ Q v H) [] := by
  refine met1 T.cSum T.mSum_house T.F_suHouse sc_suHouse (fun vs H Q E h => ?_) (fun cdv A outer s H vs Q E hr h => ?_)
  · obtain ⟨p, dx, fs, v, rfl, _⟩ := h
    rfl
  · obtain ⟨p, dx, fs, v, rfl, hp, l, k⟩ := h
    refine ⟨_, (pss_one (ps_ret (pe_fld (pv 0) rfl))), ?_⟩
    exact ⟨_, rfl, p, _, dx, _, _, rfl, hp, T.cSum, T.nSum_where, l, k⟩
theorem m_stHouse {C : Addr} (c : Cls K C) (me : Meth K C "house" a.f_stHouse) (F : Fn1 K "house" "Step.house" s_stHouse ["self"] a.f_stHouse) :
    C8.Met P w K mg base 1 C "house" (fun vs H Q _ => ∃ p, vs = [.ref p] ∧ Q .non H) [] := by
  refine met1 c me F sc_stHouse (fun vs H Q E h => ?_) (fun cdv A outer s H vs Q E hr h => ?_)
  · obtain ⟨p, rfl, _⟩ := h
    rfl
  · obtain ⟨p, rfl, k⟩ := h
    exact ⟨_, (pss_one (ps_ret pe_non)), k⟩
theorem MetX.imp {CX : CXT} {k : Nat} {C : Addr} {m : Str} {sp sp' : Sp} (x : MetX P w K mg base CX k C m sp) (h : ∀ vs H Q E, sp' vs H Q E → sp vs H Q E) : MetX P w K mg base CX k C m sp' := by
  obtain ⟨f, fd, ps, c, me, F, b⟩ := x
  exact ⟨f, fd, ps, c, me, F.imp h, b⟩
theorem MetX.mono {CX : CXT} {j k : Nat} {C : Addr} {m : Str} {sp : Sp} (x : MetX P w K mg base CX j C m sp) (h : j ≤ k) : MetX P w K mg base CX k C m sp := by
  obtain ⟨f, fd, ps, c, me, F, b⟩ := x
  exact ⟨f, fd, ps, c, me, F.mono h, b⟩
theorem met_house (T : Txt K mg a) (s : Sd) : MetX P w K mg base C8.CX0 1 (s.cls a) "house" (spHouse a s) := by
  cases s with
  | take h c => exact (MetX.of (m_ceHouse T.cTake T.mTake_house T.nTake_where T.F_ceHouse)).imp fun vs H Q E ⟨p, dx, e, hp, k⟩ => ⟨p, dx, _, _, e, hp, rfl, k⟩
  | mean h c => exact (MetX.of (m_ceHouse T.cMean T.mMean_house T.nMean_where T.F_ceHouse)).imp fun vs H Q E ⟨p, dx, e, hp, k⟩ => ⟨p, dx, _, _, e, hp, rfl, k⟩
  | give h c => exact (MetX.of (m_ceHouse T.cGive T.mGive_house T.nGive_where T.F_ceHouse)).imp fun vs H Q E ⟨p, dx, e, hp, k⟩ => ⟨p, dx, _, _, e, hp, rfl, k⟩
  | add h c v => exact (MetX.of (m_ceHouse T.cAdd T.mAdd_house T.nAdd_where T.F_ceHouse)).imp fun vs H Q E ⟨p, dx, e, hp, k⟩ => ⟨p, dx, _, _, e, hp, rfl, k⟩
  | sum h l u => exact (MetX.of (m_suHouse T)).imp fun vs H Q E ⟨p, dx, e, hp, k⟩ => ⟨p, dx, _, _, e, hp, rfl, k⟩
  | plus v => exact (MetX.of (m_stHouse T.cPlus T.mPlus_house T.F_stHouse)).imp fun vs H Q E ⟨p, dx, e, hp, k⟩ => ⟨p, e, k⟩
  | need v => exact (MetX.of (m_stHouse T.cNeed T.mNeed_house T.F_stHouse)).imp fun vs H Q E ⟨p, dx, e, hp, k⟩ => ⟨p, e, k⟩
/-! ### sure -/
theorem m_stSure {C : Addr} (c : Cls K C) (me : Meth K C "sure" a.f_stSure) (F : Fn1 K "sure" "Step.sure" s_stSure ["self"] a.f_stSure) :
    C8.Met P w K mg base 1 C "sure" (fun vs H Q _ => ∃ p, vs = [.ref p] ∧ Q (.bl false) H) [] := by
  refine met1 c me F sc_stSure (fun vs H Q E h => ?_) (fun cdv A outer s H vs Q E hr h => ?_)
  · obtain ⟨p, rfl, _⟩ := h
    rfl
  · obtain ⟨p, rfl, k⟩ := h
    exact ⟨_, (pss_one (ps_ret pe_bl)), k⟩
theorem m_giSure (T : Txt K mg a) : C8.Met P w K mg base 1 a.cGive "sure" (fun vs H Q _ => ∃ p, vs = [.ref p] ∧ Q (.bl true) H) [] := by
  refine met1 T.cGive T.mGive_sure T.F_giSure sc_giSure (fun vs H Q E h => ?_) (fun cdv A outer s H vs Q E hr h => ?_)
  · obtain ⟨p, rfl, _⟩ := h
    rfl
  · obtain ⟨p, rfl, k⟩ := h
    exact ⟨_, (pss_one (ps_ret pe_bl)), k⟩
theorem met_sure (T : Txt K mg a) (s : Sd) : MetX P w K mg base C8.CX0 1 (s.cls a) "sure" (spSure a s) := by
  cases s with
  | take h c => exact (MetX.of (m_stSure T.cTake T.mTake_sure T.F_stSure)).imp fun vs H Q E ⟨p, dx, e, hp, k⟩ => ⟨p, e, k⟩
  | mean h c => exact (MetX.of (m_stSure T.cMean T.mMean_sure T.F_stSure)).imp fun vs H Q E ⟨p, dx, e, hp, k⟩ => ⟨p, e, k⟩
  | give h c => exact (MetX.of (m_giSure T)).imp fun vs H Q E ⟨p, dx, e, hp, k⟩ => ⟨p, e, k⟩
  | add h c v => exact (MetX.of (m_stSure T.cAdd T.mAdd_sure T.F_stSure)).imp fun vs H Q E ⟨p, dx, e, hp, k⟩ => ⟨p, e, k⟩
  | sum h l u => exact (MetX.of (m_stSure T.cSum T.mSum_sure T.F_stSure)).imp fun vs H Q E ⟨p, dx, e, hp, k⟩ => ⟨p, e, k⟩
  | plus v => exact (MetX.of (m_stSure T.cPlus T.mPlus_sure T.F_stSure)).imp fun vs H Q E ⟨p, dx, e, hp, k⟩ => ⟨p, e, k⟩
  | need v => exact (MetX.of (m_stSure T.cNeed T.mNeed_sure T.F_stSure)).imp fun vs H Q E ⟨p, dx, e, hp, k⟩ => ⟨p, e, k⟩
/-! ### spelled -/
def spAtCell (C : Addr) : Sp := fun vs H Q _ => ∃ p dx fs x h c, vs = [.ref p, .str x] ∧ H p = some (.ins C dx fs) ∧ fs.lookup ("where" : Str) = some (.int h) ∧ fs.lookup ("cell" : Str) = some (.int c) ∧
  x.length ≤ 100 ∧ Forty h ∧ Forty c ∧ Q (.str (x ++ " " ++ tx h ++ " " ++ tx c)) H
theorem len_app (x y : Str) : (x ++ y).length = x.length + y.length := by
  rw [TL.len_tl, TL.tl_append, List.length_append, ← TL.len_tl, ← TL.len_tl]
theorem blank_len : (" " : Str).length = 1 := by decide +kernel
theorem m_atCell {C : Addr} (T : Txt K mg a) (c : Cls K C) (me : Meth K C "at_cell" a.f_atCell) (n1 : NoAttr K C "where") (n2 : NoAttr K C "cell") : C8.Met P w K mg base 1 C "at_cell" (spAtCell C) [] := by
  refine met1 c me T.F_atCell sc_atCell (fun vs H Q E h => ?_) (fun cdv A outer s H vs Q E hr h => ?_)
  · obtain ⟨p, dx, fs, x, h, c, rfl, _⟩ := h
    rfl
  · obtain ⟨p, dx, fs, x, h, c', rfl, hp, l1, l2, lx, f1, f2, k⟩ := h
    refine ⟨_, (pss_one (ps_ret (pe_op op_add_str (pe_op op_add_str (pe_op op_add_str (pe_op op_add_str (pv 1) pe_str) (pe_callTy call_str_int (by rfl) T.z_str (by decide +kernel) (pa_cons (pe_fld (pv 0) rfl) pa_nil))) pe_str) (pe_callTy call_str_int (by rfl) T.z_str (by decide +kernel) (pa_cons (pe_fld (pv 0) rfl) pa_nil))))), ?_⟩
    have h1 := tx_len f1
    have h2 := tx_len f2
    have hs := sizeLine_eq
    have hb := blank_len
    refine ⟨_, rfl, _, _, rfl, rfl, by omega, _, rfl, p, C, dx, _, _, rfl, hp, c, n1, l1, _, rfl, log2_40 f1, ?_⟩
    refine ⟨_, _, rfl, rfl, ?_, _, _, rfl, rfl, ?_, ?_⟩
    · show (x ++ " ").length + (tx h).length ≤ _
      rw [len_app]
      omega
    · show (x ++ " " ++ tx h).length + (" " : Str).length ≤ _
      rw [len_app, len_app]
      omega
    refine ⟨_, rfl, p, C, dx, _, _, rfl, hp, c, n2, l2, _, rfl, log2_40 f2, _, _, rfl, rfl, ?_, k⟩
    show (x ++ " " ++ tx h ++ " ").length + (tx c').length ≤ _
    rw [len_app, len_app, len_app]
    omega
end
end Pk

set_option Elab.async false
set_option linter.all false
set_option maxRecDepth 100000
set_option maxHeartbeats 2000000
/-! Steps as objects: spelled, step_done, and how they are made. -/
namespace Pk
open PySem PySem.Spec PyProof.Rows L2
section
variable {P : Program} {w : World} {K : PySem.W.Frag} {mg : Str → Option Value} {base : Heap} {a : Adr}
theorem c_atCellTake (T : Txt K mg a) : C8.Met P w K mg base 1 a.cTake "at_cell" (spAtCell a.cTake) [] := m_atCell T T.cTake T.mTake_at_cell T.nTake_where T.nTake_cell
theorem c_atCellMean (T : Txt K mg a) : C8.Met P w K mg base 1 a.cMean "at_cell" (spAtCell a.cMean) [] := m_atCell T T.cMean T.mMean_at_cell T.nMean_where T.nMean_cell
theorem c_atCellGive (T : Txt K mg a) : C8.Met P w K mg base 1 a.cGive "at_cell" (spAtCell a.cGive) [] := m_atCell T T.cGive T.mGive_at_cell T.nGive_where T.nGive_cell
theorem c_atCellAdd (T : Txt K mg a) : C8.Met P w K mg base 1 a.cAdd "at_cell" (spAtCell a.cAdd) [] := m_atCell T T.cAdd T.mAdd_at_cell T.nAdd_where T.nAdd_cell
def spSp2 (C : Addr) (x : Str) : Sp := fun vs H Q _ => ∃ p dx fs h c, vs = [.ref p] ∧ H p = some (.ins C dx fs) ∧ fs.lookup ("at_cell" : Str) = none ∧ fs.lookup ("where" : Str) = some (.int h) ∧ fs.lookup ("cell" : Str) = some (.int c) ∧
  Forty h ∧ Forty c ∧ Q (.str (x ++ " " ++ tx h ++ " " ++ tx c)) H
theorem m_taSp (T : Txt K mg a) : C8.Met P w K mg base 2 a.cTake "spelled" (spSp2 a.cTake "take") [] := by
  refine met1 T.cTake T.mTake_spelled T.F_taSp sc_taSp (fun vs H Q E h => ?_) (fun cdv A outer s H vs Q E hr h => ?_)
  · obtain ⟨p, dx, fs, h, c, rfl, _⟩ := h
    rfl
  · obtain ⟨p, dx, fs, h, c, rfl, hp, l0, l1, l2, f1, f2, k⟩ := h
    refine ⟨_, (pss_one (ps_ret (C8.pe_mt (c_atCellTake T) hr (by decide) (pv 0) (pa_cons pe_str pa_nil)))), ?_⟩
    exact ⟨_, rfl, p, dx, fs, rfl, hp, l0, p, dx, fs, _, h, c, rfl, hp, l1, l2, by decide +kernel, f1, f2, k⟩
theorem m_meSp (T : Txt K mg a) : C8.Met P w K mg base 2 a.cMean "spelled" (spSp2 a.cMean "mean") [] := by
  refine met1 T.cMean T.mMean_spelled T.F_meSp sc_meSp (fun vs H Q E h => ?_) (fun cdv A outer s H vs Q E hr h => ?_)
  · obtain ⟨p, dx, fs, h, c, rfl, _⟩ := h
    rfl
  · obtain ⟨p, dx, fs, h, c, rfl, hp, l0, l1, l2, f1, f2, k⟩ := h
    refine ⟨_, (pss_one (ps_ret (C8.pe_mt (c_atCellMean T) hr (by decide) (pv 0) (pa_cons pe_str pa_nil)))), ?_⟩
    exact ⟨_, rfl, p, dx, fs, rfl, hp, l0, p, dx, fs, _, h, c, rfl, hp, l1, l2, by decide +kernel, f1, f2, k⟩
theorem m_giSp (T : Txt K mg a) : C8.Met P w K mg base 2 a.cGive "spelled" (spSp2 a.cGive "give") [] := by
  refine met1 T.cGive T.mGive_spelled T.F_giSp sc_giSp (fun vs H Q E h => ?_) (fun cdv A outer s H vs Q E hr h => ?_)
  · obtain ⟨p, dx, fs, h, c, rfl, _⟩ := h
    rfl
  · obtain ⟨p, dx, fs, h, c, rfl, hp, l0, l1, l2, f1, f2, k⟩ := h
    refine ⟨_, (pss_one (ps_ret (C8.pe_mt (c_atCellGive T) hr (by decide) (pv 0) (pa_cons pe_str pa_nil)))), ?_⟩
    exact ⟨_, rfl, p, dx, fs, rfl, hp, l0, p, dx, fs, _, h, c, rfl, hp, l1, l2, by decide +kernel, f1, f2, k⟩
theorem m_adSp (T : Txt K mg a) : C8.Met P w K mg base 2 a.cAdd "spelled" (fun vs H Q _ => ∃ p dx h c v, vs = [.ref p] ∧ H p = some (.ins a.cAdd dx (Sd.add h c v).flds) ∧ Forty h ∧ Forty c ∧ Forty v ∧ Q (.str (Sd.add h c v).text) H) [] := by
  refine met1 T.cAdd T.mAdd_spelled T.F_adSp sc_adSp (fun vs H Q E h => ?_) (fun cdv A outer s H vs Q E hr h => ?_)
  · obtain ⟨p, dx, h, c, v, rfl, _⟩ := h
    rfl
  · obtain ⟨p, dx, h, c, v, rfl, hp, f1, f2, f3, k⟩ := h
    refine ⟨_, (pss_one (ps_ret (pe_op op_add_str (pe_op op_add_str (C8.pe_mt (c_atCellAdd T) hr (by decide) (pv 0) (pa_cons pe_str pa_nil)) pe_str) (pe_callTy call_str_int (by rfl) T.z_str (by decide +kernel) (pa_cons (pe_fld (pv 0) rfl) pa_nil))))), ?_⟩
    have h1 := tx_len f1
    have h2 := tx_len f2
    have h3 := tx_len f3
    have hs := sizeLine_eq
    have hb := blank_len
    have hw : ("add" : Str).length = 3 := by decide +kernel
    refine ⟨_, rfl, p, dx, _, rfl, hp, rfl, p, dx, _, _, h, c, rfl, hp, rfl, rfl, by decide +kernel, f1, f2, _, _, rfl, rfl, ?_, ?_⟩
    · show ("add" ++ " " ++ tx h ++ " " ++ tx c).length + (" " : Str).length ≤ _
      rw [len_app, len_app, len_app, len_app]
      omega
    refine ⟨_, rfl, p, _, dx, _, _, rfl, hp, T.cAdd, T.nAdd_amount, rfl, _, rfl, log2_40 f3, _, _, rfl, rfl, ?_, k⟩
    show ("add" ++ " " ++ tx h ++ " " ++ tx c ++ " ").length + (tx v).length ≤ _
    rw [len_app, len_app, len_app, len_app, len_app]
    omega
theorem sumb : ("sum " : Str) = "sum" ++ " " := by decide +kernel
theorem m_suSp (T : Txt K mg a) : C8.Met P w K mg base 1 a.cSum "spelled" (fun vs H Q _ => ∃ p dx h l u, vs = [.ref p] ∧ H p = some (.ins a.cSum dx (Sd.sum h l u).flds) ∧ Forty h ∧ Forty l ∧ Forty u ∧ Q (.str (Sd.sum h l u).text) H) [] := by
  refine met1 T.cSum T.mSum_spelled T.F_suSp sc_suSp (fun vs H Q E h => ?_) (fun cdv A outer s H vs Q E hr h => ?_)
  · obtain ⟨p, dx, h, l, u, rfl, _⟩ := h
    rfl
  · obtain ⟨p, dx, h, l, u, rfl, hp, f1, f2, f3, k⟩ := h
    refine ⟨_, (pss_one (ps_ret (pe_op op_add_str (pe_op op_add_str (pe_op op_add_str (pe_op op_add_str (pe_op op_add_str pe_str (pe_callTy call_str_int (by rfl) T.z_str (by decide +kernel) (pa_cons (pe_fld (pv 0) rfl) pa_nil))) pe_str) (pe_callTy call_str_int (by rfl) T.z_str (by decide +kernel) (pa_cons (pe_fld (pv 0) rfl) pa_nil))) pe_str) (pe_callTy call_str_int (by rfl) T.z_str (by decide +kernel) (pa_cons (pe_fld (pv 0) rfl) pa_nil))))), ?_⟩
    have h1 := tx_len f1
    have h2 := tx_len f2
    have h3 := tx_len f3
    have hs := sizeLine_eq
    have hb := blank_len
    have hw : ("sum " : Str).length = 4 := by decide +kernel
    refine ⟨_, rfl, p, _, dx, _, _, rfl, hp, T.cSum, T.nSum_where, rfl, _, rfl, log2_40 f1, _, _, rfl, rfl, ?_, _, _, rfl, rfl, ?_, ?_⟩
    · show ("sum " : Str).length + (tx h).length ≤ _
      omega
    · show ("sum " ++ tx h : Str).length + (" " : Str).length ≤ _
      rw [len_app]
      omega
    refine ⟨_, rfl, p, _, dx, _, _, rfl, hp, T.cSum, T.nSum_low, rfl, _, rfl, log2_40 f2, _, _, rfl, rfl, ?_, _, _, rfl, rfl, ?_, ?_⟩
    · show ("sum " ++ tx h ++ " " : Str).length + (tx l).length ≤ _
      rw [len_app, len_app]
      omega
    · show ("sum " ++ tx h ++ " " ++ tx l : Str).length + (" " : Str).length ≤ _
      rw [len_app, len_app, len_app]
      omega
    refine ⟨_, rfl, p, _, dx, _, _, rfl, hp, T.cSum, T.nSum_high, rfl, _, rfl, log2_40 f3, _, _, rfl, rfl, ?_, ?_⟩
    · show ("sum " ++ tx h ++ " " ++ tx l ++ " " : Str).length + (tx u).length ≤ _
      rw [len_app, len_app, len_app, len_app]
      omega
    · have e : (Sd.sum h l u).text = "sum " ++ tx h ++ " " ++ tx l ++ " " ++ tx u := by
        show "sum" ++ " " ++ tx h ++ " " ++ tx l ++ " " ++ tx u = _
        rw [sumb]
      rw [e] at k
      exact k
theorem met_spelled (T : Txt K mg a) (s : Sd) (ok : s.Ok) (hh : s.house ≠ none) : MetX P w K mg base C8.CX0 2 (s.cls a) "spelled" (spSpelled a s) := by
  cases s with
  | take h c => exact (MetX.of (m_taSp T)).imp fun vs H Q E ⟨p, dx, e, hp, k⟩ => ⟨p, dx, _, h, c, e, hp, rfl, rfl, rfl, ok.1.forty, ok.2.forty, k⟩
  | mean h c => exact (MetX.of (m_meSp T)).imp fun vs H Q E ⟨p, dx, e, hp, k⟩ => ⟨p, dx, _, h, c, e, hp, rfl, rfl, rfl, ok.1.forty, ok.2.forty, k⟩
  | give h c => exact (MetX.of (m_giSp T)).imp fun vs H Q E ⟨p, dx, e, hp, k⟩ => ⟨p, dx, _, h, c, e, hp, rfl, rfl, rfl, ok.1.forty, ok.2.forty, k⟩
  | add h c v => exact (MetX.of (m_adSp T)).imp fun vs H Q E ⟨p, dx, e, hp, k⟩ => ⟨p, dx, h, c, v, e, hp, ok.1.forty, ok.2.1.forty, ok.2.2, k⟩
  | sum h l u => exact ((MetX.of (m_suSp T)).imp fun vs H Q E ⟨p, dx, e, hp, k⟩ => ⟨p, dx, h, l, u, e, hp, ok.1.forty, ok.2.1.forty, ok.2.2.1.forty, k⟩).mono (by decide)
  | plus v => exact absurd rfl hh
  | need v => exact absurd rfl hh
/-! ### step_done -/
theorem m_plDone (T : Txt K mg a) (v : Int) : MetX P w K mg base (L2.CX P w) 1 a.cPlus "step_done" (spDone a (.plus v)) := by
  refine metX1 T.cPlus T.mPlus_step_done T.F_plDone sc_plDone (fun vs H Q E h => ?_) (fun cdv A outer s H vs Q E hr h => ?_)
  · obtain ⟨p, dx, h, x, rfl, _⟩ := h
    rfl
  · obtain ⟨p, dx, h, x, rfl, hp, _, k⟩ := h
    refine ⟨_, (pss_one (ps_ret (pe_tup (pa_cons (pe_op op_add (pv 1) (pe_fld (pv 0) rfl)) (pa_cons (pe_tup pa_nil) pa_nil))))), ?_⟩
    refine ⟨_, rfl, _, rfl, p, _, dx, _, _, rfl, hp, T.cPlus, T.nPlus_amount, rfl, _, _, rfl, rfl, ⟨Nat.zero_le _, fun q hq => ⟨by show 2 ≤ sizeLine; decide, fun t ht => ?_⟩⟩⟩
    exact k _ rfl t _ _ ((Same.upd hq).trans (Same.upd ht)) upd_same
theorem m_neDone (T : Txt K mg a) (v : Int) : MetX P w K mg base (L2.CX P w) 1 a.cNeed "step_done" (spDone a (.need v)) := by
  refine metX1 T.cNeed T.mNeed_step_done T.F_neDone sc_neDone (fun vs H Q E h => ?_) (fun cdv A outer s H vs Q E hr h => ?_)
  · obtain ⟨p, dx, h, x, rfl, _⟩ := h
    rfl
  · obtain ⟨p, dx, h, x, rfl, hp, kE, k⟩ := h
    refine ⟨_, pss_cons (ps_if (pt_cmpR op_lt (pv 1) (pe_fld (pv 0) rfl) (nomark _)) (pss_one (ps_raise rfl (takes_of rfl rfl rfl rfl) (pmk_own PySem.F.excBase_ValueError T.xNoNeed T.gNoNeed T.kNoNeed (raises_own T.bNoNeed T.tNoNeed) (by exact rfl)))) pss_nil)
      (pss_one (ps_ret (pe_tup (pa_cons (pv 1) (pa_cons (pe_tup pa_nil) pa_nil))))), ?_⟩
    refine ⟨_, rfl, _, rfl, p, _, dx, _, _, rfl, hp, T.cNeed, T.nNeed_amount, rfl, _, _, rfl, rfl, _, rfl, ?_⟩
    by_cases c : h < v
    · rw [decide_eq_true c]
      refine iteT ?_
      exact kE (if_pos c)
    · rw [decide_eq_false c]
      refine iteF ?_
      refine ⟨_, rfl, ⟨Nat.zero_le _, fun q hq => ⟨by show 2 ≤ sizeLine; decide, fun t ht => ?_⟩⟩⟩
      exact k _ (if_neg c) t _ _ ((Same.upd hq).trans (Same.upd ht)) upd_same
theorem met_done (T : Txt K mg a) (s : Sd) (hh : s.house = none) : MetX P w K mg base (L2.CX P w) 1 (s.cls a) "step_done" (spDone a s) := by
  cases s with
  | plus v => exact m_plDone T v
  | need v => exact m_neDone T v
  | take h c => cases hh
  | mean h c => cases hh
  | give h c => cases hh
  | add h c v => cases hh
  | sum h l u => cases hh
/-! ### how steps are made -/
/-- what stood is kept, but p itself -/
def But (p : Addr) (H H' : Hp) : Prop := ∀ b o, H b = some o → b ≠ p → H' b = some o
theorem But.refl (p : Addr) (H : Hp) : But p H H := fun _ _ e _ => e
theorem But.upd (p : Addr) (H : Hp) (o : HO) : But p H (upd H p o) := fun b u e hb => by rw [upd_ne hb]; exact e
theorem But.trans {p : Addr} {H H1 H2 : Hp} (x : But p H H1) (y : But p H1 H2) : But p H H2 := fun b u e hb => y b u (x b u e hb) hb
def spIni2 (C : Addr) (f g : Str) : Sp := fun vs H Q _ => ∃ p dx x y, vs = [.ref p, x, y] ∧ H p = some (.ins C dx []) ∧ ∀ H', H' p = some (.ins C dx [(f, x), (g, y)]) → But p H H' → Q .non H'
theorem b_ceInit {C : Addr} (c : Cls K C) (n1 : NoAttr K C "where") (n2 : NoAttr K C "cell") {k : Nat} {f : Addr} (cdv : Value) (A : Around) (outer : List Env) (s : Shared) (H : Hp) (vs : List V) (Q : VK) (E : XK)
    (hr : Room k (A.deeper (envOfC "CellStep.__init__" (C8.fnScope s_ceInit) s.heap.objs.size f cdv))) (h : spIni2 C "where" "cell" vs H Q E) :
    ∃ t, PSs (cxOf C8.CX0 P w K mg base ["self", "where", "cell"] "CellStep.__init__" (C8.fnScope s_ceInit) f cdv A outer s H E).nox (C8.fnBody s_ceInit) t ∧ t { nx := fun _ H' => Q .non H', rt := Q } (start ["self", "where", "cell"] vs) H := by
  obtain ⟨p, dx, x, y, rfl, hp, k⟩ := h
  refine ⟨_, (pss_cons (ps_fld (pv 0) (pv 1) rfl)
      (pss_one (ps_fld (pv 0) (pv 2) rfl))), ?_⟩
  refine ⟨_, rfl, _, rfl, p, C, dx, _, rfl, hp, c, n1, by decide, _, rfl, _, rfl, p, C, dx, _, rfl, upd_same, c, n2, by show 1 < 1000; decide, ?_⟩
  exact k _ upd_same ((But.upd _ _ _).trans (But.upd _ _ _))
theorem len_ini2 {C : Addr} {f g : Str} : ∀ vs H Q E, spIni2 C f g vs H Q E → vs.length = 3 := fun vs H Q E ⟨p, dx, x, y, e, _⟩ => by rw [e]; rfl
theorem c_mkTake (T : Txt K mg a) : C8.Mak P w K mg base 1 "TakeStep" a.cTake (spIni2 a.cTake "where" "cell") [] :=
  mak1 T.kTake T.gTake T.F_ceInit sc_ceInit len_ini2 fun cdv A outer s H vs Q E hr h => b_ceInit T.cTake T.nTake_where T.nTake_cell cdv A outer s H vs Q E hr h
theorem c_mkMean (T : Txt K mg a) : C8.Mak P w K mg base 1 "MeanStep" a.cMean (spIni2 a.cMean "where" "cell") [] :=
  mak1 T.kMean T.gMean T.F_ceInit sc_ceInit len_ini2 fun cdv A outer s H vs Q E hr h => b_ceInit T.cMean T.nMean_where T.nMean_cell cdv A outer s H vs Q E hr h
theorem c_mkGive (T : Txt K mg a) : C8.Mak P w K mg base 1 "GiveStep" a.cGive (spIni2 a.cGive "where" "cell") [] :=
  mak1 T.kGive T.gGive T.F_ceInit sc_ceInit len_ini2 fun cdv A outer s H vs Q E hr h => b_ceInit T.cGive T.nGive_where T.nGive_cell cdv A outer s H vs Q E hr h
theorem f_ceInitAdd (T : Txt K mg a) : C8.CalAt P w K mg base 1 a.f_ceInit (spIni2 a.cAdd "where" "cell") :=
  fna1 T.F_ceInit sc_ceInit len_ini2 fun cdv A outer s H vs Q E hr h => b_ceInit T.cAdd T.nAdd_where T.nAdd_cell cdv A outer s H vs Q E hr h
def spIni3 (C : Addr) (f g i : Str) : Sp := fun vs H Q _ => ∃ p dx x y z, vs = [.ref p, x, y, z] ∧ H p = some (.ins C dx []) ∧ ∀ H', H' p = some (.ins C dx [(f, x), (g, y), (i, z)]) → But p H H' → Q .non H'
def spIni1 (C : Addr) (f : Str) : Sp := fun vs H Q _ => ∃ p dx x, vs = [.ref p, x] ∧ H p = some (.ins C dx []) ∧ ∀ H', H' p = some (.ins C dx [(f, x)]) → But p H H' → Q .non H'
theorem c_mkAdd (T : Txt K mg a) : C8.Mak P w K mg base 2 "AddStep" a.cAdd (spIni3 a.cAdd "where" "cell" "amount") [] := by
  refine mak1 T.kAdd T.gAdd T.F_adInit sc_adInit (fun vs H Q E h => ?_) (fun cdv A outer s H vs Q E hr h => ?_)
  · obtain ⟨p, dx, x, y, z, rfl, _⟩ := h
    rfl
  · obtain ⟨p, dx, x, y, z, rfl, hp, k⟩ := h
    obtain ⟨mc, rd, cv⟩ := T.rCell
    obtain ⟨fd, ps, FI, kp, bI⟩ := (f_ceInitAdd (P := P) (w := w) (base := base) T).ex
    refine ⟨_, (pss_cons (ps_expr (pe_cfn (E := C8.E0) (C8.pe_gc (v := .ref a.cCell) rfl ⟨_, T.gCell, rfl⟩) rd cv kp FI (hr.mono (by decide)) bI C8.pass0 (pa_cons (pv 0) (pa_cons (pv 1) (pa_cons (pv 2) pa_nil)))))
      (pss_one (ps_fld (pv 0) (pv 3) rfl))), ?_⟩
    refine ⟨rfl, _, rfl, _, rfl, _, rfl, p, dx, x, y, rfl, hp, fun H1 h1 b1 => ?_⟩
    refine ⟨_, rfl, _, rfl, p, _, dx, _, rfl, h1, T.cAdd, T.nAdd_amount, by show 2 < 1000; decide, ?_⟩
    exact k _ upd_same (b1.trans (But.upd _ _ _))
theorem c_mkSum (T : Txt K mg a) : C8.Mak P w K mg base 1 "SumStep" a.cSum (spIni3 a.cSum "where" "low" "high") [] := by
  refine mak1 T.kSum T.gSum T.F_suInit sc_suInit (fun vs H Q E h => ?_) (fun cdv A outer s H vs Q E hr h => ?_)
  · obtain ⟨p, dx, x, y, z, rfl, _⟩ := h
    rfl
  · obtain ⟨p, dx, x, y, z, rfl, hp, k⟩ := h
    refine ⟨_, (pss_cons (ps_fld (pv 0) (pv 1) rfl)
      (pss_cons (ps_fld (pv 0) (pv 2) rfl)
      (pss_one (ps_fld (pv 0) (pv 3) rfl)))), ?_⟩
    refine ⟨_, rfl, _, rfl, p, _, dx, _, rfl, hp, T.cSum, T.nSum_where, by decide, _, rfl, _, rfl, p, _, dx, _, rfl, upd_same, T.cSum, T.nSum_low, by show 1 < 1000; decide,
      _, rfl, _, rfl, p, _, dx, _, rfl, upd_same, T.cSum, T.nSum_high, by show 2 < 1000; decide, ?_⟩
    exact k _ upd_same ((But.upd _ _ _).trans ((But.upd _ _ _).trans (But.upd _ _ _)))
theorem c_mkPlus (T : Txt K mg a) : C8.Mak P w K mg base 1 "PlusStep" a.cPlus (spIni1 a.cPlus "amount") [] := by
  refine mak1 T.kPlus T.gPlus T.F_plInit sc_plInit (fun vs H Q E h => ?_) (fun cdv A outer s H vs Q E hr h => ?_)
  · obtain ⟨p, dx, x, rfl, _⟩ := h
    rfl
  · obtain ⟨p, dx, x, rfl, hp, k⟩ := h
    refine ⟨_, (pss_one (ps_fld (pv 0) (pv 1) rfl)), ?_⟩
    exact ⟨_, rfl, _, rfl, p, _, dx, _, rfl, hp, T.cPlus, T.nPlus_amount, by decide, k _ upd_same (But.upd _ _ _)⟩
theorem c_mkNeed (T : Txt K mg a) : C8.Mak P w K mg base 1 "NeedStep" a.cNeed (spIni1 a.cNeed "amount") [] := by
  refine mak1 T.kNeed T.gNeed T.F_neInit sc_neInit (fun vs H Q E h => ?_) (fun cdv A outer s H vs Q E hr h => ?_)
  · obtain ⟨p, dx, x, rfl, _⟩ := h
    rfl
  · obtain ⟨p, dx, x, rfl, hp, k⟩ := h
    refine ⟨_, (pss_one (ps_fld (pv 0) (pv 1) rfl)), ?_⟩
    exact ⟨_, rfl, _, rfl, p, _, dx, _, rfl, hp, T.cNeed, T.nNeed_amount, by decide, k _ upd_same (But.upd _ _ _)⟩
end
end Pk

set_option Elab.async false
set_option linter.all false
set_option maxRecDepth 100000
set_option maxHeartbeats 2000000
/-! Texts read: a whole number, a step, a pact. -/
namespace Pk
open PySem PySem.Spec PyProof.Rows L2
theorem ite_true_of {c : Bool} {A B : Prop} (hc : c = true) (h : A) : if c = true then A else B := by rw [if_pos hc]; exact h
theorem ite_false_of {c : Bool} {A B : Prop} (hc : c = false) (h : B) : if c = true then A else B := by rw [hc, if_neg Bool.false_ne_true]; exact h
section
variable {P : Program} {w : World} {K : PySem.W.Frag} {mg : Str → Option Value} {base : Heap} {a : Adr}
def spWhole : Sp := fun vs H Q _ => ∃ n, vs = [.str (tx n), .int 40] ∧ Forty n ∧ Q (.int n) H
theorem str_ne {x y : List Nat} (h : x ≠ y) : ¬ (V.str (SX.S x) = V.str (SX.S y)) := fun e => h (SX.S_inj (V.str.inj e))
theorem c_whole (T : Txt K mg a) : C8.Cal P w K mg base 1 "whole_or_none" spWhole [] := by
  refine cal1 T.F_whole T.g_whole sc_whole (fun vs H Q E h => ?_) (fun cdv A outer s H vs Q E hr h => ?_)
  · obtain ⟨n, rfl, _⟩ := h
    rfl
  · obtain ⟨n, rfl, f, k⟩ := h
    refine ⟨_, (pss_cons (ps_set (i := 2) sc_whole.nd rfl (Or.inl rfl) (pv 0))
      (C8.pss_cut (ps_if (pt_val (pe_m1 PySem.F.slot_str_startswith PySem.F.type_str_startswith mt_startswith (pv 0) pe_str)) (pss_one (ps_set (i := 2) sc_whole.nd rfl (Or.inl rfl) (pe_slice sl_str (pv 0) (po_some pe_int) po_none))) pss_nil)
      (pss_cons (ps_if (PW.pt (pw_or (pt_cmpR op_eq (pv 2) pe_str (nomark _)) (pw_or (pt_cmpR op_gt (pe_callB call_len_str (by rfl) T.z_len PySem.boot_len (pa_cons (pv 2) pa_nil)) (pv 1) (nomark _)) (pw_or1 (pt_cmpR op_ne (pe_bm PySem.F.plainAttrs_str PySem.F.slot_str_strip PySem.F.type_str_strip mt_stripChars (pv 2) (pa_cons (C8.pe_gc rfl T.v_FIGURES) pa_nil)) pe_str (nomark _)))))) (pss_one (ps_ret pe_non)) pss_nil)
      (pss_cons (ps_if (PW.pt (pw_and (pt_cmpR op_eq (pe_item_str (pv 2) pe_int (fun _ _ => rfl)) pe_str (nomark _)) (pw_and1 (pt_cmpR op_ne (pv 0) pe_str (nomark _))))) (pss_one (ps_ret pe_non)) pss_nil)
      (pss_one (ps_ret (pe_callTy call_int_str (by rfl) T.z_int (by decide +kernel) (pa_cons (pv 0) pa_nil)))))))), ?_⟩
    have hs := sizeLine_eq
    have hl := numL_40 f
    have ht := num_41 f
    refine ⟨_, rfl, fun σ' H' => σ' = [some (.str (tx n)), some (.int 40), some (.str (SX.S (TL.numL n.natAbs)))] ∧ H' = H, ?_, ?_⟩
    · -- the minus
      refine ⟨_, rfl, ⟨_, rfl⟩, _, _, rfl, rfl, _, rfl, ?_⟩
      have e : Txt.startswith (tx n) "-" = decide (n < 0) := by rw [tx_S, minus_S, num_starts]
      by_cases c : n < 0
      · rw [e, decide_eq_true c]
        refine iteT ?_
        refine ⟨_, rfl, _, rfl, _, rfl, by rw [tx_S, SX.S_len]; omega, ?_⟩
        refine ⟨?_, rfl⟩
        have e2 : cutS (tx n) (some 1) none = SX.S (TL.numL n.natAbs) := by rw [tx_S, num_rest c]
        rw [e2]
        rfl
      · rw [e, decide_eq_false c]
        refine iteF ⟨?_, rfl⟩
        have e2 : tx n = SX.S (TL.numL n.natAbs) := by rw [tx_S, num_pos c]
        show [some (V.str (tx n)), some (V.int 40), some (V.str (tx n))] = _
        rw [← e2]
    · rintro σ' H' ⟨rfl, rfl⟩
      -- the figures
      refine ⟨_, rfl, rfl, _, rfl, ?_⟩
      refine ite_false_of (decide_eq_false (by rw [nil_S]; exact str_ne (TL.numL_ne _))) ?_
      refine ⟨_, rfl, _, rfl, by rw [SX.S_len]; omega, _, rfl, _, _, rfl, rfl, _, rfl, ?_⟩
      refine ite_false_of (decide_eq_false (by rw [SX.S_len]; omega)) ?_
      refine ⟨_, rfl, rfl, _, _, rfl, rfl, by rw [SX.S_len]; omega, rfl, _, rfl, ?_⟩
      refine ite_false_of ?_ ?_
      · rw [figures_S, strip_digits (TL.numL_digits _) (TL.numL_ne _), nil_S]
        decide +kernel
      obtain ⟨d, r, hd⟩ : ∃ d r, TL.numL n.natAbs = d :: r := by
        cases e : TL.numL n.natAbs with
        | nil => exact absurd e (TL.numL_ne _)
        | cons d r => exact ⟨d, r, rfl⟩
      refine ⟨_, rfl, _, _, d, rfl, rfl, by decide, by decide, ?_, ?_, ?_⟩
      · rw [SX.S_len, hd, List.length_cons]
        omega
      · rw [hd]
        rfl
      refine ⟨rfl, _, rfl, ?_⟩
      have last : intText? (tx n) = some n := by rw [tx_S]; exact int_num f
      by_cases c : d = 48
      · subst c
        have hz : n = 0 := by
          by_cases hz : n.natAbs = 0
          · omega
          · have := numL_head n.natAbs (by omega)
            rw [hd] at this
            exact absurd rfl this
        refine ite_true_of (decide_eq_true (by rw [nought_S])) ?_
        refine ⟨_, rfl, rfl, _, rfl, ?_⟩
        refine ite_false_of ?_ ?_
        · subst hz
          have e : tx 0 = "0" := by decide +kernel
          rw [e]
          decide +kernel
        · exact ⟨_, rfl, _, _, rfl, last, by rw [tx_S, SX.S_len]; omega, k⟩
      · refine ite_false_of (decide_eq_false (by rw [nought_S]; exact str_ne (x := [d]) (y := [48]) (by intro e; exact c (List.cons.inj e).1))) ?_
        exact ⟨_, rfl, _, _, rfl, last, by rw [tx_S, SX.S_len]; omega, k⟩
/-! ### the step of a word and its numbers -/
/-- a step is there, new or not; what stood stands -/
def GivesStep (a : Adr) (s : Sd) (H : Hp) (Q : VK) : Prop := ∀ p H', Same H H' → StepAt a H' p s → Q (.ref p) H'
theorem made_same {H H1 : Hp} {x dx C : Addr} (nx : H x = Option.none) (nd : H dx = Option.none) (k : But x (upd (upd H dx (.own x)) x (.ins C dx [])) H1) : Same H H1 := Same.made nx nd k
def spAtCellOr (a : Adr) : Sp := fun vs H Q _ => ∃ (s : Sd) (h c : Int), (s = .take h c ∨ s = .mean h c ∨ s = .give h c) ∧ vs = [.str s.word, .int h, .int c] ∧ GivesStep a s H Q
theorem c_atCellOr (T : Txt K mg a) : C8.Cal P w K mg base 3 "at_cell_or_none" (spAtCellOr a) [] := by
  refine cal1 T.F_atCellOr T.g_atCellOr sc_atCellOr (fun vs H Q E h => ?_) (fun cdv A outer s H vs Q E hr h => ?_)
  · obtain ⟨s, h, c, _, rfl, _⟩ := h
    rfl
  · obtain ⟨s, h, c, hs, rfl, k⟩ := h
    refine ⟨_, (pss_cons (ps_if (pt_cmpR op_eq (pv 0) pe_str (nomark _)) (pss_one (ps_ret (C8.pe_mk (c_mkTake T) hr (by decide) rfl (pa_cons (pv 1) (pa_cons (pv 2) pa_nil))))) pss_nil)
      (pss_cons (ps_if (pt_cmpR op_eq (pv 0) pe_str (nomark _)) (pss_one (ps_ret (C8.pe_mk (c_mkMean T) hr (by decide) rfl (pa_cons (pv 1) (pa_cons (pv 2) pa_nil))))) pss_nil)
      (pss_cons (ps_if (pt_cmpR op_eq (pv 0) pe_str (nomark _)) (pss_one (ps_ret (C8.pe_mk (c_mkGive T) hr (by decide) rfl (pa_cons (pv 1) (pa_cons (pv 2) pa_nil))))) pss_nil)
      (pss_one (ps_ret pe_non))))), ?_⟩
    refine ⟨_, rfl, rfl, _, rfl, ?_⟩
    rcases hs with rfl | rfl | rfl
    · refine ite_true_of (show decide (V.str "take" = V.str "take") = true by decide +kernel) ?_
      refine ⟨_, rfl, _, rfl, fun x dx nx nd ne => ⟨x, dx, _, _, rfl, upd_same, fun H1 h1 b1 => ⟨rfl, ?_⟩⟩⟩
      exact k x H1 (made_same nx nd b1) ⟨dx, h1⟩
    · refine ite_false_of (show decide (V.str "mean" = V.str "take") = false by decide +kernel) ?_
      refine ⟨_, rfl, rfl, _, rfl, ?_⟩
      refine ite_true_of (show decide (V.str "mean" = V.str "mean") = true by decide +kernel) ?_
      refine ⟨_, rfl, _, rfl, fun x dx nx nd ne => ⟨x, dx, _, _, rfl, upd_same, fun H1 h1 b1 => ⟨rfl, ?_⟩⟩⟩
      exact k x H1 (made_same nx nd b1) ⟨dx, h1⟩
    · refine ite_false_of (show decide (V.str "give" = V.str "take") = false by decide +kernel) ?_
      refine ⟨_, rfl, rfl, _, rfl, ?_⟩
      refine ite_false_of (show decide (V.str "give" = V.str "mean") = false by decide +kernel) ?_
      refine ⟨_, rfl, rfl, _, rfl, ?_⟩
      refine ite_true_of (show decide (V.str "give" = V.str "give") = true by decide +kernel) ?_
      refine ⟨_, rfl, _, rfl, fun x dx nx nd ne => ⟨x, dx, _, _, rfl, upd_same, fun H1 h1 b1 => ⟨rfl, ?_⟩⟩⟩
      exact k x H1 (made_same nx nd b1) ⟨dx, h1⟩
end
end Pk

set_option Elab.async false
set_option linter.all false
set_option maxRecDepth 100000
set_option maxHeartbeats 2000000
/-! Steps and pacts read. -/
namespace Pk
open PySem PySem.Spec PyProof.Rows L2
theorem dN {c : Prop} [Decidable c] (h : ¬ c) : decide c = false := decide_eq_false h
theorem dY {c : Prop} [Decidable c] (h : c) : decide c = true := decide_eq_true h
section
variable {P : Program} {w : World} {K : PySem.W.Frag} {mg : Str → Option Value} {base : Heap} {a : Adr}
def spStepOr (a : Adr) : Sp := fun vs H Q _ => ∃ (s : Sd) (q : Addr), s.Ok ∧ vs = [.str s.word, .ref q] ∧ H q = some (.lst (s.nums.map V.int)) ∧ GivesStep a s H Q
theorem i21 : ¬ (V.int 2 = V.int 1) := by decide
theorem i31 : ¬ (V.int 3 = V.int 1) := by decide
theorem i32 : ¬ (V.int 3 = V.int 2) := by decide
theorem c_stepOr (T : Txt K mg a) : C8.Cal P w K mg base 4 "step_or_none" (spStepOr a) [] := by
  refine cal1 T.F_stepOr T.g_stepOr sc_stepOr (fun vs H Q E h => ?_) (fun cdv A outer s H vs Q E hr h => ?_)
  · obtain ⟨s, q, _, rfl, _⟩ := h
    rfl
  · obtain ⟨s, q, ok, rfl, hq, k⟩ := h
    refine ⟨_, (pss_cons (ps_set (i := 2) sc_stepOr.nd rfl (Or.inl rfl) (pe_callB call_len_seq (by rfl) T.z_len PySem.boot_len (pa_cons (pv 1) pa_nil)))
      (pss_cons (ps_if (PW.pt (pw_and (pt_cmpR op_eq (pv 2) pe_int (nomark _)) (pw_and1 (pt_cmpR op_eq (pv 0) pe_str (nomark _))))) (pss_one (ps_ret (C8.pe_mk (c_mkPlus T) hr (by decide) rfl (pa_cons (pe_ix ix_list (pv 1) pe_int (fun _ _ => rfl)) pa_nil)))) pss_nil)
      (pss_cons (ps_if (PW.pt (pw_and (pt_cmpR op_eq (pv 2) pe_int (nomark _)) (pw_and1 (pt_cmpR op_eq (pv 0) pe_str (nomark _))))) (pss_one (ps_ret (C8.pe_mk (c_mkNeed T) hr (by decide) rfl (pa_cons (pe_ix ix_list (pv 1) pe_int (fun _ _ => rfl)) pa_nil)))) pss_nil)
      (pss_cons (ps_if (PW.pt (pw_or (pt_cmpR op_lt (pv 2) pe_int (nomark _)) (pw_or (pt_cmpR op_gt (pv 2) pe_int (nomark _)) (pw_or (pt_cmpR op_lt (pe_ix ix_list (pv 1) pe_int (fun _ _ => rfl)) pe_int (nomark _)) (pw_or1 (pt_cmpR op_lt (pe_ix ix_list (pv 1) pe_int (fun _ _ => rfl)) pe_int (nomark _))))))) (pss_one (ps_ret pe_non)) pss_nil)
      (pss_cons (ps_if (pt_cmpR op_eq (pv 2) pe_int (nomark _)) (pss_one (ps_ret (C8.pe_c (c_atCellOr T) hr (by decide) rfl (pa_cons (pv 0) (pa_cons (pe_ix ix_list (pv 1) pe_int (fun _ _ => rfl)) (pa_cons (pe_ix ix_list (pv 1) pe_int (fun _ _ => rfl)) pa_nil)))))) pss_nil)
      (pss_cons (ps_if (pt_cmpR op_eq (pv 0) pe_str (nomark _)) (pss_one (ps_ret (C8.pe_mk (c_mkAdd T) hr (by decide) rfl (pa_cons (pe_ix ix_list (pv 1) pe_int (fun _ _ => rfl)) (pa_cons (pe_ix ix_list (pv 1) pe_int (fun _ _ => rfl)) (pa_cons (pe_ix ix_list (pv 1) pe_int (fun _ _ => rfl)) pa_nil)))))) pss_nil)
      (pss_cons (ps_if (PW.pt (pw_and (pt_cmpR op_eq (pv 0) pe_str (nomark _)) (pw_and1 (pt_cmpR op_le (pe_ix ix_list (pv 1) pe_int (fun _ _ => rfl)) (pe_ix ix_list (pv 1) pe_int (fun _ _ => rfl)) (nomark _))))) (pss_one (ps_ret (C8.pe_mk (c_mkSum T) hr (by decide) rfl (pa_cons (pe_ix ix_list (pv 1) pe_int (fun _ _ => rfl)) (pa_cons (pe_ix ix_list (pv 1) pe_int (fun _ _ => rfl)) (pa_cons (pe_ix ix_list (pv 1) pe_int (fun _ _ => rfl)) pa_nil)))))) pss_nil)
      (pss_one (ps_ret pe_non))))))))), ?_⟩
    refine ⟨_, rfl, q, _, rfl, .inl (SqL.of hq), ?_⟩
    cases s with
    | plus v =>
      refine ⟨_, rfl, rfl, _, rfl, ite_true_of (dY rfl) ⟨_, rfl, rfl, _, rfl, ite_true_of (dY rfl) ?_⟩⟩
      refine ⟨_, rfl, q, _, _, _, rfl, rfl, SqL.of hq, rfl, fun x dx nx nd ne => ⟨x, dx, _, rfl, upd_same, fun H1 h1 b1 => ⟨rfl, ?_⟩⟩⟩
      exact k x H1 (made_same nx nd b1) ⟨dx, h1⟩
    | need v =>
      refine ⟨_, rfl, rfl, _, rfl, ite_true_of (dY rfl) ⟨_, rfl, rfl, _, rfl, ite_false_of (show decide (V.str "need" = V.str "plus") = false by decide +kernel) ?_⟩⟩
      refine ⟨_, rfl, rfl, _, rfl, ite_true_of (dY rfl) ⟨_, rfl, rfl, _, rfl, ite_true_of (dY rfl) ?_⟩⟩
      refine ⟨_, rfl, q, _, _, _, rfl, rfl, SqL.of hq, rfl, fun x dx nx nd ne => ⟨x, dx, _, rfl, upd_same, fun H1 h1 b1 => ⟨rfl, ?_⟩⟩⟩
      exact k x H1 (made_same nx nd b1) ⟨dx, h1⟩
    | take h c =>
      obtain ⟨⟨h0, _⟩, ⟨c0, _⟩⟩ := ok
      refine ⟨_, rfl, rfl, _, rfl, ite_false_of (dN i21) ⟨_, rfl, rfl, _, rfl, ite_false_of (dN i21) ?_⟩⟩
      refine ⟨_, rfl, _, _, rfl, rfl, _, rfl, ite_false_of (show decide ((2 : Int) < 2) = false by decide) ⟨_, rfl, _, _, rfl, rfl, _, rfl, ite_false_of (show decide ((3 : Int) < 2) = false by decide) ?_⟩⟩
      refine ⟨_, rfl, q, _, _, _, rfl, rfl, SqL.of hq, rfl, _, _, rfl, rfl, _, rfl, ite_false_of (dN (by omega)) ?_⟩
      refine ⟨_, rfl, q, _, _, _, rfl, rfl, SqL.of hq, rfl, _, _, rfl, rfl, _, rfl, ite_false_of (dN (by omega)) ?_⟩
      refine ⟨_, rfl, rfl, _, rfl, ite_true_of (dY rfl) ?_⟩
      exact ⟨_, rfl, _, rfl, q, _, _, _, rfl, rfl, SqL.of hq, rfl, _, rfl, q, _, _, _, rfl, rfl, SqL.of hq, rfl, .take h c, h, c, .inl rfl, rfl, k⟩
    | mean h c =>
      obtain ⟨⟨h0, _⟩, ⟨c0, _⟩⟩ := ok
      refine ⟨_, rfl, rfl, _, rfl, ite_false_of (dN i21) ⟨_, rfl, rfl, _, rfl, ite_false_of (dN i21) ?_⟩⟩
      refine ⟨_, rfl, _, _, rfl, rfl, _, rfl, ite_false_of (show decide ((2 : Int) < 2) = false by decide) ⟨_, rfl, _, _, rfl, rfl, _, rfl, ite_false_of (show decide ((3 : Int) < 2) = false by decide) ?_⟩⟩
      refine ⟨_, rfl, q, _, _, _, rfl, rfl, SqL.of hq, rfl, _, _, rfl, rfl, _, rfl, ite_false_of (dN (by omega)) ?_⟩
      refine ⟨_, rfl, q, _, _, _, rfl, rfl, SqL.of hq, rfl, _, _, rfl, rfl, _, rfl, ite_false_of (dN (by omega)) ?_⟩
      refine ⟨_, rfl, rfl, _, rfl, ite_true_of (dY rfl) ?_⟩
      exact ⟨_, rfl, _, rfl, q, _, _, _, rfl, rfl, SqL.of hq, rfl, _, rfl, q, _, _, _, rfl, rfl, SqL.of hq, rfl, .mean h c, h, c, .inr (.inl rfl), rfl, k⟩
    | give h c =>
      obtain ⟨⟨h0, _⟩, ⟨c0, _⟩⟩ := ok
      refine ⟨_, rfl, rfl, _, rfl, ite_false_of (dN i21) ⟨_, rfl, rfl, _, rfl, ite_false_of (dN i21) ?_⟩⟩
      refine ⟨_, rfl, _, _, rfl, rfl, _, rfl, ite_false_of (show decide ((2 : Int) < 2) = false by decide) ⟨_, rfl, _, _, rfl, rfl, _, rfl, ite_false_of (show decide ((3 : Int) < 2) = false by decide) ?_⟩⟩
      refine ⟨_, rfl, q, _, _, _, rfl, rfl, SqL.of hq, rfl, _, _, rfl, rfl, _, rfl, ite_false_of (dN (by omega)) ?_⟩
      refine ⟨_, rfl, q, _, _, _, rfl, rfl, SqL.of hq, rfl, _, _, rfl, rfl, _, rfl, ite_false_of (dN (by omega)) ?_⟩
      refine ⟨_, rfl, rfl, _, rfl, ite_true_of (dY rfl) ?_⟩
      exact ⟨_, rfl, _, rfl, q, _, _, _, rfl, rfl, SqL.of hq, rfl, _, rfl, q, _, _, _, rfl, rfl, SqL.of hq, rfl, .give h c, h, c, .inr (.inr rfl), rfl, k⟩
    | add h c v =>
      obtain ⟨⟨h0, _⟩, ⟨c0, _⟩, _⟩ := ok
      refine ⟨_, rfl, rfl, _, rfl, ite_false_of (dN i31) ⟨_, rfl, rfl, _, rfl, ite_false_of (dN i31) ?_⟩⟩
      refine ⟨_, rfl, _, _, rfl, rfl, _, rfl, ite_false_of (show decide ((3 : Int) < 2) = false by decide) ⟨_, rfl, _, _, rfl, rfl, _, rfl, ite_false_of (show decide ((3 : Int) < 3) = false by decide) ?_⟩⟩
      refine ⟨_, rfl, q, _, _, _, rfl, rfl, SqL.of hq, rfl, _, _, rfl, rfl, _, rfl, ite_false_of (dN (by omega)) ?_⟩
      refine ⟨_, rfl, q, _, _, _, rfl, rfl, SqL.of hq, rfl, _, _, rfl, rfl, _, rfl, ite_false_of (dN (by omega)) ?_⟩
      refine ⟨_, rfl, rfl, _, rfl, ite_false_of (dN i32) ⟨_, rfl, rfl, _, rfl, ite_true_of (dY rfl) ?_⟩⟩
      refine ⟨_, rfl, q, _, _, _, rfl, rfl, SqL.of hq, rfl, _, rfl, q, _, _, _, rfl, rfl, SqL.of hq, rfl, _, rfl, q, _, _, _, rfl, rfl, SqL.of hq, rfl, fun x dx nx nd ne => ⟨x, dx, _, _, _, rfl, upd_same, fun H1 h1 b1 => ⟨rfl, ?_⟩⟩⟩
      exact k x H1 (made_same nx nd b1) ⟨dx, h1⟩
    | sum h l u =>
      obtain ⟨⟨h0, _⟩, ⟨c0, _⟩, _, lu⟩ := ok
      refine ⟨_, rfl, rfl, _, rfl, ite_false_of (dN i31) ⟨_, rfl, rfl, _, rfl, ite_false_of (dN i31) ?_⟩⟩
      refine ⟨_, rfl, _, _, rfl, rfl, _, rfl, ite_false_of (show decide ((3 : Int) < 2) = false by decide) ⟨_, rfl, _, _, rfl, rfl, _, rfl, ite_false_of (show decide ((3 : Int) < 3) = false by decide) ?_⟩⟩
      refine ⟨_, rfl, q, _, _, _, rfl, rfl, SqL.of hq, rfl, _, _, rfl, rfl, _, rfl, ite_false_of (dN (by omega)) ?_⟩
      refine ⟨_, rfl, q, _, _, _, rfl, rfl, SqL.of hq, rfl, _, _, rfl, rfl, _, rfl, ite_false_of (dN (by omega)) ?_⟩
      refine ⟨_, rfl, rfl, _, rfl, ite_false_of (dN i32) ⟨_, rfl, rfl, _, rfl, ite_false_of (show decide (V.str "sum" = V.str "add") = false by decide +kernel) ?_⟩⟩
      refine ⟨_, rfl, rfl, _, rfl, ite_true_of (dY rfl) ⟨_, rfl, q, _, _, _, rfl, rfl, SqL.of hq, rfl, _, rfl, q, _, _, _, rfl, rfl, SqL.of hq, rfl, _, _, rfl, rfl, _, rfl, ite_true_of (dY lu) ?_⟩⟩
      refine ⟨_, rfl, q, _, _, _, rfl, rfl, SqL.of hq, rfl, _, rfl, q, _, _, _, rfl, rfl, SqL.of hq, rfl, _, rfl, q, _, _, _, rfl, rfl, SqL.of hq, rfl, fun x dx nx nd ne => ⟨x, dx, _, _, _, rfl, upd_same, fun H1 h1 b1 => ⟨rfl, ?_⟩⟩⟩
      exact k x H1 (made_same nx nd b1) ⟨dx, h1⟩
/-! ### read_step -/
def spReadStep (a : Adr) : Sp := fun vs H Q _ => ∃ s : Sd, s.Ok ∧ vs = [.str s.text] ∧ GivesStep a s H Q
theorem cut1 (x : V) (xs : List V) : cutV (x :: xs) (some 1) none = xs := by
  unfold cutV
  have e1 : HT.sIx (x :: xs).length 0 (some 1) = 1 := by
    unfold HT.sIx
    simp
  have e2 : HT.sIx (x :: xs).length (x :: xs).length none = (x :: xs).length := rfl
  rw [e1, e2]
  simp
theorem take_succ {α : Type} {l : List α} {i : Nat} {x : α} (h : l[i]? = some x) : l.take (i + 1) = l.take i ++ [x] := by
  rw [List.take_add_one, h]
  rfl
theorem c_readStep (T : Txt K mg a) : C8.Cal P w K mg base 5 "read_step" (spReadStep a) [] := by
  refine cal1 T.F_readStep T.g_readStep sc_readStep (fun vs H Q E h => ?_) (fun cdv A outer s H vs Q E hr h => ?_)
  · obtain ⟨s, _, rfl, _⟩ := h
    rfl
  · obtain ⟨s, ok, rfl, k⟩ := h
    refine ⟨_, (pss_cons (ps_set (i := 1) sc_readStep.nd rfl (Or.inl rfl) (pe_split (pv 0) pe_str))
      (pss_cons (ps_set (i := 2) sc_readStep.nd rfl (Or.inl rfl) (pe_lst pa_nil))
      (pss_cons (ps_for PassesOwn.never rfl (pi_list (pe_slice sl_list (pv 1) (po_some pe_int) po_none)) (pg_name (i := 3) sc_readStep.nd rfl (Or.inl rfl)) (pss_cons (ps_set (i := 4) sc_readStep.nd rfl (Or.inl rfl) (C8.pe_c (c_whole T) hr (by decide) rfl (pa_cons (pv 3) (pa_cons (C8.pe_gc rfl T.v_MOST_FIGURES_TOLD) pa_nil))))
      (pss_cons (ps_if (pt_cmpR op_isN (pv 4) pe_non (nomark _)) (pss_one ps_never) pss_nil)
      (pss_one (ps_expr (pe_bm PySem.F.plainAttrs_list PySem.F.slot_list_append PySem.F.type_list_append mt_append (pv 2) (pa_cons (pv 4) pa_nil)))))))
      (pss_cons (ps_set (i := 5) sc_readStep.nd rfl (Or.inl rfl) (C8.pe_c (c_stepOr T) hr (by decide) rfl (pa_cons (pe_ix ix_list (pv 1) pe_int (fun _ _ => rfl)) (pa_cons (pv 2) pa_nil))))
      (pss_cons (ps_if (pt_cmpR op_isN (pv 5) pe_non (nomark _)) (pss_one ps_never) pss_nil)
      (pss_one (ps_ret (pv 5)))))))), ?_⟩
    have hs := sizeLine_eq
    have hl := text_len ok
    refine ⟨_, rfl, ⟨_, rfl⟩, _, _, rfl, rfl, by decide +kernel, by omega, fun wl nwl => ?_⟩
    rw [text_split]
    refine ⟨Nat.zero_le _, fun nl nnl => ?_⟩
    have nwn : wl ≠ nl := fun e => by rw [← e, upd_same] at nnl; cases nnl
    have hw : (upd (upd H wl (.lst ((s.word :: s.nums.map tx).map V.str))) nl (.lst [])) wl = some (.lst ((s.word :: s.nums.map tx).map V.str)) := by rw [upd_ne nwn, upd_same]
    refine ⟨_, rfl, _, rfl, wl, _, rfl, SqL.of hw, fun xl nxl => ?_⟩
    have hx : cutV ((s.word :: s.nums.map tx).map V.str) (some 1) none = (s.nums.map tx).map V.str := by
      rw [List.map_cons, cut1]
    rw [hx]
    have nxn : xl ≠ nl := fun e => by rw [e, upd_same] at nxl; cases nxl
    have nxw : xl ≠ wl := fun e => by rw [e, hw] at nxl; cases nxl
    -- the loop: behind i words the numbers of these
    refine ⟨xl, rfl, ⟨_, SqL.of upd_same⟩, for_list (K := K) (a := xl) (xs := (s.nums.map tx).map V.str) (fun i σ H' => ∃ v1 v2 v3 : Option V, σ = [some (.str s.text), some (.ref wl), some (.ref nl), v1, v2, v3] ∧ Same H H' ∧ H' xl = some (.lst ((s.nums.map tx).map V.str)) ∧
        H' wl = some (.lst ((s.word :: s.nums.map tx).map V.str)) ∧ H' nl = some (.lst ((s.nums.take i).map V.int)))
      ⟨none, none, none, rfl, ?_, upd_same, by rw [upd_ne nxw.symm]; exact hw, by rw [upd_ne nxn.symm, upd_same]; rfl⟩ (fun i σ H' _ ⟨_, _, _, _, _, h1, _⟩ => SqL.of h1) ?_ ?_⟩
    · exact ((Same.upd nwl).trans (Same.upd nnl)).trans (Same.upd nxl)
    · rintro i y σ H' hi ⟨v1, v2, v3, rfl, s5, h1, h2, h3⟩
      rw [List.map_map, List.getElem?_map] at hi
      obtain ⟨n, hn, rfl⟩ : ∃ n, s.nums[i]? = some n ∧ y = V.str (tx n) := by
        cases e : s.nums[i]? with
        | none =>
          rw [e] at hi
          cases hi
        | some n =>
          rw [e] at hi
          exact ⟨n, rfl, (Option.some.inj hi).symm⟩
      have f := Sd.nums_forty ok n (List.mem_of_getElem? hn)
      refine ⟨_, rfl, n, rfl, f, ?_⟩
      refine ⟨_, rfl, rfl, _, rfl, ite_false_of (dN (by intro e; cases e)) ?_⟩
      have hlen : (s.nums.take i).length ≤ 3 := by
        rw [List.length_take]
        have : s.nums.length ≤ 3 := by cases s <;> simp [Sd.nums]
        omega
      refine ⟨_, rfl, .inl ⟨rfl, _, SqL.of h3⟩, _, rfl, nl, _, _, rfl, rfl, h3, by rw [List.length_map]; omega, ?_⟩
      have nn : nl ≠ xl := nxn.symm
      refine ⟨_, _, _, rfl, fun b o e => ?_, by rw [upd_ne nxn]; exact h1, by rw [upd_ne nwn]; exact h2, ?_⟩
      · have : b ≠ nl := fun q => by
          have e' : H nl = some o := by rw [← q]; exact e
          have : H nl = Option.none := (Same.upd nwl).free nnl
          rw [this] at e'
          cases e'
        rw [upd_ne this]
        exact s5 b o e
      · rw [upd_same, take_succ hn, List.map_append]
        rfl
    · rintro σ H' ⟨v1, v2, v3, rfl, s5, h1, h2, h3⟩
      rw [List.length_map, List.length_map, List.take_length] at h3
      refine ⟨_, rfl, _, _, _, _, rfl, rfl, SqL.of h2, atI_nat (j := 0) rfl, _, rfl, s, nl, ok, rfl, h3, fun p H2 s2 st => ?_⟩
      refine ⟨_, rfl, rfl, _, rfl, ite_false_of (dN (by intro e; cases e)) ?_⟩
      exact ⟨_, rfl, k p H2 (s5.trans s2) st⟩
end
end Pk

set_option Elab.async false
set_option linter.all false
set_option maxRecDepth 100000
set_option maxHeartbeats 2000000
/-! A pact read; its turning. -/
namespace Pk
open PySem PySem.Spec PyProof.Rows L2
abbrev Steps (a : Adr) (H : Hp) (sa : List Addr) (sd : List Sd) : Prop := Paired (StepAt a H) sa sd
theorem paired_snoc {α β : Type} {R : α → β → Prop} {x : α} {y : β} (r : R x y) : ∀ {l : List α} {m : List β}, Paired R l m → Paired R (l ++ [x]) (m ++ [y])
  | _, _, .nil => .cons r .nil
  | _, _, .cons q t => .cons q (paired_snoc r t)
theorem paired_get {α β : Type} {R : α → β → Prop} : ∀ {l : List α} {m : List β} {i : Nat} {y : β}, Paired R l m → m[i]? = some y → ∃ x, l[i]? = some x ∧ R x y
  | _, _, _, _, .nil, e => by simp at e
  | _, _, 0, _, .cons r _, e => by simp at e; subst e; exact ⟨_, rfl, r⟩
  | _, _, i + 1, y, .cons _ t, e => by
    obtain ⟨x, h1, h2⟩ := paired_get (i := i) (y := y) t (by simpa using e)
    exact ⟨x, by simpa using h1, h2⟩
theorem Steps.same {a : Adr} {H H' : Hp} {sa : List Addr} {sd : List Sd} (x : Steps a H sa sd) (e : Same H H') : Steps a H' sa sd := Paired.mapP x fun _ _ h => h.same e
theorem no_house (s : Sd) : s.flds.lookup ("house" : Str) = none := by cases s <;> rfl
theorem no_sure (s : Sd) : s.flds.lookup ("sure" : Str) = none := by cases s <;> rfl
theorem no_spelled (s : Sd) : s.flds.lookup ("spelled" : Str) = none := by cases s <;> rfl
theorem no_done (s : Sd) : s.flds.lookup ("step_done" : Str) = none := by cases s <;> rfl
def pf (q : Addr) : List (Str × V) := [("manner", .str "walked"), ("steps", .ref q)]
section
variable {P : Program} {w : World} {K : PySem.W.Frag} {mg : Str → Option Value} {base : Heap} {a : Adr}
def spPaInit (a : Adr) : Sp := fun vs H Q _ => ∃ p dx m q xs, vs = [.ref p, m, .ref q] ∧ H p = some (.ins a.cPact dx []) ∧ H q = some (.lst xs) ∧
  ∀ l H', H l = Option.none → H' p = some (.ins a.cPact dx [("manner", m), ("steps", .ref l)]) → H' l = some (.lst xs) → But p H H' → Q .non H'
theorem c_mkPact (T : Txt K mg a) : C8.Mak P w K mg base 1 "Pact" a.cPact (spPaInit a) [] := by
  refine mak1 T.kPact T.gPact T.F_paInit sc_paInit (fun vs H Q E h => ?_) (fun cdv A outer s H vs Q E hr h => ?_)
  · obtain ⟨p, dx, m, q, xs, rfl, _⟩ := h
    rfl
  · obtain ⟨p, dx, m, q, xs, rfl, hp, hq, k⟩ := h
    refine ⟨_, (pss_cons (ps_fld (pv 0) (pv 1) rfl)
      (pss_one (ps_fld (pv 0) (pe_callTy call_list_of (by rfl) T.z_list (by decide +kernel) (pa_cons (pv 2) pa_nil)) rfl))), ?_⟩
    have nqp : q ≠ p := ne_of hq hp (by intro e; cases e)
    refine ⟨_, rfl, _, rfl, p, _, dx, _, rfl, hp, T.cPact, T.nPact_manner, by decide, ?_⟩
    refine ⟨_, rfl, q, _, rfl, .inl (SqL.of (by rw [upd_ne nqp]; exact hq)), fun l nl => ?_⟩
    have nlp : l ≠ p := fun e => by rw [e, upd_same] at nl; cases nl
    refine ⟨_, rfl, p, _, dx, _, rfl, by rw [upd_ne nlp.symm, upd_same], T.cPact, T.nPact_steps, by show 1 < 1000; decide, ?_⟩
    have hl : H l = Option.none := by rw [upd_ne nlp] at nl; exact nl
    refine k l _ hl upd_same (by rw [upd_ne nlp, upd_same]) fun b o e hb => ?_
    rw [upd_ne hb, upd_ne (ne_of_none e hl), upd_ne hb]
    exact e
def spReadPact (a : Adr) : Sp := fun vs H Q _ => ∃ l : List Sd, l ≠ [] ∧ l.length ≤ 12 ∧ (∀ s ∈ l, s.Ok) ∧ vs = [.str ("walked " ++ restOf l)] ∧
  ∀ pc dp q sa H', Same H H' → H' pc = some (.ins a.cPact dp (pf q)) → H' q = some (.lst (sa.map V.ref)) → Steps a H' sa l → Q (.ref pc) H'
theorem c_readPact (T : Txt K mg a) : C8.Cal P w K mg base 6 "read_pact" (spReadPact a) [] := by
  refine cal1 T.F_readPact T.g_readPact sc_readPact (fun vs H Q E h => ?_) (fun cdv A outer s H vs Q E hr h => ?_)
  · obtain ⟨l, _, _, _, rfl, _⟩ := h
    rfl
  · obtain ⟨l, ne, l12, ok, rfl, k⟩ := h
    refine ⟨_, (pss_cons (ps_asg (pe_partition (pv 0) pe_str) (pg_tup rfl (pgs_cons (pg_name (i := 1) sc_readPact.nd rfl (Or.inl rfl)) (pgs_cons (pg_name (i := 2) sc_readPact.nd rfl (Or.inl rfl)) (pgs_cons (pg_name (i := 3) sc_readPact.nd rfl (Or.inl rfl)) pgs_nil)))))
      (pss_cons (ps_set (i := 4) sc_readPact.nd rfl (Or.inl rfl) (pe_split (pv 3) pe_str))
      (pss_cons (ps_if (PW.pt (pw_or (pt_cmpR op_notIn_seq (pv 1) (pe_tup (pa_cons pe_str (pa_cons pe_str pa_nil))) (by rfl)) (pw_or (pt_cmpR op_eq (pv 2) pe_str (nomark _)) (pw_or1 (pt_cmpR op_gt (pe_callB call_len_seq (by rfl) T.z_len PySem.boot_len (pa_cons (pv 4) pa_nil)) (C8.pe_gc rfl T.v_MOST_STEPS) (nomark _)))))) (pss_one ps_never) pss_nil)
      (pss_cons (ps_set (i := 5) sc_readPact.nd rfl (Or.inl rfl) (pe_lst pa_nil))
      (pss_cons (ps_for PassesOwn.never rfl (pi_range1 rfl T.z_range (pa_cons (pe_callB call_len_seq (by rfl) T.z_len PySem.boot_len (pa_cons (pv 4) pa_nil)) pa_nil)) (pg_name (i := 6) sc_readPact.nd rfl (Or.inl rfl)) (pss_one (ps_try_thru (pss_one (ps_set (i := 7) sc_readPact.nd rfl (Or.inl rfl) (C8.pe_c (c_readStep T) hr (by decide) rfl (pa_cons (pe_ix ix_list (pv 4) (pv 6) (fun _ _ => rfl)) pa_nil)))) (pss_one (ps_expr (pe_bm PySem.F.plainAttrs_list PySem.F.slot_list_append PySem.F.type_list_append mt_append (pv 5) (pa_cons (pv 7) pa_nil)))))))
      (pss_one (ps_ret (C8.pe_mk (c_mkPact T) hr (by decide) rfl (pa_cons (pv 1) (pa_cons (pv 5) pa_nil)))))))))), ?_⟩
    have hs := sizeLine_eq
    have hl := rest_len l12 ok
    have hw7 : ("walked " : Str).length = 7 := by decide +kernel
    refine ⟨_, rfl, ⟨_, rfl⟩, _, _, rfl, rfl, by decide +kernel, by rw [len_app]; omega, fun tp ntp => ?_⟩
    rw [pact_part]
    refine ⟨tp, _, rfl, SqT.of upd_same, rfl, ?_⟩
    refine ⟨_, _, rfl, _, _, rfl, _, _, rfl, rfl, ?_⟩
    refine ⟨_, rfl, ⟨_, rfl⟩, _, _, rfl, rfl, by decide +kernel, by show (restOf l).length + 2 ≤ sizeLine; omega, fun pl npl => ?_⟩
    rw [rest_split ne]
    -- the manner and the number of parts
    refine ⟨_, rfl, by show 2 ≤ sizeLine; decide, fun mt nmt => ⟨mt, _, rfl, .inr (SqT.of upd_same), rfl, rfl, _, rfl, ite_false_of (show (!inV (V.str "walked") [V.str "held", V.str "walked"]) = false by decide +kernel) ?_⟩⟩
    refine ⟨_, rfl, rfl, _, rfl, ite_false_of (show decide (V.str " " = V.str "") = false by decide +kernel) ?_⟩
    have npm : pl ≠ mt := fun e => by rw [← e, upd_same] at nmt; cases nmt
    have hpl : (upd (upd (upd H tp (.tup [.str "walked", .str " ", .str (restOf l)])) pl (.lst ((l.map Sd.text).map V.str))) mt (.tup [.str "held", .str "walked"])) pl = some (.lst ((l.map Sd.text).map V.str)) := by
      rw [upd_ne npm, upd_same]
    refine ⟨_, rfl, pl, _, rfl, .inl (SqL.of hpl), _, _, rfl, rfl, _, rfl, ite_false_of (dN ?_) ?_⟩
    · rw [List.length_map, List.length_map]
      omega
    refine ⟨Nat.zero_le _, fun nl nnl => ?_⟩
    have npn : pl ≠ nl := fun e => by rw [← e, hpl] at nnl; cases nnl
    have hnl : H nl = Option.none := ((Same.upd ntp).trans ((Same.upd npl).trans (Same.upd nmt))).free nnl
    refine ⟨_, rfl, pl, _, rfl, .inl (SqL.of (by rw [upd_ne npn]; exact hpl)), _, rfl, ?_, ?_, ?_⟩
    · omega
    · rw [List.length_map, List.length_map]
      omega
    refine for_range (lo := 0) (fun i σ H' => ∃ (v6 v7 : Option V) (sa : List Addr), σ = [some (.str ("walked " ++ restOf l)), some (.str "walked"), some (.str " "), some (.str (restOf l)), some (.ref pl), some (.ref nl), v6, v7] ∧ Same H H' ∧
        H' pl = some (.lst ((l.map Sd.text).map V.str)) ∧ H' nl = some (.lst (sa.map V.ref)) ∧ Steps a H' sa (l.take i))
      ⟨none, none, [], rfl, ((Same.upd ntp).trans ((Same.upd npl).trans (Same.upd nmt))).trans (Same.upd nnl), by rw [upd_ne npn]; exact hpl, upd_same, .nil⟩ ?_ ?_
    · rintro i σ H' hi ⟨v6, v7, sa, rfl, s5, h1, h2, h3⟩
      have hi' : i < l.length := by simpa using hi
      have hx : l[i]? = some l[i] := List.getElem?_eq_getElem hi'
      generalize l[i] = x at hx
      have hxt : ((l.map Sd.text).map V.str)[i]? = some (.str x.text) := by rw [List.getElem?_map, List.getElem?_map, hx]; rfl
      refine ⟨_, rfl, _, rfl, pl, _, _, _, rfl, rfl, SqL.of h1, ?_, x, ok x (List.mem_of_getElem? hx), rfl, fun p H2 s2 st => ?_⟩
      · have e : (0 : Int) + (i : Nat) = ((i : Nat) : Int) := by omega
        rw [e]
        exact atI_nat hxt
      have h2' := s2 _ _ h2
      have hsl : sa.length ≤ 12 := by
        have := h3.length
        rw [List.length_take] at this
        omega
      refine ⟨_, rfl, .inl ⟨rfl, _, SqL.of h2'⟩, _, rfl, nl, _, _, rfl, rfl, h2', by rw [List.length_map]; omega, ?_⟩
      obtain ⟨dx, hp⟩ := st
      have keepS : ∀ q s', StepAt a H2 q s' → StepAt a (upd H2 nl (.lst (sa.map V.ref ++ [.ref p]))) q s' := fun q s' ⟨dq, hq⟩ => ⟨dq, by rw [upd_ne (ne_of hq h2' (by intro e; cases e))]; exact hq⟩
      refine ⟨_, _, sa ++ [p], rfl, fun b o e => ?_, by rw [upd_ne npn]; exact s2 _ _ h1, by rw [upd_same, List.map_append]; rfl, ?_⟩
      · rw [upd_ne (ne_of_none e hnl)]
        exact s2 _ _ (s5 _ _ e)
      · rw [take_succ hx]
        exact paired_snoc (keepS _ _ ⟨dx, hp⟩) (Paired.mapP (h3.same s2) keepS)
    · rintro σ H' ⟨v6, v7, sa, rfl, s5, h1, h2, h3⟩
      have hn : l.take ((((l.map Sd.text).map V.str).length : Int)).toNat = l := by
        rw [Int.toNat_natCast, List.length_map, List.length_map, List.take_length]
      rw [hn] at h3
      refine ⟨_, rfl, _, rfl, fun x dx nx nd ne => ?_⟩
      have sm : Same H' (upd (upd H' dx (.own x)) x (.ins a.cPact dx [])) := (Same.upd nd).trans (Same.upd (by rw [upd_ne ne.symm]; exact nx))
      refine ⟨x, dx, _, nl, _, rfl, upd_same, sm _ _ h2, fun q H1 _ h1 h2 b1 => ⟨rfl, ?_⟩⟩
      have s6 : Same H' H1 := made_same nx nd b1
      exact k x dx q sa H1 (s5.trans s6) h1 h2 (h3.same s6)
/-- the number of the first give, or of the steps -/
def turnAt (sd : List Sd) : Nat := sd.findIdx Sd.isGive
def spTurning (a : Adr) : Sp := fun vs H Q _ => ∃ pc dp q sa sd, vs = [.ref pc] ∧ H pc = some (.ins a.cPact dp (pf q)) ∧ H q = some (.lst (sa.map V.ref)) ∧ Steps a H sa sd ∧ sd.length ≤ 12 ∧ Q (.int (turnAt sd)) H
theorem c_turning (T : Txt K mg a) : C8.Cal P w K mg base 2 "turning" (spTurning a) [] := by
  refine cal1 T.F_turning T.g_turning sc_turning (fun vs H Q E h => ?_) (fun cdv A outer s H vs Q E hr h => ?_)
  · obtain ⟨pc, dp, q, sa, sd, rfl, _⟩ := h
    rfl
  · obtain ⟨pc, dp, q, sa, sd, rfl, hpc, hq, st, l12, k⟩ := h
    refine ⟨_, (pss_cons (ps_for PassesOwn.never rfl (pi_range1 rfl T.z_range (pa_cons (pe_callB call_len_seq (by rfl) T.z_len PySem.boot_len (pa_cons (pe_fld (pv 0) rfl) pa_nil)) pa_nil)) (pg_name (i := 1) sc_turning.nd rfl (Or.inl rfl)) (pss_one (ps_if (pt_val (pe_methD0 (E := fun _ => C8.E0) (k := 1) (pe_ix ix_list (pe_fld (pv 0) rfl) (pv 1) (fun _ _ => rfl)) (hr.mono (by decide)) passC8)) (pss_one (ps_ret (pv 1))) pss_nil)))
      (pss_one (ps_ret (pe_callB call_len_seq (by rfl) T.z_len PySem.boot_len (pa_cons (pe_fld (pv 0) rfl) pa_nil))))), ?_⟩
    have hlen := st.length
    refine ⟨_, rfl, pc, _, dp, _, _, rfl, hpc, T.cPact, T.nPact_steps, rfl, q, _, rfl, .inl (SqL.of hq), _, rfl, by omega, by rw [List.length_map]; omega, ?_⟩
    refine for_range (lo := 0) (fun i σ H' => H' = H ∧ ∃ v : Option V, σ = [some (.ref pc), v] ∧ ∀ j, j < i → ∀ s, sd[j]? = some s → s.isGive = false) ⟨rfl, none, rfl, fun j hj => absurd hj (Nat.not_lt_zero _)⟩ ?_ ?_
    · rintro i σ H' hi ⟨rfl, v, rfl, hb⟩
      have hi' : i < sd.length := by
        rw [List.length_map] at hi
        simp at hi
        omega
      have hx : sd[i]? = some sd[i] := List.getElem?_eq_getElem hi'
      obtain ⟨p, hp, dx, hpx⟩ := paired_get st hx
      have e0 : (0 : Int) + (i : Nat) = ((i : Nat) : Int) := by omega
      rw [e0]
      refine ⟨_, rfl, pc, _, dp, _, _, rfl, hpc, T.cPact, T.nPact_steps, rfl, _, rfl, q, _, _, _, rfl, rfl, SqL.of hq, atI_nat (v := .ref p) (by rw [List.getElem?_map, hp]; rfl), ?_⟩
      refine ⟨p, _, dx, _, spSure a sd[i], rfl, hpx, no_sure _, met_sure T _, p, dx, rfl, hpx, _, rfl, ?_⟩
      cases hg : (sd[i]).isGive with
      | true =>
        refine iteT ⟨_, rfl, ?_⟩
        have e : turnAt sd = i := by
          unfold turnAt
          rw [List.findIdx_eq hi']
          refine ⟨hg, fun j hj => ?_⟩
          exact hb j hj _ (List.getElem?_eq_getElem (by omega))
        rw [e] at k
        exact k
      | false =>
        refine iteF ⟨rfl, _, rfl, fun j hj s hs => ?_⟩
        by_cases c : j < i
        · exact hb j c s hs
        · have : j = i := by omega
          subst this
          rw [hx] at hs
          cases hs
          exact hg
    · rintro σ H' ⟨rfl, v, rfl, hb⟩
      refine ⟨_, rfl, pc, _, dp, _, _, rfl, hpc, T.cPact, T.nPact_steps, rfl, q, _, rfl, .inl (SqL.of hq), ?_⟩
      have e : turnAt sd = (sa.map V.ref).length := by
        unfold turnAt
        rw [List.length_map, hlen]
        refine List.findIdx_eq_length.mpr fun s hs => ?_
        obtain ⟨j, hj, e⟩ := List.getElem_of_mem hs
        exact hb j (by rw [List.length_map, hlen]; simpa using hj) s (by rw [← e]; exact List.getElem?_eq_getElem hj)
      rw [e] at k
      exact k
end
end Pk

set_option Elab.async false
set_option linter.all false
set_option maxRecDepth 100000
set_option maxHeartbeats 2000000
/-! The lead, its pact, its sheet and the stand under it: how they lie, and what the small methods promise. -/
namespace Pk
open PySem PySem.Spec PyProof.Rows L2
/-! ### the places -/
structure Pl where
  (L tn pc ps hd S G ln ws ov en g1 g2 g3 g4 g5 dl dp dS dG : Addr)
/-- a letter: to whom, its word, its more -/
structure Lt where
  (to : V) (word : Str) (more : List V)
/-- the lead and the sheet: the hands, the outcome, the turns counted, the step to undo, closed; the over rows, the letters -/
structure LS where
  (hands : List Int) (fate : V) (waited back : Int) (closed : Bool) (rows ovs : Nat) (lets : List Lt)
def lf (p : Pl) (fate : V) (waited back : Int) (closed : Bool) : List (Str × V) :=
  [("name", .ref p.tn), ("pact", .ref p.pc), ("hands", .ref p.hd), ("fate", fate), ("waited", .int waited), ("back_at", .int back), ("closed", .bl closed)]
def shf (p : Pl) : List (Str × V) := [("ground", .ref p.G), ("lines", .ref p.ln), ("wishes", .ref p.ws)]
def sdf (p : Pl) : List (Str × V) := [("numbers", .ref p.g1), ("texts", .ref p.g2), ("worked", .ref p.g3), ("readies", .ref p.g4), ("ends", .ref p.en), ("marks", .ref p.g5), ("overs", .ref p.ov)]
/-- what never changes, in a heap B of its own -/
structure Stat (a : Adr) (B : Hp) (p : Pl) (sa : List Addr) (sd : List Sd) (nm : Int × Int) : Prop where
  name : B p.tn = some (.tup [.int nm.1, .int nm.2])
  pact : B p.pc = some (.ins a.cPact p.dp (pf p.ps))
  list : B p.ps = some (.lst (sa.map V.ref))
  steps : Steps a B sa sd
  sheet : B p.S = some (.ins a.cSheet p.dS (shf p))
  stand : B p.G = some (.ins a.cStand p.dG (sdf p))
  ends : B p.en = some (.dT [])
  ok : ∀ s ∈ sd, s.Ok
  l12 : sd.length ≤ 12
  fL : B p.L = none
  fH : B p.hd = none
  fN : B p.ln = none
  fW : B p.ws = none
  fO : B p.ov = none
def LtAt (p : Pl) (H : Hp) (x : Addr) (l : Lt) : Prop := ∃ m, H x = some (.tup [l.to, .str l.word, .ref p.tn, .ref m]) ∧ H m = some (.tup l.more)
/-- what changes -/
structure Rm (a : Adr) (B H : Hp) (p : Pl) (st : LS) : Prop where
  same : Same B H
  lead : H p.L = some (.ins a.cWalk p.dl (lf p st.fate st.waited st.back st.closed))
  hands : H p.hd = some (.lst (st.hands.map V.int))
  lines : ∃ rs : List Addr, H p.ln = some (.lst (rs.map V.ref)) ∧ rs.length = st.rows ∧ ∀ r ∈ rs, H r = some (.tup [.str "over", .ref p.tn])
  wishes : ∃ wl : List Addr, H p.ws = some (.lst (wl.map V.ref)) ∧ Paired (LtAt p H) wl st.lets
  overs : ∃ kvs, H p.ov = some (.dT kvs) ∧ kvs.length ≤ st.ovs
  hn : p.hd ≠ p.ln
  hw : p.hd ≠ p.ws
  nw : p.ln ≠ p.ws
/-- all but what changes is kept -/
def Kp (p : Pl) (H H' : Hp) : Prop := ∀ b o, H b = some o → b ≠ p.L → b ≠ p.hd → b ≠ p.ln → b ≠ p.ws → b ≠ p.ov → H' b = some o
theorem Kp.of_same {p : Pl} {H H' : Hp} (e : Same H H') : Kp p H H' := fun b o h _ _ _ _ _ => e b o h
theorem Kp.trans {p : Pl} {H H1 H2 : Hp} (x : Kp p H H1) (y : Kp p H1 H2) : Kp p H H2 := fun b o h h1 h2 h3 h4 h5 => y b o (x b o h h1 h2 h3 h4 h5) h1 h2 h3 h4 h5
theorem Kp.put {p : Pl} {H : Hp} {x : Addr} {o : HO} (h : x = p.L ∨ x = p.hd ∨ x = p.ln ∨ x = p.ws ∨ x = p.ov) : Kp p H (upd H x o) := fun b u e h1 h2 h3 h4 h5 => by
  have : b ≠ x := by
    rcases h with rfl | rfl | rfl | rfl | rfl <;> assumption
  rw [upd_ne this]
  exact e
/-- tuples are kept -/
def Tk (H H' : Hp) : Prop := ∀ b xs, H b = some (.tup xs) → H' b = some (.tup xs)
theorem Tk.put {H : Hp} {x : Addr} {o o' : HO} (h : H x = some o) (n : ∀ xs, HO.tup xs ≠ o) : Tk H (upd H x o') := fun b xs e => by
  rw [upd_ne (ne_of e h (n xs))]
  exact e
theorem LtAt.tk {p : Pl} {H H' : Hp} {x : Addr} {l : Lt} (h : LtAt p H x l) (t : Tk H H') : LtAt p H' x l := let ⟨m, h1, h2⟩ := h; ⟨m, t _ _ h1, t _ _ h2⟩
section
variable {a : Adr} {B H H' : Hp} {p : Pl} {st : LS} {sa : List Addr} {sd : List Sd} {nm : Int × Int}
theorem Stat.put (S : Stat a B p sa sd nm) (e : Same B H) {x : Addr} {o : HO} (h : x = p.L ∨ x = p.hd ∨ x = p.ln ∨ x = p.ws ∨ x = p.ov) : Same B (upd H x o) := fun b u q => by
  have n : B x = none := by
    rcases h with rfl | rfl | rfl | rfl | rfl
    · exact S.fL
    · exact S.fH
    · exact S.fN
    · exact S.fW
    · exact S.fO
  rw [upd_ne (ne_of_none q n)]
  exact e b u q
theorem Rm.kept (r : Rm a B H p st) (e : Same H H') : Rm a B H' p st where
  same := r.same.trans e
  lead := e _ _ r.lead
  hands := e _ _ r.hands
  lines := let ⟨rs, h1, h2, h3⟩ := r.lines; ⟨rs, e _ _ h1, h2, fun x hx => e _ _ (h3 x hx)⟩
  wishes := let ⟨wl, h1, h2⟩ := r.wishes; ⟨wl, e _ _ h1, Paired.mapP h2 fun _ _ q => q.tk fun b xs z => e _ _ z⟩
  overs := let ⟨k, h1, h2⟩ := r.overs; ⟨k, e _ _ h1, h2⟩
  hn := r.hn
  hw := r.hw
  nw := r.nw
theorem Rm.lnL (r : Rm a B H p st) : p.ln ≠ p.L := let ⟨_, h1, _⟩ := r.lines; ne_of h1 r.lead (by intro e; cases e)
theorem Rm.wsL (r : Rm a B H p st) : p.ws ≠ p.L := let ⟨_, h1, _⟩ := r.wishes; ne_of h1 r.lead (by intro e; cases e)
theorem Rm.hdL (r : Rm a B H p st) : p.hd ≠ p.L := ne_of r.hands r.lead (by intro e; cases e)
theorem Rm.ovL (r : Rm a B H p st) : p.ov ≠ p.L := let ⟨_, h1, _⟩ := r.overs; ne_of h1 r.lead (by intro e; cases e)
theorem Rm.ovh (r : Rm a B H p st) : p.ov ≠ p.hd := let ⟨_, h1, _⟩ := r.overs; ne_of h1 r.hands (by intro e; cases e)
theorem Rm.ovn (r : Rm a B H p st) : p.ov ≠ p.ln := let ⟨_, h1, _⟩ := r.overs; let ⟨_, h2, _⟩ := r.lines; ne_of h1 h2 (by intro e; cases e)
theorem Rm.ovw (r : Rm a B H p st) : p.ov ≠ p.ws := let ⟨_, h1, _⟩ := r.overs; let ⟨_, h2, _⟩ := r.wishes; ne_of h1 h2 (by intro e; cases e)
theorem Rm.putLead (r : Rm a B H p st) (S : Stat a B p sa sd nm) (f : V) (w b : Int) (c : Bool) :
    Rm a B (upd H p.L (.ins a.cWalk p.dl (lf p f w b c))) p { st with fate := f, waited := w, back := b, closed := c } where
  same := S.put r.same (.inl rfl)
  lead := upd_same
  hands := by rw [upd_ne r.hdL]; exact r.hands
  lines := let ⟨rs, h1, h2, h3⟩ := r.lines; ⟨rs, by rw [upd_ne r.lnL]; exact h1, h2, fun x hx => Tk.put r.lead (fun _ e => by cases e) _ _ (h3 x hx)⟩
  wishes := let ⟨wl, h1, h2⟩ := r.wishes; ⟨wl, by rw [upd_ne r.wsL]; exact h1, Paired.mapP h2 fun _ _ q => q.tk (Tk.put r.lead fun _ e => by cases e)⟩
  overs := let ⟨k, h1, h2⟩ := r.overs; ⟨k, by rw [upd_ne r.ovL]; exact h1, h2⟩
  hn := r.hn
  hw := r.hw
  nw := r.nw
theorem Rm.putHands (r : Rm a B H p st) (S : Stat a B p sa sd nm) (hs : List Int) : Rm a B (upd H p.hd (.lst (hs.map V.int))) p { st with hands := hs } where
  same := S.put r.same (.inr (.inl rfl))
  lead := by rw [upd_ne r.hdL.symm]; exact r.lead
  hands := upd_same
  lines := let ⟨rs, h1, h2, h3⟩ := r.lines; ⟨rs, by rw [upd_ne r.hn.symm]; exact h1, h2, fun x hx => Tk.put r.hands (fun _ e => by cases e) _ _ (h3 x hx)⟩
  wishes := let ⟨wl, h1, h2⟩ := r.wishes; ⟨wl, by rw [upd_ne r.hw.symm]; exact h1, Paired.mapP h2 fun _ _ q => q.tk (Tk.put r.hands fun _ e => by cases e)⟩
  overs := let ⟨k, h1, h2⟩ := r.overs; ⟨k, by rw [upd_ne r.ovh]; exact h1, h2⟩
  hn := r.hn
  hw := r.hw
  nw := r.nw
theorem Rm.putRow (r : Rm a B H p st) (S : Stat a B p sa sd nm) {rs : List Addr} {x : Addr} (h1 : H p.ln = some (.lst (rs.map V.ref))) (h2 : rs.length = st.rows) (h3 : ∀ r ∈ rs, H r = some (.tup [.str "over", .ref p.tn])) (hx : H x = some (.tup [.str "over", .ref p.tn])) :
    Rm a B (upd H p.ln (.lst (rs.map V.ref ++ [.ref x]))) p { st with rows := st.rows + 1 } where
  same := S.put r.same (.inr (.inr (.inl rfl)))
  lead := by rw [upd_ne r.lnL.symm]; exact r.lead
  hands := by rw [upd_ne r.hn]; exact r.hands
  lines := ⟨rs ++ [x], by rw [upd_same, List.map_append]; rfl, by rw [List.length_append, h2]; rfl, fun y hy => by
    refine Tk.put h1 (fun _ e => by cases e) _ _ ?_
    rcases List.mem_append.mp hy with e | e
    · exact h3 y e
    · rw [List.mem_singleton.mp e]
      exact hx⟩
  wishes := let ⟨wl, h1', h2⟩ := r.wishes; ⟨wl, by rw [upd_ne r.nw.symm]; exact h1', Paired.mapP h2 fun _ _ q => q.tk (Tk.put h1 fun _ e => by cases e)⟩
  overs := let ⟨k, h1, h2⟩ := r.overs; ⟨k, by rw [upd_ne r.ovn]; exact h1, h2⟩
  hn := r.hn
  hw := r.hw
  nw := r.nw
theorem Rm.putWish (r : Rm a B H p st) (S : Stat a B p sa sd nm) {wl : List Addr} {x : Addr} {l : Lt} (h1 : H p.ws = some (.lst (wl.map V.ref))) (h2 : Paired (LtAt p H) wl st.lets) (hx : LtAt p H x l) :
    Rm a B (upd H p.ws (.lst (wl.map V.ref ++ [.ref x]))) p { st with lets := st.lets ++ [l] } where
  same := S.put r.same (.inr (.inr (.inr (.inl rfl))))
  lead := by rw [upd_ne r.wsL.symm]; exact r.lead
  hands := by rw [upd_ne r.hw]; exact r.hands
  lines := let ⟨rs, h1', h2, h3⟩ := r.lines; ⟨rs, by rw [upd_ne r.nw]; exact h1', h2, fun x hx => Tk.put h1 (fun _ e => by cases e) _ _ (h3 x hx)⟩
  wishes := ⟨wl ++ [x], by rw [upd_same, List.map_append]; rfl, paired_snoc (hx.tk (Tk.put h1 fun _ e => by cases e)) (Paired.mapP h2 fun _ _ q => q.tk (Tk.put h1 fun _ e => by cases e))⟩
  overs := let ⟨k, h1, h2⟩ := r.overs; ⟨k, by rw [upd_ne r.ovw]; exact h1, h2⟩
  hn := r.hn
  hw := r.hw
  nw := r.nw
theorem Rm.putOver (r : Rm a B H p st) (S : Stat a B p sa sd nm) {kvs kvs' : List (List Key × V)} {n : Nat} (h1 : H p.ov = some (.dT kvs)) (h2 : kvs'.length ≤ n) : Rm a B (upd H p.ov (.dT kvs')) p { st with ovs := n } where
  same := S.put r.same (.inr (.inr (.inr (.inr rfl))))
  lead := by rw [upd_ne r.ovL.symm]; exact r.lead
  hands := by rw [upd_ne r.ovh.symm]; exact r.hands
  lines := let ⟨rs, h1', h2, h3⟩ := r.lines; ⟨rs, by rw [upd_ne r.ovn.symm]; exact h1', h2, fun x hx => Tk.put h1 (fun _ e => by cases e) _ _ (h3 x hx)⟩
  wishes := let ⟨wl, h1', h2⟩ := r.wishes; ⟨wl, by rw [upd_ne r.ovw.symm]; exact h1', Paired.mapP h2 fun _ _ q => q.tk (Tk.put h1 fun _ e => by cases e)⟩
  overs := ⟨kvs', upd_same, h2⟩
  hn := r.hn
  hw := r.hw
  nw := r.nw
/-- what is none of the changing ones stands apart from them -/
theorem Rm.newKp (r : Rm a B H p st) {x : Addr} {o : HO} (h : H x = Option.none) : Kp p H (upd H x o) := Kp.of_same (Same.upd h)
end
end Pk

set_option Elab.async false
set_option linter.all false
set_option maxRecDepth 100000
set_option maxHeartbeats 2000000
/-! The small methods of the stand, the sheet and the lead. -/
namespace Pk
open PySem PySem.Spec PyProof.Rows L2
/-- where all lies -/
structure At (a : Adr) (B H : Hp) (p : Pl) (sa : List Addr) (sd : List Sd) (nm : Int × Int) (st : LS) : Prop where
  S : Stat a B p sa sd nm
  r : Rm a B H p st
theorem At.kept {a : Adr} {B H H' : Hp} {p : Pl} {sa : List Addr} {sd : List Sd} {nm : Int × Int} {st : LS} (x : At a B H p sa sd nm st) (e : Same H H') : At a B H' p sa sd nm st := ⟨x.S, x.r.kept e⟩
theorem At.hS {a : Adr} {B H : Hp} {p : Pl} {sa : List Addr} {sd : List Sd} {nm : Int × Int} {st : LS} (x : At a B H p sa sd nm st) : H p.S = some (.ins a.cSheet p.dS (shf p)) := x.r.same _ _ x.S.sheet
theorem At.hG {a : Adr} {B H : Hp} {p : Pl} {sa : List Addr} {sd : List Sd} {nm : Int × Int} {st : LS} (x : At a B H p sa sd nm st) : H p.G = some (.ins a.cStand p.dG (sdf p)) := x.r.same _ _ x.S.stand
theorem At.hp {a : Adr} {B H : Hp} {p : Pl} {sa : List Addr} {sd : List Sd} {nm : Int × Int} {st : LS} (x : At a B H p sa sd nm st) : H p.pc = some (.ins a.cPact p.dp (pf p.ps)) := x.r.same _ _ x.S.pact
theorem At.hl {a : Adr} {B H : Hp} {p : Pl} {sa : List Addr} {sd : List Sd} {nm : Int × Int} {st : LS} (x : At a B H p sa sd nm st) : H p.ps = some (.lst (sa.map V.ref)) := x.r.same _ _ x.S.list
theorem At.hst {a : Adr} {B H : Hp} {p : Pl} {sa : List Addr} {sd : List Sd} {nm : Int × Int} {st : LS} (x : At a B H p sa sd nm st) : Steps a H sa sd := x.S.steps.same x.r.same
theorem At.ht {a : Adr} {B H : Hp} {p : Pl} {sa : List Addr} {sd : List Sd} {nm : Int × Int} {st : LS} (x : At a B H p sa sd nm st) : H p.tn = some (.tup [.int nm.1, .int nm.2]) := x.r.same _ _ x.S.name
theorem At.he {a : Adr} {B H : Hp} {p : Pl} {sa : List Addr} {sd : List Sd} {nm : Int × Int} {st : LS} (x : At a B H p sa sd nm st) : H p.en = some (.dT []) := x.r.same _ _ x.S.ends
/-- an expression that is never reached -/
theorem pe_never {X : Cx} {e : Expr} : PE X e (fun _ _ _ => False) := ⟨fun _ _ _ _ _ _ h => h.elim⟩
def handOf (hs : List Int) : Int := hs.getLast?.getD 0
section
variable {P : Program} {w : World} {K : PySem.W.Frag} {mg : Str → Option Value} {base : Heap} {a : Adr}
/-! ### Stand.keep of an over row -/
def spKeep (a : Adr) : Sp := fun vs H Q _ => ∃ B p sa sd nm st r, vs = [.ref p.G, .ref r] ∧ At a B H p sa sd nm st ∧ st.ovs < 100 ∧ H r = some (.tup [.str "over", .ref p.tn]) ∧
  ∀ H', At a B H' p sa sd nm { st with ovs := st.ovs + 1 } → Kp p H H' → Tk H H' → H' p.ln = H p.ln → Q .non H'
theorem c_keep (T : Txt K mg a) : C8.Met P w K mg base 1 a.cStand "keep" (spKeep a) [] := by
  refine met1 T.cStand T.mStand_keep T.F_keep sc_keep (fun vs H Q E h => ?_) (fun cdv A outer s H vs Q E hr h => ?_)
  · obtain ⟨B, p, sa, sd, nm, st, r, rfl, _⟩ := h
    rfl
  · obtain ⟨B, p, sa, sd, nm, st, r, rfl, x, l, hr', k⟩ := h
    refine ⟨_, (pss_cons (ps_set (i := 2) sc_keep.nd rfl (Or.inl rfl) (pe_ix ix_tup (pv 1) pe_int (fun _ _ => rfl)))
      (pss_cons (ps_set (i := 3) sc_keep.nd rfl (Or.inl rfl) (pe_ix ix_tup (pv 1) pe_int (fun _ _ => rfl)))
      (pss_one (ps_if (pt_cmpR op_eq (pv 2) pe_str (nomark _)) pss_never (pss_one (ps_if (pt_cmpR op_eq (pv 2) pe_str (nomark _)) pss_never (pss_one (ps_if (pt_cmpR op_eq (pv 2) pe_str (nomark _)) pss_never (pss_one (ps_if (pt_cmpR op_eq (pv 2) pe_str (nomark _)) pss_never (pss_one (ps_if (pt_cmpR op_eq (pv 2) pe_str (nomark _)) (pss_one (ps_dput (hu_of hr) (pe_fld (pv 0) rfl) (pv 3) pe_bl rfl)) pss_never)))))))))))), ?_⟩
    refine ⟨_, rfl, r, _, _, _, rfl, rfl, SqT.of hr', rfl, ?_⟩
    refine ⟨_, rfl, r, _, _, _, rfl, rfl, SqT.of hr', rfl, ?_⟩
    refine ⟨_, rfl, rfl, _, rfl, ite_false_of (show decide (V.str "over" = V.str "begin") = false by decide +kernel) ?_⟩
    refine ⟨_, rfl, rfl, _, rfl, ite_false_of (show decide (V.str "over" = V.str "work") = false by decide +kernel) ?_⟩
    refine ⟨_, rfl, rfl, _, rfl, ite_false_of (show decide (V.str "over" = V.str "ready") = false by decide +kernel) ?_⟩
    refine ⟨_, rfl, rfl, _, rfl, ite_false_of (show decide (V.str "over" = V.str "end") = false by decide +kernel) ?_⟩
    refine ⟨_, rfl, rfl, _, rfl, ite_true_of (show decide (V.str "over" = V.str "over") = true by decide +kernel) ?_⟩
    obtain ⟨kvs, h1, h2⟩ := x.r.overs
    have hk : H p.tn = some (.tup (([Sum.inl nm.1, Sum.inl nm.2] : List Key).map kV)) := x.ht
    refine ⟨_, rfl, p.G, _, p.dG, _, _, rfl, x.hG, T.cStand, T.nStand_overs, rfl, _, rfl, p.ov, _, rfl, DPut.t h1 hk (by rw [sizeLine_eq]; omega), ?_⟩
    have hz := length_putK kvs ([Sum.inl nm.1, Sum.inl nm.2] : List Key) (V.bl true)
    exact k _ ⟨x.S, x.r.putOver x.S h1 (by omega)⟩ (Kp.put (by simp)) (Tk.put h1 fun _ e => by cases e) (upd_ne x.r.ovn.symm)
/-! ### Sheet.row, send, rows_told -/
def spRow (a : Adr) : Sp := fun vs H Q _ => ∃ B p sa sd nm st r, vs = [.ref p.S, .ref r] ∧ At a B H p sa sd nm st ∧ st.ovs < 100 ∧ st.rows < 100 ∧ H r = some (.tup [.str "over", .ref p.tn]) ∧
  ∀ H', At a B H' p sa sd nm { st with ovs := st.ovs + 1, rows := st.rows + 1 } → Kp p H H' → Q .non H'
theorem c_row (T : Txt K mg a) : C8.Met P w K mg base 2 a.cSheet "row" (spRow a) [] := by
  refine met1 T.cSheet T.mSheet_row T.F_row sc_row (fun vs H Q E h => ?_) (fun cdv A outer s H vs Q E hr h => ?_)
  · obtain ⟨B, p, sa, sd, nm, st, r, rfl, _⟩ := h
    rfl
  · obtain ⟨B, p, sa, sd, nm, st, r, rfl, x, l1, l2, hr', k⟩ := h
    refine ⟨_, (pss_cons (ps_expr (C8.pe_mt (c_keep T) hr (by decide) (pe_fld (pv 0) rfl) (pa_cons (pv 1) pa_nil)))
      (pss_one (ps_expr (pe_bm PySem.F.plainAttrs_list PySem.F.slot_list_append PySem.F.type_list_append mt_append (pe_fld (pv 0) rfl) (pa_cons (pv 1) pa_nil))))), ?_⟩
    refine ⟨_, rfl, p.S, _, p.dS, _, _, rfl, x.hS, T.cSheet, T.nSheet_ground, rfl, p.G, p.dG, _, rfl, x.hG, rfl, _, rfl, B, p, sa, sd, nm, st, r, rfl, x, l1, hr', fun H1 x1 kp tk e1 => ?_⟩
    obtain ⟨rs, h1, h2, h3⟩ := x1.r.lines
    refine ⟨_, rfl, p.S, _, p.dS, _, _, rfl, x1.hS, T.cSheet, T.nSheet_lines, rfl, .inl ⟨rfl, _, SqL.of h1⟩, _, rfl, p.ln, _, _, rfl, rfl, h1, ?_, ?_⟩
    · rw [List.length_map, h2, sizeLine_eq]
      show st.rows < _
      omega
    · exact k _ ⟨x1.S, x1.r.putRow x1.S h1 h2 h3 (tk _ _ hr')⟩ (kp.trans (Kp.put (by simp)))
def spSend (a : Adr) : Sp := fun vs H Q _ => ∃ B p sa sd nm st to wd m more, vs = [.ref p.S, to, .str wd, .ref p.tn, .ref m] ∧ At a B H p sa sd nm st ∧ st.lets.length < 1000 ∧ H m = some (.tup more) ∧
  ∀ H', At a B H' p sa sd nm { st with lets := st.lets ++ [⟨to, wd, more⟩] } → Kp p H H' → Q .non H'
theorem c_send (T : Txt K mg a) : C8.Met P w K mg base 1 a.cSheet "send" (spSend a) [] := by
  refine met1 T.cSheet T.mSheet_send T.F_send sc_send (fun vs H Q E h => ?_) (fun cdv A outer s H vs Q E hr h => ?_)
  · obtain ⟨B, p, sa, sd, nm, st, to, wd, m, more, rfl, _⟩ := h
    rfl
  · obtain ⟨B, p, sa, sd, nm, st, to, wd, m, more, rfl, x, l, hm, k⟩ := h
    refine ⟨_, (pss_one (ps_expr (pe_bm PySem.F.plainAttrs_list PySem.F.slot_list_append PySem.F.type_list_append mt_append (pe_fld (pv 0) rfl) (pa_cons (pe_tup (pa_cons (pv 1) (pa_cons (pv 2) (pa_cons (pv 3) (pa_cons (pv 4) pa_nil))))) pa_nil)))), ?_⟩
    obtain ⟨wl, h1, h2⟩ := x.r.wishes
    refine ⟨_, rfl, p.S, _, p.dS, _, _, rfl, x.hS, T.cSheet, T.nSheet_wishes, rfl, .inl ⟨rfl, _, SqL.of h1⟩, _, rfl, _, rfl, _, rfl, _, rfl, by show 4 ≤ sizeLine; decide, fun q nq => ?_⟩
    have sm := Same.upd (o := .tup [to, .str wd, .ref p.tn, .ref m]) nq
    have x1 := x.kept sm
    have h1' := sm _ _ h1
    have hl := h2.length
    refine ⟨p.ws, _, _, rfl, rfl, h1', by rw [List.length_map, hl, sizeLine_eq]; omega, ?_⟩
    refine k _ ⟨x1.S, x1.r.putWish x1.S h1' (Paired.mapP h2 fun _ _ z => z.tk fun b xs e => sm _ _ e) ⟨m, upd_same, sm _ _ hm⟩⟩ ((Kp.of_same sm).trans (Kp.put (by simp)))
def spRowsTold (a : Adr) : Sp := fun vs H Q _ => ∃ B p sa sd nm st, vs = [.ref p.S] ∧ At a B H p sa sd nm st ∧
  ∀ q H' (rs : List Addr), Same H H' → H' q = some (.lst (rs.map V.ref)) → rs.length = st.rows → (∀ r ∈ rs, H' r = some (.tup [.str "over", .ref p.tn])) → Q (.ref q) H'
theorem c_rowsTold (T : Txt K mg a) : C8.Met P w K mg base 1 a.cSheet "rows_told" (spRowsTold a) [] := by
  refine met1 T.cSheet T.mSheet_rows_told T.F_rowsTold sc_rowsTold (fun vs H Q E h => ?_) (fun cdv A outer s H vs Q E hr h => ?_)
  · obtain ⟨B, p, sa, sd, nm, st, rfl, _⟩ := h
    rfl
  · obtain ⟨B, p, sa, sd, nm, st, rfl, x, k⟩ := h
    refine ⟨_, (pss_one (ps_ret (pe_callTy call_list_of (by rfl) T.z_list (by decide +kernel) (pa_cons (pe_fld (pv 0) rfl) pa_nil)))), ?_⟩
    obtain ⟨rs, h1, h2, h3⟩ := x.r.lines
    refine ⟨_, rfl, p.S, _, p.dS, _, _, rfl, x.hS, T.cSheet, T.nSheet_lines, rfl, p.ln, _, rfl, .inl (SqL.of h1), fun q nq => ?_⟩
    exact k q _ rs (Same.upd nq) upd_same h2 fun r hr => Same.upd nq _ _ (h3 r hr)
/-! ### Stand.news: no end row stands -/
def spNews (a : Adr) : Sp := fun vs H Q _ => ∃ B p sa sd nm st, vs = [.ref p.G] ∧ At a B H p sa sd nm st ∧ ∀ q H', Same H H' → H' q = some (.tup []) → Q (.ref q) H'
theorem c_news (T : Txt K mg a) : C8.Met P w K mg base 1 a.cStand "news" (spNews a) [] := by
  refine met1 T.cStand T.mStand_news T.F_news sc_news (fun vs H Q E h => ?_) (fun cdv A outer s H vs Q E hr h => ?_)
  · obtain ⟨B, p, sa, sd, nm, st, rfl, _⟩ := h
    rfl
  · obtain ⟨B, p, sa, sd, nm, st, rfl, x, k⟩ := h
    refine ⟨_, (pss_one (ps_ret (pe_callTy call_tuple_of (by rfl) T.z_tuple (by decide +kernel) (pa_cons (pe_callB cr_sorted (by rfl) T.z_sorted (by decide +kernel) (pa_cons (pe_lock (pe_lc (te := fun _ _ _ => False) (own := [("name", 1)]) (g := gName 1) (tt := tYes) rfl sc_news.nd (pi_keys (pe_fld (pv 0) rfl)) (blkOk_by (own := [("name", 1)]) (N := ["self", "name"]) (sc := C8.fnScope s_news) (by decide +kernel)) (fun _ _ _ _ _ => pg_name (i := 1) sc_news.nd rfl (Or.inl rfl)) (fun _ _ _ _ _ => pts_nil) (fun _ _ _ _ _ => pe_never))) pa_nil)) pa_nil)))), ?_⟩
    have nG : p.G ≠ p.en := ne_of x.hG x.he (by intro e; cases e)
    refine ⟨p.en, .dT [], x.he, trivial, fun od => ?_⟩
    refine ⟨_, rfl, p.G, _, p.dG, _, _, rfl, by rw [upd_ne nG]; exact x.hG, T.cStand, T.nStand_ends, rfl, p.en, od, rfl, .inr ⟨[], upd_same, fun D nD => ?_⟩⟩
    have nDe : D ≠ p.en := fun e => by rw [e, upd_same] at nD; cases nD
    refine ⟨fun i m H' => i = 0 ∧ H' = upd (upd H p.en (.frz od (.dT []))) D (.lst []), ⟨0, rfl, rfl⟩, ?_⟩
    rintro i m H' ⟨rfl, rfl⟩
    refine .inl ⟨⟨by rw [upd_ne nDe.symm]; exact upd_same, Nat.le_refl _⟩, by rw [upd_ne nDe.symm]; exact upd_same, ?_⟩
    have hD : H D = Option.none := by rw [upd_ne nDe] at nD; exact nD
    have s1 : Same H (upd (upd (upd H p.en (.frz od (.dT []))) D (.lst [])) p.en (.dT [])) := fun b o e => by
      by_cases c : b = p.en
      · subst c
        rw [x.he] at e
        cases e
        exact upd_same
      · rw [upd_ne c, upd_ne (ne_of_none e hD), upd_ne c]
        exact e
    refine ⟨D, [], rfl, SqL.of (by rw [upd_ne nDe]; exact upd_same), by decide, fun ns' q perm _ nq => ?_⟩
    have e0 : ns' = [] := List.perm_nil.mp perm
    subst e0
    refine ⟨q, _, rfl, .inl ⟨SqL.of upd_same, fun t nt => ?_⟩⟩
    exact k t _ ((s1.trans (Same.upd nq)).trans (Same.upd nt)) upd_same
/-! ### Sheet.letters_told -/
def ToldAt (p : Pl) (H : Hp) (x : Addr) (l : Lt) : Prop := ∃ y m nw, H x = some (.tup [l.to, .ref y]) ∧ H y = some (.tup [.str l.word, .ref p.tn, .ref m, .ref nw]) ∧ H m = some (.tup l.more) ∧ H nw = some (.tup [])
theorem ToldAt.same {p : Pl} {H H' : Hp} {x : Addr} {l : Lt} (h : ToldAt p H x l) (e : Same H H') : ToldAt p H' x l := let ⟨y, m, nw, h1, h2, h3, h4⟩ := h; ⟨y, m, nw, e _ _ h1, e _ _ h2, e _ _ h3, e _ _ h4⟩
def spLettersTold (a : Adr) : Sp := fun vs H Q _ => ∃ B p sa sd nm st, vs = [.ref p.S] ∧ At a B H p sa sd nm st ∧ st.lets.length ≤ 1000 ∧
  ∀ q H' (tl : List Addr), Same H H' → H q = Option.none → H' q = some (.lst (tl.map V.ref)) → Paired (ToldAt p H') tl st.lets → Q (.ref q) H'
theorem c_lettersTold (T : Txt K mg a) : C8.Met P w K mg base 2 a.cSheet "letters_told" (spLettersTold a) [] := by
  refine met1 T.cSheet T.mSheet_letters_told T.F_lettersTold sc_lettersTold (fun vs H Q E h => ?_) (fun cdv A outer s H vs Q E hr h => ?_)
  · obtain ⟨B, p, sa, sd, nm, st, rfl, _⟩ := h
    rfl
  · obtain ⟨B, p, sa, sd, nm, st, rfl, x, l, k⟩ := h
    refine ⟨_, (pss_cons (ps_set (i := 1) sc_lettersTold.nd rfl (Or.inr rfl) (C8.pe_mt0 (c_news T) hr (by decide) (pe_fld (pv 0) rfl)))
      (pss_one (ps_ret (pe_lc (te := (tTup (tCons (tOp (rIxT K) (tVar 2) (tC (.int 0))) (tCons (tTup (tCons (tOp (rIxT K) (tVar 2) (tC (.int 1))) (tCons (tOp (rIxT K) (tVar 2) (tC (.int 2))) (tCons (tOp (rIxT K) (tVar 2) (tC (.int 3))) (tCons (tVar 1) tNil))))) tNil)))) (own := [("wish", 2)]) (g := gName 2) (tt := tYes) rfl sc_lettersTold.nd (pi_list (pe_fld (pv 0) rfl)) (blkOk_by (own := [("wish", 2)]) (N := ["self", "news", "wish"]) (sc := C8.fnScope s_lettersTold) (by decide +kernel)) (fun _ _ _ _ _ => pg_name (i := 2) sc_lettersTold.nd rfl (Or.inl rfl)) (fun _ _ _ _ _ => pts_nil) (fun _ _ _ _ _ => (pe_tup (pa_cons (pe_ix ix_tup (pv 2) pe_int (fun _ _ => rfl)) (pa_cons (pe_tup (pa_cons (pe_ix ix_tup (pv 2) pe_int (fun _ _ => rfl)) (pa_cons (pe_ix ix_tup (pv 2) pe_int (fun _ _ => rfl)) (pa_cons (pe_ix ix_tup (pv 2) pe_int (fun _ _ => rfl)) (pa_cons (pv 1) pa_nil))))) pa_nil)))))))), ?_⟩
    refine ⟨_, rfl, p.S, _, p.dS, _, _, rfl, x.hS, T.cSheet, T.nSheet_ground, rfl, p.G, p.dG, _, rfl, x.hG, rfl, B, p, sa, sd, nm, st, rfl, x, fun nw H1 s1 hnw => ?_⟩
    have x1 := x.kept s1
    obtain ⟨wl, h1, h2⟩ := x1.r.wishes
    refine ⟨_, rfl, p.S, _, p.dS, _, _, rfl, x1.hS, T.cSheet, T.nSheet_wishes, rfl, p.ws, rfl, ⟨_, SqL.of h1⟩, fun D nD => ?_⟩
    have hlen := h2.length
    refine lc_list (K := K) (a := p.ws) (xs := wl.map V.ref) (fun i H' => ∃ tl : List Addr, Same H1 H' ∧ H' D = some (.lst (tl.map V.ref)) ∧ Paired (ToldAt p H') tl (st.lets.take i))
      ⟨[], Same.upd nD, upd_same, .nil⟩ (fun i H' _ ⟨_, s2, _⟩ => SqL.of (s2 _ _ h1)) ?_ ?_
    · rintro i v H' hi ⟨tl, s2, hD, hp⟩
      obtain ⟨y, hy, rfl⟩ : ∃ y, wl[i]? = some y ∧ v = V.ref y := by
        rw [List.getElem?_map] at hi
        cases e : wl[i]? with
        | none =>
          rw [e] at hi
          cases hi
        | some z =>
          rw [e] at hi
          exact ⟨z, rfl, (Option.some.inj hi).symm⟩
      have hi2 : i < st.lets.length := by
        have := (List.getElem?_eq_some_iff.mp hy).1
        omega
      have hz : st.lets[i]? = some st.lets[i] := List.getElem?_eq_getElem hi2
      generalize st.lets[i] = z at hz
      obtain ⟨y', hy', m, hm1, hm2⟩ := paired_get h2 hz
      rw [hy] at hy'
      cases hy'
      have g1 := s2 _ _ hm1
      have g2 := s2 _ _ hm2
      have g3 := s2 _ _ hnw
      have htl : tl.length ≤ 1000 := by
        have := hp.length
        rw [List.length_take] at this
        omega
      refine ⟨rfl, ?_⟩
      refine ⟨_, rfl, y, _, _, _, rfl, rfl, SqT.of g1, rfl, _, rfl, y, _, _, _, rfl, rfl, SqT.of g1, rfl, _, rfl, y, _, _, _, rfl, rfl, SqT.of g1, rfl, _, rfl, y, _, _, _, rfl, rfl, SqT.of g1, rfl, _, rfl, by show 4 ≤ sizeLine; decide, fun t nt => ?_⟩
      refine ⟨by show 2 ≤ sizeLine; decide, fun u nu => ?_⟩
      have s3 := (Same.upd (o := .tup [.str z.word, .ref p.tn, .ref m, .ref nw]) nt).trans (Same.upd (o := .tup [z.to, .ref t]) nu)
      have hD' := s3 _ _ hD
      have nDx : ∀ b xs, (upd (upd H' t (.tup [.str z.word, .ref p.tn, .ref m, .ref nw])) u (.tup [z.to, .ref t])) b = some (.tup xs) → b ≠ D := fun b xs e => ne_of e hD' (by intro q; cases q)
      have ntu : t ≠ u := fun e => by rw [← e, upd_same] at nu; cases nu
      refine ⟨_, hD', by rw [List.length_map, sizeLine_eq]; omega, tl ++ [u], ?_, by rw [upd_same, List.map_append]; rfl, ?_⟩
      · intro b o e
        rw [upd_ne (ne_of_none e nD)]
        exact s3 _ _ (s2 _ _ e)
      · rw [take_succ hz]
        have keep : ∀ b xs, (upd (upd H' t (.tup [.str z.word, .ref p.tn, .ref m, .ref nw])) u (.tup [z.to, .ref t])) b = some (.tup xs) → (upd (upd (upd H' t (.tup [.str z.word, .ref p.tn, .ref m, .ref nw])) u (.tup [z.to, .ref t])) D (.lst (tl.map V.ref ++ [.ref u]))) b = some (.tup xs) := fun b xs e => by
          rw [upd_ne (nDx b xs e)]
          exact e
        refine paired_snoc ⟨t, m, nw, keep _ _ upd_same, keep _ _ ?_, keep _ _ (s3 _ _ g2), keep _ _ (s3 _ _ g3)⟩ (Paired.mapP hp fun q1 q2 ⟨y1, m1, n1, e1, e2, e3, e4⟩ => ⟨y1, m1, n1, keep _ _ (s3 _ _ e1), keep _ _ (s3 _ _ e2), keep _ _ (s3 _ _ e3), keep _ _ (s3 _ _ e4)⟩)
        rw [upd_ne ntu]
        exact upd_same
    · rintro H' ⟨tl, s2, hD, hp⟩
      rw [List.length_map, hlen, List.take_length] at hp
      refine k D H' tl (s1.trans s2) ?_ hD hp
      exact s1.free nD
end
end Pk

set_option Elab.async false
set_option linter.all false
set_option maxRecDepth 100000
set_option maxHeartbeats 2000000
/-! The lead's small methods: place, step_next, hand_now, plain_steps, send_step, close. -/
namespace Pk
open PySem PySem.Spec PyProof.Rows L2
/-! ### the steps at no house, in plain words -/
def plainGo : List Sd → List Int → List Int × Bool
  | [], hs => (hs, true)
  | s :: r, hs => match s.house with
    | some _ => (hs, true)
    | none => match s.handed (handOf hs) with
      | some k => plainGo r (hs ++ [k])
      | none => (hs, false)
def plainRun (sd : List Sd) (hs : List Int) : List Int × Bool := plainGo (sd.drop hs.length) hs
theorem drop_at {α : Type} {l : List α} {i : Nat} {x : α} (h : l[i]? = some x) : l.drop i = x :: l.drop (i + 1) := by
  obtain ⟨hi, e⟩ := List.getElem?_eq_some_iff.mp h
  rw [List.drop_eq_getElem_cons hi, e]
theorem plainRun_none {sd : List Sd} {hs : List Int} (h : sd[hs.length]? = none) : plainRun sd hs = (hs, true) := by
  unfold plainRun
  rw [List.drop_eq_nil_of_le (List.getElem?_eq_none_iff.mp h)]
  rfl
theorem plainRun_house {sd : List Sd} {hs : List Int} {s : Sd} (h : sd[hs.length]? = some s) (n : s.house ≠ none) : plainRun sd hs = (hs, true) := by
  unfold plainRun
  rw [drop_at h]
  cases e : s.house with
  | none => exact absurd e n
  | some _ =>
    show (match s.house with | some _ => (hs, true) | none => _) = _
    rw [e]
theorem plainRun_step {sd : List Sd} {hs : List Int} {s : Sd} {k : Int} (h : sd[hs.length]? = some s) (n : s.house = none) (q : s.handed (handOf hs) = some k) : plainRun sd hs = plainRun sd (hs ++ [k]) := by
  have e : plainRun sd hs = plainGo (s :: sd.drop (hs.length + 1)) hs := by unfold plainRun; rw [drop_at h]
  rw [e]
  unfold plainRun
  rw [List.length_append]
  show (match s.house with | some _ => (hs, true) | none => match s.handed (handOf hs) with | some k => plainGo (sd.drop (hs.length + 1)) (hs ++ [k]) | none => (hs, false)) = _
  rw [n, q]
  rfl
theorem plainRun_need {sd : List Sd} {hs : List Int} {s : Sd} (h : sd[hs.length]? = some s) (n : s.house = none) (q : s.handed (handOf hs) = none) : plainRun sd hs = (hs, false) := by
  have e : plainRun sd hs = plainGo (s :: sd.drop (hs.length + 1)) hs := by unfold plainRun; rw [drop_at h]
  rw [e]
  show (match s.house with | some _ => (hs, true) | none => match s.handed (handOf hs) with | some k => plainGo (sd.drop (hs.length + 1)) (hs ++ [k]) | none => (hs, false)) = _
  rw [n, q]
/-- the step that is next, as a value -/
def nextV (sa : List Addr) (hs : List Int) : V := match sa[hs.length]? with | some q => .ref q | none => .non
def houseN (s : Sd) : Bool := s.house.isNone
theorem houseV_non {s : Sd} (h : s.house = none) : s.houseV = .non := by unfold Sd.houseV; rw [h]
theorem houseV_some {s : Sd} (h : s.house ≠ none) : ¬ (s.houseV = .non) := by
  unfold Sd.houseV
  cases e : s.house with
  | none => exact absurd e h
  | some x => intro q; cases q
section
variable {P : Program} {w : World} {K : PySem.W.Frag} {mg : Str → Option Value} {base : Heap} {a : Adr}
def spPlace (a : Adr) : Sp := fun vs H Q _ => ∃ B p sa sd nm st, vs = [.ref p.L] ∧ At a B H p sa sd nm st ∧ Q (.int st.hands.length) H
theorem c_place (T : Txt K mg a) : C8.Met P w K mg base 1 a.cWalk "place" (spPlace a) [] := by
  refine met1 T.cWalk T.mWalk_place T.F_place sc_place (fun vs H Q E h => ?_) (fun cdv A outer s H vs Q E hr h => ?_)
  · obtain ⟨B, p, sa, sd, nm, st, rfl, _⟩ := h
    rfl
  · obtain ⟨B, p, sa, sd, nm, st, rfl, x, k⟩ := h
    refine ⟨_, (pss_one (ps_ret (pe_callB call_len_seq (by rfl) T.z_len PySem.boot_len (pa_cons (pe_fld (pv 0) rfl) pa_nil)))), ?_⟩
    have e : (st.hands.map V.int).length = st.hands.length := List.length_map _
    rw [← e] at k
    exact ⟨_, rfl, p.L, _, p.dl, _, _, rfl, x.r.lead, T.cWalk, T.nWalk_hands, rfl, p.hd, _, rfl, .inl (SqL.of x.r.hands), k⟩
def spStepNext (a : Adr) : Sp := fun vs H Q _ => ∃ B p sa sd nm st, vs = [.ref p.L] ∧ At a B H p sa sd nm st ∧ Q (nextV sa st.hands) H
theorem c_stepNext (T : Txt K mg a) : C8.Met P w K mg base 2 a.cWalk "step_next" (spStepNext a) [] := by
  refine met1 T.cWalk T.mWalk_step_next T.F_stepNext sc_stepNext (fun vs H Q E h => ?_) (fun cdv A outer s H vs Q E hr h => ?_)
  · obtain ⟨B, p, sa, sd, nm, st, rfl, _⟩ := h
    rfl
  · obtain ⟨B, p, sa, sd, nm, st, rfl, x, k⟩ := h
    refine ⟨_, (pss_cons (ps_if (pt_cmpR op_lt (C8.pe_mt0 (c_place T) hr (by decide) (pv 0)) (pe_callB call_len_seq (by rfl) T.z_len PySem.boot_len (pa_cons (pe_fld (pe_fld (pv 0) rfl) rfl) pa_nil)) (nomark _)) (pss_one (ps_ret (pe_ix ix_list (pe_fld (pe_fld (pv 0) rfl) rfl) (C8.pe_mt0 (c_place T) hr (by decide) (pv 0)) (fun _ _ => rfl)))) pss_nil)
      (pss_one (ps_ret pe_non))), ?_⟩
    refine ⟨_, rfl, p.L, p.dl, _, rfl, x.r.lead, rfl, B, p, sa, sd, nm, st, rfl, x, _, rfl, p.L, _, p.dl, _, _, rfl, x.r.lead, T.cWalk, T.nWalk_pact, rfl, p.pc, _, p.dp, _, _, rfl, x.hp, T.cPact, T.nPact_steps, rfl, p.ps, _, rfl, .inl (SqL.of x.hl), _, _, rfl, rfl, _, rfl, ?_⟩
    rw [List.length_map]
    cases e : sa[st.hands.length]? with
    | none =>
      have hle := List.getElem?_eq_none_iff.mp e
      refine ite_false_of (dN (by omega)) ?_
      unfold nextV at k
      rw [e] at k
      exact k
    | some q =>
      have hlt := (List.getElem?_eq_some_iff.mp e).1
      refine ite_true_of (dY (by omega)) ?_
      unfold nextV at k
      rw [e] at k
      refine ⟨_, rfl, p.L, _, p.dl, _, _, rfl, x.r.lead, T.cWalk, T.nWalk_pact, rfl, p.pc, _, p.dp, _, _, rfl, x.hp, T.cPact, T.nPact_steps, rfl, _, rfl, p.L, p.dl, _, rfl, x.r.lead, rfl, B, p, sa, sd, nm, st, rfl, x, p.ps, _, _, _, rfl, rfl, SqL.of x.hl, atI_nat (v := .ref q) ?_, k⟩
      rw [List.getElem?_map, e]
      rfl
def spHandNow (a : Adr) : Sp := fun vs H Q _ => ∃ B p sa sd nm st, vs = [.ref p.L] ∧ At a B H p sa sd nm st ∧ ∀ H', Same H H' → Q (.int (handOf st.hands)) H'
theorem dp_ints {H : Hp} : ∀ l : List Int, DpAll K H (l.map V.int) (l.map PyData.int)
  | [] => .nil
  | n :: r => .cons (.int n) (dp_ints r)
theorem eqv_nil (l : List Int) : PyData.eqv (.list (l.map PyData.int)) (.list []) = l.isEmpty := by
  cases l with
  | nil => simp [PyData.eqv, PyData.eqvAll]
  | cons n r => simp [PyData.eqv, PyData.eqvAll]
theorem c_handNow (T : Txt K mg a) : C8.Met P w K mg base 1 a.cWalk "hand_now" (spHandNow a) [] := by
  refine met1 T.cWalk T.mWalk_hand_now T.F_handNow sc_handNow (fun vs H Q E h => ?_) (fun cdv A outer s H vs Q E hr h => ?_)
  · obtain ⟨B, p, sa, sd, nm, st, rfl, _⟩ := h
    rfl
  · obtain ⟨B, p, sa, sd, nm, st, rfl, x, k⟩ := h
    refine ⟨_, (pss_cons (ps_if (pt_cmpR (op_eqD hr.units) (pe_fld (pv 0) rfl) (pe_lst pa_nil) (nomark _)) (pss_one (ps_ret pe_int)) pss_nil)
      (pss_one (ps_ret (pe_ix ix_list (pe_fld (pv 0) rfl) (pe_un un_neg pe_int) (fun _ _ => rfl))))), ?_⟩
    refine ⟨_, rfl, p.L, _, p.dl, _, _, rfl, x.r.lead, T.cWalk, T.nWalk_hands, rfl, Nat.zero_le _, fun q nq => ?_⟩
    have x1 := x.kept (Same.upd (o := .lst []) nq)
    refine ⟨.list (st.hands.map PyData.int), .list [], .lst (SqL.of x1.r.hands) (dp_ints _), .lst (SqL.of upd_same) .nil, PySem.W.shaped_ints _, by decide, _, rfl, ?_⟩
    rw [eqv_nil]
    cases e : st.hands with
    | nil =>
      refine iteT ?_
      rw [e] at k
      exact k _ (Same.upd nq)
    | cons n r =>
      refine iteF ?_
      have ne : st.hands ≠ [] := by rw [e]; exact List.cons_ne_nil _ _
      have ex : st.hands.map V.int = (st.hands.dropLast).map V.int ++ [V.int (handOf st.hands)] := by
        have := List.dropLast_concat_getLast ne
        have e2 : handOf st.hands = st.hands.getLast ne := by
          unfold handOf
          rw [List.getLast?_eq_some_getLast ne]
          rfl
        rw [e2]
        conv => lhs; rw [← this]
        rw [List.map_append]
        rfl
      refine ⟨_, rfl, p.L, _, p.dl, _, _, rfl, x1.r.lead, T.cWalk, T.nWalk_hands, rfl, _, rfl, p.hd, _, _, _, rfl, rfl, SqL.of x1.r.hands, ?_, k _ (Same.upd nq)⟩
      rw [ex]
      exact atI_last _ _
end
end Pk

set_option Elab.async false
set_option linter.all false
set_option maxRecDepth 100000
set_option maxHeartbeats 2000000
/-! The lead: plain_steps, send_step, close, go_back. -/
namespace Pk
open PySem PySem.Spec PyProof.Rows L2
section
variable {a : Adr} {B H H' : Hp} {p : Pl} {st : LS} {sa : List Addr} {sd : List Sd} {nm : Int × Int}
theorem At.slen (x : At a B H p sa sd nm st) : sa.length = sd.length := x.S.steps.length
theorem At.step (x : At a B H p sa sd nm st) {i : Nat} {s : Sd} (h : sd[i]? = some s) : ∃ q dx, sa[i]? = some q ∧ H q = some (.ins (s.cls a) dx s.flds) := by
  obtain ⟨q, hq, dx, e⟩ := paired_get x.hst h
  exact ⟨q, dx, hq, e⟩
theorem At.next_none (x : At a B H p sa sd nm st) {hs : List Int} (h : sd[hs.length]? = none) : nextV sa hs = .non := by
  have : sa[hs.length]? = none := List.getElem?_eq_none_iff.mpr (by rw [x.slen]; exact List.getElem?_eq_none_iff.mp h)
  unfold nextV
  rw [this]
theorem next_some {q : Addr} {hs : List Int} (h : sa[hs.length]? = some q) : nextV sa hs = .ref q := by
  unfold nextV
  rw [h]
theorem At.putHands (x : At a B H p sa sd nm st) (hs : List Int) : At a B (upd H p.hd (.lst (hs.map V.int))) p sa sd nm { st with hands := hs } := ⟨x.S, x.r.putHands x.S hs⟩
end
section
variable {P : Program} {w : World} {K : PySem.W.Frag} {mg : Str → Option Value} {base : Heap} {a : Adr}
def spPlain (a : Adr) : Sp := fun vs H Q _ => ∃ B p sa sd nm st, vs = [.ref p.L] ∧ At a B H p sa sd nm st ∧
  ∀ H', At a B H' p sa sd nm { st with hands := (plainRun sd st.hands).1 } → Kp p H H' → Q (.bl (plainRun sd st.hands).2) H'
theorem c_plainSteps (T : Txt K mg a) : C8.Met P w K mg base 3 a.cWalk "plain_steps" (spPlain a) [] := by
  refine met1 T.cWalk T.mWalk_plain_steps T.F_plainSteps sc_plainSteps (fun vs H Q E h => ?_) (fun cdv A outer s H vs Q E hr h => ?_)
  · obtain ⟨B, p, sa, sd, nm, st, rfl, _⟩ := h
    rfl
  · obtain ⟨B, p, sa, sd, nm, st, rfl, x, k⟩ := h
    refine ⟨_, pss_cons (ps_set (i := 1) sc_plainSteps.nd rfl (Or.inl rfl) (C8.pe_mt0 (c_stepNext T) hr (by decide) (pv 0)))
      (pss_cons (ps_while PassesOwn.never (PW.pt (pw_and (pt_cmpR op_notN (pv 1) pe_non (nomark _)) (pw_and1 (pt_cmpR op_isN (pe_methD0 (E := fun _ => C8.E0) (k := 1) (pv 1) (hr.mono (by decide)) passC8) pe_non (nomark _)))))
        (pss_cons (ps_try_onlyE (tb := fun W => tAsg (tOp (rIxT K) (tMethD P w K mg base (L2.CX P w) 1 "step_done" (WE W) (tVar 1) (tCons (tMeth a.cWalk "hand_now" (spHandNow a) [] C8.E0 (tVar 0) tNil) (tCons (tC (.ref a.f_noCell)) tNil))) (tC (.int 0))) (gName 2))
            (ts := fun _ _ _ => tRet (tC (.bl false))) (Wout := fun _ _ _ _ => False)
            (pss_one (ps_expr (pe_bm PySem.F.plainAttrs_list PySem.F.slot_list_append PySem.F.type_list_append mt_append (pe_fld (pv 0) rfl) (pa_cons (pv 2) pa_nil))))
            rfl rfl ⟨rfl, by decide, Or.inl T.gNoNeed⟩ takes0
            (fun W pn xe tk _ => pss_one (ps_set (i := 2) sc_plainSteps.nd rfl (Or.inl rfl) (by exact (pe_ix ix_tup (pe_methD (CX := L2.CX P w) (k := 1) (E := WE W) (pv 1) (hr.mono (by decide)) (fun σ => passAt tk σ)
              (pa_cons (C8.pe_mt0 (c_handNow T) hr (by decide) (pv 0)) (pa_cons (C8.pe_gc (v := .ref a.f_noCell) rfl ⟨_, T.g_noCell, rfl⟩) pa_nil))) pe_int (fun _ _ => rfl)))))
            (fun a oe cls d pn _ _ => pss_one (ps_ret pe_bl)))
          (pss_one (ps_set (i := 1) sc_plainSteps.nd rfl (Or.inl rfl) (C8.pe_mt0 (c_stepNext T) hr (by decide) (pv 0))))))
      (pss_one (ps_ret pe_bl))), ?_⟩
    refine ⟨_, rfl, p.L, p.dl, _, rfl, x.r.lead, rfl, B, p, sa, sd, nm, st, rfl, x, ?_⟩
    refine ⟨fun m σ H' => ∃ (hs : List Int) (v : Option V), σ = [some (.ref p.L), some (nextV sa hs), v] ∧ At a B H' p sa sd nm { st with hands := hs } ∧ Kp p H H' ∧ plainRun sd hs = plainRun sd st.hands ∧ sd.length - hs.length ≤ m, ⟨_, st.hands, none, rfl, x, Kp.of_same (Same.refl _), rfl, Nat.le_refl _⟩, ?_⟩
    rintro m σ H' ⟨hs, v, rfl, x', kp, e, hm⟩
    refine ⟨_, rfl, rfl, _, rfl, ?_⟩
    cases hn : sd[hs.length]? with
    | none =>
      rw [x'.next_none hn]
      refine ite_false_of (by decide) ?_
      rw [plainRun_none hn] at e
      rw [← e] at k
      exact k H' x' kp
    | some s =>
      obtain ⟨q, dx, hq, ho⟩ := x'.step hn
      rw [next_some hq]
      refine ite_true_of (by simp) ?_
      refine ⟨_, rfl, q, _, dx, _, spHouse a s, rfl, ho, no_house s, met_house T s, q, dx, rfl, ho, rfl, _, rfl, ?_⟩
      cases hh : s.house with
      | some y =>
        have ne : s.house ≠ none := by rw [hh]; intro z; cases z
        refine ite_false_of (dN (houseV_some ne)) ?_
        rw [plainRun_house hn ne] at e
        rw [← e] at k
        exact k H' x' kp
      | none =>
        refine ite_true_of (dY (houseV_non hh)) ?_
        have hlt : hs.length < sd.length := (List.getElem?_eq_some_iff.mp hn).1
        refine ⟨fun σ' H2 => ∃ (hs2 : List Int) (v : Option V), σ' = [some (.ref p.L), some (nextV sa hs2), v] ∧ At a B H2 p sa sd nm { st with hands := hs2 } ∧ Kp p H H2 ∧ plainRun sd hs2 = plainRun sd st.hands ∧ hs2.length = hs.length + 1, fun σ' H2 ⟨hs2, v2, e1, e2, e3, e4, e5⟩ => ⟨m - 1, by omega, hs2, v2, e1, e2, e3, e4, by omega⟩, ?_⟩
        -- the step done
        refine ⟨_, rfl, q, _, dx, _, spDone a s, rfl, ho, no_done s, met_done T s hh, ?_⟩
        refine ⟨_, rfl, p.L, p.dl, _, rfl, x'.r.lead, rfl, B, p, sa, sd, nm, _, rfl, x', fun H2 s2 => ?_⟩
        refine ⟨q, dx, _, _, rfl, s2 _ _ ho, fun hd => ?_, fun y hd t z H3 s3 ht => ?_⟩
        · refine ⟨true, T.eNoNeed, fun _ _ _ => ?_, fun z => Bool.noConfusion z⟩
          rw [plainRun_need hn hh hd] at e
          rw [← e] at k
          exact k H2 (x'.kept s2) (kp.trans (Kp.of_same s2))
        · have x3 := x'.kept (s2.trans s3)
          refine ⟨t, _, _, _, rfl, rfl, SqT.of ht, rfl, ?_⟩
          refine ⟨_, rfl, p.L, _, p.dl, _, _, rfl, x3.r.lead, T.cWalk, T.nWalk_hands, rfl, .inl ⟨rfl, _, SqL.of x3.r.hands⟩, _, rfl, p.hd, _, _, rfl, rfl, x3.r.hands, ?_, ?_⟩
          · have := x.S.l12
            rw [List.length_map, sizeLine_eq]
            show hs.length < _
            omega
          have em : (hs.map V.int ++ [V.int y]) = (hs ++ [y]).map V.int := by rw [List.map_append]; rfl
          have x4 : At a B (upd H3 p.hd (.lst (hs.map V.int ++ [V.int y]))) p sa sd nm { st with hands := hs ++ [y] } := by rw [em]; exact x3.putHands (hs ++ [y])
          refine ⟨_, rfl, p.L, p.dl, _, rfl, x4.r.lead, rfl, B, p, sa, sd, nm, _, rfl, x4, ?_⟩
          refine ⟨hs ++ [y], _, rfl, x4, (kp.trans (Kp.of_same (s2.trans s3))).trans (Kp.put (by simp)), ?_, by simp⟩
          rw [← e]
          exact (plainRun_step hn hh hd).symm
def spSendStep (a : Adr) : Sp := fun vs H Q _ => ∃ B p sa sd nm st wd s, vs = [.ref p.L, .ref p.S, .str wd] ∧ At a B H p sa sd nm st ∧ st.lets.length < 1000 ∧ sd[st.hands.length]? = some s ∧ s.house ≠ none ∧
  ∀ l H', At a B H' p sa sd nm { st with lets := st.lets ++ [l] } → Kp p H H' → Q .non H'
theorem c_sendStep (T : Txt K mg a) : C8.Met P w K mg base 3 a.cWalk "send_step" (spSendStep a) [] := by
  refine met1 T.cWalk T.mWalk_send_step T.F_sendStep sc_sendStep (fun vs H Q E h => ?_) (fun cdv A outer s H vs Q E hr h => ?_)
  · obtain ⟨B, p, sa, sd, nm, st, wd, s, rfl, _⟩ := h
    rfl
  · obtain ⟨B, p, sa, sd, nm, st, wd, s, rfl, x, l, hs, hh, k⟩ := h
    refine ⟨_, (pss_cons (ps_set (i := 3) sc_sendStep.nd rfl (Or.inl rfl) (C8.pe_mt0 (c_stepNext T) hr (by decide) (pv 0)))
      (pss_one (ps_expr (C8.pe_mt (c_send T) hr (by decide) (pv 1) (pa_cons (pe_methD0 (E := fun _ => C8.E0) (k := 1) (pv 3) (hr.mono (by decide)) passC8) (pa_cons (pv 2) (pa_cons (pe_fld (pv 0) rfl) (pa_cons (pe_tup (pa_cons (C8.pe_mt0 (c_place T) hr (by decide) (pv 0)) (pa_cons (C8.pe_mt0 (c_handNow T) hr (by decide) (pv 0)) (pa_cons (pe_methD0 (E := fun _ => C8.E0) (k := 2) (pv 3) (hr.mono (by decide)) passC8) pa_nil)))) pa_nil)))))))), ?_⟩
    obtain ⟨q, dx, hq, ho⟩ := x.step hs
    have ok := x.S.ok s (List.mem_of_getElem? hs)
    refine ⟨_, rfl, p.L, p.dl, _, rfl, x.r.lead, rfl, B, p, sa, sd, nm, _, rfl, x, ?_⟩
    rw [next_some hq]
    refine ⟨_, rfl, p.S, p.dS, _, rfl, x.hS, rfl, _, rfl, q, _, dx, _, spHouse a s, rfl, ho, no_house s, met_house T s, q, dx, rfl, ho, ?_⟩
    refine ⟨_, rfl, _, rfl, p.L, _, p.dl, _, _, rfl, x.r.lead, T.cWalk, T.nWalk_name, rfl, ?_⟩
    refine ⟨_, rfl, p.L, p.dl, _, rfl, x.r.lead, rfl, B, p, sa, sd, nm, _, rfl, x, ?_⟩
    refine ⟨_, rfl, p.L, p.dl, _, rfl, x.r.lead, rfl, B, p, sa, sd, nm, _, rfl, x, fun H1 s1 => ?_⟩
    have x1 := x.kept s1
    refine ⟨_, rfl, q, _, dx, _, spSpelled a s, rfl, s1 _ _ ho, no_spelled s, met_spelled T s ok hh, q, dx, rfl, s1 _ _ ho, by show 3 ≤ sizeLine; decide, fun t nt => ?_⟩
    have x2 := x1.kept (Same.upd (o := .tup [.int st.hands.length, .int (handOf st.hands), .str s.text]) nt)
    exact ⟨B, p, sa, sd, nm, st, s.houseV, wd, t, _, rfl, x2, l, upd_same, fun H3 x3 kp3 => k _ H3 x3 ((Kp.of_same (s1.trans (Same.upd nt))).trans kp3)⟩
def closeS (st : LS) : LS := if st.closed = true then st else { st with closed := true, rows := st.rows + 1, ovs := st.ovs + 1 }
def spClose (a : Adr) : Sp := fun vs H Q _ => ∃ B p sa sd nm st, vs = [.ref p.L, .ref p.S] ∧ At a B H p sa sd nm st ∧ st.rows < 100 ∧ st.ovs < 100 ∧
  ∀ H', At a B H' p sa sd nm (closeS st) → Kp p H H' → Q .non H'
theorem c_close (T : Txt K mg a) : C8.Met P w K mg base 3 a.cWalk "close" (spClose a) [] := by
  refine met1 T.cWalk T.mWalk_close T.F_close sc_close (fun vs H Q E h => ?_) (fun cdv A outer s H vs Q E hr h => ?_)
  · obtain ⟨B, p, sa, sd, nm, st, rfl, _⟩ := h
    rfl
  · obtain ⟨B, p, sa, sd, nm, st, rfl, x, l1, l2, k⟩ := h
    refine ⟨_, (pss_cons (ps_if (pt_not (pt_val (pe_fld (pv 0) rfl))) (pss_cons (ps_fld (pv 0) pe_bl rfl)
      (pss_one (ps_expr (C8.pe_mt (c_row T) hr (by decide) (pv 1) (pa_cons (pe_tup (pa_cons pe_str (pa_cons (pe_fld (pv 0) rfl) pa_nil))) pa_nil))))) pss_nil)
      (pss_one (ps_ret pe_non))), ?_⟩
    refine ⟨_, rfl, p.L, _, p.dl, _, _, rfl, x.r.lead, T.cWalk, T.nWalk_closed, rfl, _, rfl, ?_⟩
    unfold closeS at k
    cases hc : st.closed with
    | true =>
      rw [hc, if_pos rfl] at k
      refine ite_false_of rfl ?_
      exact k H x (Kp.of_same (Same.refl _))
    | false =>
      rw [hc, if_neg Bool.false_ne_true] at k
      refine ite_true_of rfl ?_
      refine ⟨_, rfl, p.L, _, p.dl, _, rfl, x.r.lead, T.cWalk, T.nWalk_closed, by show 7 < 1000; decide, ?_⟩
      have x1 : At a B (upd H p.L (.ins a.cWalk p.dl (lf p st.fate st.waited st.back true))) p sa sd nm { st with closed := true } := ⟨x.S, x.r.putLead x.S st.fate st.waited st.back true⟩
      refine ⟨_, rfl, p.S, p.dS, _, rfl, x1.hS, rfl, _, rfl, p.L, _, p.dl, _, _, rfl, x1.r.lead, T.cWalk, T.nWalk_name, rfl, by show 2 ≤ sizeLine; decide, fun t nt => ?_⟩
      have x2 := x1.kept (Same.upd (o := .tup [.str "over", .ref p.tn]) nt)
      exact ⟨B, p, sa, sd, nm, _, t, rfl, x2, l2, l1, upd_same, fun H3 x3 kp3 => k H3 x3 (((Kp.put (by simp)).trans (Kp.of_same (Same.upd nt))).trans kp3)⟩
end
end Pk

set_option Elab.async false
set_option linter.all false
set_option maxRecDepth 100000
set_option maxHeartbeats 2000000
/-! The lead: go_back, up, go, end, came, turn. -/
namespace Pk
open PySem PySem.Spec PyProof.Rows L2
/-! ### in plain words -/
/-- one more than the last step at a house below n -/
def backN (sd : List Sd) : Nat → Nat
  | 0 => 0
  | n + 1 => match sd[n]? with | some s => if s.house = none then backN sd n else n + 1 | none => n + 1
def undoLt (sd : List Sd) (i : Nat) : Lt := match sd[i]? with | some s => ⟨s.houseV, "undo", [.int i, .str s.text]⟩ | none => ⟨.non, "undo", []⟩
def goBackS (sd : List Sd) (st : LS) (n : Nat) : LS :=
  if backN sd n = 0 then closeS { st with back := ((backN sd n : Nat) : Int) - 1 } else { st with back := ((backN sd n : Nat) : Int) - 1, lets := st.lets ++ [undoLt sd (backN sd n - 1)] }
theorem plainGo_stop {sd : List Sd} : ∀ (l : List Sd) (hs : List Int), sd.drop hs.length = l → (plainGo l hs).2 = true → ∀ s, sd[(plainGo l hs).1.length]? = some s → s.house ≠ none
  | [], hs, e, _, s, h => by
    have h' : sd[hs.length]? = some s := h
    rw [drop_at h'] at e
    cases e
  | s0 :: r, hs, e, ht, s, h => by
    have e0 : sd[hs.length]? = some s0 := by
      have := List.getElem?_drop (xs := sd) (i := hs.length) (j := 0)
      rw [e] at this
      simpa using this.symm
    have er : sd.drop (hs.length + 1) = r := by
      have := drop_at e0
      rw [e] at this
      exact (List.cons.inj this).2.symm
    cases hh : s0.house with
    | some y =>
      have eq : plainGo (s0 :: r) hs = (hs, true) := by
        show (match s0.house with | some _ => (hs, true) | none => _) = _
        rw [hh]
      rw [eq] at h
      have h' : sd[hs.length]? = some s := h
      rw [e0] at h'
      cases h'
      rw [hh]
      intro z
      cases z
    | none =>
      cases hk : s0.handed (handOf hs) with
      | some k =>
        have eq : plainGo (s0 :: r) hs = plainGo r (hs ++ [k]) := by
          show (match s0.house with | some _ => (hs, true) | none => match s0.handed (handOf hs) with | some k => plainGo r (hs ++ [k]) | none => (hs, false)) = _
          rw [hh, hk]
        rw [eq] at h ht
        exact plainGo_stop r (hs ++ [k]) (by rw [List.length_append]; exact er) ht s h
      | none =>
        have eq : plainGo (s0 :: r) hs = (hs, false) := by
          show (match s0.house with | some _ => (hs, true) | none => match s0.handed (handOf hs) with | some k => plainGo r (hs ++ [k]) | none => (hs, false)) = _
          rw [hh, hk]
        rw [eq] at ht
        cases ht
theorem plain_stop {sd : List Sd} {hs : List Int} (h : (plainRun sd hs).2 = true) {s : Sd} (e : sd[(plainRun sd hs).1.length]? = some s) : s.house ≠ none := plainGo_stop _ hs rfl h s e
theorem turn_le (sd : List Sd) : turnAt sd ≤ sd.length := List.findIdx_le_length
section
variable {P : Program} {w : World} {K : PySem.W.Frag} {mg : Str → Option Value} {base : Heap} {a : Adr}
/-- back from below n: the letter to undo, or the over row -/
def GoBack (a : Adr) (B H : Hp) (p : Pl) (sa : List Addr) (sd : List Sd) (nm : Int × Int) (st : LS) (Q : VK) : Prop :=
  ∃ n : Nat, st.back = (n : Int) - 1 ∧ n ≤ sd.length ∧ st.rows < 100 ∧ st.ovs < 100 ∧ ∀ H', At a B H' p sa sd nm (goBackS sd st n) → Kp p H H' → Q .non H'
def spGoBack (a : Adr) : Sp := fun vs H Q _ => ∃ B p sa sd nm st, vs = [.ref p.L, .ref p.S] ∧ At a B H p sa sd nm st ∧ st.lets.length < 1000 ∧ GoBack a B H p sa sd nm st Q
theorem c_goBack (T : Txt K mg a) : C8.Met P w K mg base 4 a.cWalk "go_back" (spGoBack a) [] := by
  refine met1 T.cWalk T.mWalk_go_back T.F_goBack sc_goBack (fun vs H Q E h => ?_) (fun cdv A outer s H vs Q E hr h => ?_)
  · obtain ⟨B, p, sa, sd, nm, st, rfl, _⟩ := h
    rfl
  · obtain ⟨B, p, sa, sd, nm, st, rfl, x, ll, n, hb, hn, l1, l2, k⟩ := h
    refine ⟨_, (pss_cons (ps_while PassesOwn.never (PW.pt (pw_and (pt_cmpR op_ge (pe_fld (pv 0) rfl) pe_int (nomark _)) (pw_and1 (pt_cmpR op_isN (pe_methD0 (E := fun _ => C8.E0) (k := 1) (pe_ix ix_list (pe_fld (pe_fld (pv 0) rfl) rfl) (pe_fld (pv 0) rfl) (fun _ _ => rfl)) (hr.mono (by decide)) passC8) pe_non (nomark _))))) (pss_one (ps_fld (pv 0) (pe_op op_sub (pe_fld (pv 0) rfl) pe_int) rfl)))
      (pss_cons (ps_if (pt_cmpR op_lt (pe_fld (pv 0) rfl) pe_int (nomark _)) (pss_one (ps_ret (C8.pe_mt (c_close T) hr (by decide) (pv 0) (pa_cons (pv 1) pa_nil)))) pss_nil)
      (pss_cons (ps_set (i := 2) sc_goBack.nd rfl (Or.inl rfl) (pe_ix ix_list (pe_fld (pe_fld (pv 0) rfl) rfl) (pe_fld (pv 0) rfl) (fun _ _ => rfl)))
      (pss_cons (ps_expr (C8.pe_mt (c_send T) hr (by decide) (pv 1) (pa_cons (pe_methD0 (E := fun _ => C8.E0) (k := 1) (pv 2) (hr.mono (by decide)) passC8) (pa_cons pe_str (pa_cons (pe_fld (pv 0) rfl) (pa_cons (pe_tup (pa_cons (pe_fld (pv 0) rfl) (pa_cons (pe_methD0 (E := fun _ => C8.E0) (k := 2) (pv 2) (hr.mono (by decide)) passC8) pa_nil))) pa_nil))))))
      (pss_one (ps_ret pe_non)))))), ?_⟩
    have x0 : At a B H p sa sd nm { st with back := (n : Int) - 1 } := by rw [← hb]; exact x
    refine ⟨fun m σ H' => ∃ n' : Nat, σ = [some (.ref p.L), some (.ref p.S), none] ∧ At a B H' p sa sd nm { st with back := (n' : Int) - 1 } ∧ Kp p H H' ∧ n' ≤ sd.length ∧ backN sd n' = backN sd n ∧ n' ≤ m, ⟨n, n, rfl, x0, Kp.of_same (Same.refl _), hn, rfl, Nat.le_refl _⟩, ?_⟩
    rintro m σ H' ⟨n', rfl, x', kp, hn', eb, hm⟩
    refine ⟨_, rfl, p.L, _, p.dl, _, _, rfl, x'.r.lead, T.cWalk, T.nWalk_back_at, rfl, _, _, rfl, rfl, _, rfl, ?_⟩
    cases n' with
    | zero =>
      refine ite_false_of (show decide ((0 : Int) ≤ ((0 : Nat) : Int) - 1) = false by decide) ?_
      -- nothing is left to undo
      refine ⟨_, rfl, p.L, _, p.dl, _, _, rfl, x'.r.lead, T.cWalk, T.nWalk_back_at, rfl, _, _, rfl, rfl, _, rfl, ite_true_of (show decide (((0 : Nat) : Int) - 1 < 0) = true by decide) ?_⟩
      refine ⟨_, rfl, p.L, p.dl, _, rfl, x'.r.lead, rfl, _, rfl, B, p, sa, sd, nm, _, rfl, x', l1, l2, fun H2 x2 kp2 => k H2 ?_ (kp.trans kp2)⟩
      unfold goBackS
      rw [← eb]
      exact x2
    | succ j =>
      refine ite_true_of (dY (show (0 : Int) ≤ ((j + 1 : Nat) : Int) - 1 by omega)) ?_
      have hj : sd[j]? = some sd[j] := List.getElem?_eq_getElem (by omega)
      generalize sd[j] = s at hj
      obtain ⟨q, dx, hq, ho⟩ := x'.step hj
      have ix : atI (sa.map V.ref) (((j + 1 : Nat) : Int) - 1) = some (.ref q) := at_of (j := j) (by omega) (by rw [List.getElem?_map, hq]; rfl)
      refine ⟨_, rfl, p.L, _, p.dl, _, _, rfl, x'.r.lead, T.cWalk, T.nWalk_pact, rfl, p.pc, _, p.dp, _, _, rfl, x'.hp, T.cPact, T.nPact_steps, rfl, _, rfl, p.L, _, p.dl, _, _, rfl, x'.r.lead, T.cWalk, T.nWalk_back_at, rfl, p.ps, _, _, _, rfl, rfl, SqL.of x'.hl, ix, ?_⟩
      refine ⟨q, _, dx, _, spHouse a s, rfl, ho, no_house s, met_house T s, q, dx, rfl, ho, rfl, _, rfl, ?_⟩
      cases hh : s.house with
      | none =>
        refine ite_true_of (dY (houseV_non hh)) ?_
        refine ⟨fun σ' H2 => σ' = [some (.ref p.L), some (.ref p.S), none] ∧ At a B H2 p sa sd nm { st with back := (j : Int) - 1 } ∧ Kp p H H2, fun σ' H2 ⟨e1, e2, e3⟩ => ⟨m - 1, by omega, j, e1, e2, e3, by omega, ?_, by omega⟩, ?_⟩
        · rw [← eb]
          show _ = (match sd[j]? with | some s => if s.house = none then backN sd j else j + 1 | none => j + 1)
          rw [hj]
          show _ = if s.house = none then backN sd j else j + 1
          rw [if_pos hh]
        · refine ⟨_, rfl, p.L, _, p.dl, _, _, rfl, x'.r.lead, T.cWalk, T.nWalk_back_at, rfl, _, _, rfl, rfl, _, rfl, p.L, _, p.dl, _, rfl, x'.r.lead, T.cWalk, T.nWalk_back_at, by show 7 < 1000; decide, rfl, ?_, kp.trans (Kp.put (by simp))⟩
          have e : (((j + 1 : Nat) : Int) - 1 - 1) = (j : Int) - 1 := by omega
          have x2 : At a B (upd H' p.L (.ins a.cWalk p.dl (lf p st.fate st.waited ((((j + 1 : Nat) : Int) - 1) - 1) st.closed))) p sa sd nm { st with back := (((j + 1 : Nat) : Int) - 1) - 1 } := ⟨x'.S, x'.r.putLead x'.S st.fate st.waited _ st.closed⟩
          rw [e] at x2
          rw [← e] at x2 ⊢
          exact x2
      | some y =>
        have ne : s.house ≠ none := by rw [hh]; intro z; cases z
        refine ite_false_of (dN (houseV_some ne)) ?_
        have em : backN sd n = j + 1 := by
          rw [← eb]
          show (match sd[j]? with | some s => if s.house = none then backN sd j else j + 1 | none => j + 1) = _
          rw [hj]
          show (if s.house = none then backN sd j else j + 1) = _
          rw [if_neg ne]
        have ok := x'.S.ok s (List.mem_of_getElem? hj)
        -- the letter
        refine ⟨_, rfl, p.L, _, p.dl, _, _, rfl, x'.r.lead, T.cWalk, T.nWalk_back_at, rfl, _, _, rfl, rfl, _, rfl, ite_false_of (dN (show ¬ ((j + 1 : Nat) : Int) - 1 < 0 by omega)) ?_⟩
        refine ⟨_, rfl, p.L, _, p.dl, _, _, rfl, x'.r.lead, T.cWalk, T.nWalk_pact, rfl, p.pc, _, p.dp, _, _, rfl, x'.hp, T.cPact, T.nPact_steps, rfl, _, rfl, p.L, _, p.dl, _, _, rfl, x'.r.lead, T.cWalk, T.nWalk_back_at, rfl, p.ps, _, _, _, rfl, rfl, SqL.of x'.hl, ix, ?_⟩
        refine ⟨_, rfl, p.S, p.dS, _, rfl, x'.hS, rfl, _, rfl, q, _, dx, _, spHouse a s, rfl, ho, no_house s, met_house T s, q, dx, rfl, ho, ?_⟩
        refine ⟨_, rfl, p.L, _, p.dl, _, _, rfl, x'.r.lead, T.cWalk, T.nWalk_name, rfl, _, rfl, p.L, _, p.dl, _, _, rfl, x'.r.lead, T.cWalk, T.nWalk_back_at, rfl, ?_⟩
        refine ⟨_, rfl, q, _, dx, _, spSpelled a s, rfl, ho, no_spelled s, met_spelled T s ok ne, q, dx, rfl, ho, by show 2 ≤ sizeLine; decide, fun t nt => ?_⟩
        have x2 := x'.kept (Same.upd (o := .tup [.int (((j + 1 : Nat) : Int) - 1), .str s.text]) nt)
        refine ⟨B, p, sa, sd, nm, _, s.houseV, "undo", t, _, rfl, x2, ll, upd_same, fun H3 x3 kp3 => k H3 ?_ ((kp.trans (Kp.of_same (Same.upd nt))).trans kp3)⟩
        unfold goBackS
        rw [em, if_neg (Nat.succ_ne_zero j)]
        have eu : undoLt sd (j + 1 - 1) = ⟨s.houseV, "undo", [.int (((j + 1 : Nat) : Int) - 1), .str s.text]⟩ := by
          have e1 : j + 1 - 1 = j := rfl
          have e2 : (((j + 1 : Nat) : Int) - 1) = (j : Int) := by omega
          rw [e1, e2]
          unfold undoLt
          rw [hj]
        rw [eu]
        exact x3
/-! ### up, go -/
def spUp (a : Adr) : Sp := fun vs H Q _ => ∃ B p sa sd nm st y, vs = [.ref p.L, .str "broken", y] ∧ At a B H p sa sd nm st ∧ ∀ H', At a B H' p sa sd nm { st with fate := .str "broken", back := (turnAt sd : Int) - 1 } → Kp p H H' → Q .non H'
theorem c_up (T : Txt K mg a) : C8.Met P w K mg base 3 a.cWalk "up" (spUp a) [] := by
  refine met1 T.cWalk T.mWalk_up T.F_up sc_up (fun vs H Q E h => ?_) (fun cdv A outer s H vs Q E hr h => ?_)
  · obtain ⟨B, p, sa, sd, nm, st, y, rfl, _⟩ := h
    rfl
  · obtain ⟨B, p, sa, sd, nm, st, y, rfl, x, k⟩ := h
    refine ⟨_, (pss_cons (ps_fld (pv 0) (pv 1) rfl)
      (pss_one (ps_if (pt_cmpR op_eq (pv 1) pe_str (nomark _)) (pss_one (ps_fld (pv 0) (pe_op op_sub (C8.pe_c (c_turning T) hr (by decide) rfl (pa_cons (pe_fld (pv 0) rfl) pa_nil)) pe_int) rfl)) (pss_one (ps_fld (pv 0) (pe_callTy call_list_of (by rfl) T.z_list (by decide +kernel) (pa_cons (pv 2) pa_nil)) rfl))))), ?_⟩
    refine ⟨_, rfl, _, rfl, p.L, _, p.dl, _, rfl, x.r.lead, T.cWalk, T.nWalk_fate, by show 7 < 1000; decide, ?_⟩
    have x1 : At a B (upd H p.L (.ins a.cWalk p.dl (lf p (.str "broken") st.waited st.back st.closed))) p sa sd nm { st with fate := .str "broken" } := ⟨x.S, x.r.putLead x.S _ st.waited st.back st.closed⟩
    refine ⟨_, rfl, rfl, _, rfl, ite_true_of (dY rfl) ?_⟩
    refine ⟨_, rfl, p.L, _, p.dl, _, _, rfl, x1.r.lead, T.cWalk, T.nWalk_pact, rfl, p.pc, p.dp, p.ps, sa, sd, rfl, x1.hp, x1.hl, x1.hst, x1.S.l12, _, _, rfl, rfl, _, rfl, p.L, _, p.dl, _, rfl, x1.r.lead, T.cWalk, T.nWalk_back_at, by show 7 < 1000; decide, ?_⟩
    exact k _ ⟨x1.S, x1.r.putLead x1.S (.str "broken") st.waited _ st.closed⟩ ((Kp.put (by simp)).trans (Kp.put (by simp)))
/-- on with the steps: what comes of it -/
def GoNew (a : Adr) (B H : Hp) (p : Pl) (sa : List Addr) (sd : List Sd) (nm : Int × Int) (st : LS) (Q : VK) : Prop :=
  ((plainRun sd st.hands).2 = false → ∀ H', At a B H' p sa sd nm { st with hands := (plainRun sd st.hands).1 } → Kp p H H' → Q (.str "broken") H') ∧
  ((plainRun sd st.hands).2 = true → turnAt sd ≤ (plainRun sd st.hands).1.length → ∀ H', At a B H' p sa sd nm { st with hands := (plainRun sd st.hands).1 } → Kp p H H' → Q (.str "done") H') ∧
  ((plainRun sd st.hands).2 = true → (plainRun sd st.hands).1.length < turnAt sd → ∀ l H', At a B H' p sa sd nm { st with hands := (plainRun sd st.hands).1, lets := st.lets ++ [l] } → Kp p H H' → Q .non H')
theorem GoNew.on {B H H1 : Hp} {p : Pl} {sa : List Addr} {sd : List Sd} {nm : Int × Int} {st : LS} {Q : VK} (g : GoNew a B H p sa sd nm st Q) (e : Kp p H H1) : GoNew a B H1 p sa sd nm st Q :=
  ⟨fun h H' x kp => g.1 h H' x (e.trans kp), fun h h2 H' x kp => g.2.1 h h2 H' x (e.trans kp), fun h h2 l H' x kp => g.2.2 h h2 l H' x (e.trans kp)⟩
theorem GoBack.on {B H H1 : Hp} {p : Pl} {sa : List Addr} {sd : List Sd} {nm : Int × Int} {st : LS} {Q : VK} (g : GoBack a B H p sa sd nm st Q) (e : Kp p H H1) : GoBack a B H1 p sa sd nm st Q :=
  let ⟨n, h1, h2, h3, h4, h5⟩ := g
  ⟨n, h1, h2, h3, h4, fun H' x kp => h5 H' x (e.trans kp)⟩
def GoOn (a : Adr) (B H : Hp) (p : Pl) (sa : List Addr) (sd : List Sd) (nm : Int × Int) (st : LS) (Q : VK) : Prop :=
  (st.fate = .str "broken" ∧ GoBack a B H p sa sd nm st Q) ∨ (st.fate = .non ∧ GoNew a B H p sa sd nm st Q)
def spGo (a : Adr) : Sp := fun vs H Q _ => ∃ B p sa sd nm st, vs = [.ref p.L, .ref p.S] ∧ At a B H p sa sd nm st ∧ st.lets.length < 1000 ∧ GoOn a B H p sa sd nm st Q
theorem nb : ¬ (V.str "broken" = V.non) := by intro e; cases e
theorem c_go (T : Txt K mg a) : C8.Met P w K mg base 5 a.cWalk "go" (spGo a) [] := by
  refine met1 T.cWalk T.mWalk_go T.F_go sc_go (fun vs H Q E h => ?_) (fun cdv A outer s H vs Q E hr h => ?_)
  · obtain ⟨B, p, sa, sd, nm, st, rfl, _⟩ := h
    rfl
  · obtain ⟨B, p, sa, sd, nm, st, rfl, x, ll, g⟩ := h
    refine ⟨_, (pss_cons (ps_if (pt_cmpR op_eq (pe_fld (pv 0) rfl) pe_str (nomark _)) (pss_one (ps_ret (C8.pe_mt (c_goBack T) hr (by decide) (pv 0) (pa_cons (pv 1) pa_nil)))) pss_nil)
      (pss_cons (ps_if (pt_not (pt_val (C8.pe_mt0 (c_plainSteps T) hr (by decide) (pv 0)))) (pss_one (ps_ret pe_str)) pss_nil)
      (pss_cons (ps_if (PW.pt (pw_and (pt_cmpR op_isN (pe_fld (pv 0) rfl) pe_non (nomark _)) (pw_and1 (pt_cmpR op_ge (C8.pe_mt0 (c_place T) hr (by decide) (pv 0)) (C8.pe_c (c_turning T) hr (by decide) rfl (pa_cons (pe_fld (pv 0) rfl) pa_nil)) (nomark _))))) (pss_one (ps_ret pe_str)) pss_nil)
      (pss_cons (ps_if (pt_cmpR op_notN (C8.pe_mt0 (c_stepNext T) hr (by decide) (pv 0)) pe_non (nomark _)) (pss_cons (ps_expr (C8.pe_mt (c_sendStep T) hr (by decide) (pv 0) (pa_cons (pv 1) (pa_cons pe_str pa_nil))))
      (pss_one (ps_ret pe_non))) pss_nil)
      (pss_one (ps_ret (C8.pe_mt (c_close T) hr (by decide) (pv 0) (pa_cons (pv 1) pa_nil)))))))), ?_⟩
    refine ⟨_, rfl, p.L, _, p.dl, _, _, rfl, x.r.lead, T.cWalk, T.nWalk_fate, rfl, ?_⟩
    rcases g with ⟨hf, g⟩ | ⟨hf, g1, g2, g3⟩
    · rw [hf]
      refine ⟨rfl, _, rfl, ite_true_of (dY rfl) ?_⟩
      exact ⟨_, rfl, p.L, p.dl, _, rfl, x.r.lead, rfl, _, rfl, B, p, sa, sd, nm, st, rfl, x, ll, g⟩
    · rw [hf]
      refine ⟨rfl, _, rfl, ite_false_of (dN fun e => by cases e) ?_⟩
      refine ⟨_, rfl, p.L, p.dl, _, rfl, x.r.lead, rfl, B, p, sa, sd, nm, st, rfl, x, fun H1 x1 kp1 => ?_⟩
      refine ⟨_, rfl, ?_⟩
      cases hp : (plainRun sd st.hands).2 with
      | false =>
        refine ite_true_of rfl ?_
        exact g1 hp H1 x1 kp1
      | true =>
        refine ite_false_of rfl ?_
        have hf1 : ({ st with hands := (plainRun sd st.hands).1 } : LS).fate = .non := hf
        refine ⟨_, rfl, p.L, _, p.dl, _, _, rfl, x1.r.lead, T.cWalk, T.nWalk_fate, rfl, rfl, _, rfl, ite_true_of (dY hf1) ?_⟩
        refine ⟨_, rfl, p.L, p.dl, _, rfl, x1.r.lead, rfl, B, p, sa, sd, nm, _, rfl, x1, _, rfl, p.L, _, p.dl, _, _, rfl, x1.r.lead, T.cWalk, T.nWalk_pact, rfl, p.pc, p.dp, p.ps, sa, sd, rfl, x1.hp, x1.hl, x1.hst, x1.S.l12, _, _, rfl, rfl, _, rfl, ?_⟩
        by_cases c : turnAt sd ≤ (plainRun sd st.hands).1.length
        · refine ite_true_of (dY (by show ((turnAt sd : Nat) : Int) ≤ ((plainRun sd st.hands).1.length : Int); omega)) ?_
          exact g2 hp c H1 x1 kp1
        · refine ite_false_of (dN (by show ¬ ((turnAt sd : Nat) : Int) ≤ ((plainRun sd st.hands).1.length : Int); omega)) ?_
          have hlt : (plainRun sd st.hands).1.length < sd.length := by have := turn_le sd; omega
          have hs : sd[(plainRun sd st.hands).1.length]? = some sd[(plainRun sd st.hands).1.length] := List.getElem?_eq_getElem hlt
          generalize sd[(plainRun sd st.hands).1.length] = s at hs
          have hh := plain_stop hp hs
          obtain ⟨q, dx, hq, ho⟩ := x1.step hs
          refine ⟨_, rfl, p.L, p.dl, _, rfl, x1.r.lead, rfl, B, p, sa, sd, nm, _, rfl, x1, ?_⟩
          have en : nextV sa ({ st with hands := (plainRun sd st.hands).1 } : LS).hands = .ref q := next_some hq
          rw [en]
          refine ⟨rfl, _, rfl, ite_true_of (by simp) ?_⟩
          exact ⟨_, rfl, p.L, p.dl, _, rfl, x1.r.lead, rfl, _, rfl, B, p, sa, sd, nm, _, _, s, rfl, x1, ll, hs, hh, fun l H2 x2 kp2 => g3 hp (by omega) l H2 x2 (kp1.trans kp2)⟩
end
end Pk

set_option Elab.async false
set_option linter.all false
set_option maxRecDepth 100000
set_option maxHeartbeats 2000000
/-! The lead: end, came, turn; how the lead, the sheet and the stand are made. -/
namespace Pk
open PySem PySem.Spec PyProof.Rows L2
section
variable {P : Program} {w : World} {K : PySem.W.Frag} {mg : Str → Option Value} {base : Heap} {a : Adr}
def endS (sd : List Sd) (st : LS) : LS := goBackS sd { st with fate := .str "broken" } (turnAt sd)
def spEnd (a : Adr) : Sp := fun vs H Q _ => ∃ B p sa sd nm st, vs = [.ref p.L, .ref p.S, .str "broken"] ∧ At a B H p sa sd nm st ∧ st.lets.length < 1000 ∧ st.rows < 100 ∧ st.ovs < 100 ∧
  ∀ H', At a B H' p sa sd nm (endS sd st) → Kp p H H' → Q .non H'
theorem c_end_ (T : Txt K mg a) : C8.Met P w K mg base 6 a.cWalk "end" (spEnd a) [] := by
  refine met1 T.cWalk T.mWalk_end T.F_end_ sc_end_ (fun vs H Q E h => ?_) (fun cdv A outer s H vs Q E hr h => ?_)
  · obtain ⟨B, p, sa, sd, nm, st, rfl, _⟩ := h
    rfl
  · obtain ⟨B, p, sa, sd, nm, st, rfl, x, ll, l1, l2, k⟩ := h
    refine ⟨_, (pss_cons (ps_expr (C8.pe_mt (c_up T) hr (by decide) (pv 0) (pa_cons (pv 2) (pa_cons (pe_fld (pv 0) rfl) pa_nil))))
      (pss_one (ps_expr (C8.pe_mt (c_go T) hr (by decide) (pv 0) (pa_cons (pv 1) pa_nil))))), ?_⟩
    refine ⟨_, rfl, p.L, p.dl, _, rfl, x.r.lead, rfl, _, rfl, _, rfl, p.L, _, p.dl, _, _, rfl, x.r.lead, T.cWalk, T.nWalk_hands, rfl, B, p, sa, sd, nm, st, _, rfl, x, fun H1 x1 kp1 => ?_⟩
    refine ⟨_, rfl, p.L, p.dl, _, rfl, x1.r.lead, rfl, _, rfl, B, p, sa, sd, nm, _, rfl, x1, ll, .inl ⟨rfl, turnAt sd, rfl, turn_le sd, l1, l2, fun H2 x2 kp2 => ?_⟩⟩
    exact k H2 x2 (kp1.trans kp2)
def spCame (a : Adr) : Sp := fun vs H Q _ => ∃ B p sa sd nm st wd snd m more, vs = [.ref p.L, .ref p.S, .str wd, snd, .ref m] ∧ At a B H p sa sd nm st ∧ st.lets.length < 1000 ∧ H m = some (.tup more) ∧
  ((wd = "undid" ∧ st.fate = .str "broken" ∧ ∃ n : Nat, st.back = ((n + 1 : Nat) : Int) - 1 ∧ n + 1 ≤ sd.length ∧ st.rows < 100 ∧ st.ovs < 100 ∧ more = [.int n] ∧ ∀ H', At a B H' p sa sd nm (goBackS sd st n) → Kp p H H' → Q .non H') ∨
   (wd = "undid" ∧ st.fate = .str "broken" ∧ ∃ i : Int, more = [.int i] ∧ i ≠ st.back ∧ Q .non H) ∨
   (wd = "went" ∧ st.fate = .str "broken" ∧ Q .non H) ∨
   (wd = "went" ∧ st.fate = .non ∧ ∃ s y, sd[st.hands.length]? = some s ∧ more = [.int st.hands.length, .int y] ∧ GoNew a B H p sa sd nm { st with hands := st.hands ++ [y] } Q))
theorem su : ¬ (V.str "went" = V.str "undid") := by
  intro e
  exact absurd (V.str.inj e) (by decide +kernel)
theorem us : ¬ (V.str "undid" = V.str "went") := fun e => su e.symm
theorem c_came (T : Txt K mg a) : C8.Met P w K mg base 6 a.cWalk "came" (spCame a) [] := by
  refine met1 T.cWalk T.mWalk_came T.F_came sc_came (fun vs H Q E h => ?_) (fun cdv A outer s H vs Q E hr h => ?_)
  · obtain ⟨B, p, sa, sd, nm, st, wd, snd, m, more, rfl, _⟩ := h
    rfl
  · obtain ⟨B, p, sa, sd, nm, st, wd, snd, m, more, rfl, x, ll, hm, g⟩ := h
    refine ⟨_, (pss_cons (ps_if (PW.pt (pw_and (pt_cmpR op_eq (pv 2) pe_str (nomark _)) (pw_and (pt_cmpR op_eq (pe_fld (pv 0) rfl) pe_str (nomark _)) (pw_and1 (pt_cmpR op_eq (pe_ix ix_tup (pv 4) pe_int (fun _ _ => rfl)) (pe_fld (pv 0) rfl) (nomark _)))))) (pss_cons (ps_fld (pv 0) (pe_op op_sub (pe_fld (pv 0) rfl) pe_int) rfl)
      (pss_one (ps_ret (C8.pe_mt (c_go T) hr (by decide) (pv 0) (pa_cons (pv 1) pa_nil))))) pss_nil)
      (pss_cons (ps_set (i := 5) sc_came.nd rfl (Or.inl rfl) (C8.pe_mt0 (c_stepNext T) hr (by decide) (pv 0)))
      (pss_cons (ps_if (PW.pt (pw_and (pt_cmpR op_eq (pv 2) pe_str (nomark _)) (pw_and (pt_cmpR op_ne (pe_fld (pv 0) rfl) pe_str (nomark _)) (pw_and (pt_cmpR op_notN (pv 5) pe_non (nomark _)) (pw_and1 (pt_cmpR op_eq (pe_ix ix_tup (pv 4) pe_int (fun _ _ => rfl)) (C8.pe_mt0 (c_place T) hr (by decide) (pv 0)) (nomark _))))))) (pss_cons (ps_expr (pe_bm PySem.F.plainAttrs_list PySem.F.slot_list_append PySem.F.type_list_append mt_append (pe_fld (pv 0) rfl) (pa_cons (pe_ix ix_tup (pv 4) pe_int (fun _ _ => rfl)) pa_nil)))
      (pss_one (ps_ret (C8.pe_mt (c_go T) hr (by decide) (pv 0) (pa_cons (pv 1) pa_nil))))) pss_nil)
      (pss_one (ps_ret pe_non))))), ?_⟩
    rcases g with ⟨rfl, hf, n, hb, hn, l1, l2, rfl, k⟩ | ⟨rfl, hf, i, rfl, ni, k⟩ | ⟨rfl, hf, k⟩ | ⟨rfl, hf, s0, y, hs, rfl, g⟩
    · refine ⟨_, rfl, rfl, _, rfl, ite_true_of (dY rfl) ?_⟩
      refine ⟨_, rfl, p.L, _, p.dl, _, _, rfl, x.r.lead, T.cWalk, T.nWalk_fate, rfl, by rw [hf]; rfl, _, rfl, ite_true_of (dY hf) ?_⟩
      refine ⟨_, rfl, m, _, _, _, rfl, rfl, SqT.of hm, rfl, _, rfl, p.L, _, p.dl, _, _, rfl, x.r.lead, T.cWalk, T.nWalk_back_at, rfl, rfl, _, rfl, ite_true_of (dY (by rw [hb]; congr 1; omega)) ?_⟩
      refine ⟨_, rfl, p.L, _, p.dl, _, _, rfl, x.r.lead, T.cWalk, T.nWalk_back_at, rfl, _, _, rfl, rfl, _, rfl, p.L, _, p.dl, _, rfl, x.r.lead, T.cWalk, T.nWalk_back_at, by show 7 < 1000; decide, ?_⟩
      have x1 : At a B (upd H p.L (.ins a.cWalk p.dl (lf p st.fate st.waited (st.back - 1) st.closed))) p sa sd nm { st with back := st.back - 1 } := ⟨x.S, x.r.putLead x.S st.fate st.waited _ st.closed⟩
      refine ⟨_, rfl, p.L, p.dl, _, rfl, x1.r.lead, rfl, _, rfl, B, p, sa, sd, nm, _, rfl, x1, ll, .inl ⟨hf, n, ?_, by omega, l1, l2, fun H2 x2 kp2 => ?_⟩⟩
      · show st.back - 1 = _
        omega
      · exact k H2 x2 ((Kp.put (by simp)).trans kp2)
    · refine ⟨_, rfl, rfl, _, rfl, ite_true_of (dY rfl) ?_⟩
      refine ⟨_, rfl, p.L, _, p.dl, _, _, rfl, x.r.lead, T.cWalk, T.nWalk_fate, rfl, by rw [hf]; rfl, _, rfl, ite_true_of (dY hf) ?_⟩
      refine ⟨_, rfl, m, _, _, _, rfl, rfl, SqT.of hm, rfl, _, rfl, p.L, _, p.dl, _, _, rfl, x.r.lead, T.cWalk, T.nWalk_back_at, rfl, rfl, _, rfl, ite_false_of (dN fun e => ni (V.int.inj e)) ?_⟩
      refine ⟨_, rfl, p.L, p.dl, _, rfl, x.r.lead, rfl, B, p, sa, sd, nm, st, rfl, x, ?_⟩
      exact ⟨_, rfl, rfl, _, rfl, ite_false_of (dN us) k⟩
    · refine ⟨_, rfl, rfl, _, rfl, ite_false_of (dN su) ?_⟩
      refine ⟨_, rfl, p.L, p.dl, _, rfl, x.r.lead, rfl, B, p, sa, sd, nm, st, rfl, x, ?_⟩
      refine ⟨_, rfl, rfl, _, rfl, ite_true_of (dY rfl) ?_⟩
      exact ⟨_, rfl, p.L, _, p.dl, _, _, rfl, x.r.lead, T.cWalk, T.nWalk_fate, rfl, by rw [hf]; rfl, _, rfl, ite_false_of (by rw [dY hf]; rfl) k⟩
    · refine ⟨_, rfl, rfl, _, rfl, ite_false_of (dN su) ?_⟩
      obtain ⟨q, dx, hq, ho⟩ := x.step hs
      refine ⟨_, rfl, p.L, p.dl, _, rfl, x.r.lead, rfl, B, p, sa, sd, nm, st, rfl, x, ?_⟩
      rw [next_some hq]
      refine ⟨_, rfl, rfl, _, rfl, ite_true_of (dY rfl) ?_⟩
      refine ⟨_, rfl, p.L, _, p.dl, _, _, rfl, x.r.lead, T.cWalk, T.nWalk_fate, rfl, by rw [hf]; rfl, _, rfl, ite_true_of (by rw [hf]; decide +kernel) ?_⟩
      refine ⟨_, rfl, rfl, _, rfl, ite_true_of (by simp) ?_⟩
      refine ⟨_, rfl, m, _, _, _, rfl, rfl, SqT.of hm, rfl, _, rfl, p.L, p.dl, _, rfl, x.r.lead, rfl, B, p, sa, sd, nm, st, rfl, x, rfl, _, rfl, ite_true_of (dY rfl) ?_⟩
      refine ⟨_, rfl, p.L, _, p.dl, _, _, rfl, x.r.lead, T.cWalk, T.nWalk_hands, rfl, .inl ⟨rfl, _, SqL.of x.r.hands⟩, _, rfl, m, _, _, _, rfl, rfl, SqT.of hm, rfl, p.hd, _, _, rfl, rfl, x.r.hands, ?_, ?_⟩
      · have := x.S.l12
        have := (List.getElem?_eq_some_iff.mp hs).1
        rw [List.length_map, sizeLine_eq]
        omega
      have em : (st.hands.map V.int ++ [V.int y]) = (st.hands ++ [y]).map V.int := by rw [List.map_append]; rfl
      have x1 : At a B (upd H p.hd (.lst (st.hands.map V.int ++ [V.int y]))) p sa sd nm { st with hands := st.hands ++ [y] } := by rw [em]; exact x.putHands _
      exact ⟨_, rfl, p.L, p.dl, _, rfl, x1.r.lead, rfl, _, rfl, B, p, sa, sd, nm, _, rfl, x1, ll, .inr ⟨hf, g.on (Kp.put (by simp))⟩⟩
def spTurn (a : Adr) : Sp := fun vs H Q _ => ∃ B p sa sd nm st, vs = [.ref p.L, .ref p.S] ∧ At a B H p sa sd nm st ∧ st.lets.length < 1000 ∧
  ((st.fate = .str "broken" ∧ GoBack a B H p sa sd nm st Q) ∨
   (st.fate = .non ∧ 4 ≤ st.waited + 1 ∧ ∀ H', At a B H' p sa sd nm { st with waited := st.waited + 1 } → Kp p H H' → Q (.str "broken") H') ∨
   (st.fate = .non ∧ st.waited + 1 < 4 ∧ GoNew a B H p sa sd nm { st with waited := st.waited + 1 } Q))
theorem c_turn (T : Txt K mg a) : C8.Met P w K mg base 6 a.cWalk "turn" (spTurn a) [] := by
  refine met1 T.cWalk T.mWalk_turn T.F_turn sc_turn (fun vs H Q E h => ?_) (fun cdv A outer s H vs Q E hr h => ?_)
  · obtain ⟨B, p, sa, sd, nm, st, rfl, _⟩ := h
    rfl
  · obtain ⟨B, p, sa, sd, nm, st, rfl, x, ll, g⟩ := h
    refine ⟨_, (pss_cons (ps_if (pt_cmpR op_isN (pe_fld (pv 0) rfl) pe_non (nomark _)) (pss_cons (ps_fld (pv 0) (pe_op op_add (pe_fld (pv 0) rfl) pe_int) rfl)
      (pss_one (ps_if (pt_cmpR op_ge (pe_fld (pv 0) rfl) (C8.pe_gc rfl T.v_PATIENCE) (nomark _)) (pss_one (ps_ret pe_str)) pss_nil))) pss_nil)
      (pss_one (ps_ret (C8.pe_mt (c_go T) hr (by decide) (pv 0) (pa_cons (pv 1) pa_nil))))), ?_⟩
    refine ⟨_, rfl, p.L, _, p.dl, _, _, rfl, x.r.lead, T.cWalk, T.nWalk_fate, rfl, rfl, _, rfl, ?_⟩
    have x1 : At a B (upd H p.L (.ins a.cWalk p.dl (lf p st.fate (st.waited + 1) st.back st.closed))) p sa sd nm { st with waited := st.waited + 1 } := ⟨x.S, x.r.putLead x.S st.fate _ st.back st.closed⟩
    rcases g with ⟨hf, g⟩ | ⟨hf, h4, k⟩ | ⟨hf, h4, g⟩
    · refine ite_false_of (dN (by rw [hf]; exact nb)) ?_
      exact ⟨_, rfl, p.L, p.dl, _, rfl, x.r.lead, rfl, _, rfl, B, p, sa, sd, nm, st, rfl, x, ll, .inl ⟨hf, g⟩⟩
    · refine ite_true_of (dY hf) ?_
      refine ⟨_, rfl, p.L, _, p.dl, _, _, rfl, x.r.lead, T.cWalk, T.nWalk_waited, rfl, _, _, rfl, rfl, _, rfl, p.L, _, p.dl, _, rfl, x.r.lead, T.cWalk, T.nWalk_waited, by show 7 < 1000; decide, ?_⟩
      refine ⟨_, rfl, p.L, _, p.dl, _, _, rfl, x1.r.lead, T.cWalk, T.nWalk_waited, rfl, _, _, rfl, rfl, _, rfl, ite_true_of (dY h4) ?_⟩
      exact k _ x1 (Kp.put (by simp))
    · refine ite_true_of (dY hf) ?_
      refine ⟨_, rfl, p.L, _, p.dl, _, _, rfl, x.r.lead, T.cWalk, T.nWalk_waited, rfl, _, _, rfl, rfl, _, rfl, p.L, _, p.dl, _, rfl, x.r.lead, T.cWalk, T.nWalk_waited, by show 7 < 1000; decide, ?_⟩
      refine ⟨_, rfl, p.L, _, p.dl, _, _, rfl, x1.r.lead, T.cWalk, T.nWalk_waited, rfl, _, _, rfl, rfl, _, rfl, ite_false_of (dN (show ¬ (4 : Int) ≤ st.waited + 1 by omega)) ?_⟩
      exact ⟨_, rfl, p.L, p.dl, _, rfl, x1.r.lead, rfl, _, rfl, B, p, sa, sd, nm, _, rfl, x1, ll, .inr ⟨hf, g.on (Kp.put (by simp))⟩⟩
/-! ### how they are made -/
def spLeInit (a : Adr) : Sp := fun vs H Q _ => ∃ L dl tn pc, vs = [.ref L, .ref tn, .ref pc] ∧ H L = some (.ins a.cWalk dl []) ∧
  ∀ hd H', H hd = Option.none → H' L = some (.ins a.cWalk dl [("name", .ref tn), ("pact", .ref pc), ("hands", .ref hd), ("fate", .non), ("waited", .int 0)]) → H' hd = some (.lst []) → But L H H' → Q .non H'
theorem f_leInit (T : Txt K mg a) : C8.CalAt P w K mg base 1 a.f_leInit (spLeInit a) := by
  refine fna1 T.F_leInit sc_leInit (fun vs H Q E h => ?_) (fun cdv A outer s H vs Q E hr h => ?_)
  · obtain ⟨L, dl, tn, pc, rfl, _⟩ := h
    rfl
  · obtain ⟨L, dl, tn, pc, rfl, hL, k⟩ := h
    refine ⟨_, (pss_cons (ps_fld (pv 0) (pv 1) rfl)
      (pss_cons (ps_fld (pv 0) (pv 2) rfl)
      (pss_cons (ps_fld (pv 0) (pe_lst pa_nil) rfl)
      (pss_cons (ps_fld (pv 0) pe_non rfl)
      (pss_one (ps_fld (pv 0) pe_int rfl)))))), ?_⟩
    refine ⟨_, rfl, _, rfl, L, _, dl, _, rfl, hL, T.cWalk, T.nWalk_name, by decide, ?_⟩
    refine ⟨_, rfl, _, rfl, L, _, dl, _, rfl, upd_same, T.cWalk, T.nWalk_pact, by show 1 < 1000; decide, ?_⟩
    refine ⟨Nat.zero_le _, fun hd nh => ?_⟩
    have nhL : hd ≠ L := fun e => by rw [e, upd_same] at nh; cases nh
    refine ⟨_, rfl, L, _, dl, _, rfl, by rw [upd_ne nhL.symm]; exact upd_same, T.cWalk, T.nWalk_hands, by show 2 < 1000; decide, ?_⟩
    refine ⟨_, rfl, L, _, dl, _, rfl, upd_same, T.cWalk, T.nWalk_fate, by show 3 < 1000; decide, ?_⟩
    refine ⟨_, rfl, L, _, dl, _, rfl, upd_same, T.cWalk, T.nWalk_waited, by show 4 < 1000; decide, ?_⟩
    have hH : H hd = Option.none := by
      rw [upd_ne nhL, upd_ne nhL] at nh
      exact nh
    refine k hd _ hH upd_same (by rw [upd_ne nhL, upd_ne nhL, upd_ne nhL, upd_same]) fun b o e hb => ?_
    rw [upd_ne hb, upd_ne hb, upd_ne hb, upd_ne (ne_of_none e hH), upd_ne hb, upd_ne hb]
    exact e
def spWaInit (a : Adr) : Sp := fun vs H Q _ => ∃ L dl tn pc, vs = [.ref L, .ref tn, .ref pc] ∧ H L = some (.ins a.cWalk dl []) ∧
  ∀ hd H', H hd = Option.none → H' L = some (.ins a.cWalk dl [("name", .ref tn), ("pact", .ref pc), ("hands", .ref hd), ("fate", .non), ("waited", .int 0), ("back_at", .int (-1)), ("closed", .bl false)]) → H' hd = some (.lst []) → But L H H' → Q .non H'
theorem c_mkWalk (T : Txt K mg a) : C8.Mak P w K mg base 2 "WalkedLead" a.cWalk (spWaInit a) [] := by
  refine mak1 T.kWalk T.gWalk T.F_waInit sc_waInit (fun vs H Q E h => ?_) (fun cdv A outer s H vs Q E hr h => ?_)
  · obtain ⟨L, dl, tn, pc, rfl, _⟩ := h
    rfl
  · obtain ⟨L, dl, tn, pc, rfl, hL, k⟩ := h
    obtain ⟨mc, rd, cv⟩ := T.rLead
    obtain ⟨fd, ps, FI, kp, bI⟩ := (f_leInit (P := P) (w := w) (base := base) T).ex
    refine ⟨_, (pss_cons (ps_expr (pe_cfn (E := C8.E0) (C8.pe_gc (v := .ref a.cLead) rfl ⟨_, T.gLead, rfl⟩) rd cv kp FI (hr.mono (by decide)) bI C8.pass0 (pa_cons (pv 0) (pa_cons (pv 1) (pa_cons (pv 2) pa_nil)))))
      (pss_cons (ps_fld (pv 0) (pe_un un_neg pe_int) rfl)
      (pss_one (ps_fld (pv 0) pe_bl rfl)))), ?_⟩
    refine ⟨rfl, _, rfl, _, rfl, _, rfl, L, dl, tn, pc, rfl, hL, fun hd H1 nh h1 h2 b1 => ?_⟩
    have nhL : hd ≠ L := ne_of h2 h1 (by intro e; cases e)
    refine ⟨_, rfl, _, rfl, L, _, dl, _, rfl, h1, T.cWalk, T.nWalk_back_at, by show 5 < 1000; decide, ?_⟩
    refine ⟨_, rfl, L, _, dl, _, rfl, upd_same, T.cWalk, T.nWalk_closed, by show 6 < 1000; decide, ?_⟩
    exact k hd _ nh upd_same (by rw [upd_ne nhL, upd_ne nhL]; exact h2) (b1.trans ((But.upd _ _ _).trans (But.upd _ _ _)))
def spShInit (a : Adr) : Sp := fun vs H Q _ => ∃ S dS G, vs = [.ref S, .ref G] ∧ H S = some (.ins a.cSheet dS []) ∧
  ∀ ln ws H', H ln = Option.none → H ws = Option.none → ln ≠ ws → H' S = some (.ins a.cSheet dS [("ground", .ref G), ("lines", .ref ln), ("wishes", .ref ws)]) → H' ln = some (.lst []) → H' ws = some (.lst []) → But S H H' → Q .non H'
theorem c_mkSheet (T : Txt K mg a) : C8.Mak P w K mg base 1 "Sheet" a.cSheet (spShInit a) [] := by
  refine mak1 T.kSheet T.gSheet T.F_shInit sc_shInit (fun vs H Q E h => ?_) (fun cdv A outer s H vs Q E hr h => ?_)
  · obtain ⟨S, dS, G, rfl, _⟩ := h
    rfl
  · obtain ⟨S, dS, G, rfl, hS, k⟩ := h
    refine ⟨_, (pss_cons (ps_fld (pv 0) (pv 1) rfl)
      (pss_cons (ps_fld (pv 0) (pe_lst pa_nil) rfl)
      (pss_one (ps_fld (pv 0) (pe_lst pa_nil) rfl)))), ?_⟩
    refine ⟨_, rfl, _, rfl, S, _, dS, _, rfl, hS, T.cSheet, T.nSheet_ground, by decide, ?_⟩
    refine ⟨Nat.zero_le _, fun ln n1 => ?_⟩
    have n1S : ln ≠ S := fun e => by rw [e, upd_same] at n1; cases n1
    refine ⟨_, rfl, S, _, dS, _, rfl, by rw [upd_ne n1S.symm]; exact upd_same, T.cSheet, T.nSheet_lines, by show 1 < 1000; decide, ?_⟩
    refine ⟨Nat.zero_le _, fun ws n2 => ?_⟩
    have n2S : ws ≠ S := fun e => by rw [e, upd_same] at n2; cases n2
    have n12 : ws ≠ ln := fun e => by rw [e, upd_ne n1S, upd_same] at n2; cases n2
    refine ⟨_, rfl, S, _, dS, _, rfl, by rw [upd_ne n2S.symm]; exact upd_same, T.cSheet, T.nSheet_wishes, by show 2 < 1000; decide, ?_⟩
    have h1 : H ln = Option.none := by rw [upd_ne n1S] at n1; exact n1
    have h2 : H ws = Option.none := by rw [upd_ne n2S, upd_ne n12, upd_ne n2S] at n2; exact n2
    refine k ln ws _ h1 h2 n12.symm upd_same (by rw [upd_ne n1S, upd_ne n12.symm, upd_ne n1S, upd_same]) (by rw [upd_ne n2S, upd_same]) fun b o e hb => ?_
    rw [upd_ne hb, upd_ne (ne_of_none e h2), upd_ne hb, upd_ne (ne_of_none e h1), upd_ne hb]
    exact e
end
end Pk

set_option Elab.async false
set_option linter.all false
set_option maxRecDepth 100000
set_option maxHeartbeats 2000000
/-! The stand made; the law's small helpers. -/
namespace Pk
open PySem PySem.Spec PyProof.Rows L2
theorem mkD {C G dG d : Addr} {Hk : Hp} {fs : List (Str × V)} (fs' : List (Str × V)) {o : HO} (hG : Hk G = some (.ins C dG fs)) (nd : Hk d = Option.none) :
    (L2.upd Hk d o) G = some (.ins C dG fs) ∧ But G Hk (L2.upd (L2.upd Hk d o) G (.ins C dG fs')) ∧ (L2.upd (L2.upd Hk d o) G (.ins C dG fs')) d = some o ∧ d ≠ G := by
  have ndG : d ≠ G := fun e => by rw [e, hG] at nd; cases nd
  exact ⟨by rw [upd_ne ndG.symm]; exact hG, fun b u e hb => by rw [upd_ne hb, upd_ne (ne_of_none e nd)]; exact e, by rw [upd_ne ndG, upd_same], ndG⟩
section
variable {P : Program} {w : World} {K : PySem.W.Frag} {mg : Str → Option Value} {base : Heap} {a : Adr}
def spSdInit (a : Adr) : Sp := fun vs H Q _ => ∃ G dG c xs, vs = [.ref G, .ref c] ∧ H G = some (.ins a.cStand dG []) ∧ H c = some (.lst xs) ∧
  ∀ g1 g2 g3 g4 en g5 ov H', H ov = Option.none → en ≠ ov → H' G = some (.ins a.cStand dG [("numbers", .ref g1), ("texts", .ref g2), ("worked", .ref g3), ("readies", .ref g4), ("ends", .ref en), ("marks", .ref g5), ("overs", .ref ov)]) →
    H' en = some (.dT []) → H' ov = some (.dT []) → But G H H' → Q .non H'
theorem c_mkStand (T : Txt K mg a) : C8.Mak P w K mg base 1 "Stand" a.cStand (spSdInit a) [] := by
  refine mak1 T.kStand T.gStand T.F_sdInit sc_sdInit (fun vs H Q E h => ?_) (fun cdv A outer s H vs Q E hr h => ?_)
  · obtain ⟨G, dG, c, xs, rfl, _⟩ := h
    rfl
  · obtain ⟨G, dG, c, xs, rfl, hG, hc, k⟩ := h
    refine ⟨_, (pss_cons (ps_fld (pv 0) (pe_callTy call_list_of (by rfl) T.z_list (by decide +kernel) (pa_cons (pv 1) pa_nil)) rfl)
      (pss_cons (ps_fld (pv 0) pe_dnewT rfl)
      (pss_cons (ps_fld (pv 0) pe_dnewT rfl)
      (pss_cons (ps_fld (pv 0) pe_dnewT rfl)
      (pss_cons (ps_fld (pv 0) pe_dnewT rfl)
      (pss_cons (ps_fld (pv 0) pe_dnewT rfl)
      (pss_one (ps_fld (pv 0) pe_dnewT rfl)))))))), ?_⟩
    refine ⟨_, rfl, c, _, rfl, .inl (SqL.of hc), fun g1 n1 => ?_⟩
    obtain ⟨a1, b1, e1, ng1⟩ := mkD [("numbers", .ref g1)] (o := .lst xs) hG n1
    refine ⟨_, rfl, G, _, dG, _, rfl, a1, T.cStand, T.nStand_numbers, by decide, fun g2 n2 => ?_⟩
    obtain ⟨a2, b2, e2, ng2⟩ := mkD [("numbers", .ref g1), ("texts", .ref g2)] (o := .dT []) upd_same n2
    refine ⟨_, rfl, G, _, dG, _, rfl, a2, T.cStand, T.nStand_texts, by show 1 < 1000; decide, fun g3 n3 => ?_⟩
    obtain ⟨a3, b3, e3, ng3⟩ := mkD [("numbers", .ref g1), ("texts", .ref g2), ("worked", .ref g3)] (o := .dT []) upd_same n3
    refine ⟨_, rfl, G, _, dG, _, rfl, a3, T.cStand, T.nStand_worked, by show 2 < 1000; decide, fun g4 n4 => ?_⟩
    obtain ⟨a4, b4, e4, ng4⟩ := mkD [("numbers", .ref g1), ("texts", .ref g2), ("worked", .ref g3), ("readies", .ref g4)] (o := .dT []) upd_same n4
    refine ⟨_, rfl, G, _, dG, _, rfl, a4, T.cStand, T.nStand_readies, by show 3 < 1000; decide, fun en n5 => ?_⟩
    obtain ⟨a5, b5, e5, ng5⟩ := mkD [("numbers", .ref g1), ("texts", .ref g2), ("worked", .ref g3), ("readies", .ref g4), ("ends", .ref en)] (o := .dT []) upd_same n5
    refine ⟨_, rfl, G, _, dG, _, rfl, a5, T.cStand, T.nStand_ends, by show 4 < 1000; decide, fun g5 n6 => ?_⟩
    obtain ⟨a6, b6, e6, ng6⟩ := mkD [("numbers", .ref g1), ("texts", .ref g2), ("worked", .ref g3), ("readies", .ref g4), ("ends", .ref en), ("marks", .ref g5)] (o := .dT []) upd_same n6
    refine ⟨_, rfl, G, _, dG, _, rfl, a6, T.cStand, T.nStand_marks, by show 5 < 1000; decide, fun ov n7 => ?_⟩
    obtain ⟨a7, b7, e7, ng7⟩ := mkD [("numbers", .ref g1), ("texts", .ref g2), ("worked", .ref g3), ("readies", .ref g4), ("ends", .ref en), ("marks", .ref g5), ("overs", .ref ov)] (o := .dT []) upd_same n7
    refine ⟨_, rfl, G, _, dG, _, rfl, a7, T.cStand, T.nStand_overs, by show 6 < 1000; decide, ?_⟩
    have b16 := ((((b1.trans b2).trans b3).trans b4).trans b5).trans b6
    have hov : H ov = Option.none := by
      cases e : H ov with
      | none => rfl
      | some o =>
        have := b16 _ _ e ng7
        have z : some o = Option.none := this.symm.trans n7
        cases z
    have e56 := b6 _ _ e5 ng5
    have neo : en ≠ ov := ne_of_none e56 n7
    exact k g1 g2 g3 g4 en g5 ov _ hov neo upd_same (b7 _ _ e56 ng5) e7 (b16.trans b7)
/-! ### the law's cells and amounts -/
def cellAt (ns : List Int) (i : Nat) : Int := ns.getD i 0
def spLCell (K : PySem.W.Frag) : Sp := fun vs H Q _ => ∃ (c : Addr) (ns : List Int) (i : Nat), vs = [.ref c, .int i] ∧ SqL K H c (ns.map V.int) ∧ Q (.int (cellAt ns i)) H
theorem c_lCell (T : Txt K mg a) : C8.Cal P w K mg base 1 "_law_cell_at" (spLCell K) [] := by
  refine cal1 T.F_lCell T.g_lCell sc_lCell (fun vs H Q E h => ?_) (fun cdv A outer s H vs Q E hr h => ?_)
  · obtain ⟨c, ns, i, rfl, _⟩ := h
    rfl
  · obtain ⟨c, ns, i, rfl, hc, k⟩ := h
    refine ⟨_, (pss_cons (ps_if (pt_cmpR op_lt (pv 1) (pe_callB call_len_seq (by rfl) T.z_len PySem.boot_len (pa_cons (pv 0) pa_nil)) (nomark _)) (pss_one (ps_ret (pe_ix ix_list (pv 0) (pv 1) (fun _ _ => rfl)))) pss_nil)
      (pss_one (ps_ret pe_int))), ?_⟩
    refine ⟨_, rfl, _, rfl, c, _, rfl, .inl hc, _, _, rfl, rfl, _, rfl, ?_⟩
    rw [List.length_map]
    unfold cellAt at k
    by_cases h : i < ns.length
    · refine ite_true_of (dY (by omega)) ?_
      refine ⟨_, rfl, _, rfl, c, _, _, _, rfl, rfl, hc, atI_nat (v := .int ns[i]) ?_, ?_⟩
      · rw [List.getElem?_map, List.getElem?_eq_getElem h]
        rfl
      · rw [List.getD_eq_getElem?_getD, List.getElem?_eq_getElem h] at k
        exact k
    · refine ite_false_of (dN (by omega)) ?_
      rw [List.getD_eq_getElem?_getD, List.getElem?_eq_none (by omega)] at k
      exact k
def amt (n : Int) : Int := n % (2 * 10 ^ 40 - 1) - (10 ^ 40 - 1)
theorem amt_forty (n : Int) : Forty (amt n) := by
  unfold Forty amt
  have h0 : (0 : Int) ≤ n % (2 * 10 ^ 40 - 1) := Int.emod_nonneg _ (by decide)
  have h1 : n % (2 * 10 ^ 40 - 1) < 2 * 10 ^ 40 - 1 := Int.emod_lt_of_pos _ (by decide)
  generalize n % (2 * 10 ^ 40 - 1) = m at h0 h1
  have e : (10 : Int) ^ 40 = 10000000000000000000000000000000000000000 := by decide
  have e2 : (10 : Nat) ^ 40 = 10000000000000000000000000000000000000000 := by decide
  rw [e] at h1 ⊢
  rw [e2]
  omega
def spLAmount : Sp := fun vs H Q _ => ∃ n, vs = [.int n] ∧ Q (.int (amt n)) H
theorem c_lAmount (T : Txt K mg a) : C8.Cal P w K mg base 1 "_law_amount" spLAmount [] := by
  refine cal1 T.F_lAmount T.g_lAmount sc_lAmount (fun vs H Q E h => ?_) (fun cdv A outer s H vs Q E hr h => ?_)
  · obtain ⟨n, rfl, _⟩ := h
    rfl
  · obtain ⟨n, rfl, k⟩ := h
    refine ⟨_, (pss_one (ps_ret (pe_op op_sub (pe_op op_mod (pv 0) (pe_op op_sub (pe_op op_mul pe_int (pe_op op_pow pe_int pe_int)) pe_int)) (pe_op op_sub (pe_op op_pow pe_int pe_int) pe_int)))), ?_⟩
    have c10 : CPow 10 40 := ⟨by decide, by decide, by decide⟩
    refine ⟨_, rfl, _, _, rfl, rfl, c10, _, _, rfl, rfl, .inl ⟨by decide, by decide⟩, _, _, rfl, rfl, _, _, rfl, rfl, ?_, _, _, rfl, rfl, c10, _, _, rfl, rfl, _, _, rfl, rfl, k⟩
    show (0 : Int) < 2 * 10 ^ 40 - 1
    decide
def spLLast (K : PySem.W.Frag) : Sp := fun vs H Q _ => ∃ (c : Addr) (hs : List Int), vs = [.ref c] ∧ H c = some (.lst (hs.map V.int)) ∧ ∀ H', Same H H' → Q (.int (handOf hs)) H'
theorem last_int {hs : List Int} (ne : hs ≠ []) : hs.map V.int = (hs.dropLast).map V.int ++ [V.int (handOf hs)] := by
  have e1 := List.dropLast_concat_getLast ne
  have e2 : handOf hs = hs.getLast ne := by
    unfold handOf
    rw [List.getLast?_eq_some_getLast ne]
    rfl
  rw [e2]
  conv => lhs; rw [← e1]
  rw [List.map_append]
  rfl
theorem c_lLast (T : Txt K mg a) : C8.Cal P w K mg base 1 "_law_last" (spLLast K) [] := by
  refine cal1 T.F_lLast T.g_lLast sc_lLast (fun vs H Q E h => ?_) (fun cdv A outer s H vs Q E hr h => ?_)
  · obtain ⟨c, hs, rfl, _⟩ := h
    rfl
  · obtain ⟨c, hs, rfl, hc, k⟩ := h
    refine ⟨_, (pss_cons (ps_if (pt_cmpR (op_eqD hr.units) (pv 0) (pe_lst pa_nil) (nomark _)) (pss_one (ps_ret pe_int)) pss_nil)
      (pss_one (ps_ret (pe_ix ix_list (pv 0) (pe_un un_neg pe_int) (fun _ _ => rfl))))), ?_⟩
    refine ⟨_, rfl, Nat.zero_le _, fun q nq => ?_⟩
    have hc1 := Same.upd (o := .lst []) nq _ _ hc
    refine ⟨.list (hs.map PyData.int), .list [], .lst (SqL.of hc1) (dp_ints _), .lst (SqL.of upd_same) .nil, PySem.W.shaped_ints _, by decide, _, rfl, ?_⟩
    rw [eqv_nil]
    cases e : hs with
    | nil =>
      rw [e] at k
      exact iteT (k _ (Same.upd nq))
    | cons n r =>
      refine iteF ?_
      refine ⟨_, rfl, _, rfl, c, _, _, _, rfl, rfl, SqL.of hc1, ?_, k _ (Same.upd nq)⟩
      rw [last_int (by rw [e]; exact List.cons_ne_nil _ _)]
      exact atI_last _ _
end
end Pk

set_option Elab.async false
set_option linter.all false
set_option maxRecDepth 100000
set_option maxHeartbeats 2000000
/-! The law's step of a number. -/
namespace Pk
open PySem PySem.Spec PyProof.Rows L2
def lawWay (n : Int) (nn : Bool) : Int := if n % 7 = 3 ∧ nn = true then 4 else n % 7
def lawH (n : Int) : Int := n / 7 % 5
def lawC (n : Int) : Int := n / 35 % 8
def lawA (n : Int) : Int := amt (n / 280)
def lawNeed (n : Int) : Int := if n / 7 % 4 > 0 then 1 - 10 ^ 40 else lawA n
def lawSd (n : Int) (gv nn : Bool) : Sd :=
  if lawWay n nn = 6 ∧ gv = false then .need (lawNeed n)
  else if lawWay n nn > 4 then .plus (lawA n)
  else if lawWay n nn = 0 then .take (lawH n) (lawC n)
  else if lawWay n nn = 1 then .mean (lawH n) (lawC n)
  else if lawWay n nn = 2 then .sum (lawH n) (lawC n) (lawC n + n / 280 % (8 - lawC n))
  else if lawWay n nn = 3 then .give (lawH n) (lawC n)
  else .add (lawH n) (lawC n) (lawA n)
theorem lawWay_range (n : Int) (nn : Bool) : 0 ≤ lawWay n nn ∧ lawWay n nn ≤ 6 := by
  unfold lawWay
  split <;> omega
theorem lawWay_nn (n : Int) : lawWay n true ≠ 3 := by
  unfold lawWay
  by_cases c : n % 7 = 3
  · rw [if_pos ⟨c, rfl⟩]
    decide
  · rw [if_neg fun h => c h.1]
    exact c
theorem lawH_small (n : Int) : Small (lawH n) := by unfold Small lawH; omega
theorem lawC_small (n : Int) : Small (lawC n) := by unfold Small lawC; omega
theorem lawU_small (n : Int) : Small (lawC n + n / 280 % (8 - lawC n)) ∧ lawC n ≤ lawC n + n / 280 % (8 - lawC n) := by
  have hc := lawC_small n
  unfold Small at hc ⊢
  have h0 := Int.emod_nonneg (n / 280) (b := 8 - lawC n) (by omega)
  have h1 := Int.emod_lt_of_pos (n / 280) (b := 8 - lawC n) (by omega)
  omega
theorem lawA_forty (n : Int) : Forty (lawA n) := amt_forty _
theorem least_forty : Forty (1 - 10 ^ 40) := by unfold Forty; decide
theorem lawNeed_forty (n : Int) : Forty (lawNeed n) := by
  unfold lawNeed
  split
  · exact least_forty
  · exact lawA_forty n
theorem lawSd_ok (n : Int) (gv nn : Bool) : (lawSd n gv nn).Ok := by
  have h := lawH_small n
  have c := lawC_small n
  have a := lawA_forty n
  unfold lawSd
  split
  · exact lawNeed_forty n
  split
  · exact a
  split
  · exact ⟨h, c⟩
  split
  · exact ⟨h, c⟩
  split
  · exact ⟨h, c, (lawU_small n).1, (lawU_small n).2⟩
  split
  · exact ⟨h, c⟩
  · exact ⟨h, c, a⟩
theorem lawSd_none (n : Int) (gv : Bool) : (lawSd n gv true).isGive = false := by
  have := lawWay_nn n
  unfold lawSd
  repeat' split
  all_goals first | rfl | contradiction
/-- a step's row in the law's list -/
def Sd.amtOk (s : Sd) (v : Int) : Prop := match s with | .plus u => v = u | .need u => v = u | _ => True
def LawT (H : Hp) (q : Addr) (s : Sd) : Prop := ∃ v, H q = some (.tup [.str s.word, s.houseV, .str s.text, .int v]) ∧ s.amtOk v
theorem LawT.same {H H' : Hp} {q : Addr} {s : Sd} (h : LawT H q s) (e : Same H H') : LawT H' q s := let ⟨v, h1, h2⟩ := h; ⟨v, e _ _ h1, h2⟩
section
variable {P : Program} {w : World} {K : PySem.W.Frag} {mg : Str → Option Value} {base : Heap} {a : Adr}
def spLStep : Sp := fun vs H Q _ => ∃ n gv nn, vs = [.int n, .bl gv, .bl nn] ∧ ∀ q H', Same H H' → LawT H' q (lawSd n gv nn) → Q (.ref q) H'
theorem wlen (x : Str) (h : x.length ≤ 5) {y : Str} (hy : y.length ≤ 41) : x.length + y.length ≤ sizeLine := by rw [sizeLine_eq]; omega
theorem c_lStep (T : Txt K mg a) : C8.Cal P w K mg base 2 "_law_step" spLStep [] := by
  refine cal1 T.F_lStep T.g_lStep sc_lStep (fun vs H Q E h => ?_) (fun cdv A outer s H vs Q E hr h => ?_)
  · obtain ⟨n, gv, nn, rfl, _⟩ := h
    rfl
  · obtain ⟨n, gv, nn, rfl, k⟩ := h
    refine ⟨_, (pss_cons (ps_set (i := 3) sc_lStep.nd rfl (Or.inl rfl) (pe_op op_mod (pe_op op_fdiv (pv 0) pe_int) pe_int))
      (pss_cons (ps_set (i := 4) sc_lStep.nd rfl (Or.inl rfl) (pe_op op_mod (pe_op op_fdiv (pv 0) pe_int) pe_int))
      (pss_cons (ps_set (i := 5) sc_lStep.nd rfl (Or.inl rfl) (C8.pe_c (c_lAmount T) hr (by decide) rfl (pa_cons (pe_op op_fdiv (pv 0) pe_int) pa_nil)))
      (pss_cons (ps_set (i := 6) sc_lStep.nd rfl (Or.inl rfl) (pe_op op_mod (pv 0) pe_int))
      (C8.pss_cut (ps_if (PW.pt (pw_and (pt_cmpR op_eq (pv 6) pe_int (nomark _)) (pw_and1 (pt_val (pv 2))))) (pss_one (ps_set (i := 6) sc_lStep.nd rfl (Or.inl rfl) pe_int)) pss_nil)
      (pss_cons (ps_if (PW.pt (pw_and (pt_cmpR op_eq (pv 6) pe_int (nomark _)) (pw_and1 (pt_not (pt_val (pv 1)))))) (pss_cons (ps_if (pt_cmpR op_gt (pe_op op_mod (pe_op op_fdiv (pv 0) pe_int) pe_int) pe_int (nomark _)) (pss_one (ps_set (i := 5) sc_lStep.nd rfl (Or.inl rfl) (pe_op op_sub pe_int (pe_op op_pow pe_int pe_int)))) pss_nil)
      (pss_one (ps_ret (pe_tup (pa_cons pe_str (pa_cons pe_non (pa_cons (pe_op op_add_str pe_str (pe_callTy call_str_int (by rfl) T.z_str (by decide +kernel) (pa_cons (pv 5) pa_nil))) (pa_cons (pv 5) pa_nil)))))))) pss_nil)
      (pss_cons (ps_if (pt_cmpR op_gt (pv 6) pe_int (nomark _)) (pss_one (ps_ret (pe_tup (pa_cons pe_str (pa_cons pe_non (pa_cons (pe_op op_add_str pe_str (pe_callTy call_str_int (by rfl) T.z_str (by decide +kernel) (pa_cons (pv 5) pa_nil))) (pa_cons (pv 5) pa_nil))))))) pss_nil)
      (pss_cons (ps_set (i := 7) sc_lStep.nd rfl (Or.inl rfl) (pe_ix ix_list (pe_lst (pa_cons pe_str (pa_cons pe_str (pa_cons pe_str (pa_cons pe_str (pa_cons pe_str pa_nil)))))) (pv 6) (fun _ _ => rfl)))
      (pss_cons (ps_set (i := 8) sc_lStep.nd rfl (Or.inl rfl) (pe_op op_add_str (pe_op op_add_str (pe_op op_add_str (pe_op op_add_str (pv 7) pe_str) (pe_callTy call_str_int (by rfl) T.z_str (by decide +kernel) (pa_cons (pv 3) pa_nil))) pe_str) (pe_callTy call_str_int (by rfl) T.z_str (by decide +kernel) (pa_cons (pv 4) pa_nil))))
      (pss_cons (ps_if (pt_cmpR op_eq (pv 6) pe_int (nomark _)) (pss_one (ps_set (i := 8) sc_lStep.nd rfl (Or.inl rfl) (pe_op op_add_str (pe_op op_add_str (pv 8) pe_str) (pe_callTy call_str_int (by rfl) T.z_str (by decide +kernel) (pa_cons (pe_op op_add (pv 4) (pe_op op_mod (pe_op op_fdiv (pv 0) pe_int) (pe_op op_sub pe_int (pv 4)))) pa_nil))))) pss_nil)
      (pss_cons (ps_if (pt_cmpR op_eq (pv 6) pe_int (nomark _)) (pss_one (ps_set (i := 8) sc_lStep.nd rfl (Or.inl rfl) (pe_op op_add_str (pe_op op_add_str (pv 8) pe_str) (pe_callTy call_str_int (by rfl) T.z_str (by decide +kernel) (pa_cons (pv 5) pa_nil))))) pss_nil)
      (pss_one (ps_ret (pe_tup (pa_cons (pv 7) (pa_cons (pv 3) (pa_cons (pv 8) (pa_cons (pv 5) pa_nil)))))))))))))))))), ?_⟩
    have cd : ∀ i j : Int, 0 < j → j < 1000 → CDiv i j := fun i j h0 h1 => ⟨h0, by omega⟩
    refine ⟨_, rfl, _, _, rfl, rfl, cd _ _ (by decide) (by decide), _, _, rfl, rfl, by show (0 : Int) < 5; decide, ?_⟩
    refine ⟨_, rfl, _, _, rfl, rfl, cd _ _ (by decide) (by decide), _, _, rfl, rfl, by show (0 : Int) < 8; decide, ?_⟩
    refine ⟨_, rfl, _, _, rfl, rfl, cd _ _ (by decide) (by decide), _, rfl, ?_⟩
    refine ⟨_, rfl, _, _, rfl, rfl, by show (0 : Int) < 7; decide, ?_⟩
    refine ⟨fun σ' H' => ∃ wv : Int, lawWay n nn = wv ∧ σ' = [some (.int n), some (.bl gv), some (.bl nn), some (.int (lawH n)), some (.int (lawC n)), some (.int (lawA n)), some (.int wv), none, none] ∧ H' = H, ?_, ?_⟩
    · refine ⟨_, rfl, rfl, _, rfl, ?_⟩
      by_cases c : n % 7 = 3
      · refine ite_true_of (dY (by show V.int (n % 7) = V.int 3; rw [c])) ⟨_, rfl, _, rfl, ?_⟩
        cases nn with
        | true =>
          refine iteT ⟨4, ?_, rfl, rfl⟩
          unfold lawWay
          rw [if_pos ⟨c, rfl⟩]
        | false =>
          refine iteF ⟨n % 7, ?_, rfl, rfl⟩
          unfold lawWay
          rw [if_neg (by simp)]
      · refine ite_false_of (dN (fun e => c (V.int.inj e))) ⟨n % 7, ?_, rfl, rfl⟩
        unfold lawWay
        rw [if_neg (fun h => c h.1)]
    rintro σ' H' ⟨wv, ew, rfl, rfl⟩
    have hw := lawWay_range n nn
    rw [ew] at hw
    have nl : ("need " : Str).length ≤ 5 := by decide +kernel
    have pl : ("plus " : Str).length ≤ 5 := by decide +kernel
    have fa := lawA_forty n
    -- what a plus gives
    have plus : wv > 4 → ¬ (wv = 6 ∧ gv = false) → lawSd n gv nn = .plus (lawA n) := fun h1 h2 => by
      unfold lawSd
      rw [ew, if_neg h2, if_pos h1]
    refine ⟨_, rfl, rfl, _, rfl, ?_⟩
    by_cases c6 : wv = 6 ∧ gv = false
    · obtain ⟨rfl, rfl⟩ := c6
      have es : lawSd n false nn = .need (lawNeed n) := by
        unfold lawSd
        rw [ew, if_pos ⟨rfl, rfl⟩]
      rw [es] at k
      refine ite_true_of (dY rfl) ⟨_, rfl, _, rfl, iteT ?_⟩
      refine ⟨_, rfl, _, _, rfl, rfl, cd _ _ (by decide) (by decide), _, _, rfl, rfl, by show (0 : Int) < 4; decide, _, _, rfl, rfl, _, rfl, ?_⟩
      by_cases c4 : n / 7 % 4 > 0
      · refine ite_true_of (dY c4) ?_
        have en : lawNeed n = 1 - 10 ^ 40 := if_pos c4
        rw [en] at k
        have c10 : CPow 10 40 := ⟨by decide, by decide, by decide⟩
        refine ⟨_, _, rfl, rfl, c10, _, _, rfl, rfl, ?_⟩
        refine ⟨_, rfl, _, rfl, log2_40 least_forty, _, _, rfl, rfl, wlen _ nl (tx_len least_forty), _, rfl, by show 4 ≤ sizeLine; decide, fun q nq => ?_⟩
        exact k q _ (Same.upd nq) ⟨_, upd_same, rfl⟩
      · refine ite_false_of (dN c4) ?_
        have en : lawNeed n = lawA n := if_neg c4
        rw [en] at k
        refine ⟨_, rfl, _, rfl, log2_40 fa, _, _, rfl, rfl, wlen _ nl (tx_len fa), _, rfl, by show 4 ≤ sizeLine; decide, fun q nq => ?_⟩
        exact k q _ (Same.upd nq) ⟨_, upd_same, rfl⟩
    · -- no need
      by_cases c5 : wv > 4
      · rw [plus c5 c6] at k
        by_cases c : wv = 6
        · subst c
          have hg : gv = true := by
            cases gv with
            | true => rfl
            | false => exact absurd ⟨rfl, rfl⟩ c6
          subst hg
          refine ite_true_of (dY rfl) ⟨_, rfl, _, rfl, iteF ?_⟩
          refine ⟨_, rfl, _, _, rfl, rfl, _, rfl, ite_true_of (by decide) ?_⟩
          refine ⟨_, rfl, _, rfl, log2_40 fa, _, _, rfl, rfl, wlen _ pl (tx_len fa), _, rfl, by show 4 ≤ sizeLine; decide, fun q nq => ?_⟩
          exact k q _ (Same.upd nq) ⟨_, upd_same, rfl⟩
        · refine ite_false_of (dN fun e => c (V.int.inj e)) ?_
          refine ⟨_, rfl, _, _, rfl, rfl, _, rfl, ite_true_of (dY c5) ?_⟩
          refine ⟨_, rfl, _, rfl, log2_40 fa, _, _, rfl, rfl, wlen _ pl (tx_len fa), _, rfl, by show 4 ≤ sizeLine; decide, fun q nq => ?_⟩
          exact k q _ (Same.upd nq) ⟨_, upd_same, rfl⟩
      · have ne6 : wv ≠ 6 := by omega
        refine ite_false_of (dN fun e => ne6 (V.int.inj e)) ?_
        refine ⟨_, rfl, _, _, rfl, rfl, _, rfl, ite_false_of (dN c5) ?_⟩
        have fh := (lawH_small n).forty
        have fc := (lawC_small n).forty
        have hb := blank_len
        have hs := sizeLine_eq
        have th := tx_len fh
        have tc := tx_len fc
        have ta := tx_len fa
        have es : ∀ s : Sd, (if wv = 0 then Sd.take (lawH n) (lawC n) else if wv = 1 then .mean (lawH n) (lawC n) else if wv = 2 then .sum (lawH n) (lawC n) (lawC n + n / 280 % (8 - lawC n)) else if wv = 3 then .give (lawH n) (lawC n) else .add (lawH n) (lawC n) (lawA n)) = s → lawSd n gv nn = s := fun s e => by
          unfold lawSd
          rw [ew, if_neg c6, if_neg c5]
          exact e
        -- the text of a head of four signs at most
        have body : ∀ (hd : Str), hd.length ≤ 4 → hd.length + (" " : Str).length ≤ sizeLine ∧ (hd ++ " ").length + (tx (lawH n)).length ≤ sizeLine ∧ (hd ++ " " ++ tx (lawH n)).length + (" " : Str).length ≤ sizeLine ∧ (hd ++ " " ++ tx (lawH n) ++ " ").length + (tx (lawC n)).length ≤ sizeLine ∧
            (hd ++ " " ++ tx (lawH n) ++ " " ++ tx (lawC n)).length + (" " : Str).length ≤ sizeLine ∧ ∀ z : Str, z.length ≤ 41 → (hd ++ " " ++ tx (lawH n) ++ " " ++ tx (lawC n) ++ " ").length + z.length ≤ sizeLine := fun hd h4 => by
          simp only [len_app]
          exact ⟨by omega, by omega, by omega, by omega, by omega, fun z hz => by omega⟩
        have cases5 : wv = 0 ∨ wv = 1 ∨ wv = 2 ∨ wv = 3 ∨ wv = 4 := by omega
        refine ⟨by show 5 ≤ sizeLine; decide, fun l nl => ?_⟩
        rcases cases5 with rfl | rfl | rfl | rfl | rfl
        · rw [es _ rfl] at k
          obtain ⟨l1, l2, l3, l4, l5, l6⟩ := body "take" (by decide +kernel)
          refine ⟨_, rfl, l, _, _, .str "take", rfl, rfl, SqL.of upd_same, rfl, ?_⟩
          refine ⟨_, rfl, _, _, rfl, rfl, l1, _, rfl, _, rfl, log2_40 fh, _, _, rfl, rfl, l2, _, _, rfl, rfl, l3, _, rfl, _, rfl, log2_40 fc, _, _, rfl, rfl, l4, ?_⟩
          refine ⟨_, rfl, rfl, _, rfl, ite_false_of (by decide) ⟨_, rfl, rfl, _, rfl, ite_false_of (by decide) ?_⟩⟩
          refine ⟨_, rfl, _, rfl, _, rfl, _, rfl, by show 4 ≤ sizeLine; decide, fun q nq => ?_⟩
          exact k q _ ((Same.upd nl).trans (Same.upd nq)) ⟨_, upd_same, trivial⟩
        · rw [es _ rfl] at k
          obtain ⟨l1, l2, l3, l4, l5, l6⟩ := body "mean" (by decide +kernel)
          refine ⟨_, rfl, l, _, _, .str "mean", rfl, rfl, SqL.of upd_same, rfl, ?_⟩
          refine ⟨_, rfl, _, _, rfl, rfl, l1, _, rfl, _, rfl, log2_40 fh, _, _, rfl, rfl, l2, _, _, rfl, rfl, l3, _, rfl, _, rfl, log2_40 fc, _, _, rfl, rfl, l4, ?_⟩
          refine ⟨_, rfl, rfl, _, rfl, ite_false_of (by decide) ⟨_, rfl, rfl, _, rfl, ite_false_of (by decide) ?_⟩⟩
          refine ⟨_, rfl, _, rfl, _, rfl, _, rfl, by show 4 ≤ sizeLine; decide, fun q nq => ?_⟩
          exact k q _ ((Same.upd nl).trans (Same.upd nq)) ⟨_, upd_same, trivial⟩
        · rw [es _ rfl] at k
          obtain ⟨l1, l2, l3, l4, l5, l6⟩ := body "sum" (by decide +kernel)
          have fu := (lawU_small n).1.forty
          have hc8 := lawC_small n
          unfold Small at hc8
          refine ⟨_, rfl, l, _, _, .str "sum", rfl, rfl, SqL.of upd_same, rfl, ?_⟩
          refine ⟨_, rfl, _, _, rfl, rfl, l1, _, rfl, _, rfl, log2_40 fh, _, _, rfl, rfl, l2, _, _, rfl, rfl, l3, _, rfl, _, rfl, log2_40 fc, _, _, rfl, rfl, l4, ?_⟩
          refine ⟨_, rfl, rfl, _, rfl, ite_true_of (by decide) ⟨_, rfl, _, _, rfl, rfl, l5, ?_⟩⟩
          refine ⟨_, rfl, _, rfl, _, _, rfl, rfl, cd _ _ (by decide) (by decide), _, rfl, _, _, rfl, rfl, _, _, rfl, rfl, by show (0 : Int) < 8 - lawC n; omega, _, _, rfl, rfl, _, rfl, log2_40 fu, _, _, rfl, rfl, l6 _ (tx_len fu), ?_⟩
          refine ⟨_, rfl, rfl, _, rfl, ite_false_of (by decide) ?_⟩
          refine ⟨_, rfl, _, rfl, _, rfl, _, rfl, by show 4 ≤ sizeLine; decide, fun q nq => ?_⟩
          exact k q _ ((Same.upd nl).trans (Same.upd nq)) ⟨_, upd_same, trivial⟩
        · rw [es _ rfl] at k
          obtain ⟨l1, l2, l3, l4, l5, l6⟩ := body "give" (by decide +kernel)
          refine ⟨_, rfl, l, _, _, .str "give", rfl, rfl, SqL.of upd_same, rfl, ?_⟩
          refine ⟨_, rfl, _, _, rfl, rfl, l1, _, rfl, _, rfl, log2_40 fh, _, _, rfl, rfl, l2, _, _, rfl, rfl, l3, _, rfl, _, rfl, log2_40 fc, _, _, rfl, rfl, l4, ?_⟩
          refine ⟨_, rfl, rfl, _, rfl, ite_false_of (by decide) ⟨_, rfl, rfl, _, rfl, ite_false_of (by decide) ?_⟩⟩
          refine ⟨_, rfl, _, rfl, _, rfl, _, rfl, by show 4 ≤ sizeLine; decide, fun q nq => ?_⟩
          exact k q _ ((Same.upd nl).trans (Same.upd nq)) ⟨_, upd_same, trivial⟩
        · rw [es _ rfl] at k
          obtain ⟨l1, l2, l3, l4, l5, l6⟩ := body "add" (by decide +kernel)
          refine ⟨_, rfl, l, _, _, .str "add", rfl, rfl, SqL.of upd_same, rfl, ?_⟩
          refine ⟨_, rfl, _, _, rfl, rfl, l1, _, rfl, _, rfl, log2_40 fh, _, _, rfl, rfl, l2, _, _, rfl, rfl, l3, _, rfl, _, rfl, log2_40 fc, _, _, rfl, rfl, l4, ?_⟩
          refine ⟨_, rfl, rfl, _, rfl, ite_false_of (by decide) ⟨_, rfl, rfl, _, rfl, ite_true_of (by decide) ?_⟩⟩
          refine ⟨_, rfl, _, _, rfl, rfl, l5, _, rfl, _, rfl, log2_40 fa, _, _, rfl, rfl, l6 _ ta, ?_⟩
          refine ⟨_, rfl, _, rfl, _, rfl, _, rfl, by show 4 ≤ sizeLine; decide, fun q nq => ?_⟩
          exact k q _ ((Same.upd nl).trans (Same.upd nq)) ⟨_, upd_same, trivial⟩
end
end Pk

set_option Elab.async false
set_option linter.all false
set_option maxRecDepth 100000
set_option maxHeartbeats 2000000
/-! The law's lists: its steps, the plain ones gone along, the way back. -/
namespace Pk
open PySem PySem.Spec PyProof.Rows L2
/-- a loop over enumerate(xs) -/
theorem for_enum {K : PySem.W.Frag} {c : Addr} {xs : List V} {g : TG} {tb : TS} {D : Ends} {σ : L2.St} {H : Hp} (Pv : Nat → L2.St → Hp → Prop) (h0 : Pv 0 σ H) (hl : ∀ i σ H, i ≤ xs.length → Pv i σ H → SqL K H c xs)
    (hs : ∀ (i : Nat) (x : V) (σ : L2.St) (H : Hp) (t : Addr), xs[i]? = some x → Pv i σ H → H t = Option.none → g (.ref t) σ (upd H t (.tup [.int (i : Nat), x])) fun σ2 H2 => tb { D with nx := Pv (i + 1), ct := Pv (i + 1), bk := D.nx } σ2 H2)
    (hd : ∀ σ H, Pv xs.length σ H → D.nx σ H) :
    ∃ W : Nat → Nat → L2.St → Hp → Prop, (∃ m, W 0 m σ H) ∧ ∀ i m σ H, W i m σ H →
      ((Ite K c).stop i H ∧ D.nx σ H) ∨ ((Ite K c).go i H ∧ ∃ N : L2.St → Hp → Prop, (∀ σ' H', N σ' H' → ∃ m', m' < m ∧ W (i + 1) m' σ' H') ∧ ∀ x H', (Ite K c).yld i H x H' → g x σ H' fun σ2 H2 => tb { D with nx := N, ct := N, bk := D.nx } σ2 H2) := by
  refine ⟨fun i m σ H => m = xs.length - i ∧ i ≤ xs.length ∧ Pv i σ H, ⟨xs.length, by simp, Nat.zero_le _, h0⟩, ?_⟩
  rintro i m σ H ⟨rfl, hi, p⟩
  have q := hl i σ H hi p
  by_cases hlt : i < xs.length
  · have hx : xs[i]? = some xs[i] := List.getElem?_eq_getElem hlt
    refine .inr ⟨⟨xs, xs[i], q, hx⟩, Pv (i + 1), fun σ' H' p' => ⟨xs.length - (i + 1), by omega, rfl, hlt, p'⟩, fun x H' y => ?_⟩
    obtain ⟨t, z, rfl, nt, rfl, y⟩ := y
    have e := y xs q
    exact hs i z σ H t e p nt
  · have e : i = xs.length := by omega
    subst e
    exact .inl ⟨⟨xs, q, Nat.le_refl _⟩, hd σ H p⟩
/-! ### the law's steps -/
def lawNone (ns : List Int) : Bool := decide (cellAt ns 1 / 12 % 2 = 1)
def lawSteps (ns : List Int) : Nat → List Sd
  | 0 => []
  | k + 1 => lawSteps ns k ++ [lawSd (cellAt ns (2 + k)) ((lawSteps ns k).any Sd.isGive) (lawNone ns)]
def lawCount (ns : List Int) : Nat := (1 + cellAt ns 1 % 12).toNat
def lawAll (ns : List Int) : List Sd := lawSteps ns (lawCount ns)
theorem lawSteps_len (ns : List Int) : ∀ k, (lawSteps ns k).length = k
  | 0 => rfl
  | k + 1 => by
    show (lawSteps ns k ++ [_]).length = _
    rw [List.length_append, lawSteps_len ns k]
    rfl
theorem lawSteps_ok (ns : List Int) : ∀ k, ∀ s ∈ lawSteps ns k, s.Ok
  | 0, s, h => by cases h
  | k + 1, s, h => by
    rcases List.mem_append.mp h with e | e
    · exact lawSteps_ok ns k s e
    · rw [List.mem_singleton.mp e]
      exact lawSd_ok _ _ _
theorem lawCount_range (ns : List Int) : 1 ≤ lawCount ns ∧ lawCount ns ≤ 12 := by
  unfold lawCount
  omega
theorem word_give (s : Sd) : decide (V.str s.word = V.str "give") = s.isGive := by
  cases s
  · exact (show decide (V.str "take" = V.str "give") = false by decide +kernel)
  · exact (show decide (V.str "mean" = V.str "give") = false by decide +kernel)
  · exact (show decide (V.str "sum" = V.str "give") = false by decide +kernel)
  · exact (show decide (V.str "give" = V.str "give") = true by decide +kernel)
  · exact (show decide (V.str "add" = V.str "give") = false by decide +kernel)
  · exact (show decide (V.str "plus" = V.str "give") = false by decide +kernel)
  · exact (show decide (V.str "need" = V.str "give") = false by decide +kernel)
section
variable {P : Program} {w : World} {K : PySem.W.Frag} {mg : Str → Option Value} {base : Heap} {a : Adr}
def spLSteps (K : PySem.W.Frag) : Sp := fun vs H Q _ => ∃ (c : Addr) (ns : List Int), vs = [.ref c] ∧ SqL K H c (ns.map V.int) ∧
  ∀ q H' (tl : List Addr), Same H H' → H' q = some (.lst (tl.map V.ref)) → Paired (LawT H') tl (lawAll ns) → Q (.ref q) H'
theorem c_lSteps (T : Txt K mg a) : C8.Cal P w K mg base 3 "_law_steps" (spLSteps K) [] := by
  refine cal1 T.F_lSteps T.g_lSteps sc_lSteps (fun vs H Q E h => ?_) (fun cdv A outer s H vs Q E hr h => ?_)
  · obtain ⟨c, ns, rfl, _⟩ := h
    rfl
  · obtain ⟨c, ns, rfl, hc, k⟩ := h
    refine ⟨_, (pss_cons (ps_set (i := 1) sc_lSteps.nd rfl (Or.inl rfl) (pe_lst pa_nil))
      (pss_cons (ps_set (i := 2) sc_lSteps.nd rfl (Or.inl rfl) pe_bl)
      (pss_cons (ps_set (i := 3) sc_lSteps.nd rfl (Or.inl rfl) (pe_cmpR op_eq (pe_op op_mod (pe_op op_fdiv (C8.pe_c (c_lCell T) hr (by decide) rfl (pa_cons (pv 0) (pa_cons pe_int pa_nil))) pe_int) pe_int) pe_int (nomark _)))
      (pss_cons (ps_for PassesOwn.never rfl (pi_range1 rfl T.z_range (pa_cons (pe_op op_add pe_int (pe_op op_mod (C8.pe_c (c_lCell T) hr (by decide) rfl (pa_cons (pv 0) (pa_cons pe_int pa_nil))) pe_int)) pa_nil)) (pg_name (i := 4) sc_lSteps.nd rfl (Or.inl rfl)) (pss_cons (ps_set (i := 5) sc_lSteps.nd rfl (Or.inl rfl) (C8.pe_c (c_lStep T) hr (by decide) rfl (pa_cons (C8.pe_c (c_lCell T) hr (by decide) rfl (pa_cons (pv 0) (pa_cons (pe_op op_add pe_int (pv 4)) pa_nil))) (pa_cons (pv 2) (pa_cons (pv 3) pa_nil)))))
      (pss_cons (ps_set (i := 2) sc_lSteps.nd rfl (Or.inl rfl) (pe_or (pv 2) (pe_one (pe_cmpR op_eq (pe_ix ix_tup (pv 5) pe_int (fun _ _ => rfl)) pe_str (nomark _)))))
      (pss_one (ps_expr (pe_bm PySem.F.plainAttrs_list PySem.F.slot_list_append PySem.F.type_list_append mt_append (pv 1) (pa_cons (pv 5) pa_nil)))))))
      (pss_one (ps_ret (pv 1))))))), ?_⟩
    refine ⟨Nat.zero_le _, fun q nq => ?_⟩
    have s1 := Same.upd (o := .lst []) nq
    refine ⟨_, rfl, c, ns, 1, rfl, s1.seq hc, _, _, rfl, rfl, ⟨by decide, by decide⟩, _, _, rfl, rfl, by show (0 : Int) < 2; decide, rfl, ?_⟩
    have en : decide (V.int (cellAt ns 1 / 12 % 2) = V.int 1) = lawNone ns := by
      unfold lawNone
      by_cases h : cellAt ns 1 / 12 % 2 = 1
      · rw [dY h, dY (by rw [h])]
      · rw [dN h, dN fun e => h (V.int.inj e)]
    rw [en]
    have hcnt := lawCount_range ns
    have e1 : (1 + cellAt ns 1 % 12 : Int) = (lawCount ns : Int) := by unfold lawCount; omega
    refine ⟨_, rfl, c, ns, 1, rfl, s1.seq hc, _, _, rfl, rfl, by show (0 : Int) < 12; decide, _, _, rfl, rfl, _, rfl, by omega, by omega, ?_⟩
    rw [e1]
    refine for_range (lo := 0) (fun i σ H' => ∃ (v4 v5 : Option V) (tl : List Addr), σ = [some (.ref c), some (.ref q), some (.bl ((lawSteps ns i).any Sd.isGive)), some (.bl (lawNone ns)), v4, v5] ∧ Same H H' ∧ H' q = some (.lst (tl.map V.ref)) ∧ Paired (LawT H') tl (lawSteps ns i))
      ⟨none, none, [], rfl, s1, upd_same, .nil⟩ ?_ ?_
    · rintro i σ H1 hi ⟨v4, v5, tl, rfl, s2, hq, hp⟩
      have hi' : i < lawCount ns := by simpa using hi
      have e2 : (2 + (0 + (i : Nat)) : Int) = ((2 + i : Nat) : Int) := by omega
      refine ⟨_, rfl, _, rfl, _, _, rfl, rfl, c, ns, 2 + i, by show [V.ref c, V.int (2 + (0 + (i : Nat)))] = _; rw [e2], s2.seq hc, _, rfl, _, rfl, _, _, _, rfl, fun t H2 s3 ht => ?_⟩
      obtain ⟨v, ht1, ht2⟩ := id ht
      generalize hsd : lawSd (cellAt ns (2 + i)) ((lawSteps ns i).any Sd.isGive) (lawNone ns) = sd at ht ht1 ht2
      have hq2 := s3 _ _ hq
      have hlen : tl.length = i := by rw [hp.length, lawSteps_len]
      have hst : lawSteps ns (i + 1) = lawSteps ns i ++ [sd] := by rw [← hsd]; rfl
      have hany : (lawSteps ns (i + 1)).any Sd.isGive = ((lawSteps ns i).any Sd.isGive || sd.isGive) := by rw [hst, List.any_append]; simp
      have fin : ∀ b, b = (lawSteps ns (i + 1)).any Sd.isGive → ∃ (v4 v5 : Option V) (tl' : List Addr), ([some (.ref c), some (.ref q), some (.bl b), some (.bl (lawNone ns)), some (.int (0 + (i : Nat))), some (.ref t)] : L2.St) = [some (.ref c), some (.ref q), some (.bl ((lawSteps ns (i + 1)).any Sd.isGive)), some (.bl (lawNone ns)), v4, v5] ∧
          Same H (upd H2 q (.lst (tl.map V.ref ++ [.ref t]))) ∧ (upd H2 q (.lst (tl.map V.ref ++ [.ref t]))) q = some (.lst (tl'.map V.ref)) ∧ Paired (LawT (upd H2 q (.lst (tl.map V.ref ++ [.ref t])))) tl' (lawSteps ns (i + 1)) := fun b hb => by
        subst hb
        refine ⟨_, _, tl ++ [t], rfl, fun b o e => ?_, by rw [upd_same, List.map_append]; rfl, ?_⟩
        · rw [upd_ne (ne_of_none e nq)]
          exact s3 _ _ (s2 _ _ e)
        · have keep : ∀ x y, LawT H2 x y → LawT (upd H2 q (.lst (tl.map V.ref ++ [.ref t]))) x y := fun x y ⟨v, h1, h2⟩ => ⟨v, by rw [upd_ne (ne_of h1 hq2 (by intro e; cases e))]; exact h1, h2⟩
          rw [hst]
          exact paired_snoc (keep _ _ ht) (Paired.mapP hp fun x y z => keep _ _ (z.same s3))
      refine ⟨_, rfl, _, rfl, ?_⟩
      cases hg : (lawSteps ns i).any Sd.isGive with
      | true =>
        refine iteT ?_
        refine ⟨_, rfl, .inl ⟨rfl, _, SqL.of hq2⟩, _, rfl, q, _, _, rfl, rfl, hq2, by rw [List.length_map, hlen, sizeLine_eq]; omega, ?_⟩
        exact fin true (by rw [hany, hg]; rfl)
      | false =>
        refine iteF ?_
        refine ⟨_, rfl, t, _, _, _, rfl, rfl, SqT.of ht1, rfl, rfl, ?_⟩
        rw [word_give]
        refine ⟨_, rfl, .inl ⟨rfl, _, SqL.of hq2⟩, _, rfl, q, _, _, rfl, rfl, hq2, by rw [List.length_map, hlen, sizeLine_eq]; omega, ?_⟩
        exact fin sd.isGive (by rw [hany, hg]; rfl)
    · rintro σ H1 ⟨v4, v5, tl, rfl, s2, hq, hp⟩
      rw [Int.toNat_natCast] at hp
      exact ⟨_, rfl, k q H1 tl s2 hq hp⟩
end
end Pk

set_option Elab.async false
set_option linter.all false
set_option maxRecDepth 100000
set_option maxHeartbeats 2000000
/-! The law's own way along the plain steps, and back. -/
namespace Pk
open PySem PySem.Spec PyProof.Rows L2
abbrev nV (n : Nat) : V := .int (n : Int)
abbrev nD (n : Nat) : PyData := .int (n : Int)
/-- the law's list of rows at q -/
structure LL (H : Hp) (q : Addr) (tl : List Addr) (sd : List Sd) : Prop where
  at_ : H q = some (.lst (tl.map V.ref))
  rows : Paired (LawT H) tl sd
theorem LL.same {H H' : Hp} {q : Addr} {tl : List Addr} {sd : List Sd} (x : LL H q tl sd) (e : Same H H') : LL H' q tl sd := ⟨e _ _ x.at_, Paired.mapP x.rows fun _ _ z => z.same e⟩
theorem LL.len {H : Hp} {q : Addr} {tl : List Addr} {sd : List Sd} (x : LL H q tl sd) : tl.length = sd.length := x.rows.length
theorem LL.get {H : Hp} {q : Addr} {tl : List Addr} {sd : List Sd} (x : LL H q tl sd) {i : Nat} {s : Sd} (h : sd[i]? = some s) :
    ∃ t v, (tl.map V.ref)[i]? = some (.ref t) ∧ H t = some (.tup [.str s.word, s.houseV, .str s.text, .int v]) ∧ s.amtOk v := by
  obtain ⟨t, ht, v, h1, h2⟩ := paired_get x.rows h
  exact ⟨t, v, by rw [List.getElem?_map, ht]; rfl, h1, h2⟩
theorem LL.but {H H' : Hp} {q c : Addr} {tl : List Addr} {sd : List Sd} {xs : List V} (x : LL H q tl sd) (hc : H c = some (.lst xs)) (n : q ≠ c) (b : But c H H') : LL H' q tl sd :=
  ⟨b _ _ x.at_ n, Paired.mapP x.rows fun t s ⟨v, h1, h2⟩ => ⟨v, b _ _ h1 (ne_of h1 hc (by intro e; cases e)), h2⟩⟩
theorem word_need (s : Sd) : decide (V.str s.word = V.str "need") = (match s with | .need _ => true | _ => false) := by
  cases s
  · exact (show decide (V.str "take" = V.str "need") = false by decide +kernel)
  · exact (show decide (V.str "mean" = V.str "need") = false by decide +kernel)
  · exact (show decide (V.str "sum" = V.str "need") = false by decide +kernel)
  · exact (show decide (V.str "give" = V.str "need") = false by decide +kernel)
  · exact (show decide (V.str "add" = V.str "need") = false by decide +kernel)
  · exact (show decide (V.str "plus" = V.str "need") = false by decide +kernel)
  · exact (show decide (V.str "need" = V.str "need") = true by decide +kernel)
theorem flat_houseV (s : Sd) : ∃ x, s.houseV = .int x ∨ s.houseV = .non := by
  cases s
  · exact ⟨_, .inl rfl⟩
  · exact ⟨_, .inl rfl⟩
  · exact ⟨_, .inl rfl⟩
  · exact ⟨_, .inl rfl⟩
  · exact ⟨_, .inl rfl⟩
  · exact ⟨0, .inr rfl⟩
  · exact ⟨0, .inr rfl⟩
section
variable {P : Program} {w : World} {K : PySem.W.Frag} {mg : Str → Option Value} {base : Heap} {a : Adr}
def spLPlain : Sp := fun vs H Q _ => ∃ q c tl sd hs, vs = [.ref q, .ref c] ∧ LL H q tl sd ∧ H c = some (.lst (hs.map V.int)) ∧ q ≠ c ∧ sd.length ≤ 12 ∧
  ∀ H', H' c = some (.lst ((plainRun sd hs).1.map V.int)) → But c H H' → Q (.bl (plainRun sd hs).2) H'
theorem c_lPlain (T : Txt K mg a) : C8.Cal P w K mg base 2 "_law_plain" spLPlain [] := by
  refine cal1 T.F_lPlain T.g_lPlain sc_lPlain (fun vs H Q E h => ?_) (fun cdv A outer s H vs Q E hr h => ?_)
  · obtain ⟨q, c, tl, sd, hs, rfl, _⟩ := h
    rfl
  · obtain ⟨q, c, tl, sd, hs, rfl, ll, hc, nqc, l12, k⟩ := h
    refine ⟨_, (pss_cons (ps_while PassesOwn.never (PW.pt (pw_and (pt_cmpR op_lt (pe_callB call_len_seq (by rfl) T.z_len PySem.boot_len (pa_cons (pv 1) pa_nil)) (pe_callB call_len_seq (by rfl) T.z_len PySem.boot_len (pa_cons (pv 0) pa_nil)) (nomark _)) (pw_and1 (pt_cmpR op_isN (pe_ix ix_tup (pe_ix ix_list (pv 0) (pe_callB call_len_seq (by rfl) T.z_len PySem.boot_len (pa_cons (pv 1) pa_nil)) (fun _ _ => rfl)) pe_int (fun _ _ => rfl)) pe_non (nomark _))))) (pss_cons (ps_asg (pe_ix ix_list (pv 0) (pe_callB call_len_seq (by rfl) T.z_len PySem.boot_len (pa_cons (pv 1) pa_nil)) (fun _ _ => rfl)) (pg_tup rfl (pgs_cons (pg_name (i := 2) sc_lPlain.nd rfl (Or.inl rfl)) (pgs_cons (pg_name (i := 3) sc_lPlain.nd rfl (Or.inl rfl)) (pgs_cons (pg_name (i := 4) sc_lPlain.nd rfl (Or.inl rfl)) (pgs_cons (pg_name (i := 5) sc_lPlain.nd rfl (Or.inl rfl)) pgs_nil))))))
      (pss_cons (ps_if (PW.pt (pw_and (pt_cmpR op_eq (pv 2) pe_str (nomark _)) (pw_and1 (pt_cmpR op_lt (C8.pe_c (c_lLast T) hr (by decide) rfl (pa_cons (pv 1) pa_nil)) (pv 5) (nomark _))))) (pss_one (ps_ret pe_bl)) pss_nil)
      (pss_one (ps_if (pt_cmpR op_eq (pv 2) pe_str (nomark _)) (pss_one (ps_expr (pe_bm PySem.F.plainAttrs_list PySem.F.slot_list_append PySem.F.type_list_append mt_append (pv 1) (pa_cons (pe_op op_add (C8.pe_c (c_lLast T) hr (by decide) rfl (pa_cons (pv 1) pa_nil)) (pv 5)) pa_nil)))) (pss_one (ps_expr (pe_bm PySem.F.plainAttrs_list PySem.F.slot_list_append PySem.F.type_list_append mt_append (pv 1) (pa_cons (C8.pe_c (c_lLast T) hr (by decide) rfl (pa_cons (pv 1) pa_nil)) pa_nil)))))))))
      (pss_one (ps_ret pe_bl))), ?_⟩
    refine ⟨fun m σ H' => ∃ (hs' : List Int) (v2 v3 v4 v5 : Option V), σ = [some (.ref q), some (.ref c), v2, v3, v4, v5] ∧ H' c = some (.lst (hs'.map V.int)) ∧ But c H H' ∧ plainRun sd hs' = plainRun sd hs ∧ sd.length - hs'.length ≤ m,
      ⟨_, hs, none, none, none, none, rfl, hc, But.refl _ _, rfl, Nat.le_refl _⟩, ?_⟩
    rintro m σ H' ⟨hs', v2, v3, v4, v5, rfl, hc', bt, e, hm⟩
    have ll' := ll.but hc nqc bt
    have hlen := ll'.len
    refine ⟨_, rfl, c, _, rfl, .inl (SqL.of hc'), _, rfl, q, _, rfl, .inl (SqL.of ll'.at_), _, _, rfl, rfl, _, rfl, ?_⟩
    rw [List.length_map, List.length_map]
    cases hn : sd[hs'.length]? with
    | none =>
      have := List.getElem?_eq_none_iff.mp hn
      refine ite_false_of (dN (by omega)) ?_
      rw [plainRun_none hn] at e
      rw [← e] at k
      exact k H' hc' bt
    | some z =>
      have hlt := (List.getElem?_eq_some_iff.mp hn).1
      refine ite_true_of (dY (by omega)) ?_
      obtain ⟨t, v, ht, hz, hv⟩ := ll'.get hn
      refine ⟨_, rfl, _, rfl, c, _, rfl, .inl (SqL.of hc'), q, _, _, _, rfl, rfl, SqL.of ll'.at_, atI_nat (v := .ref t) (by rw [List.length_map]; exact ht), t, _, _, _, rfl, rfl, SqT.of hz, rfl, rfl, _, rfl, ?_⟩
      cases hh : z.house with
      | some y =>
        have ne : z.house ≠ none := by rw [hh]; intro z; cases z
        refine ite_false_of (dN (houseV_some ne)) ?_
        rw [plainRun_house hn ne] at e
        rw [← e] at k
        exact k H' hc' bt
      | none =>
        refine ite_true_of (dY (houseV_non hh)) ?_
        refine ⟨fun σ' H2 => ∃ (hs2 : List Int) (v2 v3 v4 v5 : Option V), σ' = [some (.ref q), some (.ref c), v2, v3, v4, v5] ∧ H2 c = some (.lst (hs2.map V.int)) ∧ But c H H2 ∧ plainRun sd hs2 = plainRun sd hs ∧ hs2.length = hs'.length + 1,
          fun σ' H2 ⟨hs2, v2, v3, v4, v5, e1, e2, e3, e4, e5⟩ => ⟨m - 1, by omega, hs2, v2, v3, v4, v5, e1, e2, e3, e4, by omega⟩, ?_⟩
        refine ⟨_, rfl, _, rfl, c, _, rfl, .inl (SqL.of hc'), q, _, _, _, rfl, rfl, SqL.of ll'.at_, atI_nat (v := .ref t) (by rw [List.length_map]; exact ht), t, _, rfl, SqT.of hz, rfl, ?_⟩
        refine ⟨_, _, rfl, _, _, rfl, _, _, rfl, _, _, rfl, rfl, ?_⟩
        -- the end of a turn: y is appended
        have fin : ∀ (H2 : Hp) (y : Int) (vs : List (Option V)), Same H' H2 → z.handed (handOf hs') = some y → ∃ (hs2 : List Int), (upd H2 c (.lst (hs'.map V.int ++ [.int y]))) c = some (.lst (hs2.map V.int)) ∧ But c H (upd H2 c (.lst (hs'.map V.int ++ [.int y]))) ∧ plainRun sd hs2 = plainRun sd hs ∧ hs2.length = hs'.length + 1 := fun H2 y vs s2 hy =>
          ⟨hs' ++ [y], by rw [upd_same, List.map_append]; rfl, fun b o eb nb => by rw [upd_ne nb]; exact s2 _ _ (bt b o eb nb), by rw [← e]; exact (plainRun_step hn hh hy).symm, by simp⟩
        have l63 : ∀ H2, Same H' H2 → (hs'.map V.int).length < sizeLine := fun _ _ => by rw [List.length_map, sizeLine_eq]; omega
        cases z with
        | need u =>
          have ev : v = u := hv
          subst ev
          refine ⟨_, rfl, rfl, _, rfl, ite_true_of (show decide (V.str "need" = V.str "need") = true by decide +kernel) ?_⟩
          refine ⟨_, rfl, c, hs', rfl, hc', fun H2 s2 => ⟨_, rfl, _, _, rfl, rfl, _, rfl, ?_⟩⟩
          have hc2 := s2 _ _ hc'
          by_cases cc : handOf hs' < v
          · refine ite_true_of (dY cc) ?_
            rw [plainRun_need hn hh (if_pos cc)] at e
            rw [← e] at k
            exact k H2 hc2 fun b o eb nb => s2 _ _ (bt b o eb nb)
          · refine ite_false_of (dN cc) ?_
            refine ⟨_, rfl, rfl, _, rfl, ite_false_of (show decide (V.str "need" = V.str "plus") = false by decide +kernel) ?_⟩
            refine ⟨_, rfl, .inl ⟨rfl, _, SqL.of hc2⟩, _, rfl, c, hs', rfl, hc2, fun H3 s3 => ⟨c, _, _, rfl, rfl, s3 _ _ hc2, l63 _ (s2.trans s3), ?_⟩⟩
            obtain ⟨hs2, e1, e2, e3, e4⟩ := fin H3 (handOf hs') [] (s2.trans s3) (if_neg cc)
            exact ⟨hs2, _, _, _, _, rfl, e1, e2, e3, e4⟩
        | plus u =>
          have ev : v = u := hv
          subst ev
          refine ⟨_, rfl, rfl, _, rfl, ite_false_of (show decide (V.str "plus" = V.str "need") = false by decide +kernel) ?_⟩
          refine ⟨_, rfl, rfl, _, rfl, ite_true_of (show decide (V.str "plus" = V.str "plus") = true by decide +kernel) ?_⟩
          refine ⟨_, rfl, .inl ⟨rfl, _, SqL.of hc'⟩, _, rfl, c, hs', rfl, hc', fun H3 s3 => ⟨_, rfl, _, _, rfl, rfl, c, _, _, rfl, rfl, s3 _ _ hc', l63 _ s3, ?_⟩⟩
          obtain ⟨hs2, e1, e2, e3, e4⟩ := fin H3 (handOf hs' + v) [] s3 rfl
          exact ⟨hs2, _, _, _, _, rfl, e1, e2, e3, e4⟩
        | take _ _ => cases hh
        | mean _ _ => cases hh
        | give _ _ => cases hh
        | add _ _ _ => cases hh
        | sum _ _ _ => cases hh
/-! ### the way back -/
/-- the numbers of the steps at houses below n, rising -/
def foundTo (sd : List Sd) : Nat → List Nat
  | 0 => []
  | n + 1 => match sd[n]? with | some s => if s.house = none then foundTo sd n else foundTo sd n ++ [n] | none => foundTo sd n
def backL (sd : List Sd) : List Nat := (foundTo sd (turnAt sd)).reverse
theorem found_len (sd : List Sd) : ∀ n, (foundTo sd n).length ≤ n
  | 0 => Nat.le_refl _
  | n + 1 => by
    have := found_len sd n
    show (match sd[n]? with | some s => if s.house = none then foundTo sd n else foundTo sd n ++ [n] | none => foundTo sd n).length ≤ n + 1
    split
    · split
      · omega
      · rw [List.length_append]
        simp
        omega
    · omega
def spLBack : Sp := fun vs H Q _ => ∃ q tl sd, vs = [.ref q] ∧ LL H q tl sd ∧ sd.length ≤ 12 ∧ ∀ p H', Same H H' → H p = Option.none → H' p = some (.lst ((backL sd).map nV)) → Q (.ref p) H'
theorem turn_lt {sd : List Sd} {i : Nat} (h : ∀ j, j < i → ∀ s, sd[j]? = some s → s.isGive = false) {s : Sd} (hs : sd[i]? = some s) (hg : s.isGive = true) : turnAt sd = i := by
  obtain ⟨hi, e⟩ := List.getElem?_eq_some_iff.mp hs
  unfold turnAt
  rw [List.findIdx_eq hi]
  exact ⟨by rw [e]; exact hg, fun j hj => h j hj _ (List.getElem?_eq_getElem (by omega))⟩
theorem turn_all {sd : List Sd} (h : ∀ j, j < sd.length → ∀ s, sd[j]? = some s → s.isGive = false) : turnAt sd = sd.length := by
  unfold turnAt
  refine List.findIdx_eq_length.mpr fun s hs => ?_
  obtain ⟨j, hj, e⟩ := List.getElem_of_mem hs
  exact h j hj s (by rw [← e]; exact List.getElem?_eq_getElem hj)
theorem c_lBack (T : Txt K mg a) : C8.Cal P w K mg base 1 "_law_back" spLBack [] := by
  refine cal1 T.F_lBack T.g_lBack sc_lBack (fun vs H Q E h => ?_) (fun cdv A outer s H vs Q E hr h => ?_)
  · obtain ⟨q, tl, sd, rfl, _⟩ := h
    rfl
  · obtain ⟨q, tl, sd, rfl, ll, l12, k⟩ := h
    refine ⟨_, (pss_cons (ps_set (i := 1) sc_lBack.nd rfl (Or.inl rfl) (pe_lst pa_nil))
      (C8.pss_cut (ps_for PassesOwn.never rfl (pi_enum (by rfl) T.z_enumerate (pa_cons (pv 0) pa_nil)) (pg_tup rfl (pgs_cons (pg_name (i := 2) sc_lBack.nd rfl (Or.inl rfl)) (pgs_cons (pg_name (i := 3) sc_lBack.nd rfl (Or.inl rfl)) pgs_nil))) (pss_cons (ps_if (pt_cmpR op_eq (pe_ix ix_tup (pv 3) pe_int (fun _ _ => rfl)) pe_str (nomark _)) (pss_one ps_break) pss_nil)
      (pss_one (ps_if (pt_cmpR op_notN (pe_ix ix_tup (pv 3) pe_int (fun _ _ => rfl)) pe_non (nomark _)) (pss_one (ps_expr (pe_bm PySem.F.plainAttrs_list PySem.F.slot_list_append PySem.F.type_list_append mt_append (pv 1) (pa_cons (pv 2) pa_nil)))) pss_nil))))
      (pss_one (ps_ret (pe_lstRev rfl rfl T.z_list rfl T.z_reversed (pv 1)))))), ?_⟩
    refine ⟨Nat.zero_le _, fun f nf => ?_⟩
    have s1 := Same.upd (o := .lst []) nf
    have hlen := ll.len
    -- behind the loop f holds what is found ahead of the turning
    refine ⟨fun σ' H' => ∃ v2 v3 : Option V, σ' = [some (.ref q), some (.ref f), v2, v3] ∧ Same H H' ∧ H' f = some (.lst ((foundTo sd (turnAt sd)).map nV)), ?_, ?_⟩
    · refine ⟨_, rfl, q, _, rfl, SqL.of (s1 _ _ ll.at_), for_enum (K := K) (c := q) (xs := tl.map V.ref) (fun i σ H' => ∃ v2 v3 : Option V, σ = [some (.ref q), some (.ref f), v2, v3] ∧ Same H H' ∧ H' f = some (.lst ((foundTo sd i).map nV)) ∧ ∀ j, j < i → ∀ s, sd[j]? = some s → s.isGive = false)
        ⟨none, none, rfl, s1, upd_same, fun j hj => absurd hj (Nat.not_lt_zero _)⟩ (fun i σ H' _ ⟨_, _, _, s2, _⟩ => SqL.of (s2 _ _ ll.at_)) ?_ ?_⟩
      · rintro i x σ H1 t hx ⟨v2, v3, rfl, s2, hf, hb⟩ nt
        have hi : i < sd.length := by
          have := (List.getElem?_eq_some_iff.mp hx).1
          rw [List.length_map] at this
          omega
        have hz : sd[i]? = some sd[i] := List.getElem?_eq_getElem hi
        generalize sd[i] = z at hz
        obtain ⟨u, v, hu, ht, hv⟩ := (ll.same s2).get hz
        rw [hx] at hu
        cases hu
        have s3 := Same.upd (o := .tup [.int (i : Nat), .ref u]) nt
        refine ⟨t, _, rfl, SqT.of upd_same, rfl, _, _, rfl, _, _, rfl, rfl, ?_⟩
        have ht3 := s3 _ _ ht
        have hf3 := s3 _ _ hf
        refine ⟨_, rfl, u, _, _, _, rfl, rfl, SqT.of ht3, rfl, rfl, _, rfl, ?_⟩
        rw [word_give]
        cases hg : z.isGive with
        | true =>
          refine iteT ?_
          rw [turn_lt hb hz hg]
          exact ⟨_, _, rfl, s2.trans s3, hf3⟩
        | false =>
          refine iteF ?_
          have hb' : ∀ j, j < i + 1 → ∀ s, sd[j]? = some s → s.isGive = false := fun j hj s hs => by
            by_cases c : j < i
            · exact hb j c s hs
            · have : j = i := by omega
              subst this
              rw [hz] at hs
              cases hs
              exact hg
          refine ⟨_, rfl, u, _, _, _, rfl, rfl, SqT.of ht3, rfl, rfl, _, rfl, ?_⟩
          cases hh : z.house with
          | none =>
            refine ite_false_of (by rw [dY (houseV_non hh)]; rfl) ⟨_, _, rfl, s2.trans s3, ?_, hb'⟩
            have e : foundTo sd (i + 1) = foundTo sd i := by
              show (match sd[i]? with | some s => if s.house = none then foundTo sd i else foundTo sd i ++ [i] | none => foundTo sd i) = _
              rw [hz]
              exact if_pos hh
            rw [e]
            exact hf3
          | some y =>
            have ne : z.house ≠ none := by rw [hh]; intro z; cases z
            refine ite_true_of (by rw [dN (houseV_some ne)]; rfl) ?_
            have e : foundTo sd (i + 1) = foundTo sd i ++ [i] := by
              show (match sd[i]? with | some s => if s.house = none then foundTo sd i else foundTo sd i ++ [i] | none => foundTo sd i) = _
              rw [hz]
              exact if_neg ne
            have hfl := found_len sd i
            refine ⟨_, rfl, .inl ⟨rfl, _, SqL.of hf3⟩, _, rfl, f, _, _, rfl, rfl, hf3, by rw [List.length_map, sizeLine_eq]; omega, _, _, rfl, fun b o eb => ?_, ?_, hb'⟩
            · rw [upd_ne (ne_of_none eb nf)]
              exact s3 _ _ (s2 _ _ eb)
            · rw [upd_same, e, List.map_append]
              rfl
      · rintro σ H1 ⟨v2, v3, rfl, s2, hf, hb⟩
        rw [List.length_map, hlen] at hf hb
        rw [turn_all hb]
        exact ⟨_, _, rfl, s2, hf⟩
    · rintro σ' H1 ⟨v2, v3, rfl, s2, hf⟩
      refine ⟨_, rfl, f, _, rfl, SqL.of hf, fun p np => ?_⟩
      refine k p _ (s2.trans (Same.upd np)) (s2.free np) ?_
      rw [upd_same]
      unfold backL
      rw [List.map_reverse]
def spLDue (K : PySem.W.Frag) : Sp := fun vs H Q _ => ∃ (tn q bl : Addr) (tl : List Addr) (sd : List Sd) (b : List Nat), vs = [.ref tn, .ref q, .ref bl] ∧ LL H q tl sd ∧ H bl = some (.lst (b.map nV)) ∧ (∀ n ∈ b, n < sd.length) ∧
  ((b = [] ∧ ∀ p H', Same H H' → H' p = some (.lst []) → Q (.ref p) H') ∨
   (∃ i r s, b = i :: r ∧ sd[i]? = some s ∧ ∀ p x y m e H', Same H H' → H' p = some (.lst [.ref x]) → H' x = some (.tup [s.houseV, .ref y]) → H' y = some (.tup [.str "undo", .ref tn, .ref m, .ref e]) → H' m = some (.tup [.int i, .str s.text]) → H' e = some (.tup []) → Q (.ref p) H'))
theorem eqv_nilN (l : List Nat) : PyData.eqv (.list (l.map nD)) (.list []) = l.isEmpty := by
  cases l with
  | nil => simp [PyData.eqv, PyData.eqvAll]
  | cons n r => simp [PyData.eqv, PyData.eqvAll]
theorem dp_nats {H : Hp} : ∀ l : List Nat, DpAll K H (l.map nV) (l.map nD)
  | [] => .nil
  | n :: r => .cons (.int n) (dp_nats r)
theorem shaped_nats (l : List Nat) : SeqAt.shaped (.list (l.map nD)) = true := by
  have e : (l.map nD) = (l.map fun n => ((n : Nat) : Int)).map PyData.int := by rw [List.map_map]; rfl
  rw [e]
  exact PySem.W.shaped_ints _
theorem c_lDue (T : Txt K mg a) : C8.Cal P w K mg base 1 "_law_due" (spLDue K) [] := by
  refine cal1 T.F_lDue T.g_lDue sc_lDue (fun vs H Q E h => ?_) (fun cdv A outer s H vs Q E hr h => ?_)
  · obtain ⟨tn, q, bl, tl, sd, b, rfl, _⟩ := h
    rfl
  · obtain ⟨tn, q, bl, tl, sd, b, rfl, ll, hb, hlt, g⟩ := h
    refine ⟨_, (pss_cons (ps_if (pt_cmpR (op_eqD hr.units) (pv 2) (pe_lst pa_nil) (nomark _)) (pss_one (ps_ret (pe_lst pa_nil))) pss_nil)
      (pss_cons (ps_set (i := 3) sc_lDue.nd rfl (Or.inl rfl) (pe_ix ix_list (pv 1) (pe_ix ix_list (pv 2) pe_int (fun _ _ => rfl)) (fun _ _ => rfl)))
      (pss_one (ps_ret (pe_lst (pa_cons (pe_tup (pa_cons (pe_ix ix_tup (pv 3) pe_int (fun _ _ => rfl)) (pa_cons (pe_tup (pa_cons pe_str (pa_cons (pv 0) (pa_cons (pe_tup (pa_cons (pe_ix ix_list (pv 2) pe_int (fun _ _ => rfl)) (pa_cons (pe_ix ix_tup (pv 3) pe_int (fun _ _ => rfl)) pa_nil))) (pa_cons (pe_tup pa_nil) pa_nil))))) pa_nil))) pa_nil)))))), ?_⟩
    refine ⟨_, rfl, Nat.zero_le _, fun z nz => ?_⟩
    have s1 := Same.upd (o := .lst []) nz
    have hb1 := s1 _ _ hb
    refine ⟨.list (b.map nD), .list [], .lst (SqL.of hb1) (dp_nats _), .lst (SqL.of upd_same) .nil, shaped_nats _, by decide, _, rfl, ?_⟩
    rw [eqv_nilN]
    rcases g with ⟨rfl, k⟩ | ⟨i, r, x, rfl, hx, k⟩
    · refine iteT ⟨Nat.zero_le _, fun p np => ?_⟩
      exact k p _ (s1.trans (Same.upd np)) upd_same
    · refine iteF ?_
      have ll1 := ll.same s1
      obtain ⟨t, v, ht, hz, _⟩ := ll1.get hx
      refine ⟨_, rfl, _, rfl, bl, _, _, _, rfl, rfl, SqL.of hb1, atI_nat (j := 0) (v := .int (i : Int)) rfl, q, _, _, _, rfl, rfl, SqL.of ll1.at_, atI_nat ht, ?_⟩
      refine ⟨_, rfl, t, _, _, _, rfl, rfl, SqT.of hz, rfl, _, rfl, _, rfl, bl, _, _, _, rfl, rfl, SqL.of hb1, atI_nat (j := 0) (v := .int (i : Int)) rfl, _, rfl, t, _, _, _, rfl, rfl, SqT.of hz, rfl, by show 2 ≤ sizeLine; decide, fun m nm => ?_⟩
      refine ⟨Nat.zero_le _, fun e ne => ⟨by show 4 ≤ sizeLine; decide, fun y ny => ⟨by show 2 ≤ sizeLine; decide, fun u nu => ⟨by show 1 ≤ sizeLine; decide, fun p np => ?_⟩⟩⟩⟩
      have sm := Same.upd (o := .tup [.int (i : Int), .str x.text]) nm
      have se := Same.upd (o := .tup []) ne
      have sy := Same.upd (o := .tup [.str "undo", .ref tn, .ref m, .ref e]) ny
      have su := Same.upd (o := .tup [x.houseV, .ref y]) nu
      have sp := Same.upd (o := .lst [.ref u]) np
      exact k p u y m e _ (((((s1.trans sm).trans se).trans sy).trans su).trans sp) upd_same (sp _ _ upd_same) (sp _ _ (su _ _ upd_same)) (sp _ _ (su _ _ (sy _ _ (se _ _ upd_same)))) (sp _ _ (su _ _ (sy _ _ upd_same)))
end
end Pk

set_option Elab.async false
set_option linter.all false
set_option maxRecDepth 100000
set_option maxHeartbeats 2000000
/-! The way back in plain words; the law's letter of one number. -/
namespace Pk
open PySem PySem.Spec PyProof.Rows L2
theorem backN_some {sd : List Sd} {n : Nat} {s : Sd} (h : sd[n]? = some s) : backN sd (n + 1) = if s.house = none then backN sd n else n + 1 := by
  show (match sd[n]? with | some s => if s.house = none then backN sd n else n + 1 | none => n + 1) = _
  rw [h]
theorem foundTo_some {sd : List Sd} {n : Nat} {s : Sd} (h : sd[n]? = some s) : foundTo sd (n + 1) = if s.house = none then foundTo sd n else foundTo sd n ++ [n] := by
  show (match sd[n]? with | some s => if s.house = none then foundTo sd n else foundTo sd n ++ [n] | none => foundTo sd n) = _
  rw [h]
theorem backN_facts (sd : List Sd) : ∀ n, n ≤ sd.length → backN sd n ≤ n ∧ backN sd (backN sd n) = backN sd n ∧ foundTo sd n = foundTo sd (backN sd n)
  | 0, _ => ⟨Nat.le_refl _, rfl, rfl⟩
  | n + 1, h => by
    have hs : sd[n]? = some sd[n] := List.getElem?_eq_getElem (by omega)
    generalize sd[n] = s at hs
    have ih := backN_facts sd n (by omega)
    by_cases c : s.house = none
    · rw [backN_some hs, foundTo_some hs, if_pos c, if_pos c]
      exact ⟨by omega, ih.2.1, ih.2.2⟩
    · rw [backN_some hs, if_neg c, backN_some hs, if_neg c]
      exact ⟨Nat.le_refl _, rfl, rfl⟩
/-- b is what is left of the way back, m one more than its first -/
structure Left (sd : List Sd) (b : List Nat) (m : Nat) : Prop where
  le : m ≤ sd.length
  fix : backN sd m = m
  is : b = (foundTo sd m).reverse
theorem Left.of (sd : List Sd) {n : Nat} (h : n ≤ sd.length) : Left sd (foundTo sd n).reverse (backN sd n) := by
  have f := backN_facts sd n h
  exact ⟨by omega, f.2.1, by rw [← f.2.2]⟩
theorem Left.nil {sd : List Sd} {b : List Nat} {m : Nat} (x : Left sd b m) (h : m = 0) : b = [] := by
  rw [x.is, h]
  rfl
theorem Left.cons {sd : List Sd} {b : List Nat} {j : Nat} (x : Left sd b (j + 1)) : ∃ s, sd[j]? = some s ∧ s.house ≠ none ∧ b = j :: (foundTo sd j).reverse := by
  have hj : j < sd.length := by have := x.le; omega
  have hs : sd[j]? = some sd[j] := List.getElem?_eq_getElem hj
  generalize sd[j] = s at hs
  have hh : s.house ≠ none := fun c => by
    have := x.fix
    rw [backN_some hs, if_pos c] at this
    have := (backN_facts sd j (by have := x.le; omega)).1
    omega
  refine ⟨s, hs, hh, ?_⟩
  rw [x.is, foundTo_some hs, if_neg hh, List.reverse_append]
  rfl
theorem Left.empty {sd : List Sd} {m : Nat} (x : Left sd [] m) : m = 0 := by
  cases m with
  | zero => rfl
  | succ j =>
    obtain ⟨_, _, _, e⟩ := x.cons
    cases e
theorem Left.head {sd : List Sd} {j : Nat} {r : List Nat} {m : Nat} (x : Left sd (j :: r) m) : m = j + 1 ∧ r = (foundTo sd j).reverse := by
  cases m with
  | zero => have := x.nil rfl; cases this
  | succ i =>
    obtain ⟨_, _, _, e⟩ := x.cons
    obtain ⟨e1, e2⟩ := List.cons.inj e
    subst e1
    exact ⟨rfl, e2⟩
theorem Left.lt {sd : List Sd} {b : List Nat} {m : Nat} (x : Left sd b m) : ∀ n ∈ b, n < sd.length := by
  rw [x.is]
  intro n hn
  rw [List.mem_reverse] at hn
  have aux : ∀ k, k ≤ sd.length → ∀ n ∈ foundTo sd k, n < k := by
    intro k
    induction k with
    | zero => intro _ n h; cases h
    | succ k ih =>
      intro hk n h
      have hs : sd[k]? = some sd[k] := List.getElem?_eq_getElem (by omega)
      generalize sd[k] = s at hs
      rw [foundTo_some hs] at h
      split at h
      · have := ih (by omega) n h
        omega
      · rcases List.mem_append.mp h with e | e
        · have := ih (by omega) n e
          omega
        · rw [List.mem_singleton.mp e]
          exact Nat.lt_succ_self _
  have := aux m x.le n hn
  have := x.le
  omega
/-- the letters that are due where b is left -/
def dueL (sd : List Sd) : List Nat → List Lt
  | [] => []
  | j :: _ => [undoLt sd j]
/-- the lead, ended broken, where m - 1 is to be undone -/
structure Loop (m : Nat) (st : LS) : Prop where
  fate : st.fate = .str "broken"
  back : st.back = (m : Int) - 1
  closed : st.closed = decide (m = 0)
  rows : st.rows = if m = 0 then 1 else 0
  ovs : st.ovs = if m = 0 then 1 else 0
theorem Loop.small {m : Nat} {st : LS} (x : Loop m st) : st.rows < 100 ∧ st.ovs < 100 := by
  rw [x.rows, x.ovs]
  split <;> decide
/-- a turn: the present letter again -/
theorem goBackS_again {sd : List Sd} {b : List Nat} {m : Nat} {st : LS} (l : Left sd b m) (x : Loop m st) : Loop m (goBackS sd st m) ∧ (goBackS sd st m).lets = st.lets ++ dueL sd b := by
  unfold goBackS
  rw [l.fix]
  by_cases c : m = 0
  · subst c
    rw [if_pos rfl, l.nil rfl]
    have hc : ({ st with back := ((0 : Nat) : Int) - 1 } : LS).closed = true := x.closed
    unfold closeS
    rw [if_pos hc]
    exact ⟨⟨x.fate, rfl, x.closed, x.rows, x.ovs⟩, (List.append_nil _).symm⟩
  · rw [if_neg c]
    obtain ⟨j, rfl⟩ : ∃ j, m = j + 1 := ⟨m - 1, by omega⟩
    obtain ⟨_, _, _, e⟩ := l.cons
    rw [e]
    exact ⟨⟨x.fate, rfl, x.closed, x.rows, x.ovs⟩, rfl⟩
/-- from a state that is not closed, on back from n -/
theorem goBackS_on {sd : List Sd} {n : Nat} {st : LS} (h : n ≤ sd.length) (hf : st.fate = .str "broken") (hc : st.closed = false) (hr : st.rows = 0) (ho : st.ovs = 0) :
    Loop (backN sd n) (goBackS sd st n) ∧ (goBackS sd st n).lets = st.lets ++ dueL sd (foundTo sd n).reverse := by
  have l := Left.of sd h
  unfold goBackS
  by_cases c : backN sd n = 0
  · rw [if_pos c, l.nil c]
    have hc' : ¬ ({ st with back := ((backN sd n : Nat) : Int) - 1 } : LS).closed = true := by
      show ¬ st.closed = true
      rw [hc]
      exact Bool.false_ne_true
    unfold closeS
    rw [if_neg hc']
    refine ⟨⟨hf, rfl, (by rw [c]; rfl), ?_, ?_⟩, (List.append_nil _).symm⟩
    · show st.rows + 1 = _
      rw [hr, if_pos c]
    · show st.ovs + 1 = _
      rw [ho, if_pos c]
  · rw [if_neg c]
    obtain ⟨j, hj⟩ : ∃ j, backN sd n = j + 1 := ⟨backN sd n - 1, by omega⟩
    rw [hj] at l
    obtain ⟨_, _, _, e⟩ := l.cons
    rw [e, hj]
    exact ⟨⟨hf, rfl, hc, hr, ho⟩, rfl⟩
theorem Loop.open_ {m : Nat} {st : LS} (x : Loop (m + 1) st) : st.closed = false ∧ st.rows = 0 ∧ st.ovs = 0 := ⟨x.closed, x.rows, x.ovs⟩
section
variable {P : Program} {w : World} {K : PySem.W.Frag} {mg : Str → Option Value} {base : Heap} {a : Adr}
def spLCame (a : Adr) : Sp := fun vs H Q _ => ∃ (B : Hp) (p : Pl) (sa : List Addr) (sd : List Sd) (nm : Int × Int) (st : LS) (q bl : Addr) (tl : List Addr) (b : List Nat) (m : Nat) (num : Int), vs = [.ref p.L, .ref p.S, .ref q, .ref bl, .int num] ∧
  At a B H p sa sd nm st ∧ LL H q tl sd ∧ H bl = some (.lst (b.map nV)) ∧ Left sd b m ∧ Loop m st ∧ st.lets.length < 1000 ∧
  (num % 4 < 2 ∧ b ≠ [] → ∀ H' st' m', At a B H' p sa sd nm st' → Left sd b.tail m' → Loop m' st' → st'.lets = st.lets ++ dueL sd b.tail → Kp p H H' → Q .non H') ∧
  (¬ (num % 4 < 2 ∧ b ≠ []) → ∀ H', Same H H' → Q .non H')
theorem c_lCame (T : Txt K mg a) : C8.Cal P w K mg base 7 "_law_came" (spLCame a) [] := by
  refine cal1 T.F_lCame T.g_lCame sc_lCame (fun vs H Q E h => ?_) (fun cdv A outer s H vs Q E hr h => ?_)
  · obtain ⟨B, p, sa, sd, nm, st, q, bl, tl, b, m, num, rfl, _⟩ := h
    rfl
  · obtain ⟨B, p, sa, sd, nm, st, q, bl, tl, b, m, num, rfl, x, ll, hb, lf, lp, lets, k1, k2⟩ := h
    refine ⟨_, (C8.pss_cut (ps_if (PW.pt (pw_and (pt_cmpR op_lt (pe_op op_mod (pv 4) pe_int) pe_int (nomark _)) (pw_and1 (pt_cmpR (op_neD hr.units) (pv 3) (pe_lst pa_nil) (nomark _))))) (pss_one (ps_ret (C8.pe_mt (c_came T) hr (by decide) (pv 0) (pa_cons (pv 1) (pa_cons pe_str (pa_cons (pe_ix ix_tup (pe_ix ix_list (pv 2) (pe_ix ix_list (pv 3) pe_int (fun _ _ => rfl)) (fun _ _ => rfl)) pe_int (fun _ _ => rfl)) (pa_cons (pe_tup (pa_cons (pe_ix ix_list (pv 3) pe_int (fun _ _ => rfl)) pa_nil)) pa_nil))))))) pss_nil)
      (pss_cons (ps_set (i := 5) sc_lCame.nd rfl (Or.inl rfl) (pe_op op_mod (pe_op op_fdiv (pv 4) pe_int) pe_int))
      (pss_cons (ps_if (pt_cmpR op_eq (pe_op op_mod (pv 4) pe_int) pe_int (nomark _)) (pss_one (ps_ret (C8.pe_mt (c_came T) hr (by decide) (pv 0) (pa_cons (pv 1) (pa_cons pe_str (pa_cons (pe_op op_mod (pe_op op_fdiv (pv 4) pe_int) pe_int) (pa_cons (pe_tup (pa_cons (pv 5) (pa_cons (pe_op op_mod (pe_op op_fdiv (pv 4) pe_int) (pe_op op_pow pe_int pe_int)) pa_nil))) pa_nil))))))) pss_nil)
      (C8.pss_cut (ps_if (PW.pt (pw_and (pt_cmpR (op_neD hr.units) (pv 3) (pe_lst pa_nil) (nomark _)) (pw_and1 (pt_cmpR op_eq (pv 5) (pe_ix ix_list (pv 3) pe_int (fun _ _ => rfl)) (nomark _))))) (pss_one (ps_set (i := 5) sc_lCame.nd rfl (Or.inl rfl) (pe_op op_add (pv 5) pe_int))) pss_nil)
      (pss_one (ps_ret (C8.pe_mt (c_came T) hr (by decide) (pv 0) (pa_cons (pv 1) (pa_cons pe_str (pa_cons (pe_op op_mod (pe_op op_fdiv (pv 4) pe_int) pe_int) (pa_cons (pe_tup (pa_cons (pv 5) pa_nil)) pa_nil))))))))))), ?_⟩
    have cd : ∀ i j : Int, 0 < j → j < 1000 → CDiv i j := fun i j h0 h1 => ⟨h0, by omega⟩
    refine ⟨fun σ' H' => σ' = [some (.ref p.L), some (.ref p.S), some (.ref q), some (.ref bl), some (.int num), none] ∧ Same H H' ∧ ¬ (num % 4 < 2 ∧ b ≠ []), ?_, ?_⟩
    · refine ⟨_, rfl, _, _, rfl, rfl, by show (0 : Int) < 4; decide, _, _, rfl, rfl, _, rfl, ?_⟩
      by_cases c : num % 4 < 2
      · refine ite_true_of (dY c) ?_
        refine ⟨_, rfl, Nat.zero_le _, fun z nz => ?_⟩
        have s1 := Same.upd (o := .lst []) nz
        have hb1 := s1 _ _ hb
        refine ⟨.list (b.map nD), .list [], .lst (SqL.of hb1) (dp_nats _), .lst (SqL.of upd_same) .nil, shaped_nats _, by decide, _, rfl, ?_⟩
        rw [eqv_nilN]
        cases b with
        | nil => exact iteF ⟨rfl, s1, fun h => h.2 rfl⟩
        | cons j r =>
          refine iteT ?_
          have x1 := x.kept s1
          have ll1 := ll.same s1
          obtain ⟨em, er⟩ := lf.head
          subst em
          obtain ⟨y, hy, hh, _⟩ := lf.cons
          obtain ⟨t, v, ht, hz, _⟩ := ll1.get hy
          have a0 : atI ((j :: r).map nV) 0 = some (V.int (j : Int)) := atI_nat (j := 0) rfl
          refine ⟨_, rfl, p.L, p.dl, _, rfl, x1.r.lead, rfl, _, rfl, ?_⟩
          refine ⟨_, rfl, _, rfl, bl, _, _, _, rfl, rfl, SqL.of hb1, a0, q, _, _, _, rfl, rfl, SqL.of ll1.at_, atI_nat ht, t, _, _, _, rfl, rfl, SqT.of hz, rfl, ?_⟩
          refine ⟨_, rfl, bl, _, _, _, rfl, rfl, SqL.of hb1, a0, by show 1 ≤ sizeLine; decide, fun mo nmo => ?_⟩
          have s2 := Same.upd (o := .tup [.int (j : Int)]) nmo
          obtain ⟨o1, o2, o3⟩ := lp.open_
          refine ⟨B, p, sa, sd, nm, st, _, _, mo, _, rfl, x1.kept s2, lets, upd_same, .inl ⟨rfl, lp.fate, j, lp.back, lf.le, lp.small.1, lp.small.2, rfl, fun H' x' kp => ?_⟩⟩
          have g := goBackS_on (sd := sd) (n := j) (by have := lf.le; omega) lp.fate o1 o2 o3
          refine k1 ⟨c, List.cons_ne_nil _ _⟩ H' _ _ x' ?_ g.1 ?_ ((Kp.of_same (s1.trans s2)).trans kp)
          · show Left sd r _
            rw [er]
            exact Left.of sd (by have := lf.le; omega)
          · show _ = st.lets ++ dueL sd r
            rw [er]
            exact g.2
      · exact ite_false_of (dN c) ⟨rfl, Same.refl _, fun h => c h.1⟩
    rintro σ' H1 ⟨rfl, s1, nc⟩
    have x1 := x.kept s1
    refine ⟨_, rfl, _, _, rfl, rfl, cd _ _ (by decide) (by decide), _, _, rfl, rfl, by show (0 : Int) < 13; decide, ?_⟩
    refine ⟨_, rfl, _, _, rfl, rfl, by show (0 : Int) < 4; decide, rfl, _, rfl, ?_⟩
    by_cases c3 : num % 4 = 3
    · refine ite_true_of (dY (show V.int (num % 4) = V.int 3 by rw [c3])) ?_
      have c10 : CPow 10 40 := ⟨by decide, by decide, by decide⟩
      refine ⟨_, rfl, p.L, p.dl, _, rfl, x1.r.lead, rfl, _, rfl, ?_⟩
      refine ⟨_, rfl, _, _, rfl, rfl, cd _ _ (by decide) (by decide), _, _, rfl, rfl, by show (0 : Int) < 5; decide, ?_⟩
      refine ⟨_, rfl, _, rfl, _, _, rfl, rfl, cd _ _ (by decide) (by decide), _, _, rfl, rfl, c10, _, _, rfl, rfl, by show (0 : Int) < 10 ^ 40; decide, by show 2 ≤ sizeLine; decide, fun mo nmo => ?_⟩
      have s2 := Same.upd (o := .tup [.int (num / 4 % 13), .int (num / 4 % 10 ^ 40)]) nmo
      exact ⟨B, p, sa, sd, nm, st, _, _, mo, _, rfl, x1.kept s2, lets, upd_same, .inr (.inr (.inl ⟨rfl, lp.fate, k2 nc _ (s1.trans s2)⟩))⟩
    · refine ite_false_of (dN fun e => c3 (V.int.inj e)) ?_
      have h13 : 0 ≤ num / 4 % 13 := Int.emod_nonneg _ (by decide)
      refine ⟨fun σ' H' => ∃ o : Int, σ' = [some (.ref p.L), some (.ref p.S), some (.ref q), some (.ref bl), some (.int num), some (.int o)] ∧ Same H H' ∧ o ≠ st.back, ?_, ?_⟩
      · have hb1 := s1 _ _ hb
        refine ⟨_, rfl, Nat.zero_le _, fun z nz => ?_⟩
        have s2 := Same.upd (o := .lst []) nz
        have hb2 := s2 _ _ hb1
        refine ⟨.list (b.map nD), .list [], .lst (SqL.of hb2) (dp_nats _), .lst (SqL.of upd_same) .nil, shaped_nats _, by decide, _, rfl, ?_⟩
        rw [eqv_nilN]
        cases b with
        | nil =>
          refine iteF ⟨_, rfl, s1.trans s2, ?_⟩
          rw [lp.back, lf.empty]
          show num / 4 % 13 ≠ ((0 : Nat) : Int) - 1
          omega
        | cons j r =>
          refine iteT ?_
          obtain ⟨em, er⟩ := lf.head
          have a0 : atI ((j :: r).map nV) 0 = some (V.int (j : Int)) := atI_nat (j := 0) rfl
          refine ⟨_, rfl, _, rfl, bl, _, _, _, rfl, rfl, SqL.of hb2, a0, rfl, _, rfl, ?_⟩
          have eb : st.back = (j : Int) := by
            rw [lp.back, em]
            omega
          by_cases cj : num / 4 % 13 = (j : Int)
          · refine ite_true_of (dY (show V.int (num / 4 % 13) = V.int (j : Int) by rw [cj])) ?_
            refine ⟨_, rfl, _, _, rfl, rfl, _, rfl, s1.trans s2, ?_⟩
            rw [eb]
            omega
          · refine ite_false_of (dN fun e => cj (V.int.inj e)) ?_
            refine ⟨_, rfl, s1.trans s2, ?_⟩
            rw [eb]
            exact cj
      · rintro σ' H2 ⟨o, rfl, s2, no⟩
        have x2 := x.kept s2
        refine ⟨_, rfl, p.L, p.dl, _, rfl, x2.r.lead, rfl, _, rfl, ?_⟩
        refine ⟨_, rfl, _, _, rfl, rfl, cd _ _ (by decide) (by decide), _, _, rfl, rfl, by show (0 : Int) < 5; decide, ?_⟩
        refine ⟨_, rfl, by show 1 ≤ sizeLine; decide, fun mo nmo => ?_⟩
        have s3 := Same.upd (o := .tup [.int o]) nmo
        exact ⟨B, p, sa, sd, nm, st, _, _, mo, _, rfl, x2.kept s3, lets, upd_same, .inr (.inl ⟨rfl, lp.fate, o, rfl, no, k2 nc _ (s2.trans s3)⟩)⟩
end
end Pk

set_option Elab.async false
set_option linter.all false
set_option maxRecDepth 100000
set_option maxHeartbeats 4000000
/-! The law's way there: the lead goes, gets its answers, turns till it names broken. -/
namespace Pk
open PySem PySem.Spec PyProof.Rows L2
theorem turn_give {sd : List Sd} {s : Sd} (h : sd[turnAt sd]? = some s) : s.isGive = true := by
  obtain ⟨hi, e⟩ := List.getElem?_eq_some_iff.mp h
  rw [← e]
  exact List.findIdx_getElem (p := Sd.isGive) (xs := sd) (w := hi)
theorem give_house {s : Sd} (h : s.isGive = true) : s.house ≠ none := by
  cases s
  case give => intro z; cases z
  all_goals cases h
theorem plainGo_turn {sd : List Sd} : ∀ (l : List Sd) (hs : List Int), sd.drop hs.length = l → hs.length ≤ turnAt sd → (plainGo l hs).1.length ≤ turnAt sd
  | [], hs, _, h => h
  | s0 :: r, hs, e, h => by
    have e0 : sd[hs.length]? = some s0 := by
      have := List.getElem?_drop (xs := sd) (i := hs.length) (j := 0)
      rw [e] at this
      simpa using this.symm
    have er : sd.drop (hs.length + 1) = r := by
      have := drop_at e0
      rw [e] at this
      exact (List.cons.inj this).2.symm
    show (match s0.house with | some _ => (hs, true) | none => match s0.handed (handOf hs) with | some k => plainGo r (hs ++ [k]) | none => (hs, false)).1.length ≤ turnAt sd
    cases hh : s0.house with
    | some y => exact h
    | none =>
      cases hk : s0.handed (handOf hs) with
      | none => exact h
      | some k =>
        have ne : hs.length ≠ turnAt sd := fun c => by
          rw [c] at e0
          exact give_house (turn_give e0) hh
        exact plainGo_turn r (hs ++ [k]) (by rw [List.length_append]; exact er) (by rw [List.length_append]; show hs.length + 1 ≤ _; omega)
theorem plainRun_turn {sd : List Sd} {hs : List Int} (h : hs.length ≤ turnAt sd) : (plainRun sd hs).1.length ≤ turnAt sd := plainGo_turn _ hs rfl h
theorem plainRun_idem {sd : List Sd} {hs : List Int} (h : (plainRun sd hs).2 = true) : plainRun sd (plainRun sd hs).1 = ((plainRun sd hs).1, true) := by
  cases e : sd[(plainRun sd hs).1.length]? with
  | none => exact plainRun_none e
  | some s => exact plainRun_house e (plain_stop h e)
/-- an own list of the law's is changed: the lead's things lie as they lay -/
theorem At.but {a : Adr} {B H H' : Hp} {p : Pl} {sa : List Addr} {sd : List Sd} {nm : Int × Int} {st : LS} {c : Addr} {xs : List V} (x : At a B H p sa sd nm st) (hB : B c = Option.none) (hc : H c = some (.lst xs))
    (n1 : c ≠ p.hd) (n2 : c ≠ p.ln) (n3 : c ≠ p.ws) (b : But c H H') : At a B H' p sa sd nm st := by
  have nt : ∀ y ys, H y = some (.tup ys) → y ≠ c := fun y ys e => ne_of e hc (by intro z; cases z)
  refine ⟨x.S, ⟨fun y o e => b _ _ (x.r.same _ _ e) (ne_of_none e hB), b _ _ x.r.lead (ne_of x.r.lead hc (by intro z; cases z)), b _ _ x.r.hands n1.symm, ?_, ?_, ?_, x.r.hn, x.r.hw, x.r.nw⟩⟩
  · obtain ⟨rs, h1, h2, h3⟩ := x.r.lines
    exact ⟨rs, b _ _ h1 n2.symm, h2, fun r hr => b _ _ (h3 r hr) (nt _ _ (h3 r hr))⟩
  · obtain ⟨wl, h1, h2⟩ := x.r.wishes
    exact ⟨wl, b _ _ h1 n3.symm, Paired.mapP h2 fun _ _ z => z.tk fun y ys e => b _ _ e (nt _ _ e)⟩
  · obtain ⟨kv, h1, h2⟩ := x.r.overs
    exact ⟨kv, b _ _ h1 (ne_of h1 hc (by intro z; cases z)), h2⟩
/-- an own list apart from the lead's -/
structure Apart (p : Pl) (B : Hp) (c : Addr) : Prop where
  b : B c = Option.none
  n0 : c ≠ p.L
  n1 : c ≠ p.hd
  n2 : c ≠ p.ln
  n3 : c ≠ p.ws
  n4 : c ≠ p.ov
theorem At.apart {a : Adr} {B H : Hp} {p : Pl} {sa : List Addr} {sd : List Sd} {nm : Int × Int} {st : LS} {c : Addr} (x : At a B H p sa sd nm st) (h : H c = Option.none) : Apart p B c := by
  have n : ∀ y o, H y = some o → c ≠ y := fun y o e z => by rw [z, e] at h; cases h
  obtain ⟨rs, h1, _⟩ := x.r.lines
  obtain ⟨wl, h2, _⟩ := x.r.wishes
  obtain ⟨kv, h3, _⟩ := x.r.overs
  exact ⟨x.r.same.free h, n _ _ x.r.lead, n _ _ x.r.hands, n _ _ h1, n _ _ h2, n _ _ h3⟩
theorem Kp.keeps {p : Pl} {B H H' : Hp} {c : Addr} {o : HO} (k : Kp p H H') (x : Apart p B c) (h : H c = some o) : H' c = some o := k _ _ h x.n0 x.n1 x.n2 x.n3 x.n4
/-- not yet ended -/
structure Young (st : LS) : Prop where
  fate : st.fate = .non
  back : st.back = -1
  closed : st.closed = false
  rows : st.rows = 0
  ovs : st.ovs = 0
/-- what the lead has named, behind its steps -/
def fated (sd : List Sd) (hs : List Int) : V := if (plainRun sd hs).2 = false then .str "broken" else if turnAt sd ≤ (plainRun sd hs).1.length then .str "done" else .non
/-- behind the lead's going on from the hands hs: its state, what it names, how many letters there are -/
structure Gone (sd : List Sd) (hs : List Int) (n : Nat) (st : LS) (fv : V) : Prop where
  young : Young st
  waited : st.waited = 0
  hands : st.hands = (plainRun sd hs).1
  named : fv = fated sd hs
  lets : st.lets.length = if fv = .non then n + 1 else n
theorem Gone.of {a : Adr} {B H : Hp} {p : Pl} {sa : List Addr} {sd : List Sd} {nm : Int × Int} {st : LS} {Q : VK} {n : Nat} (y : Young st) (hw : st.waited = 0) (hl : st.lets.length = n)
    (h : ∀ H' st' fv, At a B H' p sa sd nm st' → Kp p H H' → Gone sd st.hands n st' fv → Q fv H') : GoNew a B H p sa sd nm st Q := by
  have yy : ∀ hs lets, Young { st with hands := hs, lets := lets } := fun hs lets => ⟨y.fate, y.back, y.closed, y.rows, y.ovs⟩
  refine ⟨fun c H' x kp => h H' _ _ x kp ⟨yy _ _, hw, rfl, ?_, ?_⟩, fun c c2 H' x kp => h H' _ _ x kp ⟨yy _ _, hw, rfl, ?_, ?_⟩, fun c c2 l H' x kp => h H' _ _ x kp ⟨yy _ _, hw, rfl, ?_, ?_⟩⟩
  · unfold fated
    rw [if_pos c]
  · rw [if_neg (by intro e; cases e)]
    exact hl
  · unfold fated
    rw [if_neg (by rw [c]; decide), if_pos c2]
  · rw [if_neg (by intro e; cases e)]
    exact hl
  · unfold fated
    rw [if_neg (by rw [c]; decide), if_neg (by omega)]
  · rw [if_pos rfl]
    show (st.lets ++ [l]).length = n + 1
    rw [List.length_append, hl]
    rfl
section
variable {P : Program} {w : World} {K : PySem.W.Frag} {mg : Str → Option Value} {base : Heap} {a : Adr}
def spLWay (a : Adr) (K : PySem.W.Frag) : Sp := fun vs H Q _ => ∃ (B : Hp) (p : Pl) (sa : List Addr) (sd : List Sd) (nm : Int × Int) (q : Addr) (tl : List Addr) (c : Addr) (ns : List Int) (many : Nat), vs = [.ref p.L, .ref p.S, .ref q, .int many, .ref c] ∧
  At a B H p sa sd nm ⟨[], .non, 0, -1, false, 0, 0, []⟩ ∧ LL B q tl sd ∧ SqL K B c (ns.map V.int) ∧ many ≤ 12 ∧ (∀ H', Q (.str "done") H') ∧
  (∀ H' st', At a B H' p sa sd nm st' → Kp p H H' → Young st' → st'.lets.length ≤ 100 → Q (.str "broken") H')
theorem c_lWay (T : Txt K mg a) : C8.Cal P w K mg base 7 "_law_way" (spLWay a K) [] := by
  refine cal1 T.F_lWay T.g_lWay sc_lWay (fun vs H Q E h => ?_) (fun cdv A outer s H vs Q E hr h => ?_)
  · obtain ⟨B, p, sa, sd, nm, q, tl, c, ns, many, rfl, _⟩ := h
    rfl
  · obtain ⟨B, p, sa, sd, nm, q, tl, c, ns, many, rfl, x, llB, hcB, m12, kD, kB⟩ := h
    refine ⟨_, (pss_cons (ps_set (i := 5) sc_lWay.nd rfl (Or.inl rfl) (pe_lst pa_nil))
      (pss_cons (ps_set (i := 6) sc_lWay.nd rfl (Or.inl rfl) (C8.pe_mt (c_go T) hr (by decide) (pv 0) (pa_cons (pv 1) pa_nil)))
      (pss_cons (ps_for PassesOwn.never rfl (pi_range1 rfl T.z_range (pa_cons (pe_op op_add (pv 3) pe_int) pa_nil)) (pg_name (i := 7) sc_lWay.nd rfl (Or.inl rfl)) (pss_cons (ps_if (pt_not (pt_val (C8.pe_c (c_lPlain T) hr (by decide) rfl (pa_cons (pv 2) (pa_cons (pv 5) pa_nil))))) (pss_cons (ps_if (PW.pt (pw_and (pt_cmpR op_eq (pv 6) pe_str (nomark _)) (pw_and1 (pt_cmpR op_eq (pe_callB call_len_seq (by rfl) T.z_len PySem.boot_len (pa_cons (C8.pe_mt0 (c_lettersTold T) hr (by decide) (pv 1)) pa_nil)) (pv 7) (nomark _))))) (pss_one (ps_ret pe_str)) pss_nil)
      (pss_one (ps_ret pe_str))) pss_nil)
      (pss_cons (ps_if (PW.pt (pw_or (pt_cmpR op_eq (pe_callB call_len_seq (by rfl) T.z_len PySem.boot_len (pa_cons (pv 5) pa_nil)) (pe_callB call_len_seq (by rfl) T.z_len PySem.boot_len (pa_cons (pv 2) pa_nil)) (nomark _)) (pw_or1 (pt_cmpR op_eq (pe_ix ix_tup (pe_ix ix_list (pv 2) (pe_callB call_len_seq (by rfl) T.z_len PySem.boot_len (pa_cons (pv 5) pa_nil)) (fun _ _ => rfl)) pe_int (fun _ _ => rfl)) pe_str (nomark _))))) (pss_one (ps_ret pe_str)) pss_nil)
      (pss_one (ps_if (pt_cmpR op_lt (pv 7) (pv 3) (nomark _)) (pss_cons (ps_set (i := 8) sc_lWay.nd rfl (Or.inl rfl) (C8.pe_c (c_lAmount T) hr (by decide) rfl (pa_cons (pe_op op_fdiv (C8.pe_c (c_lCell T) hr (by decide) rfl (pa_cons (pv 4) (pa_cons (pv 7) pa_nil))) pe_int) pa_nil)))
      (pss_cons (ps_set (i := 9) sc_lWay.nd rfl (Or.inl rfl) (pe_callB call_len_seq (by rfl) T.z_len PySem.boot_len (pa_cons (pv 5) pa_nil)))
      (pss_cons (ps_expr (pe_bm PySem.F.plainAttrs_list PySem.F.slot_list_append PySem.F.type_list_append mt_append (pv 5) (pa_cons (pv 8) pa_nil)))
      (pss_one (ps_set (i := 6) sc_lWay.nd rfl (Or.inl rfl) (C8.pe_mt (c_came T) hr (by decide) (pv 0) (pa_cons (pv 1) (pa_cons pe_str (pa_cons (pe_ix ix_tup (pe_ix ix_list (pv 2) (pv 9) (fun _ _ => rfl)) pe_int (fun _ _ => rfl)) (pa_cons (pe_tup (pa_cons (pv 9) (pa_cons (pv 8) pa_nil))) pa_nil)))))))))) pss_nil)))))
      (pss_cons (ps_setLc (i := 10) (own := [("_law_k", 7)]) (g := gName 7) (tt := tYes) rfl sc_lWay.nd rfl rfl (sw_true rfl rfl rfl (by decide +kernel)) (pi_range1 rfl T.z_range (pa_cons pe_int pa_nil)) (blkOk_by (own := [("_law_k", 7)]) (N := ["_law_lead", "_law_sheet", "_law_steps_here", "_law_many", "_law_script", "_law_hands", "_law_fate", "_law_k", "_law_hand", "_law_at", "_law_fates"]) (sc := C8.fnScope s_lWay) (by decide +kernel)) (fun _ _ _ _ _ => pg_name (i := 7) sc_lWay.nd rfl (Or.inl rfl)) (fun _ _ _ _ _ => pts_nil) (fun _ _ _ _ _ => (C8.pe_mt (c_turn T) hr (by decide) (pv 0) (pa_cons (pv 1) pa_nil))))
      (pss_cons (ps_if (PW.pt (pw_and (pt_cmpR op_isN (pv 6) pe_non (nomark _)) (pw_and (pt_cmpR (op_eqD hr.units) (pv 10) (pe_lst (pa_cons pe_non (pa_cons pe_non (pa_cons pe_non (pa_cons pe_str pa_nil))))) (nomark _)) (pw_and1 (pt_cmpR op_eq (pe_callB call_len_seq (by rfl) T.z_len PySem.boot_len (pa_cons (C8.pe_mt0 (c_lettersTold T) hr (by decide) (pv 1)) pa_nil)) (pe_op op_add (pv 3) pe_int) (nomark _)))))) (pss_one (ps_ret pe_str)) pss_nil)
      (pss_one (ps_ret pe_str))))))), ?_⟩
    refine ⟨Nat.zero_le _, fun lh nlh => ?_⟩
    have ap := x.apart nlh
    have s0 := Same.upd (o := .lst []) nlh
    have x0 := x.kept s0
    have nqh : q ≠ lh := ne_of_none llB.at_ ap.b
    have l12 := x.S.l12
    refine ⟨_, rfl, p.L, p.dl, _, rfl, x0.r.lead, rfl, _, rfl, B, p, sa, sd, nm, _, rfl, x0, by show 0 < 1000; decide, .inr ⟨rfl, Gone.of (n := 0) ⟨rfl, rfl, rfl, rfl, rfl⟩ rfl rfl fun H1 st1 fv x1 kp1 g1 => ?_⟩⟩
    refine ⟨_, rfl, _, _, rfl, rfl, _, rfl, by omega, by omega, ?_⟩
    have e1 : ((many : Int) + 1).toNat = many + 1 := by omega
    rw [e1]
    refine for_range (lo := 0) (fun i σ H' => ∃ (hs : List Int) (st : LS) (fv : V) (v7 v8 v9 : Option V), σ = [some (.ref p.L), some (.ref p.S), some (.ref q), some (.int many), some (.ref c), some (.ref lh), some fv, v7, v8, v9, none] ∧
        At a B H' p sa sd nm st ∧ Kp p H H' ∧ H' lh = some (.lst (hs.map V.int)) ∧
        ((i ≤ many ∧ Gone sd hs i st fv ∧ hs.length ≤ turnAt sd) ∨ (i = many + 1 ∧ Young st ∧ st.waited = 0 ∧ fv = .non ∧ st.lets.length = many + 1 ∧ plainRun sd st.hands = (st.hands, true) ∧ st.hands.length < turnAt sd)))
      ⟨[], st1, fv, none, none, none, rfl, x1, (Kp.of_same s0).trans kp1, kp1.keeps ap upd_same, .inl ⟨Nat.zero_le _, g1, Nat.zero_le _⟩⟩ ?_ ?_
    · rintro i σ H2 hi ⟨hs, st, fv, v7, v8, v9, rfl, x2, kp2, hlh, g⟩
      have gg : i ≤ many ∧ Gone sd hs i st fv ∧ hs.length ≤ turnAt sd := by
        rcases g with h | ⟨h, _⟩
        · exact h
        · omega
      clear g
      obtain ⟨him, g, hst⟩ := gg
      have e0 : (0 : Int) + (i : Nat) = ((i : Nat) : Int) := by omega
      rw [e0]
      have ll2 := llB.same x2.r.same
      refine ⟨_, rfl, _, rfl, q, lh, tl, sd, hs, rfl, ll2, hlh, nqh, l12, fun H3 h3 b3 => ?_⟩
      have x3 := x2.but ap.b hlh ap.n1 ap.n2 ap.n3 b3
      have kp3 : Kp p H H3 := fun b o e n0 n1 n2 n3 n4 => b3 _ _ (kp2 b o e n0 n1 n2 n3 n4) (ne_of_none e nlh)
      have ll3 := llB.same x3.r.same
      refine ⟨_, rfl, ?_⟩
      have hts := plainRun_turn hst
      have hlt := turn_le sd
      cases hp : (plainRun sd hs).2 with
      | false =>
        refine ite_true_of rfl ?_
        have efv : fv = .str "broken" := by rw [g.named]; unfold fated; rw [if_pos hp]
        subst efv
        have hll : st.lets.length = i := by
          rw [g.lets, if_neg (by intro e; cases e)]
        refine ⟨_, rfl, rfl, _, rfl, ite_true_of (dY rfl) ?_⟩
        refine ⟨_, rfl, p.S, p.dS, _, rfl, x3.hS, rfl, B, p, sa, sd, nm, st, rfl, x3, by omega, fun ql H4 tl' s4 _ hq4 hp4 => ⟨ql, _, rfl, .inl (SqL.of hq4), ?_⟩⟩
        have hl4 := hp4.length
        refine ⟨_, rfl, rfl, _, rfl, ite_true_of (dY ?_) ?_⟩
        · rw [List.length_map, hl4, hll]
        exact kB H4 st (x3.kept s4) (kp3.trans (Kp.of_same s4)) g.young (by omega)
      | true =>
        refine ite_false_of rfl ?_
        have efv : fv = if turnAt sd ≤ (plainRun sd hs).1.length then .str "done" else .non := by
          rw [g.named]
          unfold fated
          rw [if_neg (by rw [hp]; decide)]
        -- at the end, or at a give
        refine ⟨_, rfl, lh, _, rfl, .inl (SqL.of h3), _, rfl, q, _, rfl, .inl (SqL.of ll3.at_), rfl, _, rfl, ?_⟩
        rw [List.length_map, List.length_map, ll3.len]
        cases hn : sd[(plainRun sd hs).1.length]? with
        | none =>
          have := List.getElem?_eq_none_iff.mp hn
          have ee : (plainRun sd hs).1.length = sd.length := by omega
          refine ite_true_of (dY (by rw [ee])) ?_
          exact kD H3
        | some z =>
          have hl := (List.getElem?_eq_some_iff.mp hn).1
          refine ite_false_of (dN fun e => by have := V.int.inj e; omega) ?_
          obtain ⟨t, v, ht, hz, _⟩ := ll3.get hn
          have ati : atI (tl.map V.ref) (((plainRun sd hs).1.map V.int).length : Int) = some (.ref t) := by
            rw [List.length_map]
            exact atI_nat ht
          refine ⟨_, rfl, _, rfl, lh, _, rfl, .inl (SqL.of h3), q, _, _, _, rfl, rfl, SqL.of ll3.at_, ati, t, _, _, _, rfl, rfl, SqT.of hz, rfl, rfl, _, rfl, ?_⟩
          rw [word_give]
          cases hg : z.isGive with
          | true => exact iteT (kD H3)
          | false =>
            refine iteF ?_
            have hne : (plainRun sd hs).1.length < turnAt sd := by
              have : (plainRun sd hs).1.length ≠ turnAt sd := fun e => by
                rw [e] at hn
                rw [turn_give hn] at hg
                cases hg
              omega
            rw [if_neg (by omega)] at efv
            subst efv
            have hll : st.lets.length = i + 1 := by rw [g.lets, if_pos rfl]
            have hst' := g.hands
            refine ⟨_, rfl, _, rfl, _, _, rfl, rfl, _, rfl, ?_⟩
            by_cases ci : i < many
            · refine ite_true_of (dY (by omega)) ?_
              refine ⟨_, rfl, _, rfl, c, ns, i, rfl, x3.r.same.seq hcB, _, _, rfl, rfl, ⟨by decide, by decide⟩, _, rfl, ?_⟩
              generalize amt (cellAt ns i / 3) = y
              refine ⟨_, rfl, lh, _, rfl, .inl (SqL.of h3), ?_⟩
              refine ⟨_, rfl, .inl ⟨rfl, _, SqL.of h3⟩, _, rfl, lh, _, _, rfl, rfl, h3, by rw [List.length_map, sizeLine_eq]; omega, ?_⟩
              have b4 : But lh H3 (upd H3 lh (.lst ((plainRun sd hs).1.map V.int ++ [.int y]))) := But.upd _ _ _
              have x4 := x3.but ap.b h3 ap.n1 ap.n2 ap.n3 b4
              have ll4 := llB.same x4.r.same
              obtain ⟨t4, v4, ht4, hz4, _⟩ := ll4.get hn
              refine ⟨_, rfl, p.L, p.dl, _, rfl, x4.r.lead, rfl, _, rfl, ?_⟩
              have ati4 : atI (tl.map V.ref) (((plainRun sd hs).1.map V.int).length : Int) = some (.ref t4) := by
                rw [List.length_map]
                exact atI_nat ht4
              refine ⟨_, rfl, _, rfl, q, _, _, _, rfl, rfl, SqL.of ll4.at_, ati4, t4, _, _, _, rfl, rfl, SqT.of hz4, rfl, ?_⟩
              refine ⟨_, rfl, _, rfl, by show 2 ≤ sizeLine; decide, fun mo nmo => ?_⟩
              have s5 := Same.upd (o := .tup [.int (((plainRun sd hs).1.map V.int).length : Int), .int y]) nmo
              have x5 := x4.kept s5
              refine ⟨B, p, sa, sd, nm, st, _, _, mo, _, rfl, x5, by omega, upd_same, .inr (.inr (.inr ⟨rfl, g.young.fate, z, y, by rw [hst']; exact hn, by rw [hst', List.length_map], ?_⟩))⟩
              have yo := g.young
              refine Gone.of (n := i + 1) ⟨yo.fate, yo.back, yo.closed, yo.rows, yo.ovs⟩ g.waited hll fun H6 st6 fv6 x6 kp6 g6 => ?_
              have g6' : Gone sd ((plainRun sd hs).1 ++ [y]) (i + 1) st6 fv6 := by
                have : ({ st with hands := st.hands ++ [y] } : LS).hands = (plainRun sd hs).1 ++ [y] := by
                  show st.hands ++ [y] = _
                  rw [hst']
                rw [this] at g6
                exact g6
              refine ⟨(plainRun sd hs).1 ++ [y], st6, fv6, _, _, _, rfl, x6, ?_, ?_, .inl ⟨ci, g6', by rw [List.length_append]; show (plainRun sd hs).1.length + 1 ≤ _; omega⟩⟩
              · have kp4 : Kp p H (upd H3 lh (.lst ((plainRun sd hs).1.map V.int ++ [.int y]))) := fun b o e n0 n1 n2 n3 n4 => b4 _ _ (kp3 b o e n0 n1 n2 n3 n4) (ne_of_none e nlh)
                exact (kp4.trans (Kp.of_same s5)).trans kp6
              · refine kp6.keeps ap (s5 _ _ ?_)
                rw [upd_same, List.map_append]
                rfl
            · refine ite_false_of (dN (by omega)) ?_
              have em : i = many := by omega
              subst em
              refine ⟨(plainRun sd hs).1, st, .non, _, _, _, rfl, x3, kp3, h3, .inr ⟨rfl, g.young, g.waited, rfl, hll, ?_, by rw [hst']; exact hne⟩⟩
              rw [hst']
              exact plainRun_idem hp
    · rintro σ H2 ⟨hs, st, fv, v7, v8, v9, rfl, x2, kp2, hlh, g⟩
      rcases g with ⟨him, _⟩ | ⟨_, yo, hw, rfl, hll, hpl, hlt⟩
      · omega
      -- four turns
      refine ⟨4, rfl, by decide, by decide, fun D nD => ?_⟩
      have apD := x2.apart nD
      have nDl : D ≠ lh := fun e => by rw [e, hlh] at nD; cases nD
      have sD := Same.upd (o := .lst []) nD
      refine lc_range (lo := 0) (n := 4) (fun i H' => ∃ st' : LS, At a B H' p sa sd nm st' ∧ Kp p H2 H' ∧ Young st' ∧ st'.hands = st.hands ∧ st'.waited = i ∧ st'.lets.length = many + 1 + min i 3 ∧
          H' D = some (.lst (([.non, .non, .non, .str "broken"] : List V).take i)))
        ⟨st, x2.kept sD, Kp.of_same sD, yo, rfl, hw, by rw [hll]; rfl, upd_same⟩ ?_ ?_
      · rintro i H3 hi ⟨st3, x3, kp3, y3, hh3, hw3, hl3, hD3⟩
        refine ⟨rfl, ?_⟩
        have fin : ∀ (H4 : Hp) (st4 : LS) (v : V), At a B H4 p sa sd nm st4 → Kp p H3 H4 → Young st4 → st4.hands = st.hands → st4.waited = ((i + 1 : Nat) : Int) → st4.lets.length = many + 1 + min (i + 1) 3 → ([.non, .non, .non, .str "broken"] : List V)[i]? = some v →
            ∃ acc, H4 D = some (.lst acc) ∧ acc.length < sizeLine ∧ ∃ st' : LS, At a B (upd H4 D (.lst (acc ++ [v]))) p sa sd nm st' ∧ Kp p H2 (upd H4 D (.lst (acc ++ [v]))) ∧ Young st' ∧ st'.hands = st.hands ∧ st'.waited = ((i + 1 : Nat) : Int) ∧ st'.lets.length = many + 1 + min (i + 1) 3 ∧
              (upd H4 D (.lst (acc ++ [v]))) D = some (.lst (([.non, .non, .non, .str "broken"] : List V).take (i + 1))) := fun H4 st4 v x4 kp4 y4 hh4 hw4 hl4 hv => by
          have hD4 := kp4.keeps apD hD3
          refine ⟨_, hD4, ?_, st4, x4.but apD.b hD4 apD.n1 apD.n2 apD.n3 (But.upd _ _ _), ?_, y4, hh4, hw4, hl4, ?_⟩
          · rw [List.length_take, sizeLine_eq]
            omega
          · intro b o e n0 n1 n2 n3 n4
            rw [upd_ne (ne_of_none e nD)]
            exact kp4 _ _ (kp3 _ _ e n0 n1 n2 n3 n4) n0 n1 n2 n3 n4
          · rw [upd_same, take_succ hv]
        have yo' : ∀ (wd : Int) (lets : List Lt) (hs : List Int), Young { st3 with waited := wd, lets := lets, hands := hs } := fun wd lets hs => ⟨y3.fate, y3.back, y3.closed, y3.rows, y3.ovs⟩
        refine ⟨_, rfl, p.L, p.dl, _, rfl, x3.r.lead, rfl, _, rfl, B, p, sa, sd, nm, st3, rfl, x3, by omega, ?_⟩
        by_cases c3 : i = 3
        · subst c3
          refine .inr (.inl ⟨y3.fate, by rw [hw3]; decide, fun H4 x4 kp4 => ?_⟩)
          exact fin H4 _ _ x4 kp4 (yo' _ _ _) hh3 (by show st3.waited + 1 = _; rw [hw3]; rfl) (by show st3.lets.length = _; rw [hl3]; rfl) rfl
        · refine .inr (.inr ⟨y3.fate, by rw [hw3]; omega, ?_⟩)
          have hpl3 : plainRun sd st3.hands = (st.hands, true) := by rw [hh3]; exact hpl
          refine ⟨fun h => ?_, fun _ h => ?_, fun _ h l H4 x4 kp4 => ?_⟩
          · have h' : (plainRun sd st3.hands).2 = false := h
            rw [hpl3] at h'
            cases h'
          · have h' : turnAt sd ≤ (plainRun sd st3.hands).1.length := h
            rw [hpl3] at h'
            have h'' : turnAt sd ≤ st.hands.length := h'
            omega
          · refine fin H4 _ _ x4 kp4 (yo' _ _ _) (by show (plainRun sd st3.hands).1 = _; rw [hpl3]) (by show st3.waited + 1 = _; rw [hw3]; omega) ?_ ?_
            · show (st3.lets ++ [l]).length = _
              rw [List.length_append, hl3]
              show many + 1 + min i 3 + 1 = _
              omega
            · have : i = 0 ∨ i = 1 ∨ i = 2 := by omega
              rcases this with rfl | rfl | rfl <;> rfl
      · rintro H3 ⟨st3, x3, kp3, y3, hh3, hw3, hl3, hD3⟩
        refine ⟨_, rfl, rfl, _, rfl, ite_true_of (dY rfl) ?_⟩
        refine ⟨_, rfl, by show 4 ≤ sizeLine; decide, fun z nz => ?_⟩
        have sz := Same.upd (o := .lst [.non, .non, .non, .str "broken"]) nz
        have dp4 : DpAll K (upd H3 z (.lst [.non, .non, .non, .str "broken"])) [.non, .non, .non, .str "broken"] [.none, .none, .none, .str "broken"] := .cons .non (.cons .non (.cons .non (.cons (.str _) .nil)))
        refine ⟨.list [.none, .none, .none, .str "broken"], .list [.none, .none, .none, .str "broken"], .lst (SqL.of (sz _ _ hD3)) dp4, .lst (SqL.of upd_same) dp4, by decide +kernel, by decide +kernel, _, rfl, ite_true_of (by decide +kernel) ?_⟩
        have x4 := x3.kept sz
        refine ⟨_, rfl, p.S, p.dS, _, rfl, x4.hS, rfl, B, p, sa, sd, nm, st3, rfl, x4, by omega, fun ql H4 tl' s4 _ hq4 hp4 => ⟨ql, _, rfl, .inl (SqL.of hq4), ?_⟩⟩
        have hl4 := hp4.length
        refine ⟨_, rfl, _, _, rfl, rfl, rfl, _, rfl, ite_true_of (dY ?_) ?_⟩
        · rw [List.length_map, hl4, hl3]
          congr 1
        exact kB H4 st3 (x4.kept s4) (((kp2.trans kp3).trans (Kp.of_same sz)).trans (Kp.of_same s4)) y3 (by omega)
end
end Pk

set_option Elab.async false
set_option linter.all false
set_option maxRecDepth 100000
set_option maxHeartbeats 2000000
/-! What the law needs beside its own body: where all lies at first; the letters that are compared. -/
namespace Pk
open PySem PySem.Spec PyProof.Rows L2
theorem mk_At {a : Adr} {H0 H4 H5 H6 : Hp} {tn pc dp qs L dl hd G dG S dS ln ws en ov g1 g2 g3 g4 g5 : Addr} {sa : List Addr} {sd : List Sd} {nm : Int × Int}
    (hn : H0 tn = some (.tup [.int nm.1, .int nm.2])) (hpc : H0 pc = some (.ins a.cPact dp (pf qs))) (hqs : H0 qs = some (.lst (sa.map V.ref))) (hst : Steps a H0 sa sd) (ok : ∀ s ∈ sd, s.Ok) (l12 : sd.length ≤ 12)
    (fL : H0 L = Option.none) (fhd : H0 hd = Option.none) (s04 : Same H0 H4)
    (hL : H4 L = some (.ins a.cWalk dl [("name", .ref tn), ("pact", .ref pc), ("hands", .ref hd), ("fate", .non), ("waited", .int 0), ("back_at", .int (-1)), ("closed", .bl false)])) (hhd : H4 hd = some (.lst []))
    (s45 : Same H4 H5) (nG : H4 G = Option.none) (nov : H4 ov = Option.none)
    (hG : H5 G = some (.ins a.cStand dG [("numbers", .ref g1), ("texts", .ref g2), ("worked", .ref g3), ("readies", .ref g4), ("ends", .ref en), ("marks", .ref g5), ("overs", .ref ov)]))
    (hen : H5 en = some (.dT [])) (hov : H5 ov = some (.dT [])) (neo : en ≠ ov)
    (s56 : Same H5 H6) (nS : H5 S = Option.none) (nln : H5 ln = Option.none) (nws : H5 ws = Option.none)
    (hS : H6 S = some (.ins a.cSheet dS [("ground", .ref G), ("lines", .ref ln), ("wishes", .ref ws)])) (hln : H6 ln = some (.lst [])) (hws : H6 ws = some (.lst [])) (nlw : ln ≠ ws) :
    ∃ B : Hp, At a B H6 ⟨L, tn, pc, qs, hd, S, G, ln, ws, ov, en, g1, g2, g3, g4, g5, dl, dp, dS, dG⟩ sa sd nm ⟨[], .non, 0, -1, false, 0, 0, []⟩ ∧ Same H0 B := by
  let B : Hp := fun b => if b = L ∨ b = hd ∨ b = ln ∨ b = ws ∨ b = ov then Option.none else H6 b
  have hB : ∀ b, b ≠ L → b ≠ hd → b ≠ ln → b ≠ ws → b ≠ ov → B b = H6 b := fun b h1 h2 h3 h4 h5 => by
    show (if b = L ∨ b = hd ∨ b = ln ∨ b = ws ∨ b = ov then Option.none else H6 b) = H6 b
    rw [if_neg (by rintro (e | e | e | e | e) <;> contradiction)]
  have hN : ∀ b, (b = L ∨ b = hd ∨ b = ln ∨ b = ws ∨ b = ov) → B b = Option.none := fun b h => by
    show (if b = L ∨ b = hd ∨ b = ln ∨ b = ws ∨ b = ov then Option.none else H6 b) = Option.none
    rw [if_pos h]
  have s06 : Same H0 H6 := (s04.trans s45).trans s56
  have s0B : Same H0 B := fun b o e => by
    have e4 := s04 _ _ e
    have e5 := s45 _ _ e4
    rw [hB b (ne_of_none e fL) (ne_of_none e fhd) (ne_of_none e5 nln) (ne_of_none e5 nws) (ne_of_none e4 nov)]
    exact s06 _ _ e
  have L5 := s45 _ _ hL
  have hd5 := s45 _ _ hhd
  have sB6 : Same B H6 := fun b o e => by
    have e' : (if b = L ∨ b = hd ∨ b = ln ∨ b = ws ∨ b = ov then Option.none else H6 b) = some o := e
    by_cases c : b = L ∨ b = hd ∨ b = ln ∨ b = ws ∨ b = ov
    · rw [if_pos c] at e'
      cases e'
    · rw [if_neg c] at e'
      exact e'
  have BG : B G = H6 G := hB G (ne_of_none hL nG).symm (ne_of_none hhd nG).symm (ne_of_none hG nln) (ne_of_none hG nws) (ne_of hG hov (by intro e; cases e))
  have BS : B S = H6 S := hB S (ne_of_none L5 nS).symm (ne_of_none hd5 nS).symm (ne_of hS hln (by intro e; cases e)) (ne_of hS hws (by intro e; cases e)) (ne_of_none hov nS).symm
  have Be : B en = H6 en := hB en (ne_of hen L5 (by intro e; cases e)) (ne_of hen hd5 (by intro e; cases e)) (ne_of_none hen nln) (ne_of_none hen nws) neo
  refine ⟨B, ⟨⟨s0B _ _ hn, s0B _ _ hpc, s0B _ _ hqs, hst.same s0B, BS.trans hS, BG.trans (s56 _ _ hG), Be.trans (s56 _ _ hen), ok, l12, hN _ (.inl rfl), hN _ (.inr (.inl rfl)), hN _ (.inr (.inr (.inl rfl))), hN _ (.inr (.inr (.inr (.inl rfl)))), hN _ (.inr (.inr (.inr (.inr rfl))))⟩,
    ⟨sB6, s56 _ _ L5, s56 _ _ hd5, ⟨[], hln, rfl, fun r hr => by cases hr⟩, ⟨[], hws, .nil⟩, ⟨[], s56 _ _ hov, Nat.le_refl _⟩, ne_of_none hd5 nln, ne_of_none hd5 nws, nlw⟩⟩, s0B⟩
/-! ### the letters that are compared -/
def hvD (s : Sd) : PyData := match s.house with | some h => .int h | none => .none
def dueD (nm : Int × Int) (s : Sd) (j : Nat) : PyData := .tuple [hvD s, .tuple [.str "undo", .tuple [.int nm.1, .int nm.2], .tuple [.int (j : Int), .str s.text], .tuple []]]
theorem dp_house {K : PySem.W.Frag} {H : Hp} (s : Sd) : Dp K H s.houseV (hvD s) := by
  unfold Sd.houseV hvD
  cases s.house with
  | some h => exact .int h
  | none => exact .non
theorem text_ok (s : Sd) : PyData.strOk s.text = true := by
  rw [text_S]
  show (SX.S s.codes).cps.all (· < 0x110000) = true
  rw [← Array.all_toList]
  show s.codes.all (· < 0x110000) = true
  rw [List.all_eq_true]
  intro c hc
  have : c < 200 := by
    rcases joinL_mem hc with h | ⟨q, hq, h⟩
    · simp at h
      omega
    · rcases List.mem_cons.mp hq with e | e
      · subst e
        cases s <;> (simp only [Sd.wordL, List.mem_cons, List.not_mem_nil, or_false] at h; omega)
      · obtain ⟨n, _, rfl⟩ := List.mem_map.mp e
        have := num_mem h
        omega
  exact decide_eq_true (by omega)
theorem hvD_can (s : Sd) : (hvD s).canLay0 = true ∧ (hvD s).depth = 0 := by
  unfold hvD
  cases s.house with
  | some h => exact ⟨rfl, rfl⟩
  | none => exact ⟨rfl, rfl⟩
theorem undo_ok : PyData.strOk ("undo" : Str) = true := by decide +kernel
theorem dueD_can (nm : Int × Int) (s : Sd) (j : Nat) : (PyData.list [dueD nm s j]).canLay0 = true := by
  simp [dueD, PyData.canLay0, PyData.canLayAll0, hvD_can, text_ok, undo_ok]
theorem dueD_shaped (nm : Int × Int) (s : Sd) (j : Nat) : SeqAt.shaped (.list [dueD nm s j]) = true := by
  show ((PyData.list [dueD nm s j]).canLay0 && decide ((PyData.list [dueD nm s j]).depth ≤ 64)) = true
  rw [dueD_can, Bool.true_and]
  refine decide_eq_true ?_
  simp [dueD, PyData.depth, PyData.depthAll, hvD_can]
def overD (nm : Int × Int) : PyData := .tuple [.str "over", .tuple [.int nm.1, .int nm.2]]
theorem over_ok : PyData.strOk ("over" : Str) = true := by decide +kernel
theorem overD_can (nm : Int × Int) : (PyData.list [overD nm]).canLay0 = true := by
  simp [overD, PyData.canLay0, PyData.canLayAll0, over_ok]
theorem overD_shaped (nm : Int × Int) : SeqAt.shaped (.list [overD nm]) = true := by
  show ((PyData.list [overD nm]).canLay0 && decide ((PyData.list [overD nm]).depth ≤ 64)) = true
  rw [overD_can, Bool.true_and]
  refine decide_eq_true ?_
  simp [overD, PyData.depth, PyData.depthAll]
/-- a list whose items are this data -/
structure IsD (K : PySem.W.Frag) (H : Hp) (c : Addr) (ds : List PyData) : Prop where
  ex : ∃ xs, H c = some (.lst xs) ∧ DpAll K H xs ds ∧ xs.length = ds.length
/-- what is due, as data -/
def dueDs (nm : Int × Int) (sd : List Sd) : List Nat → List PyData
  | [] => []
  | j :: _ => match sd[j]? with | some s => [dueD nm s j] | none => []
theorem dueDs_cons {nm : Int × Int} {sd : List Sd} {j : Nat} {r : List Nat} {s : Sd} (h : sd[j]? = some s) : dueDs nm sd (j :: r) = [dueD nm s j] := by
  show (match sd[j]? with | some s => [dueD nm s j] | none => []) = _
  rw [h]
theorem dueDs_good (nm : Int × Int) (sd : List Sd) (b : List Nat) : SeqAt.shaped (.list (dueDs nm sd b)) = true ∧ (PyData.list (dueDs nm sd b)).canLay0 = true := by
  cases b with
  | nil => exact ⟨rfl, rfl⟩
  | cons j r =>
    cases h : sd[j]? with
    | none =>
      have e : dueDs nm sd (j :: r) = [] := by
        show (match sd[j]? with | some s => [dueD nm s j] | none => []) = _
        rw [h]
      rw [e]
      exact ⟨by decide, by decide⟩
    | some s =>
      rw [dueDs_cons h]
      exact ⟨dueD_shaped nm s j, dueD_can nm s j⟩
/-- a told letter of what is due, as data -/
theorem told_dp {K : PySem.W.Frag} {H : Hp} {p : Pl} {nm : Int × Int} {x : Addr} {s : Sd} {j : Nat} (ht : H p.tn = some (.tup [.int nm.1, .int nm.2])) (h : ToldAt p H x ⟨s.houseV, "undo", [.int (j : Int), .str s.text]⟩) : Dp K H (.ref x) (dueD nm s j) := by
  obtain ⟨y, m, e, h1, h2, h3, h4⟩ := h
  exact .tup (SqT.of h1) (.cons (dp_house s) (.cons (.tup (SqT.of h2) (.cons (.str _) (.cons (.tup (SqT.of ht) (.cons (.int _) (.cons (.int _) .nil))) (.cons (.tup (SqT.of h3) (.cons (.int _) (.cons (.str _) .nil))) (.cons (.tup (SqT.of h4) .nil) .nil))))) .nil))
theorem undoLt_some {sd : List Sd} {j : Nat} {s : Sd} (h : sd[j]? = some s) : undoLt sd j = ⟨s.houseV, "undo", [.int (j : Int), .str s.text]⟩ := by
  unfold undoLt
  rw [h]
theorem paired_drop {α β : Type} {R : α → β → Prop} : ∀ {l : List α} {m : List β} (n : Nat), Paired R l m → Paired R (l.drop n) (m.drop n)
  | _, _, 0, r => r
  | _, _, _ + 1, .nil => .nil
  | _, _, n + 1, .cons _ t => paired_drop n t
theorem cut_from (xs : List V) (n : Nat) : cutV xs (some (n : Int)) none = xs.drop n := by
  unfold cutV
  have e2 : HT.sIx xs.length xs.length none = xs.length := rfl
  rw [e2, HT.sIx_nat]
  by_cases h : n ≤ xs.length
  · rw [Nat.min_eq_left h]
    exact List.take_of_length_le (by rw [List.length_drop]; omega)
  · rw [Nat.min_eq_right (by omega), List.drop_length, List.drop_eq_nil_of_le (by omega)]
    exact List.take_nil
end Pk

set_option Elab.async false
set_option linter.all false
set_option maxRecDepth 100000
set_option maxHeartbeats 4000000
/-! The law. -/
namespace Pk
open PySem PySem.Spec PyProof.Rows L2
theorem same_seqT {K : PySem.W.Frag} {H H' : Hp} {c : Addr} {xs : List V} (e : Same H H') (h : SqT K H c xs) : SqT K H' c xs := by
  rcases h with (h | ⟨o, h⟩) | h
  · exact .inl (.inl (e _ _ h))
  · exact .inl (.inr ⟨o, e _ _ h⟩)
  · exact .inr h
mutual
theorem dp_same {K : PySem.W.Frag} {H H' : Hp} (e : Same H H') : ∀ {v : V} {d : PyData}, Dp K H v d → Dp K H' v d
  | _, _, .non => .non
  | _, _, .bl b => .bl b
  | _, _, .int i => .int i
  | _, _, .str x => .str x
  | _, _, .lst h q => .lst (L2.Same.seq e h) (dpAll_same e q)
  | _, _, .tup h q => .tup (same_seqT e h) (dpAll_same e q)
theorem dpAll_same {K : PySem.W.Frag} {H H' : Hp} (e : Same H H') : ∀ {vs : List V} {ds : List PyData}, DpAll K H vs ds → DpAll K H' vs ds
  | _, _, .nil => .nil
  | _, _, .cons h t => .cons (dp_same e h) (dpAll_same e t)
end
theorem IsD.same {K : PySem.W.Frag} {H H' : Hp} {c : Addr} {ds : List PyData} (x : IsD K H c ds) (e : Same H H') : IsD K H' c ds := let ⟨xs, h1, h2, h3⟩ := x; ⟨xs, e _ _ h1, dpAll_same e h2, h3⟩
theorem IsD.dp {K : PySem.W.Frag} {H : Hp} {c : Addr} {ds : List PyData} (x : IsD K H c ds) : Dp K H (.ref c) (.list ds) := let ⟨xs, h1, h2, h3⟩ := x; .lst (SqL.of h1) h2
theorem told_all {K : PySem.W.Frag} {H : Hp} {p : Pl} {nm : Int × Int} {sd : List Sd} {b : List Nat} {m : Nat} (l : Left sd b m) (ht : H p.tn = some (.tup [.int nm.1, .int nm.2])) : ∀ {xs : List Addr}, Paired (ToldAt p H) xs (dueL sd b) → DpAll K H (xs.map V.ref) (dueDs nm sd b) := by
  intro xs h
  cases b with
  | nil =>
    cases h
    exact .nil
  | cons j r =>
    obtain ⟨em, _⟩ := l.head
    subst em
    obtain ⟨s, hs, _, _⟩ := l.cons
    rw [dueDs_cons hs]
    have h' : Paired (ToldAt p H) xs [undoLt sd j] := h
    rw [undoLt_some hs] at h'
    cases h' with
    | cons a t =>
      cases t
      exact .cons (told_dp ht a) .nil
theorem due_len {nm : Int × Int} {sd : List Sd} {b : List Nat} {m : Nat} (l : Left sd b m) : (dueDs nm sd b).length = (dueL sd b).length := by
  cases b with
  | nil => rfl
  | cons j r =>
    obtain ⟨em, _⟩ := l.head
    subst em
    obtain ⟨s, hs, _, _⟩ := l.cons
    rw [dueDs_cons hs]
    rfl
theorem dueL_len (sd : List Sd) (b : List Nat) : (dueL sd b).length ≤ 1 := by cases b <;> simp [dueL]
theorem sum_len {l : List Sd} (k : ∀ s ∈ l, s.Ok) : ((l.map Sd.text).map (·.length)).sum ≤ 200 * l.length := by
  induction l with
  | nil => decide
  | cons s r ih =>
    have h1 := text_len (k s List.mem_cons_self)
    have h2 := ih fun x hx => k x (List.mem_cons_of_mem _ hx)
    rw [List.map_cons, List.map_cons, List.sum_cons, List.length_cons]
    omega
/-- the data that is asked for where b is left, mv: whether something was just done -/
def askD (nm : Int × Int) (sd : List Sd) (b : List Nat) (mv : Bool) : List PyData := if mv = true then dueDs nm sd b else []
def askL (sd : List Sd) (b : List Nat) (mv : Bool) : List Lt := if mv = true then dueL sd b else []
def askR (nm : Int × Int) (b : List Nat) : List PyData := if b.isEmpty = true then [overD nm] else []
theorem askD_good (nm : Int × Int) (sd : List Sd) (b : List Nat) (mv : Bool) : SeqAt.shaped (.list (askD nm sd b mv)) = true ∧ PyData.eqv (.list (askD nm sd b mv)) (.list (askD nm sd b mv)) = true := by
  unfold askD
  cases mv with
  | true => exact ⟨(dueDs_good nm sd b).1, SeqAt.eqv_refl _ (dueDs_good nm sd b).2⟩
  | false => exact ⟨rfl, SeqAt.eqv_refl _ rfl⟩
theorem askR_good (nm : Int × Int) (b : List Nat) : SeqAt.shaped (.list (askR nm b)) = true ∧ PyData.eqv (.list (askR nm b)) (.list (askR nm b)) = true := by
  unfold askR
  cases b with
  | nil => exact ⟨overD_shaped nm, SeqAt.eqv_refl _ (overD_can nm)⟩
  | cons j r => exact ⟨rfl, SeqAt.eqv_refl _ rfl⟩
theorem over_dp {K : PySem.W.Frag} {H : Hp} {tn t : Addr} {nm : Int × Int} (hn : H tn = some (.tup [.int nm.1, .int nm.2])) (ht : H t = some (.tup [.str "over", .ref tn])) : Dp K H (.ref t) (overD nm) :=
  .tup (SqT.of ht) (.cons (.str _) (.cons (.tup (SqT.of hn) (.cons (.int _) (.cons (.int _) .nil))) .nil))
theorem told_ask {K : PySem.W.Frag} {H : Hp} {p : Pl} {nm : Int × Int} {sd : List Sd} {b : List Nat} {m : Nat} {mv : Bool} (l : Left sd b m) (ht : H p.tn = some (.tup [.int nm.1, .int nm.2])) {xs : List Addr} (h : Paired (ToldAt p H) xs (askL sd b mv)) : DpAll K H (xs.map V.ref) (askD nm sd b mv) := by
  cases mv with
  | true => exact told_all l ht h
  | false =>
    have h' : Paired (ToldAt p H) xs [] := h
    cases h'
    exact .nil
theorem ask_len {nm : Int × Int} {sd : List Sd} {b : List Nat} {m : Nat} {mv : Bool} (l : Left sd b m) : (askD nm sd b mv).length = (askL sd b mv).length := by
  cases mv with
  | true => exact due_len l
  | false => rfl
theorem rows_ask {K : PySem.W.Frag} {H : Hp} {p : Pl} {nm : Int × Int} {sd : List Sd} {b : List Nat} {m : Nat} (l : Left sd b m) (ht : H p.tn = some (.tup [.int nm.1, .int nm.2])) {rs : List Addr} (hl : rs.length = if m = 0 then 1 else 0) (hr : ∀ r ∈ rs, H r = some (.tup [.str "over", .ref p.tn])) : DpAll K H (rs.map V.ref) (askR nm b) := by
  cases b with
  | nil =>
    rw [l.empty, if_pos rfl] at hl
    match rs, hl, hr with
    | [r], _, hr => exact .cons (over_dp ht (hr r List.mem_cons_self)) .nil
  | cons j r =>
    rw [l.head.1, if_neg (by omega)] at hl
    match rs, hl with
    | [], _ => exact .nil
section
variable {P : Program} {w : World} {K : PySem.W.Frag} {mg : Str → Option Value} {base : Heap} {a : Adr}
def spLaw (K : PySem.W.Frag) : Sp := fun vs H Q _ => ∃ (c : Addr) (ns : List Int), vs = [.ref c] ∧ SqL K H c (ns.map V.int) ∧ ns.length ≤ 63 ∧ ∀ H', Q (.bl true) H'
theorem ok_law (T : Txt K mg a) {fd : FuncData} (F : C8.Fun K "law" "law" s_law a.f_law fd) : FnOk P w K mg base C8.CX0 8 a.f_law fd ["_law_script"] (spLaw K) := by
  refine C8.fn0 F sc_law (fun vs H Q E h => ?_) (fun cdv A outer s H vs Q E hr h => ?_)
  · obtain ⟨c, ns, rfl, _⟩ := h
    rfl
  · obtain ⟨c, ns, rfl, hS, hlen, k⟩ := h
    refine ⟨_, (pss_cons (ps_set (i := 1) sc_law.nd rfl (Or.inl rfl) (pe_tup (pa_cons (pe_op op_mod (C8.pe_c (c_lCell T) hr (by decide) rfl (pa_cons (pv 0) (pa_cons pe_int pa_nil))) pe_int) (pa_cons (pe_op op_mod (pe_op op_fdiv (C8.pe_c (c_lCell T) hr (by decide) rfl (pa_cons (pv 0) (pa_cons pe_int pa_nil))) pe_int) (pe_op op_pow pe_int pe_int)) pa_nil))))
      (pss_cons (ps_set (i := 2) sc_law.nd rfl (Or.inl rfl) (C8.pe_c (c_lSteps T) hr (by decide) rfl (pa_cons (pv 0) pa_nil)))
      (C8.pss_cut (ps_set (i := 3) sc_law.nd rfl (Or.inl rfl) (C8.pe_mk (c_mkWalk T) hr (by decide) rfl (pa_cons (pv 1) (pa_cons (C8.pe_c (c_readPact T) hr (by decide) rfl (pa_cons (pe_op op_add_str pe_str (pe_join pe_str (pe_lc (te := (tOp (rIxT K) (tVar 14) (tC (.int 2)))) (own := [("_law_step_here", 14)]) (g := gName 14) (tt := tYes) rfl sc_law.nd (pi_list (pv 2)) (blkOk_by (own := [("_law_step_here", 14)]) (N := ["_law_script", "_law_name", "_law_steps_here", "_law_lead", "_law_sheet", "_law_back_here", "_law_many", "_law_way_here", "_law_sent", "_law_fate", "_law_moved", "_law_number", "_law_due_here", "_law_rows", "_law_step_here"]) (sc := C8.fnScope s_law) (by decide +kernel)) (fun _ _ _ _ _ => pg_name (i := 14) sc_law.nd rfl (Or.inl rfl)) (fun _ _ _ _ _ => pts_nil) (fun _ _ _ _ _ => (pe_ix ix_tup (pv 14) pe_int (fun _ _ => rfl)))))) pa_nil)) pa_nil))))
      (C8.pss_cut (ps_set (i := 4) sc_law.nd rfl (Or.inl rfl) (C8.pe_mk (c_mkSheet T) hr (by decide) rfl (pa_cons (C8.pe_mk (c_mkStand T) hr (by decide) rfl (pa_cons (pe_lst (pa_cons pe_int pa_nil)) pa_nil)) pa_nil)))
      (pss_cons (ps_set (i := 5) sc_law.nd rfl (Or.inl rfl) (C8.pe_c (c_lBack T) hr (by decide) rfl (pa_cons (pv 2) pa_nil)))
      (pss_cons (ps_set (i := 6) sc_law.nd rfl (Or.inl rfl) (pe_op op_mod (pe_op op_fdiv (C8.pe_c (c_lCell T) hr (by decide) rfl (pa_cons (pv 0) (pa_cons pe_int pa_nil))) pe_int) (pe_op op_add (pe_callB call_len_seq (by rfl) T.z_len PySem.boot_len (pa_cons (pv 5) pa_nil)) pe_int)))
      (pss_cons (ps_set (i := 7) sc_law.nd rfl (Or.inl rfl) (C8.pe_c (c_lWay T) hr (by decide) rfl (pa_cons (pv 3) (pa_cons (pv 4) (pa_cons (pv 2) (pa_cons (pv 6) (pa_cons (pv 0) pa_nil)))))))
      (pss_cons (ps_if (PW.pt (pw_or (pt_cmpR op_ne (pv 7) pe_str (nomark _)) (pw_or1 (pt_cmpR (op_neD hr.units) (C8.pe_mt0 (c_rowsTold T) hr (by decide) (pv 4)) (pe_lst pa_nil) (nomark _))))) (pss_one (ps_ret (pe_cmpR op_eq (pv 7) pe_str (nomark _)))) pss_nil)
      (pss_cons (ps_set (i := 8) sc_law.nd rfl (Or.inl rfl) (pe_callB call_len_seq (by rfl) T.z_len PySem.boot_len (pa_cons (C8.pe_mt0 (c_lettersTold T) hr (by decide) (pv 4)) pa_nil)))
      (pss_cons (ps_expr (C8.pe_mt (c_end_ T) hr (by decide) (pv 3) (pa_cons (pv 4) (pa_cons pe_str pa_nil))))
      (pss_cons (ps_set (i := 9) sc_law.nd rfl (Or.inl rfl) pe_non)
      (pss_cons (ps_set (i := 10) sc_law.nd rfl (Or.inl rfl) pe_bl)
      (pss_cons (ps_for PassesOwn.never rfl (pi_list (pe_op op_cat (pe_slice sl_list (pv 0) (po_some pe_int) (po_some pe_int)) (pe_lst (pa_cons pe_int pa_nil)))) (pg_name (i := 11) sc_law.nd rfl (Or.inl rfl)) (pss_cons (ps_set (i := 12) sc_law.nd rfl (Or.inl rfl) (pe_lst pa_nil))
      (C8.pss_cut (ps_if (pt_val (pv 10)) (pss_one (ps_set (i := 12) sc_law.nd rfl (Or.inl rfl) (C8.pe_c (c_lDue T) hr (by decide) rfl (pa_cons (pv 1) (pa_cons (pv 2) (pa_cons (pv 5) pa_nil)))))) pss_nil)
      (pss_cons (ps_set (i := 13) sc_law.nd rfl (Or.inl rfl) (pe_lst (pa_cons (pe_tup (pa_cons pe_str (pa_cons (pv 1) pa_nil))) pa_nil)))
      (C8.pss_cut (ps_if (pt_cmpR (op_neD hr.units) (pv 5) (pe_lst pa_nil) (nomark _)) (pss_one (ps_set (i := 13) sc_law.nd rfl (Or.inl rfl) (pe_lst pa_nil))) pss_nil)
      (pss_cons (ps_if (PW.pt (pw_or (pt_cmpR op_notN (pv 9) pe_non (nomark _)) (pw_or (pt_cmpR (op_neD hr.units) (pe_slice sl_list (C8.pe_mt0 (c_lettersTold T) hr (by decide) (pv 4)) (po_some (pv 8)) po_none) (pv 12) (nomark _)) (pw_or1 (pt_cmpR (op_neD hr.units) (C8.pe_mt0 (c_rowsTold T) hr (by decide) (pv 4)) (pv 13) (nomark _)))))) (pss_one (ps_ret pe_bl)) pss_nil)
      (pss_cons (ps_set (i := 8) sc_law.nd rfl (Or.inl rfl) (pe_op op_add (pv 8) (pe_callB call_len_seq (by rfl) T.z_len PySem.boot_len (pa_cons (pv 12) pa_nil))))
      (pss_cons (ps_set (i := 10) sc_law.nd rfl (Or.inl rfl) pe_bl)
      (pss_one (ps_if (PW.pt (pw_and (pt_cmpR op_eq (pe_op op_mod (pv 11) pe_int) pe_int (nomark _)) (pw_and1 (pt_cmpR op_eq (pe_op op_mod (pe_op op_fdiv (pv 11) pe_int) pe_int) pe_int (nomark _))))) (pss_one (ps_set (i := 9) sc_law.nd rfl (Or.inl rfl) (C8.pe_mt (c_turn T) hr (by decide) (pv 3) (pa_cons (pv 4) pa_nil)))) (C8.pss_cut (ps_set (i := 10) sc_law.nd rfl (Or.inl rfl) (pe_and (pe_cmpR op_lt (pe_op op_mod (pv 11) pe_int) pe_int (nomark _)) (pe_one (pe_cmpR (op_neD hr.units) (pv 5) (pe_lst pa_nil) (nomark _)))))
      (pss_cons (ps_set (i := 9) sc_law.nd rfl (Or.inl rfl) (C8.pe_c (c_lCame T) hr (by decide) rfl (pa_cons (pv 3) (pa_cons (pv 4) (pa_cons (pv 2) (pa_cons (pv 5) (pa_cons (pv 11) pa_nil)))))))
      (pss_one (ps_if (pt_val (pv 10)) (pss_one (ps_set (i := 5) sc_law.nd rfl (Or.inl rfl) (pe_slice sl_list (pv 5) (po_some pe_int) po_none))) pss_nil))))))))))))))
      (pss_one (ps_ret pe_bl))))))))))))))), ?_⟩
    have hsz := sizeLine_eq
    have cd : ∀ i j : Int, 0 < j → j < 1000 → CDiv i j := fun i j h0 h1 => ⟨h0, by omega⟩
    have c109 : CPow 10 9 := ⟨by decide, by decide, by decide⟩
    -- the name
    refine ⟨_, rfl, c, ns, 0, rfl, hS, _, _, rfl, rfl, by show (0 : Int) < 5; decide, ?_⟩
    refine ⟨_, rfl, c, ns, 0, rfl, hS, _, _, rfl, rfl, cd _ _ (by decide) (by decide), _, _, rfl, rfl, c109, _, _, rfl, rfl, by show (0 : Int) < 10 ^ 9; decide, by show 2 ≤ sizeLine; decide, fun tn ntn => ?_⟩
    obtain ⟨nm, hnm⟩ : ∃ nm : Int × Int, nm = (cellAt ns 0 % 5, cellAt ns 0 / 5 % 10 ^ (9 : Int).toNat) := ⟨_, rfl⟩
    have s1 : Same H (upd H tn (.tup [.int (cellAt ns 0 % 5), .int (cellAt ns 0 / 5 % 10 ^ (9 : Int).toNat)])) := Same.upd ntn
    have htn : (upd H tn (.tup [.int (cellAt ns 0 % 5), .int (cellAt ns 0 / 5 % 10 ^ (9 : Int).toNat)])) tn = some (.tup [.int nm.1, .int nm.2]) := by
      rw [hnm]
      exact upd_same
    -- the steps
    refine ⟨_, rfl, c, ns, rfl, s1.seq hS, fun q H2 tl s2 hq hp => ?_⟩
    have ok : ∀ s ∈ lawAll ns, s.Ok := lawSteps_ok ns _
    have hl : (lawAll ns).length = lawCount ns := lawSteps_len ns _
    have hcnt := lawCount_range ns
    generalize lawAll ns = sd at hp ok hl
    have l12 : sd.length ≤ 12 := by omega
    have ne : sd ≠ [] := fun e => by rw [e] at hl; simp at hl; omega
    have ll2 : LL H2 q tl sd := ⟨hq, hp⟩
    have htn2 := s2 _ _ htn
    have hS2 := s2.seq (s1.seq hS)
    -- the lead
    refine ⟨fun σ' H' => ∃ (L dl hd pc dp qs : Addr) (sa : List Addr) (H0 : Hp), σ' = [some (.ref c), some (.ref tn), some (.ref q), some (.ref L), none, none, none, none, none, none, none, none, none, none, none] ∧ Same H2 H0 ∧ H0 L = Option.none ∧ H0 hd = Option.none ∧
        H0 pc = some (.ins a.cPact dp (pf qs)) ∧ H0 qs = some (.lst (sa.map V.ref)) ∧ Steps a H0 sa sd ∧ Same H0 H' ∧
        H' L = some (.ins a.cWalk dl [("name", .ref tn), ("pact", .ref pc), ("hands", .ref hd), ("fate", .non), ("waited", .int 0), ("back_at", .int (-1)), ("closed", .bl false)]) ∧ H' hd = some (.lst []), ?_, ?_⟩
    · refine ⟨_, rfl, ⟨_, rfl⟩, _, rfl, q, rfl, ⟨_, SqL.of hq⟩, fun D nD => ?_⟩
      refine lc_list (K := K) (a := q) (xs := tl.map V.ref) (fun i H' => Same H2 H' ∧ H' D = some (.lst (((sd.take i).map Sd.text).map V.str))) ⟨Same.upd nD, upd_same⟩ (fun i H' _ ⟨s3, _⟩ => SqL.of (s3 _ _ hq)) ?_ ?_
      · rintro i v H3 hi ⟨s3, hD⟩
        have hi' : i < sd.length := by
          have := (List.getElem?_eq_some_iff.mp hi).1
          rw [List.length_map, ll2.len] at this
          exact this
        have hz : sd[i]? = some sd[i] := List.getElem?_eq_getElem hi'
        generalize sd[i] = z at hz
        obtain ⟨t, u, ht, hr1, _⟩ := ll2.get hz
        rw [hi] at ht
        cases ht
        refine ⟨rfl, _, rfl, t, _, _, _, rfl, rfl, SqT.of (s3 _ _ hr1), rfl, _, hD, ?_, fun b o e => ?_, ?_⟩
        · rw [List.length_map, List.length_map, List.length_take]
          omega
        · rw [upd_ne (ne_of_none e nD)]
          exact s3 _ _ e
        · rw [upd_same, take_succ hz, List.map_append, List.map_append]
          rfl
      · rintro H3 ⟨s3, hD⟩
        rw [List.length_map, ll2.len, List.take_length] at hD
        have hsum := sum_len ok
        have hsl : ("; " : Str).length = 2 := by decide +kernel
        have hw7 : ("walked " : Str).length = 7 := by decide +kernel
        have hrl := rest_len l12 ok
        refine ⟨_, D, sd.map Sd.text, rfl, rfl, .inl (SqL.of hD), ?_, _, _, rfl, rfl, ?_, ?_⟩
        · rw [List.length_map, hsl]
          omega
        · show ("walked " : Str).length + (restOf sd).length ≤ _
          omega
        refine ⟨sd, ne, l12, ok, rfl, fun pc dp qs sa H4 s4 hpc hqs hst => ?_⟩
        refine fun L dl nL ndl ndL => ⟨L, dl, tn, pc, rfl, upd_same, fun hd H5 nhd hL hhd bL => ⟨rfl, ?_⟩⟩
        have sm : Same H4 (upd (upd H4 dl (.own L)) L (.ins a.cWalk dl [])) := (Same.upd ndl).trans (Same.upd (by rw [upd_ne ndL.symm]; exact nL))
        exact ⟨L, dl, hd, pc, dp, qs, sa, H4, rfl, s3.trans s4, nL, sm.free nhd, hpc, hqs, hst, made_same nL ndl bL, hL, hhd⟩
    rintro σ' H5 ⟨L, dl, hd, pc, dp, qs, sa, H0, rfl, s20, fL, fhd, hpc, hqs, hst, s05, hL, hhd⟩
    -- the sheet and its stand
    refine ⟨fun σ' H' => ∃ (B : Hp) (p : Pl), σ' = [some (.ref c), some (.ref p.tn), some (.ref q), some (.ref p.L), some (.ref p.S), none, none, none, none, none, none, none, none, none, none] ∧ At a B H' p sa sd nm ⟨[], .non, 0, -1, false, 0, 0, []⟩ ∧ LL B q tl sd ∧ SqL K B c (ns.map V.int), ?_, ?_⟩
    · refine ⟨by show 1 ≤ sizeLine; decide, fun z nz => ?_⟩
      refine fun G dG nG ndG neG => ⟨G, dG, z, [.int 0], rfl, upd_same, ?_, fun g1 g2 g3 g4 en g5 ov H6 nov neo hG hen hov bG => ⟨rfl, fun S dS nS ndS neS => ⟨S, dS, G, rfl, upd_same, fun ln ws H7 nln nws nlw hS' hln hws bS => ⟨rfl, ?_⟩⟩⟩⟩
      · rw [upd_ne (ne_of_none upd_same nG), upd_ne (ne_of_none upd_same ndG)]
        exact upd_same
      have sz := Same.upd (o := .lst [.int 0]) nz
      have sG : Same (upd H5 z (.lst [.int 0])) (upd (upd (upd H5 z (.lst [.int 0])) dG (.own G)) G (.ins a.cStand dG [])) := (Same.upd ndG).trans (Same.upd (by rw [upd_ne neG.symm]; exact nG))
      have s56 : Same H5 H6 := sz.trans (made_same nG ndG bG)
      have sS : Same H6 (upd (upd H6 dS (.own S)) S (.ins a.cSheet dS [])) := (Same.upd ndS).trans (Same.upd (by rw [upd_ne neS.symm]; exact nS))
      have s67 : Same H6 H7 := made_same nS ndS bS
      obtain ⟨B, x, s0B⟩ := mk_At (nm := nm) (s20 _ _ htn2) hpc hqs hst ok l12 fL fhd s05 hL hhd s56 (sz.free nG) ((sz.trans sG).free nov) hG hen hov neo s67 nS (sS.free nln) (sS.free nws) hS' hln hws nlw
      exact ⟨B, _, rfl, x, (ll2.same s20).same s0B, s0B.seq (s20.seq hS2)⟩
    clear hL hhd s05 hst hqs hpc fhd fL s20 htn2 htn s1 hS2 ll2 hq hp
    rintro σ' H7 ⟨B, p, rfl, x, llB, hcB⟩
    -- the way back, the number of answers
    refine ⟨_, rfl, q, tl, sd, rfl, llB.same x.r.same, l12, fun bl H8 s8 nbl hbl => ?_⟩
    have apb := x.apart nbl
    have x8 := x.kept s8
    have lf0 : Left sd (backL sd) (backN sd (turnAt sd)) := Left.of sd (turn_le sd)
    have hbl12 : (backL sd).length ≤ 12 := by
      unfold backL
      rw [List.length_reverse]
      have := found_len sd (turnAt sd)
      have := turn_le sd
      omega
    refine ⟨_, rfl, c, ns, 0, rfl, x8.r.same.seq hcB, _, _, rfl, rfl, cd _ _ (by decide) (by decide), _, rfl, bl, _, rfl, .inl (SqL.of hbl), _, _, rfl, rfl, _, _, rfl, rfl, by show (0 : Int) < (((backL sd).map nV).length : Int) + 1; omega, ?_⟩
    obtain ⟨many, hm, hm12⟩ : ∃ many : Nat, cellAt ns 0 / 7 % ((((backL sd).map nV).length : Int) + 1) = (many : Int) ∧ many ≤ 12 := by
      rw [List.length_map]
      have h0 := Int.emod_nonneg (cellAt ns 0 / 7) (b := ((backL sd).length : Int) + 1) (by omega)
      have h1 := Int.emod_lt_of_pos (cellAt ns 0 / 7) (b := ((backL sd).length : Int) + 1) (by omega)
      exact ⟨(cellAt ns 0 / 7 % (((backL sd).length : Int) + 1)).toNat, by omega, by omega⟩
    -- the way there
    refine ⟨_, rfl, _, rfl, _, rfl, _, rfl, _, rfl, B, p, sa, sd, nm, q, tl, c, ns, many, by show [V.ref p.L, V.ref p.S, V.ref q, V.int (cellAt ns 0 / 7 % ((((backL sd).map nV).length : Int) + 1)), V.ref c] = _; rw [hm], x8, llB, hcB, hm12, fun H9 => ?_, fun H9 st9 x9 kp9 y9 l9 => ?_⟩
    · refine ⟨_, rfl, rfl, _, rfl, ite_true_of (show (!decide (V.str "done" = V.str "broken")) = true by decide +kernel) ⟨_, rfl, rfl, ?_⟩⟩
      have e : decide (V.str "done" = V.str "done") = true := dY rfl
      show Q (.bl (decide (V.str "done" = V.str "done"))) H9
      rw [e]
      exact k H9
    refine ⟨_, rfl, rfl, _, rfl, ite_false_of (show (!decide (V.str "broken" = V.str "broken")) = false by decide +kernel) ?_⟩
    refine ⟨_, rfl, p.S, p.dS, _, rfl, x9.hS, rfl, B, p, sa, sd, nm, st9, rfl, x9, fun qr H10 rs s10 hqr hrs _ => ⟨Nat.zero_le _, fun z nz => ?_⟩⟩
    have er : rs = [] := List.length_eq_zero_iff.mp (by rw [hrs, y9.rows])
    subst er
    have sz := Same.upd (o := .lst []) nz
    refine ⟨.list [], .list [], .lst (SqL.of (sz _ _ hqr)) .nil, .lst (SqL.of upd_same) .nil, by decide, by decide, _, rfl, ite_false_of (by decide) ?_⟩
    have x11 := x9.kept (s10.trans sz)
    refine ⟨_, rfl, p.S, p.dS, _, rfl, x11.hS, rfl, B, p, sa, sd, nm, st9, rfl, x11, by omega, fun ql H12 tl' s12 _ hql hpl => ⟨ql, _, rfl, .inl (SqL.of hql), ?_⟩⟩
    have esent : (tl'.map V.ref).length = st9.lets.length := by rw [List.length_map, hpl.length]
    rw [esent]
    have x13 := x11.kept s12
    -- ended broken
    have yr := y9.rows
    have yo := y9.ovs
    refine ⟨_, rfl, p.L, p.dl, _, rfl, x13.r.lead, rfl, _, rfl, B, p, sa, sd, nm, st9, rfl, x13, by omega, by omega, by omega, fun H14 x14 kp14 => ?_⟩
    have kp8 : Kp p H8 H14 := (kp9.trans (Kp.of_same ((s10.trans sz).trans s12))).trans kp14
    have hbl14 := kp8.keeps apb hbl
    obtain ⟨lo0, el0⟩ := goBackS_on (sd := sd) (n := turnAt sd) (st := { st9 with fate := .str "broken" }) (turn_le sd) rfl y9.closed y9.rows y9.ovs
    have x14' : At a B H14 p sa sd nm (goBackS sd { st9 with fate := .str "broken" } (turnAt sd)) := x14
    generalize goBackS sd { st9 with fate := .str "broken" } (turnAt sd) = st0 at x14' lo0 el0
    have el0' : st0.lets = st9.lets ++ dueL sd (backL sd) := el0
    -- the numbers
    refine ⟨_, rfl, _, rfl, _, rfl, c, _, rfl, x14.r.same.seq hcB, fun sl nsl => ⟨by show 1 ≤ sizeLine; decide, fun l3 nl3 => ?_⟩⟩
    have ssl := Same.upd (o := .lst (cutV (ns.map V.int) (some 2) (some 46))) nsl
    have sl3 := Same.upd (o := .lst [.int 3]) nl3
    have hcl := cutV_length (ns.map V.int) (some 2) (some 46)
    rw [List.length_map] at hcl
    refine ⟨sl, l3, _, _, rfl, rfl, sl3 _ _ upd_same, upd_same, by show _ + 1 ≤ _; omega, fun lp nlp => ?_⟩
    obtain ⟨ms, hms, hml⟩ : ∃ ms : List Int, cutV (ns.map V.int) (some 2) (some 46) ++ [V.int 3] = ms.map V.int ∧ ms.length ≤ 64 := by
      unfold cutV at hcl ⊢
      refine ⟨((ns.drop (HT.sIx (ns.map V.int).length 0 (some 2))).take (HT.sIx (ns.map V.int).length (ns.map V.int).length (some 46) - HT.sIx (ns.map V.int).length 0 (some 2))) ++ [3], ?_, ?_⟩
      · rw [List.map_append, List.map_take, List.map_drop]
        rfl
      · rw [List.length_append, List.length_take, List.length_drop]
        simp
        omega
    have slp := Same.upd (o := .lst (cutV (ns.map V.int) (some 2) (some 46) ++ [V.int 3])) nlp
    have s17 := (ssl.trans sl3).trans slp
    have x17 := x14'.kept s17
    have apl : Apart p B lp := (x14'.kept (ssl.trans sl3)).apart nlp
    refine ⟨lp, rfl, ⟨_, SqL.of upd_same⟩, for_list (K := K) (a := lp) (xs := cutV (ns.map V.int) (some 2) (some 46) ++ [V.int 3])
      (fun i σ H' => ∃ (bl : Addr) (b : List Nat) (m : Nat) (st : LS) (mv : Bool) (pre : List Lt) (v6 v7 v11 v12 v13 : Option V),
        σ = [some (.ref c), some (.ref p.tn), some (.ref q), some (.ref p.L), some (.ref p.S), some (.ref bl), v6, v7, some (.int (pre.length : Int)), some .non, some (.bl mv), v11, v12, v13, none] ∧
        At a B H' p sa sd nm st ∧ H' bl = some (.lst (b.map nV)) ∧ Apart p B bl ∧ H' lp = some (.lst (cutV (ns.map V.int) (some 2) (some 46) ++ [V.int 3])) ∧ Left sd b m ∧ Loop m st ∧ st.lets = pre ++ askL sd b mv ∧ st.lets.length ≤ 101 + i)
      ⟨bl, backL sd, _, st0, true, st9.lets, _, _, _, _, _, rfl, x17, s17 _ _ hbl14, apb, upd_same, lf0, lo0, el0', ?_⟩ (fun i σ H' _ ⟨_, _, _, _, _, _, _, _, _, _, _, _, _, _, _, h, _⟩ => SqL.of h) ?_ ?_⟩
    · rw [el0', List.length_append]
      have := dueL_len sd (backL sd)
      omega
    · rintro i y σ H1 hi ⟨bl, b, m, st, mv, pre, v6, v7, v11, v12, v13, rfl, x1, hb, ab, hlp, lf, lo, el, ln⟩
      obtain ⟨num, rfl⟩ : ∃ num : Int, y = .int num := by
        rw [hms, List.getElem?_map] at hi
        cases e : ms[i]? with
        | none => rw [e] at hi; cases hi
        | some z => rw [e] at hi; exact ⟨z, by cases hi; rfl⟩
      have hi64 : i < 64 := by
        have := (List.getElem?_eq_some_iff.mp hi).1
        rw [hms, List.length_map] at this
        omega
      have apl' : H1 lp = _ := hlp
      have llH := llB.same x1.r.same
      -- what is due
      refine ⟨Nat.zero_le _, fun d0 nd0 => ?_⟩
      have sd0 := Same.upd (o := .lst []) nd0
      refine ⟨fun σ' H' => ∃ du : Addr, σ' = [some (.ref c), some (.ref p.tn), some (.ref q), some (.ref p.L), some (.ref p.S), some (.ref bl), v6, v7, some (.int (pre.length : Int)), some .non, some (.bl mv), some (.int num), some (.ref du), v13, none] ∧ Same H1 H' ∧ IsD K H' du (askD nm sd b mv), ?_, ?_⟩
      · cases mv with
        | false => exact ⟨_, rfl, _, rfl, ite_false_of rfl ⟨d0, rfl, sd0, ⟨[], upd_same, .nil, rfl⟩⟩⟩
        | true =>
          refine ⟨_, rfl, _, rfl, ite_true_of rfl ?_⟩
          refine ⟨_, rfl, _, rfl, _, rfl, p.tn, q, bl, tl, sd, b, rfl, llH.same sd0, sd0 _ _ hb, lf.lt, ?_⟩
          cases b with
          | nil => exact .inl ⟨rfl, fun z H' e hz => ⟨z, rfl, sd0.trans e, ⟨[], hz, .nil, rfl⟩⟩⟩
          | cons j r =>
            obtain ⟨em, er⟩ := lf.head
            subst em
            obtain ⟨s, hs, _, _⟩ := lf.cons
            refine .inr ⟨j, r, s, rfl, hs, fun z u y m e H' e1 h1 h2 h3 h4 h5 => ⟨z, rfl, sd0.trans e1, ?_⟩⟩
            refine ⟨[.ref u], h1, ?_, ?_⟩
            · show DpAll K H' [.ref u] (dueDs nm sd (j :: r))
              rw [dueDs_cons hs]
              exact .cons (told_dp ((sd0.trans e1) _ _ x1.ht) ⟨y, m, e, h2, h3, h4, h5⟩) .nil
            · show 1 = (dueDs nm sd (j :: r)).length
              rw [dueDs_cons hs]
              rfl
      rintro σ' H2 ⟨du, rfl, s2, hdu⟩
      have x2 := x1.kept s2
      -- the row
      refine ⟨_, rfl, by show 2 ≤ sizeLine; decide, fun t1 nt1 => ⟨by show 1 ≤ sizeLine; decide, fun r1 nr1 => ?_⟩⟩
      have st1 := Same.upd (o := .tup [.str "over", .ref p.tn]) nt1
      have sr1 := Same.upd (o := .lst [.ref t1]) nr1
      have s3 := (st1.trans sr1)
      refine ⟨fun σ' H' => ∃ rw : Addr, σ' = [some (.ref c), some (.ref p.tn), some (.ref q), some (.ref p.L), some (.ref p.S), some (.ref bl), v6, v7, some (.int (pre.length : Int)), some .non, some (.bl mv), some (.int num), some (.ref du), some (.ref rw), none] ∧ Same H2 H' ∧ IsD K H' rw (askR nm b), ?_, ?_⟩
      · refine ⟨_, rfl, Nat.zero_le _, fun z nz => ?_⟩
        have sz := Same.upd (o := .lst []) nz
        refine ⟨.list (b.map nD), .list [], .lst (SqL.of ((s2.trans (s3.trans sz)) _ _ hb)) (dp_nats _), .lst (SqL.of upd_same) .nil, shaped_nats _, by decide, _, rfl, ?_⟩
        rw [eqv_nilN]
        cases b with
        | nil => exact iteF ⟨r1, rfl, s3.trans sz, ⟨[.ref t1], sz _ _ upd_same, .cons (over_dp ((s3.trans sz) _ _ x2.ht) ((sr1.trans sz) _ _ upd_same)) .nil, rfl⟩⟩
        | cons j r => exact iteT ⟨Nat.zero_le _, fun z2 nz2 => ⟨z2, rfl, (s3.trans sz).trans (Same.upd nz2), ⟨[], upd_same, .nil, rfl⟩⟩⟩
      rintro σ' H4 ⟨rw, rfl, s4, hrw⟩
      have x4 := x2.kept s4
      have hsz2 : ∀ k : Nat, k ≤ 1000 → k ≤ sizeLine := fun k h => by rw [hsz]; omega
      have hd1 := hdu.same s4
      refine ⟨_, rfl, rfl, _, rfl, ite_false_of (show (!decide (V.non = V.non)) = false by decide) ?_⟩
      refine ⟨_, rfl, p.S, p.dS, _, rfl, x4.hS, rfl, B, p, sa, sd, nm, st, rfl, x4, by omega, fun ql H5 tl5 s5 _ hql hpl => ⟨_, rfl, _, rfl, ql, _, rfl, SqL.of hql, fun cu ncu => ?_⟩⟩
      rw [cut_from]
      have scu := Same.upd (o := .lst ((tl5.map V.ref).drop pre.length)) ncu
      have hpd := paired_drop pre.length hpl
      rw [el, List.drop_append_of_le_length (Nat.le_refl _), List.drop_length, List.nil_append] at hpd
      have x6 := (x4.kept s5).kept scu
      have tdp : DpAll K H5 ((tl5.drop pre.length).map V.ref) (askD nm sd b mv) := told_ask lf (x4.kept s5).ht hpd
      rw [List.map_drop] at tdp
      refine ⟨_, rfl, .list (askD nm sd b mv), .list (askD nm sd b mv), .lst (SqL.of upd_same) (dpAll_same scu tdp), (hd1.same (s5.trans scu)).dp, (askD_good nm sd b mv).1, (askD_good nm sd b mv).1, _, rfl, ite_false_of ?_ ?_⟩
      · rw [(askD_good nm sd b mv).2]
        rfl
      refine ⟨_, rfl, p.S, p.dS, _, rfl, x6.hS, rfl, B, p, sa, sd, nm, st, rfl, x6, fun qr H7 rs s7 hqr hrs hrr => ⟨_, rfl, ?_⟩⟩
      have x7 := x6.kept s7
      refine ⟨.list (askR nm b), .list (askR nm b), .lst (SqL.of hqr) (rows_ask lf x7.ht (hrs.trans lo.rows) hrr), ((hrw.same (s5.trans scu)).same s7).dp, (askR_good nm b).1, (askR_good nm b).1, _, rfl, ite_false_of ?_ ?_⟩
      · rw [(askR_good nm b).2]
        rfl
      have s17' : Same H1 H7 := s2.trans (s4.trans (s5.trans (scu.trans s7)))
      have hb7 := s17' _ _ hb
      have hlp7 := s17' _ _ hlp
      obtain ⟨ds, hds, _, hdl⟩ := hdu
      rw [ask_len lf] at hdl
      have esn : ((pre.length : Int) + (ds.length : Int)) = (st.lets.length : Int) := by
        rw [el, List.length_append, hdl]
        omega
      refine ⟨_, rfl, _, rfl, du, ds, rfl, .inl (SqL.of ((s4.trans (s5.trans (scu.trans s7))) _ _ hds)), _, _, rfl, rfl, ?_⟩
      have nx : ∀ (H' : Hp) (b' : List Nat) (m' : Nat) (st' : LS) (mv' : Bool), st'.lets = st.lets ++ askL sd b' mv' → st'.lets.length ≤ 101 + (i + 1) := fun H' b' m' st' mv' e => by
        rw [e, List.length_append]
        have := dueL_len sd b'
        have : (askL sd b' mv').length ≤ 1 := by
          cases mv' with
          | true => exact dueL_len sd b'
          | false => exact Nat.zero_le _
        omega
      have lt1 : st.lets.length < 1000 := by omega
      refine ⟨_, rfl, _, _, rfl, rfl, by show (0 : Int) < 4; decide, rfl, _, rfl, ?_⟩
      by_cases c2 : num % 4 = 2
      · refine ite_true_of (dY (show V.int (num % 4) = V.int 2 by rw [c2])) ?_
        refine ⟨_, rfl, _, _, rfl, rfl, cd _ _ (by decide) (by decide), _, _, rfl, rfl, by show (0 : Int) < 2; decide, rfl, _, rfl, ?_⟩
        by_cases c3 : num / 4 % 2 = 0
        · refine ite_true_of (dY (show V.int (num / 4 % 2) = V.int 0 by rw [c3])) ?_
          refine ⟨_, rfl, p.L, p.dl, _, rfl, x7.r.lead, rfl, _, rfl, B, p, sa, sd, nm, st, rfl, x7, lt1, .inl ⟨lo.fate, m, lo.back, lf.le, lo.small.1, lo.small.2, fun H' x' kp => ?_⟩⟩
          have g := goBackS_again lf lo
          refine ⟨bl, b, m, _, true, st.lets, v6, v7, some (.int num), some (.ref du), some (.ref rw), ?_, x', kp.keeps ab hb7, ab, kp.keeps apl hlp7, lf, g.1, g.2, nx H' b m _ true g.2⟩
          rw [← esn]
          rfl
        · refine ite_false_of (dN fun e => c3 (V.int.inj e)) ?_
          refine ⟨fun σ' H' => ∃ mv' : Bool, (mv' = true ↔ (num % 4 < 2 ∧ b ≠ [])) ∧ σ' = [some (.ref c), some (.ref p.tn), some (.ref q), some (.ref p.L), some (.ref p.S), some (.ref bl), v6, v7, some (.int ((pre.length : Int) + (ds.length : Int))), some .non, some (.bl mv'), some (.int num), some (.ref du), some (.ref rw), none] ∧ Same H7 H', ?_, ?_⟩
          · refine ⟨_, rfl, _, _, rfl, rfl, by show (0 : Int) < 4; decide, _, _, rfl, rfl, _, rfl, ?_⟩
            by_cases c4 : num % 4 < 2
            · refine ite_true_of (dY c4) ?_
              refine ⟨_, rfl, Nat.zero_le _, fun z nz => ?_⟩
              have sz := Same.upd (o := .lst []) nz
              refine ⟨.list (b.map nD), .list [], .lst (SqL.of (sz _ _ hb7)) (dp_nats _), .lst (SqL.of upd_same) .nil, shaped_nats _, by decide, ?_⟩
              rw [eqv_nilN]
              refine ⟨_, ?_, rfl, sz⟩
              cases b with
              | nil => exact ⟨(fun h => nomatch h), fun h => absurd rfl h.2⟩
              | cons j r => exact ⟨fun _ => ⟨c4, List.cons_ne_nil _ _⟩, fun _ => rfl⟩
            · exact ite_false_of (dN c4) ⟨false, ⟨(fun h => nomatch h), fun h => absurd h.1 c4⟩, rfl, Same.refl _⟩
          · rintro σ' H8 ⟨mv', hmv, rfl, s8⟩
            have x8 := x7.kept s8
            have hb8 := s8 _ _ hb7
            have hlp8 := s8 _ _ hlp7
            refine ⟨_, rfl, _, rfl, _, rfl, _, rfl, _, rfl, B, p, sa, sd, nm, st, q, bl, tl, b, m, num, rfl, x8, llB.same x8.r.same, hb8, lf, lo, lt1, fun cc H' st' m' x' lf' lo' el' kp => ?_, fun cc H' s' => ?_⟩
            · have emv := hmv.mpr cc
              subst emv
              refine ⟨_, rfl, _, rfl, ite_true_of rfl ?_⟩
              refine ⟨_, rfl, _, rfl, bl, _, rfl, SqL.of (kp.keeps ab hb8), fun bl2 nbl2 => ?_⟩
              have sb2 := Same.upd (o := .lst (cutV (b.map nV) (some 1) none)) nbl2
              have ecut : cutV (b.map nV) (some 1) none = b.tail.map nV := by
                have := cut_from (b.map nV) 1
                rw [List.drop_one, ← List.map_tail] at this
                exact this
              refine ⟨bl2, b.tail, m', st', true, st.lets, v6, v7, some (.int num), some (.ref du), some (.ref rw), ?_, x'.kept sb2, ?_, x'.apart nbl2, sb2 _ _ (kp.keeps apl hlp8), lf', lo', el', nx H' b.tail m' st' true el'⟩
              · rw [← esn]
                rfl
              · rw [ecut]
                exact upd_same
            · have emv : mv' = false := by
                cases mv' with
                | false => rfl
                | true => exact absurd (hmv.mp rfl) cc
              subst emv
              have el' : st.lets = st.lets ++ askL sd b false := (List.append_nil _).symm
              refine ⟨_, rfl, _, rfl, ite_false_of rfl ?_⟩
              refine ⟨bl, b, m, st, false, st.lets, v6, v7, some (.int num), some (.ref du), some (.ref rw), ?_, x8.kept s', s' _ _ hb8, ab, s' _ _ hlp8, lf, lo, el', nx H' b m st false el'⟩
              rw [← esn]
              rfl
      · refine ite_false_of (dN fun e => c2 (V.int.inj e)) (ite_false_of rfl ?_)
        refine ⟨fun σ' H' => ∃ mv' : Bool, (mv' = true ↔ (num % 4 < 2 ∧ b ≠ [])) ∧ σ' = [some (.ref c), some (.ref p.tn), some (.ref q), some (.ref p.L), some (.ref p.S), some (.ref bl), v6, v7, some (.int ((pre.length : Int) + (ds.length : Int))), some .non, some (.bl mv'), some (.int num), some (.ref du), some (.ref rw), none] ∧ Same H7 H', ?_, ?_⟩
        · refine ⟨_, rfl, _, _, rfl, rfl, by show (0 : Int) < 4; decide, _, _, rfl, rfl, _, rfl, ?_⟩
          by_cases c4 : num % 4 < 2
          · refine ite_true_of (dY c4) ?_
            refine ⟨_, rfl, Nat.zero_le _, fun z nz => ?_⟩
            have sz := Same.upd (o := .lst []) nz
            refine ⟨.list (b.map nD), .list [], .lst (SqL.of (sz _ _ hb7)) (dp_nats _), .lst (SqL.of upd_same) .nil, shaped_nats _, by decide, ?_⟩
            rw [eqv_nilN]
            refine ⟨_, ?_, rfl, sz⟩
            cases b with
            | nil => exact ⟨(fun h => nomatch h), fun h => absurd rfl h.2⟩
            | cons j r => exact ⟨fun _ => ⟨c4, List.cons_ne_nil _ _⟩, fun _ => rfl⟩
          · exact ite_false_of (dN c4) ⟨false, ⟨(fun h => nomatch h), fun h => absurd h.1 c4⟩, rfl, Same.refl _⟩
        · rintro σ' H8 ⟨mv', hmv, rfl, s8⟩
          have x8 := x7.kept s8
          have hb8 := s8 _ _ hb7
          have hlp8 := s8 _ _ hlp7
          refine ⟨_, rfl, _, rfl, _, rfl, _, rfl, _, rfl, B, p, sa, sd, nm, st, q, bl, tl, b, m, num, rfl, x8, llB.same x8.r.same, hb8, lf, lo, lt1, fun cc H' st' m' x' lf' lo' el' kp => ?_, fun cc H' s' => ?_⟩
          · have emv := hmv.mpr cc
            subst emv
            refine ⟨_, rfl, _, rfl, ite_true_of rfl ?_⟩
            refine ⟨_, rfl, _, rfl, bl, _, rfl, SqL.of (kp.keeps ab hb8), fun bl2 nbl2 => ?_⟩
            have sb2 := Same.upd (o := .lst (cutV (b.map nV) (some 1) none)) nbl2
            have ecut : cutV (b.map nV) (some 1) none = b.tail.map nV := by
              have := cut_from (b.map nV) 1
              rw [List.drop_one, ← List.map_tail] at this
              exact this
            refine ⟨bl2, b.tail, m', st', true, st.lets, v6, v7, some (.int num), some (.ref du), some (.ref rw), ?_, x'.kept sb2, ?_, x'.apart nbl2, sb2 _ _ (kp.keeps apl hlp8), lf', lo', el', nx H' b.tail m' st' true el'⟩
            · rw [← esn]
              rfl
            · rw [ecut]
              exact upd_same
          · have emv : mv' = false := by
              cases mv' with
              | false => rfl
              | true => exact absurd (hmv.mp rfl) cc
            subst emv
            have el' : st.lets = st.lets ++ askL sd b false := (List.append_nil _).symm
            refine ⟨_, rfl, _, rfl, ite_false_of rfl ?_⟩
            refine ⟨bl, b, m, st, false, st.lets, v6, v7, some (.int num), some (.ref du), some (.ref rw), ?_, x8.kept s', s' _ _ hb8, ab, s' _ _ hlp8, lf, lo, el', nx H' b m st false el'⟩
            rw [← esn]
            rfl
    · rintro σ H' _
      exact k H'
end
end Pk

set_option Elab.async false
set_option linter.all false
set_option maxRecDepth 100000
set_option maxHeartbeats 4000000
/-! The end: what the top has written, found by k_is. -/
namespace Pk
open PySem PySem.Spec PyProof.Rows L2
theorem fn1_mk {K : PySem.W.Frag} {x qual : Str} {st : Stmt} {ps : List Str} {f : Addr} {oc : Value} {od an : Option Addr} {osl : Array (Option Value)} {kV doc pm cdv ct : Value}
    (hb : ∀ (kV doc pm : Value) (an : Option Addr) (cdv ct : Value) (us : List Value), us.length = ps.length → bindArgs (PySem.W.fnOf x qual (C8.fnArgs st) (C8.fnBody st) (C8.fnScope st) .none kV doc pm an cdv ct) ⟨us, []⟩ = pure (ps.zip us))
    (l : K.lookup f = some ⟨oc, od, .func (PySem.W.fnOf x qual (C8.fnArgs st) (C8.fnBody st) (C8.fnScope st) .none kV doc pm an cdv ct), osl⟩) (c : PySem.W.codeIn K cdv qual = true) (k : PySem.W.keepIn K (.ref f) = true) : Fn1 K x qual st ps f :=
  have F : C8.Fun K x qual st f (PySem.W.fnOf x qual (C8.fnArgs st) (C8.fnBody st) (C8.fnScope st) .none kV doc pm an cdv ct) := ⟨⟨oc, od, .none, kV, doc, pm, an, cdv, ct, osl, rfl, l, c⟩⟩
  ⟨⟨_, F, C8.Fun.binds F rfl hb⟩, k⟩
theorem exm_self {K : PySem.W.Frag} {S : Addr} (h1 : PySem.W.subIn K (.ref S) (.type "BaseException") = some true) (h2 : PySem.W.isClsIn K S = true) (h3 : PySem.W.typeIn K (.ref S) = some (.type "type")) (h4 : PySem.W.subIn K (.ref S) (.ref S) = some true) :
    PySem.W.exmOne K (.ref S) (.ref S) = some true := by
  have e1 : (PySem.W.subIn K (.ref S) (.type "BaseException") == some true) = true := by rw [h1] <;> rfl
  have e2 : ((PySem.W.clsIn K S).isSome && PySem.W.typeIn K (.ref S) == some (.type "type")) = true := by
    have h2' : (PySem.W.clsIn K S).isSome = true := h2
    rw [h2', h3] <;> rfl
  show (if (PySem.W.subIn K (.ref S) (.type "BaseException") == some true) = true then (if ((PySem.W.clsIn K S).isSome && PySem.W.typeIn K (.ref S) == some (.type "type")) = true then PySem.W.subIn K (.ref S) (.ref S) else none) else none) = some true
  rw [if_pos e1, if_pos e2]
  exact h4
theorem bd_whole : ∀ (kV doc pm : Value) (an : Option Addr) (cdv ct : Value) (us : List Value), us.length = (["word", "most"] : List Str).length → bindArgs (PySem.W.fnOf "whole_or_none" "whole_or_none" (C8.fnArgs s_whole) (C8.fnBody s_whole) (C8.fnScope s_whole) .none kV doc pm an cdv ct) ⟨us, []⟩ = pure ((["word", "most"] : List Str).zip us) := fun _ _ _ _ _ _ us hl => match us, hl with | [_, _], _ => rfl
theorem bd_stHouse : ∀ (kV doc pm : Value) (an : Option Addr) (cdv ct : Value) (us : List Value), us.length = (["self"] : List Str).length → bindArgs (PySem.W.fnOf "house" "Step.house" (C8.fnArgs s_stHouse) (C8.fnBody s_stHouse) (C8.fnScope s_stHouse) .none kV doc pm an cdv ct) ⟨us, []⟩ = pure ((["self"] : List Str).zip us) := fun _ _ _ _ _ _ us hl => match us, hl with | [_], _ => rfl
theorem bd_stSure : ∀ (kV doc pm : Value) (an : Option Addr) (cdv ct : Value) (us : List Value), us.length = (["self"] : List Str).length → bindArgs (PySem.W.fnOf "sure" "Step.sure" (C8.fnArgs s_stSure) (C8.fnBody s_stSure) (C8.fnScope s_stSure) .none kV doc pm an cdv ct) ⟨us, []⟩ = pure ((["self"] : List Str).zip us) := fun _ _ _ _ _ _ us hl => match us, hl with | [_], _ => rfl
theorem bd_ceInit : ∀ (kV doc pm : Value) (an : Option Addr) (cdv ct : Value) (us : List Value), us.length = (["self", "where", "cell"] : List Str).length → bindArgs (PySem.W.fnOf "__init__" "CellStep.__init__" (C8.fnArgs s_ceInit) (C8.fnBody s_ceInit) (C8.fnScope s_ceInit) .none kV doc pm an cdv ct) ⟨us, []⟩ = pure ((["self", "where", "cell"] : List Str).zip us) := fun _ _ _ _ _ _ us hl => match us, hl with | [_, _, _], _ => rfl
theorem bd_ceHouse : ∀ (kV doc pm : Value) (an : Option Addr) (cdv ct : Value) (us : List Value), us.length = (["self"] : List Str).length → bindArgs (PySem.W.fnOf "house" "CellStep.house" (C8.fnArgs s_ceHouse) (C8.fnBody s_ceHouse) (C8.fnScope s_ceHouse) .none kV doc pm an cdv ct) ⟨us, []⟩ = pure ((["self"] : List Str).zip us) := fun _ _ _ _ _ _ us hl => match us, hl with | [_], _ => rfl
theorem bd_atCell : ∀ (kV doc pm : Value) (an : Option Addr) (cdv ct : Value) (us : List Value), us.length = (["self", "word"] : List Str).length → bindArgs (PySem.W.fnOf "at_cell" "CellStep.at_cell" (C8.fnArgs s_atCell) (C8.fnBody s_atCell) (C8.fnScope s_atCell) .none kV doc pm an cdv ct) ⟨us, []⟩ = pure ((["self", "word"] : List Str).zip us) := fun _ _ _ _ _ _ us hl => match us, hl with | [_, _], _ => rfl
theorem bd_taSp : ∀ (kV doc pm : Value) (an : Option Addr) (cdv ct : Value) (us : List Value), us.length = (["self"] : List Str).length → bindArgs (PySem.W.fnOf "spelled" "TakeStep.spelled" (C8.fnArgs s_taSp) (C8.fnBody s_taSp) (C8.fnScope s_taSp) .none kV doc pm an cdv ct) ⟨us, []⟩ = pure ((["self"] : List Str).zip us) := fun _ _ _ _ _ _ us hl => match us, hl with | [_], _ => rfl
theorem bd_meSp : ∀ (kV doc pm : Value) (an : Option Addr) (cdv ct : Value) (us : List Value), us.length = (["self"] : List Str).length → bindArgs (PySem.W.fnOf "spelled" "MeanStep.spelled" (C8.fnArgs s_meSp) (C8.fnBody s_meSp) (C8.fnScope s_meSp) .none kV doc pm an cdv ct) ⟨us, []⟩ = pure ((["self"] : List Str).zip us) := fun _ _ _ _ _ _ us hl => match us, hl with | [_], _ => rfl
theorem bd_suInit : ∀ (kV doc pm : Value) (an : Option Addr) (cdv ct : Value) (us : List Value), us.length = (["self", "where", "low", "high"] : List Str).length → bindArgs (PySem.W.fnOf "__init__" "SumStep.__init__" (C8.fnArgs s_suInit) (C8.fnBody s_suInit) (C8.fnScope s_suInit) .none kV doc pm an cdv ct) ⟨us, []⟩ = pure ((["self", "where", "low", "high"] : List Str).zip us) := fun _ _ _ _ _ _ us hl => match us, hl with | [_, _, _, _], _ => rfl
theorem bd_suHouse : ∀ (kV doc pm : Value) (an : Option Addr) (cdv ct : Value) (us : List Value), us.length = (["self"] : List Str).length → bindArgs (PySem.W.fnOf "house" "SumStep.house" (C8.fnArgs s_suHouse) (C8.fnBody s_suHouse) (C8.fnScope s_suHouse) .none kV doc pm an cdv ct) ⟨us, []⟩ = pure ((["self"] : List Str).zip us) := fun _ _ _ _ _ _ us hl => match us, hl with | [_], _ => rfl
theorem bd_suSp : ∀ (kV doc pm : Value) (an : Option Addr) (cdv ct : Value) (us : List Value), us.length = (["self"] : List Str).length → bindArgs (PySem.W.fnOf "spelled" "SumStep.spelled" (C8.fnArgs s_suSp) (C8.fnBody s_suSp) (C8.fnScope s_suSp) .none kV doc pm an cdv ct) ⟨us, []⟩ = pure ((["self"] : List Str).zip us) := fun _ _ _ _ _ _ us hl => match us, hl with | [_], _ => rfl
theorem bd_giSure : ∀ (kV doc pm : Value) (an : Option Addr) (cdv ct : Value) (us : List Value), us.length = (["self"] : List Str).length → bindArgs (PySem.W.fnOf "sure" "GiveStep.sure" (C8.fnArgs s_giSure) (C8.fnBody s_giSure) (C8.fnScope s_giSure) .none kV doc pm an cdv ct) ⟨us, []⟩ = pure ((["self"] : List Str).zip us) := fun _ _ _ _ _ _ us hl => match us, hl with | [_], _ => rfl
theorem bd_giSp : ∀ (kV doc pm : Value) (an : Option Addr) (cdv ct : Value) (us : List Value), us.length = (["self"] : List Str).length → bindArgs (PySem.W.fnOf "spelled" "GiveStep.spelled" (C8.fnArgs s_giSp) (C8.fnBody s_giSp) (C8.fnScope s_giSp) .none kV doc pm an cdv ct) ⟨us, []⟩ = pure ((["self"] : List Str).zip us) := fun _ _ _ _ _ _ us hl => match us, hl with | [_], _ => rfl
theorem bd_adInit : ∀ (kV doc pm : Value) (an : Option Addr) (cdv ct : Value) (us : List Value), us.length = (["self", "where", "cell", "amount"] : List Str).length → bindArgs (PySem.W.fnOf "__init__" "AddStep.__init__" (C8.fnArgs s_adInit) (C8.fnBody s_adInit) (C8.fnScope s_adInit) .none kV doc pm an cdv ct) ⟨us, []⟩ = pure ((["self", "where", "cell", "amount"] : List Str).zip us) := fun _ _ _ _ _ _ us hl => match us, hl with | [_, _, _, _], _ => rfl
theorem bd_adSp : ∀ (kV doc pm : Value) (an : Option Addr) (cdv ct : Value) (us : List Value), us.length = (["self"] : List Str).length → bindArgs (PySem.W.fnOf "spelled" "AddStep.spelled" (C8.fnArgs s_adSp) (C8.fnBody s_adSp) (C8.fnScope s_adSp) .none kV doc pm an cdv ct) ⟨us, []⟩ = pure ((["self"] : List Str).zip us) := fun _ _ _ _ _ _ us hl => match us, hl with | [_], _ => rfl
theorem bd_plInit : ∀ (kV doc pm : Value) (an : Option Addr) (cdv ct : Value) (us : List Value), us.length = (["self", "amount"] : List Str).length → bindArgs (PySem.W.fnOf "__init__" "PlusStep.__init__" (C8.fnArgs s_plInit) (C8.fnBody s_plInit) (C8.fnScope s_plInit) .none kV doc pm an cdv ct) ⟨us, []⟩ = pure ((["self", "amount"] : List Str).zip us) := fun _ _ _ _ _ _ us hl => match us, hl with | [_, _], _ => rfl
theorem bd_plDone : ∀ (kV doc pm : Value) (an : Option Addr) (cdv ct : Value) (us : List Value), us.length = (["self", "hand", "value_of"] : List Str).length → bindArgs (PySem.W.fnOf "step_done" "PlusStep.step_done" (C8.fnArgs s_plDone) (C8.fnBody s_plDone) (C8.fnScope s_plDone) .none kV doc pm an cdv ct) ⟨us, []⟩ = pure ((["self", "hand", "value_of"] : List Str).zip us) := fun _ _ _ _ _ _ us hl => match us, hl with | [_, _, _], _ => rfl
theorem bd_neInit : ∀ (kV doc pm : Value) (an : Option Addr) (cdv ct : Value) (us : List Value), us.length = (["self", "amount"] : List Str).length → bindArgs (PySem.W.fnOf "__init__" "NeedStep.__init__" (C8.fnArgs s_neInit) (C8.fnBody s_neInit) (C8.fnScope s_neInit) .none kV doc pm an cdv ct) ⟨us, []⟩ = pure ((["self", "amount"] : List Str).zip us) := fun _ _ _ _ _ _ us hl => match us, hl with | [_, _], _ => rfl
theorem bd_neDone : ∀ (kV doc pm : Value) (an : Option Addr) (cdv ct : Value) (us : List Value), us.length = (["self", "hand", "value_of"] : List Str).length → bindArgs (PySem.W.fnOf "step_done" "NeedStep.step_done" (C8.fnArgs s_neDone) (C8.fnBody s_neDone) (C8.fnScope s_neDone) .none kV doc pm an cdv ct) ⟨us, []⟩ = pure ((["self", "hand", "value_of"] : List Str).zip us) := fun _ _ _ _ _ _ us hl => match us, hl with | [_, _, _], _ => rfl
theorem bd_atCellOr : ∀ (kV doc pm : Value) (an : Option Addr) (cdv ct : Value) (us : List Value), us.length = (["word", "where", "cell"] : List Str).length → bindArgs (PySem.W.fnOf "at_cell_or_none" "at_cell_or_none" (C8.fnArgs s_atCellOr) (C8.fnBody s_atCellOr) (C8.fnScope s_atCellOr) .none kV doc pm an cdv ct) ⟨us, []⟩ = pure ((["word", "where", "cell"] : List Str).zip us) := fun _ _ _ _ _ _ us hl => match us, hl with | [_, _, _], _ => rfl
theorem bd_stepOr : ∀ (kV doc pm : Value) (an : Option Addr) (cdv ct : Value) (us : List Value), us.length = (["word", "numbers"] : List Str).length → bindArgs (PySem.W.fnOf "step_or_none" "step_or_none" (C8.fnArgs s_stepOr) (C8.fnBody s_stepOr) (C8.fnScope s_stepOr) .none kV doc pm an cdv ct) ⟨us, []⟩ = pure ((["word", "numbers"] : List Str).zip us) := fun _ _ _ _ _ _ us hl => match us, hl with | [_, _], _ => rfl
theorem bd_readStep : ∀ (kV doc pm : Value) (an : Option Addr) (cdv ct : Value) (us : List Value), us.length = (["text"] : List Str).length → bindArgs (PySem.W.fnOf "read_step" "read_step" (C8.fnArgs s_readStep) (C8.fnBody s_readStep) (C8.fnScope s_readStep) .none kV doc pm an cdv ct) ⟨us, []⟩ = pure ((["text"] : List Str).zip us) := fun _ _ _ _ _ _ us hl => match us, hl with | [_], _ => rfl
theorem bd_paInit : ∀ (kV doc pm : Value) (an : Option Addr) (cdv ct : Value) (us : List Value), us.length = (["self", "manner", "steps"] : List Str).length → bindArgs (PySem.W.fnOf "__init__" "Pact.__init__" (C8.fnArgs s_paInit) (C8.fnBody s_paInit) (C8.fnScope s_paInit) .none kV doc pm an cdv ct) ⟨us, []⟩ = pure ((["self", "manner", "steps"] : List Str).zip us) := fun _ _ _ _ _ _ us hl => match us, hl with | [_, _, _], _ => rfl
theorem bd_readPact : ∀ (kV doc pm : Value) (an : Option Addr) (cdv ct : Value) (us : List Value), us.length = (["text"] : List Str).length → bindArgs (PySem.W.fnOf "read_pact" "read_pact" (C8.fnArgs s_readPact) (C8.fnBody s_readPact) (C8.fnScope s_readPact) .none kV doc pm an cdv ct) ⟨us, []⟩ = pure ((["text"] : List Str).zip us) := fun _ _ _ _ _ _ us hl => match us, hl with | [_], _ => rfl
theorem bd_turning : ∀ (kV doc pm : Value) (an : Option Addr) (cdv ct : Value) (us : List Value), us.length = (["pact"] : List Str).length → bindArgs (PySem.W.fnOf "turning" "turning" (C8.fnArgs s_turning) (C8.fnBody s_turning) (C8.fnScope s_turning) .none kV doc pm an cdv ct) ⟨us, []⟩ = pure ((["pact"] : List Str).zip us) := fun _ _ _ _ _ _ us hl => match us, hl with | [_], _ => rfl
theorem bd_leInit : ∀ (kV doc pm : Value) (an : Option Addr) (cdv ct : Value) (us : List Value), us.length = (["self", "name", "pact"] : List Str).length → bindArgs (PySem.W.fnOf "__init__" "Lead.__init__" (C8.fnArgs s_leInit) (C8.fnBody s_leInit) (C8.fnScope s_leInit) .none kV doc pm an cdv ct) ⟨us, []⟩ = pure ((["self", "name", "pact"] : List Str).zip us) := fun _ _ _ _ _ _ us hl => match us, hl with | [_, _, _], _ => rfl
theorem bd_place : ∀ (kV doc pm : Value) (an : Option Addr) (cdv ct : Value) (us : List Value), us.length = (["self"] : List Str).length → bindArgs (PySem.W.fnOf "place" "Lead.place" (C8.fnArgs s_place) (C8.fnBody s_place) (C8.fnScope s_place) .none kV doc pm an cdv ct) ⟨us, []⟩ = pure ((["self"] : List Str).zip us) := fun _ _ _ _ _ _ us hl => match us, hl with | [_], _ => rfl
theorem bd_stepNext : ∀ (kV doc pm : Value) (an : Option Addr) (cdv ct : Value) (us : List Value), us.length = (["self"] : List Str).length → bindArgs (PySem.W.fnOf "step_next" "Lead.step_next" (C8.fnArgs s_stepNext) (C8.fnBody s_stepNext) (C8.fnScope s_stepNext) .none kV doc pm an cdv ct) ⟨us, []⟩ = pure ((["self"] : List Str).zip us) := fun _ _ _ _ _ _ us hl => match us, hl with | [_], _ => rfl
theorem bd_handNow : ∀ (kV doc pm : Value) (an : Option Addr) (cdv ct : Value) (us : List Value), us.length = (["self"] : List Str).length → bindArgs (PySem.W.fnOf "hand_now" "Lead.hand_now" (C8.fnArgs s_handNow) (C8.fnBody s_handNow) (C8.fnScope s_handNow) .none kV doc pm an cdv ct) ⟨us, []⟩ = pure ((["self"] : List Str).zip us) := fun _ _ _ _ _ _ us hl => match us, hl with | [_], _ => rfl
theorem bd_plainSteps : ∀ (kV doc pm : Value) (an : Option Addr) (cdv ct : Value) (us : List Value), us.length = (["self"] : List Str).length → bindArgs (PySem.W.fnOf "plain_steps" "Lead.plain_steps" (C8.fnArgs s_plainSteps) (C8.fnBody s_plainSteps) (C8.fnScope s_plainSteps) .none kV doc pm an cdv ct) ⟨us, []⟩ = pure ((["self"] : List Str).zip us) := fun _ _ _ _ _ _ us hl => match us, hl with | [_], _ => rfl
theorem bd_sendStep : ∀ (kV doc pm : Value) (an : Option Addr) (cdv ct : Value) (us : List Value), us.length = (["self", "sheet", "word"] : List Str).length → bindArgs (PySem.W.fnOf "send_step" "Lead.send_step" (C8.fnArgs s_sendStep) (C8.fnBody s_sendStep) (C8.fnScope s_sendStep) .none kV doc pm an cdv ct) ⟨us, []⟩ = pure ((["self", "sheet", "word"] : List Str).zip us) := fun _ _ _ _ _ _ us hl => match us, hl with | [_, _, _], _ => rfl
theorem bd_turn : ∀ (kV doc pm : Value) (an : Option Addr) (cdv ct : Value) (us : List Value), us.length = (["self", "sheet"] : List Str).length → bindArgs (PySem.W.fnOf "turn" "Lead.turn" (C8.fnArgs s_turn) (C8.fnBody s_turn) (C8.fnScope s_turn) .none kV doc pm an cdv ct) ⟨us, []⟩ = pure ((["self", "sheet"] : List Str).zip us) := fun _ _ _ _ _ _ us hl => match us, hl with | [_, _], _ => rfl
theorem bd_waInit : ∀ (kV doc pm : Value) (an : Option Addr) (cdv ct : Value) (us : List Value), us.length = (["self", "name", "pact"] : List Str).length → bindArgs (PySem.W.fnOf "__init__" "WalkedLead.__init__" (C8.fnArgs s_waInit) (C8.fnBody s_waInit) (C8.fnScope s_waInit) .none kV doc pm an cdv ct) ⟨us, []⟩ = pure ((["self", "name", "pact"] : List Str).zip us) := fun _ _ _ _ _ _ us hl => match us, hl with | [_, _, _], _ => rfl
theorem bd_go : ∀ (kV doc pm : Value) (an : Option Addr) (cdv ct : Value) (us : List Value), us.length = (["self", "sheet"] : List Str).length → bindArgs (PySem.W.fnOf "go" "WalkedLead.go" (C8.fnArgs s_go) (C8.fnBody s_go) (C8.fnScope s_go) .none kV doc pm an cdv ct) ⟨us, []⟩ = pure ((["self", "sheet"] : List Str).zip us) := fun _ _ _ _ _ _ us hl => match us, hl with | [_, _], _ => rfl
theorem bd_goBack : ∀ (kV doc pm : Value) (an : Option Addr) (cdv ct : Value) (us : List Value), us.length = (["self", "sheet"] : List Str).length → bindArgs (PySem.W.fnOf "go_back" "WalkedLead.go_back" (C8.fnArgs s_goBack) (C8.fnBody s_goBack) (C8.fnScope s_goBack) .none kV doc pm an cdv ct) ⟨us, []⟩ = pure ((["self", "sheet"] : List Str).zip us) := fun _ _ _ _ _ _ us hl => match us, hl with | [_, _], _ => rfl
theorem bd_close : ∀ (kV doc pm : Value) (an : Option Addr) (cdv ct : Value) (us : List Value), us.length = (["self", "sheet"] : List Str).length → bindArgs (PySem.W.fnOf "close" "WalkedLead.close" (C8.fnArgs s_close) (C8.fnBody s_close) (C8.fnScope s_close) .none kV doc pm an cdv ct) ⟨us, []⟩ = pure ((["self", "sheet"] : List Str).zip us) := fun _ _ _ _ _ _ us hl => match us, hl with | [_, _], _ => rfl
theorem bd_came : ∀ (kV doc pm : Value) (an : Option Addr) (cdv ct : Value) (us : List Value), us.length = (["self", "sheet", "word", "sender", "more"] : List Str).length → bindArgs (PySem.W.fnOf "came" "WalkedLead.came" (C8.fnArgs s_came) (C8.fnBody s_came) (C8.fnScope s_came) .none kV doc pm an cdv ct) ⟨us, []⟩ = pure ((["self", "sheet", "word", "sender", "more"] : List Str).zip us) := fun _ _ _ _ _ _ us hl => match us, hl with | [_, _, _, _, _], _ => rfl
theorem bd_up : ∀ (kV doc pm : Value) (an : Option Addr) (cdv ct : Value) (us : List Value), us.length = (["self", "outcome", "hands"] : List Str).length → bindArgs (PySem.W.fnOf "up" "WalkedLead.up" (C8.fnArgs s_up) (C8.fnBody s_up) (C8.fnScope s_up) .none kV doc pm an cdv ct) ⟨us, []⟩ = pure ((["self", "outcome", "hands"] : List Str).zip us) := fun _ _ _ _ _ _ us hl => match us, hl with | [_, _, _], _ => rfl
theorem bd_end_ : ∀ (kV doc pm : Value) (an : Option Addr) (cdv ct : Value) (us : List Value), us.length = (["self", "sheet", "outcome"] : List Str).length → bindArgs (PySem.W.fnOf "end" "WalkedLead.end" (C8.fnArgs s_end_) (C8.fnBody s_end_) (C8.fnScope s_end_) .none kV doc pm an cdv ct) ⟨us, []⟩ = pure ((["self", "sheet", "outcome"] : List Str).zip us) := fun _ _ _ _ _ _ us hl => match us, hl with | [_, _, _], _ => rfl
theorem bd_shInit : ∀ (kV doc pm : Value) (an : Option Addr) (cdv ct : Value) (us : List Value), us.length = (["self", "stand"] : List Str).length → bindArgs (PySem.W.fnOf "__init__" "Sheet.__init__" (C8.fnArgs s_shInit) (C8.fnBody s_shInit) (C8.fnScope s_shInit) .none kV doc pm an cdv ct) ⟨us, []⟩ = pure ((["self", "stand"] : List Str).zip us) := fun _ _ _ _ _ _ us hl => match us, hl with | [_, _], _ => rfl
theorem bd_row : ∀ (kV doc pm : Value) (an : Option Addr) (cdv ct : Value) (us : List Value), us.length = (["self", "row"] : List Str).length → bindArgs (PySem.W.fnOf "row" "Sheet.row" (C8.fnArgs s_row) (C8.fnBody s_row) (C8.fnScope s_row) .none kV doc pm an cdv ct) ⟨us, []⟩ = pure ((["self", "row"] : List Str).zip us) := fun _ _ _ _ _ _ us hl => match us, hl with | [_, _], _ => rfl
theorem bd_send : ∀ (kV doc pm : Value) (an : Option Addr) (cdv ct : Value) (us : List Value), us.length = (["self", "to", "word", "name", "more"] : List Str).length → bindArgs (PySem.W.fnOf "send" "Sheet.send" (C8.fnArgs s_send) (C8.fnBody s_send) (C8.fnScope s_send) .none kV doc pm an cdv ct) ⟨us, []⟩ = pure ((["self", "to", "word", "name", "more"] : List Str).zip us) := fun _ _ _ _ _ _ us hl => match us, hl with | [_, _, _, _, _], _ => rfl
theorem bd_rowsTold : ∀ (kV doc pm : Value) (an : Option Addr) (cdv ct : Value) (us : List Value), us.length = (["self"] : List Str).length → bindArgs (PySem.W.fnOf "rows_told" "Sheet.rows_told" (C8.fnArgs s_rowsTold) (C8.fnBody s_rowsTold) (C8.fnScope s_rowsTold) .none kV doc pm an cdv ct) ⟨us, []⟩ = pure ((["self"] : List Str).zip us) := fun _ _ _ _ _ _ us hl => match us, hl with | [_], _ => rfl
theorem bd_lettersTold : ∀ (kV doc pm : Value) (an : Option Addr) (cdv ct : Value) (us : List Value), us.length = (["self"] : List Str).length → bindArgs (PySem.W.fnOf "letters_told" "Sheet.letters_told" (C8.fnArgs s_lettersTold) (C8.fnBody s_lettersTold) (C8.fnScope s_lettersTold) .none kV doc pm an cdv ct) ⟨us, []⟩ = pure ((["self"] : List Str).zip us) := fun _ _ _ _ _ _ us hl => match us, hl with | [_], _ => rfl
theorem bd_sdInit : ∀ (kV doc pm : Value) (an : Option Addr) (cdv ct : Value) (us : List Value), us.length = (["self", "cells"] : List Str).length → bindArgs (PySem.W.fnOf "__init__" "Stand.__init__" (C8.fnArgs s_sdInit) (C8.fnBody s_sdInit) (C8.fnScope s_sdInit) .none kV doc pm an cdv ct) ⟨us, []⟩ = pure ((["self", "cells"] : List Str).zip us) := fun _ _ _ _ _ _ us hl => match us, hl with | [_, _], _ => rfl
theorem bd_keep : ∀ (kV doc pm : Value) (an : Option Addr) (cdv ct : Value) (us : List Value), us.length = (["self", "row"] : List Str).length → bindArgs (PySem.W.fnOf "keep" "Stand.keep" (C8.fnArgs s_keep) (C8.fnBody s_keep) (C8.fnScope s_keep) .none kV doc pm an cdv ct) ⟨us, []⟩ = pure ((["self", "row"] : List Str).zip us) := fun _ _ _ _ _ _ us hl => match us, hl with | [_, _], _ => rfl
theorem bd_news : ∀ (kV doc pm : Value) (an : Option Addr) (cdv ct : Value) (us : List Value), us.length = (["self"] : List Str).length → bindArgs (PySem.W.fnOf "news" "Stand.news" (C8.fnArgs s_news) (C8.fnBody s_news) (C8.fnScope s_news) .none kV doc pm an cdv ct) ⟨us, []⟩ = pure ((["self"] : List Str).zip us) := fun _ _ _ _ _ _ us hl => match us, hl with | [_], _ => rfl
theorem bd_lCell : ∀ (kV doc pm : Value) (an : Option Addr) (cdv ct : Value) (us : List Value), us.length = (["_law_script", "_law_k"] : List Str).length → bindArgs (PySem.W.fnOf "_law_cell_at" "_law_cell_at" (C8.fnArgs s_lCell) (C8.fnBody s_lCell) (C8.fnScope s_lCell) .none kV doc pm an cdv ct) ⟨us, []⟩ = pure ((["_law_script", "_law_k"] : List Str).zip us) := fun _ _ _ _ _ _ us hl => match us, hl with | [_, _], _ => rfl
theorem bd_lAmount : ∀ (kV doc pm : Value) (an : Option Addr) (cdv ct : Value) (us : List Value), us.length = (["_law_number"] : List Str).length → bindArgs (PySem.W.fnOf "_law_amount" "_law_amount" (C8.fnArgs s_lAmount) (C8.fnBody s_lAmount) (C8.fnScope s_lAmount) .none kV doc pm an cdv ct) ⟨us, []⟩ = pure ((["_law_number"] : List Str).zip us) := fun _ _ _ _ _ _ us hl => match us, hl with | [_], _ => rfl
theorem bd_lStep : ∀ (kV doc pm : Value) (an : Option Addr) (cdv ct : Value) (us : List Value), us.length = (["_law_number", "_law_given", "_law_none"] : List Str).length → bindArgs (PySem.W.fnOf "_law_step" "_law_step" (C8.fnArgs s_lStep) (C8.fnBody s_lStep) (C8.fnScope s_lStep) .none kV doc pm an cdv ct) ⟨us, []⟩ = pure ((["_law_number", "_law_given", "_law_none"] : List Str).zip us) := fun _ _ _ _ _ _ us hl => match us, hl with | [_, _, _], _ => rfl
theorem bd_lSteps : ∀ (kV doc pm : Value) (an : Option Addr) (cdv ct : Value) (us : List Value), us.length = (["_law_script"] : List Str).length → bindArgs (PySem.W.fnOf "_law_steps" "_law_steps" (C8.fnArgs s_lSteps) (C8.fnBody s_lSteps) (C8.fnScope s_lSteps) .none kV doc pm an cdv ct) ⟨us, []⟩ = pure ((["_law_script"] : List Str).zip us) := fun _ _ _ _ _ _ us hl => match us, hl with | [_], _ => rfl
theorem bd_lLast : ∀ (kV doc pm : Value) (an : Option Addr) (cdv ct : Value) (us : List Value), us.length = (["_law_hands"] : List Str).length → bindArgs (PySem.W.fnOf "_law_last" "_law_last" (C8.fnArgs s_lLast) (C8.fnBody s_lLast) (C8.fnScope s_lLast) .none kV doc pm an cdv ct) ⟨us, []⟩ = pure ((["_law_hands"] : List Str).zip us) := fun _ _ _ _ _ _ us hl => match us, hl with | [_], _ => rfl
theorem bd_lPlain : ∀ (kV doc pm : Value) (an : Option Addr) (cdv ct : Value) (us : List Value), us.length = (["_law_steps_here", "_law_hands"] : List Str).length → bindArgs (PySem.W.fnOf "_law_plain" "_law_plain" (C8.fnArgs s_lPlain) (C8.fnBody s_lPlain) (C8.fnScope s_lPlain) .none kV doc pm an cdv ct) ⟨us, []⟩ = pure ((["_law_steps_here", "_law_hands"] : List Str).zip us) := fun _ _ _ _ _ _ us hl => match us, hl with | [_, _], _ => rfl
theorem bd_lWay : ∀ (kV doc pm : Value) (an : Option Addr) (cdv ct : Value) (us : List Value), us.length = (["_law_lead", "_law_sheet", "_law_steps_here", "_law_many", "_law_script"] : List Str).length → bindArgs (PySem.W.fnOf "_law_way" "_law_way" (C8.fnArgs s_lWay) (C8.fnBody s_lWay) (C8.fnScope s_lWay) .none kV doc pm an cdv ct) ⟨us, []⟩ = pure ((["_law_lead", "_law_sheet", "_law_steps_here", "_law_many", "_law_script"] : List Str).zip us) := fun _ _ _ _ _ _ us hl => match us, hl with | [_, _, _, _, _], _ => rfl
theorem bd_lBack : ∀ (kV doc pm : Value) (an : Option Addr) (cdv ct : Value) (us : List Value), us.length = (["_law_steps_here"] : List Str).length → bindArgs (PySem.W.fnOf "_law_back" "_law_back" (C8.fnArgs s_lBack) (C8.fnBody s_lBack) (C8.fnScope s_lBack) .none kV doc pm an cdv ct) ⟨us, []⟩ = pure ((["_law_steps_here"] : List Str).zip us) := fun _ _ _ _ _ _ us hl => match us, hl with | [_], _ => rfl
theorem bd_lDue : ∀ (kV doc pm : Value) (an : Option Addr) (cdv ct : Value) (us : List Value), us.length = (["_law_name", "_law_steps_here", "_law_back_here"] : List Str).length → bindArgs (PySem.W.fnOf "_law_due" "_law_due" (C8.fnArgs s_lDue) (C8.fnBody s_lDue) (C8.fnScope s_lDue) .none kV doc pm an cdv ct) ⟨us, []⟩ = pure ((["_law_name", "_law_steps_here", "_law_back_here"] : List Str).zip us) := fun _ _ _ _ _ _ us hl => match us, hl with | [_, _, _], _ => rfl
theorem bd_lCame : ∀ (kV doc pm : Value) (an : Option Addr) (cdv ct : Value) (us : List Value), us.length = (["_law_lead", "_law_sheet", "_law_steps_here", "_law_back_here", "_law_number"] : List Str).length → bindArgs (PySem.W.fnOf "_law_came" "_law_came" (C8.fnArgs s_lCame) (C8.fnBody s_lCame) (C8.fnScope s_lCame) .none kV doc pm an cdv ct) ⟨us, []⟩ = pure ((["_law_lead", "_law_sheet", "_law_steps_here", "_law_back_here", "_law_number"] : List Str).zip us) := fun _ _ _ _ _ _ us hl => match us, hl with | [_, _, _, _, _], _ => rfl
theorem bd_law : ∀ (kV doc pm : Value) (an : Option Addr) (cdv ct : Value) (us : List Value), us.length = (["_law_script"] : List Str).length → bindArgs (PySem.W.fnOf "law" "law" (C8.fnArgs s_law) (C8.fnBody s_law) (C8.fnScope s_law) .none kV doc pm an cdv ct) ⟨us, []⟩ = pure ((["_law_script"] : List Str).zip us) := fun _ _ _ _ _ _ us hl => match us, hl with | [_], _ => rfl
theorem all_mk {P : Program} {w : World} {K : PySem.W.Frag} {h : Heap} {mg : Str → Option Value} {fa cStep cCell cTake cMean cSum cGive cAdd cPlus cNeed cPact cLead cWalk cSheet cStand cNoNeed f_whole f_stHouse f_stSure f_ceInit f_ceHouse f_atCell f_taSp f_meSp f_suInit f_suHouse f_suSp f_giSure f_giSp f_adInit f_adSp f_plInit f_plDone f_neInit f_neDone f_atCellOr f_stepOr f_readStep f_paInit f_readPact f_turning f_leInit f_place f_stepNext f_handNow f_plainSteps f_sendStep f_turn f_waInit f_go f_goBack f_close f_came f_up f_end_ f_shInit f_row f_send f_rowsTold f_lettersTold f_sdInit f_keep f_news f_lCell f_lAmount f_lStep f_lSteps f_lLast f_lPlain f_lWay f_lBack f_lDue f_lCame f_law f_noCell : Addr}
    {oc kV dc pm cd ct : Value} {od an : Option Addr} {sl : Array (Option Value)} {t0 t1 t2 t3 : Tok}
    (X : K.In h) (G : h.Ns mainGlobals mg) (hfa : mg "law" = some (.ref fa))
    (aCell : PySem.W.nsIn K mainGlobals "CellStep" = some (some (.ref cCell)))
    (aTake : PySem.W.nsIn K mainGlobals "TakeStep" = some (some (.ref cTake)))
    (aMean : PySem.W.nsIn K mainGlobals "MeanStep" = some (some (.ref cMean)))
    (aSum : PySem.W.nsIn K mainGlobals "SumStep" = some (some (.ref cSum)))
    (aGive : PySem.W.nsIn K mainGlobals "GiveStep" = some (some (.ref cGive)))
    (aAdd : PySem.W.nsIn K mainGlobals "AddStep" = some (some (.ref cAdd)))
    (aPlus : PySem.W.nsIn K mainGlobals "PlusStep" = some (some (.ref cPlus)))
    (aNeed : PySem.W.nsIn K mainGlobals "NeedStep" = some (some (.ref cNeed)))
    (aPact : PySem.W.nsIn K mainGlobals "Pact" = some (some (.ref cPact)))
    (aLead : PySem.W.nsIn K mainGlobals "Lead" = some (some (.ref cLead)))
    (aWalk : PySem.W.nsIn K mainGlobals "WalkedLead" = some (some (.ref cWalk)))
    (aSheet : PySem.W.nsIn K mainGlobals "Sheet" = some (some (.ref cSheet)))
    (aStand : PySem.W.nsIn K mainGlobals "Stand" = some (some (.ref cStand)))
    (aNoNeed : PySem.W.nsIn K mainGlobals "NoNeed" = some (some (.ref cNoNeed)))
    (aStep : PySem.W.nsIn K mainGlobals "Step" = some (some (.ref cStep)))
    (a_whole : PySem.W.nsIn K mainGlobals "whole_or_none" = some (some (.ref f_whole)))
    (a_atCellOr : PySem.W.nsIn K mainGlobals "at_cell_or_none" = some (some (.ref f_atCellOr)))
    (a_stepOr : PySem.W.nsIn K mainGlobals "step_or_none" = some (some (.ref f_stepOr)))
    (a_readStep : PySem.W.nsIn K mainGlobals "read_step" = some (some (.ref f_readStep)))
    (a_readPact : PySem.W.nsIn K mainGlobals "read_pact" = some (some (.ref f_readPact)))
    (a_turning : PySem.W.nsIn K mainGlobals "turning" = some (some (.ref f_turning)))
    (a_lCell : PySem.W.nsIn K mainGlobals "_law_cell_at" = some (some (.ref f_lCell)))
    (a_lAmount : PySem.W.nsIn K mainGlobals "_law_amount" = some (some (.ref f_lAmount)))
    (a_lStep : PySem.W.nsIn K mainGlobals "_law_step" = some (some (.ref f_lStep)))
    (a_lSteps : PySem.W.nsIn K mainGlobals "_law_steps" = some (some (.ref f_lSteps)))
    (a_lLast : PySem.W.nsIn K mainGlobals "_law_last" = some (some (.ref f_lLast)))
    (a_lPlain : PySem.W.nsIn K mainGlobals "_law_plain" = some (some (.ref f_lPlain)))
    (a_lWay : PySem.W.nsIn K mainGlobals "_law_way" = some (some (.ref f_lWay)))
    (a_lBack : PySem.W.nsIn K mainGlobals "_law_back" = some (some (.ref f_lBack)))
    (a_lDue : PySem.W.nsIn K mainGlobals "_law_due" = some (some (.ref f_lDue)))
    (a_lCame : PySem.W.nsIn K mainGlobals "_law_came" = some (some (.ref f_lCame)))
    (a_law : PySem.W.nsIn K mainGlobals "law" = some (some (.ref f_law)))
    (a_noCell : PySem.W.nsIn K mainGlobals "no_cell" = some (some (.ref f_noCell)))
    (iTake : PySem.W.findIn K (.ref cTake) "__init__" = some (some (.ref f_ceInit)))
    (iMean : PySem.W.findIn K (.ref cMean) "__init__" = some (some (.ref f_ceInit)))
    (iSum : PySem.W.findIn K (.ref cSum) "__init__" = some (some (.ref f_suInit)))
    (iGive : PySem.W.findIn K (.ref cGive) "__init__" = some (some (.ref f_ceInit)))
    (iAdd : PySem.W.findIn K (.ref cAdd) "__init__" = some (some (.ref f_adInit)))
    (iPlus : PySem.W.findIn K (.ref cPlus) "__init__" = some (some (.ref f_plInit)))
    (iNeed : PySem.W.findIn K (.ref cNeed) "__init__" = some (some (.ref f_neInit)))
    (iPact : PySem.W.findIn K (.ref cPact) "__init__" = some (some (.ref f_paInit)))
    (iWalk : PySem.W.findIn K (.ref cWalk) "__init__" = some (some (.ref f_waInit)))
    (iSheet : PySem.W.findIn K (.ref cSheet) "__init__" = some (some (.ref f_shInit)))
    (iStand : PySem.W.findIn K (.ref cStand) "__init__" = some (some (.ref f_sdInit)))
    (vLead : PySem.W.findCls K (.ref cLead) (.type "type") "__init__" = some (.val (.ref f_leInit)))
    (vCell : PySem.W.findCls K (.ref cCell) (.type "type") "__init__" = some (.val (.ref f_ceInit)))
    (mTake_house : PySem.W.findIn K (.ref cTake) "house" = some (some (.ref f_ceHouse)))
    (mMean_house : PySem.W.findIn K (.ref cMean) "house" = some (some (.ref f_ceHouse)))
    (mGive_house : PySem.W.findIn K (.ref cGive) "house" = some (some (.ref f_ceHouse)))
    (mAdd_house : PySem.W.findIn K (.ref cAdd) "house" = some (some (.ref f_ceHouse)))
    (mSum_house : PySem.W.findIn K (.ref cSum) "house" = some (some (.ref f_suHouse)))
    (mPlus_house : PySem.W.findIn K (.ref cPlus) "house" = some (some (.ref f_stHouse)))
    (mNeed_house : PySem.W.findIn K (.ref cNeed) "house" = some (some (.ref f_stHouse)))
    (mTake_sure : PySem.W.findIn K (.ref cTake) "sure" = some (some (.ref f_stSure)))
    (mMean_sure : PySem.W.findIn K (.ref cMean) "sure" = some (some (.ref f_stSure)))
    (mAdd_sure : PySem.W.findIn K (.ref cAdd) "sure" = some (some (.ref f_stSure)))
    (mSum_sure : PySem.W.findIn K (.ref cSum) "sure" = some (some (.ref f_stSure)))
    (mPlus_sure : PySem.W.findIn K (.ref cPlus) "sure" = some (some (.ref f_stSure)))
    (mNeed_sure : PySem.W.findIn K (.ref cNeed) "sure" = some (some (.ref f_stSure)))
    (mGive_sure : PySem.W.findIn K (.ref cGive) "sure" = some (some (.ref f_giSure)))
    (mTake_at_cell : PySem.W.findIn K (.ref cTake) "at_cell" = some (some (.ref f_atCell)))
    (mMean_at_cell : PySem.W.findIn K (.ref cMean) "at_cell" = some (some (.ref f_atCell)))
    (mGive_at_cell : PySem.W.findIn K (.ref cGive) "at_cell" = some (some (.ref f_atCell)))
    (mAdd_at_cell : PySem.W.findIn K (.ref cAdd) "at_cell" = some (some (.ref f_atCell)))
    (mTake_spelled : PySem.W.findIn K (.ref cTake) "spelled" = some (some (.ref f_taSp)))
    (mMean_spelled : PySem.W.findIn K (.ref cMean) "spelled" = some (some (.ref f_meSp)))
    (mSum_spelled : PySem.W.findIn K (.ref cSum) "spelled" = some (some (.ref f_suSp)))
    (mGive_spelled : PySem.W.findIn K (.ref cGive) "spelled" = some (some (.ref f_giSp)))
    (mAdd_spelled : PySem.W.findIn K (.ref cAdd) "spelled" = some (some (.ref f_adSp)))
    (mPlus_step_done : PySem.W.findIn K (.ref cPlus) "step_done" = some (some (.ref f_plDone)))
    (mNeed_step_done : PySem.W.findIn K (.ref cNeed) "step_done" = some (some (.ref f_neDone)))
    (mWalk_place : PySem.W.findIn K (.ref cWalk) "place" = some (some (.ref f_place)))
    (mWalk_step_next : PySem.W.findIn K (.ref cWalk) "step_next" = some (some (.ref f_stepNext)))
    (mWalk_hand_now : PySem.W.findIn K (.ref cWalk) "hand_now" = some (some (.ref f_handNow)))
    (mWalk_plain_steps : PySem.W.findIn K (.ref cWalk) "plain_steps" = some (some (.ref f_plainSteps)))
    (mWalk_send_step : PySem.W.findIn K (.ref cWalk) "send_step" = some (some (.ref f_sendStep)))
    (mWalk_turn : PySem.W.findIn K (.ref cWalk) "turn" = some (some (.ref f_turn)))
    (mWalk_go : PySem.W.findIn K (.ref cWalk) "go" = some (some (.ref f_go)))
    (mWalk_go_back : PySem.W.findIn K (.ref cWalk) "go_back" = some (some (.ref f_goBack)))
    (mWalk_close : PySem.W.findIn K (.ref cWalk) "close" = some (some (.ref f_close)))
    (mWalk_came : PySem.W.findIn K (.ref cWalk) "came" = some (some (.ref f_came)))
    (mWalk_up : PySem.W.findIn K (.ref cWalk) "up" = some (some (.ref f_up)))
    (mWalk_end : PySem.W.findIn K (.ref cWalk) "end" = some (some (.ref f_end_)))
    (mSheet_row : PySem.W.findIn K (.ref cSheet) "row" = some (some (.ref f_row)))
    (mSheet_send : PySem.W.findIn K (.ref cSheet) "send" = some (some (.ref f_send)))
    (mSheet_rows_told : PySem.W.findIn K (.ref cSheet) "rows_told" = some (some (.ref f_rowsTold)))
    (mSheet_letters_told : PySem.W.findIn K (.ref cSheet) "letters_told" = some (some (.ref f_lettersTold)))
    (mStand_keep : PySem.W.findIn K (.ref cStand) "keep" = some (some (.ref f_keep)))
    (mStand_news : PySem.W.findIn K (.ref cStand) "news" = some (some (.ref f_news)))
    (F_whole : Fn1 K "whole_or_none" "whole_or_none" s_whole ["word", "most"] f_whole)
    (F_stHouse : Fn1 K "house" "Step.house" s_stHouse ["self"] f_stHouse)
    (F_stSure : Fn1 K "sure" "Step.sure" s_stSure ["self"] f_stSure)
    (F_ceInit : Fn1 K "__init__" "CellStep.__init__" s_ceInit ["self", "where", "cell"] f_ceInit)
    (F_ceHouse : Fn1 K "house" "CellStep.house" s_ceHouse ["self"] f_ceHouse)
    (F_atCell : Fn1 K "at_cell" "CellStep.at_cell" s_atCell ["self", "word"] f_atCell)
    (F_taSp : Fn1 K "spelled" "TakeStep.spelled" s_taSp ["self"] f_taSp)
    (F_meSp : Fn1 K "spelled" "MeanStep.spelled" s_meSp ["self"] f_meSp)
    (F_suInit : Fn1 K "__init__" "SumStep.__init__" s_suInit ["self", "where", "low", "high"] f_suInit)
    (F_suHouse : Fn1 K "house" "SumStep.house" s_suHouse ["self"] f_suHouse)
    (F_suSp : Fn1 K "spelled" "SumStep.spelled" s_suSp ["self"] f_suSp)
    (F_giSure : Fn1 K "sure" "GiveStep.sure" s_giSure ["self"] f_giSure)
    (F_giSp : Fn1 K "spelled" "GiveStep.spelled" s_giSp ["self"] f_giSp)
    (F_adInit : Fn1 K "__init__" "AddStep.__init__" s_adInit ["self", "where", "cell", "amount"] f_adInit)
    (F_adSp : Fn1 K "spelled" "AddStep.spelled" s_adSp ["self"] f_adSp)
    (F_plInit : Fn1 K "__init__" "PlusStep.__init__" s_plInit ["self", "amount"] f_plInit)
    (F_plDone : Fn1 K "step_done" "PlusStep.step_done" s_plDone ["self", "hand", "value_of"] f_plDone)
    (F_neInit : Fn1 K "__init__" "NeedStep.__init__" s_neInit ["self", "amount"] f_neInit)
    (F_neDone : Fn1 K "step_done" "NeedStep.step_done" s_neDone ["self", "hand", "value_of"] f_neDone)
    (F_atCellOr : Fn1 K "at_cell_or_none" "at_cell_or_none" s_atCellOr ["word", "where", "cell"] f_atCellOr)
    (F_stepOr : Fn1 K "step_or_none" "step_or_none" s_stepOr ["word", "numbers"] f_stepOr)
    (F_readStep : Fn1 K "read_step" "read_step" s_readStep ["text"] f_readStep)
    (F_paInit : Fn1 K "__init__" "Pact.__init__" s_paInit ["self", "manner", "steps"] f_paInit)
    (F_readPact : Fn1 K "read_pact" "read_pact" s_readPact ["text"] f_readPact)
    (F_turning : Fn1 K "turning" "turning" s_turning ["pact"] f_turning)
    (F_leInit : Fn1 K "__init__" "Lead.__init__" s_leInit ["self", "name", "pact"] f_leInit)
    (F_place : Fn1 K "place" "Lead.place" s_place ["self"] f_place)
    (F_stepNext : Fn1 K "step_next" "Lead.step_next" s_stepNext ["self"] f_stepNext)
    (F_handNow : Fn1 K "hand_now" "Lead.hand_now" s_handNow ["self"] f_handNow)
    (F_plainSteps : Fn1 K "plain_steps" "Lead.plain_steps" s_plainSteps ["self"] f_plainSteps)
    (F_sendStep : Fn1 K "send_step" "Lead.send_step" s_sendStep ["self", "sheet", "word"] f_sendStep)
    (F_turn : Fn1 K "turn" "Lead.turn" s_turn ["self", "sheet"] f_turn)
    (F_waInit : Fn1 K "__init__" "WalkedLead.__init__" s_waInit ["self", "name", "pact"] f_waInit)
    (F_go : Fn1 K "go" "WalkedLead.go" s_go ["self", "sheet"] f_go)
    (F_goBack : Fn1 K "go_back" "WalkedLead.go_back" s_goBack ["self", "sheet"] f_goBack)
    (F_close : Fn1 K "close" "WalkedLead.close" s_close ["self", "sheet"] f_close)
    (F_came : Fn1 K "came" "WalkedLead.came" s_came ["self", "sheet", "word", "sender", "more"] f_came)
    (F_up : Fn1 K "up" "WalkedLead.up" s_up ["self", "outcome", "hands"] f_up)
    (F_end_ : Fn1 K "end" "WalkedLead.end" s_end_ ["self", "sheet", "outcome"] f_end_)
    (F_shInit : Fn1 K "__init__" "Sheet.__init__" s_shInit ["self", "stand"] f_shInit)
    (F_row : Fn1 K "row" "Sheet.row" s_row ["self", "row"] f_row)
    (F_send : Fn1 K "send" "Sheet.send" s_send ["self", "to", "word", "name", "more"] f_send)
    (F_rowsTold : Fn1 K "rows_told" "Sheet.rows_told" s_rowsTold ["self"] f_rowsTold)
    (F_lettersTold : Fn1 K "letters_told" "Sheet.letters_told" s_lettersTold ["self"] f_lettersTold)
    (F_sdInit : Fn1 K "__init__" "Stand.__init__" s_sdInit ["self", "cells"] f_sdInit)
    (F_keep : Fn1 K "keep" "Stand.keep" s_keep ["self", "row"] f_keep)
    (F_news : Fn1 K "news" "Stand.news" s_news ["self"] f_news)
    (F_lCell : Fn1 K "_law_cell_at" "_law_cell_at" s_lCell ["_law_script", "_law_k"] f_lCell)
    (F_lAmount : Fn1 K "_law_amount" "_law_amount" s_lAmount ["_law_number"] f_lAmount)
    (F_lStep : Fn1 K "_law_step" "_law_step" s_lStep ["_law_number", "_law_given", "_law_none"] f_lStep)
    (F_lSteps : Fn1 K "_law_steps" "_law_steps" s_lSteps ["_law_script"] f_lSteps)
    (F_lLast : Fn1 K "_law_last" "_law_last" s_lLast ["_law_hands"] f_lLast)
    (F_lPlain : Fn1 K "_law_plain" "_law_plain" s_lPlain ["_law_steps_here", "_law_hands"] f_lPlain)
    (F_lWay : Fn1 K "_law_way" "_law_way" s_lWay ["_law_lead", "_law_sheet", "_law_steps_here", "_law_many", "_law_script"] f_lWay)
    (F_lBack : Fn1 K "_law_back" "_law_back" s_lBack ["_law_steps_here"] f_lBack)
    (F_lDue : Fn1 K "_law_due" "_law_due" s_lDue ["_law_name", "_law_steps_here", "_law_back_here"] f_lDue)
    (F_lCame : Fn1 K "_law_came" "_law_came" s_lCame ["_law_lead", "_law_sheet", "_law_steps_here", "_law_back_here", "_law_number"] f_lCame)
    (l_law : K.lookup f_law = some ⟨oc, od, .func (PySem.W.fnOf "law" "law" (C8.fnArgs s_law) (C8.fnBody s_law) (C8.fnScope s_law) .none kV dc pm an cd ct), sl⟩)
    (c_law : PySem.W.codeIn K cd "law" = true)
    (k_law : PySem.W.keepIn K (.ref f_law) = true)
    (j_ceInit : PySem.W.isFn K (.ref f_ceInit) = true)
    (j_suInit : PySem.W.isFn K (.ref f_suInit) = true)
    (j_adInit : PySem.W.isFn K (.ref f_adInit) = true)
    (j_plInit : PySem.W.isFn K (.ref f_plInit) = true)
    (j_neInit : PySem.W.isFn K (.ref f_neInit) = true)
    (j_paInit : PySem.W.isFn K (.ref f_paInit) = true)
    (j_waInit : PySem.W.isFn K (.ref f_waInit) = true)
    (j_shInit : PySem.W.isFn K (.ref f_shInit) = true)
    (j_sdInit : PySem.W.isFn K (.ref f_sdInit) = true)
    (j_ceHouse : PySem.W.isFn K (.ref f_ceHouse) = true)
    (j_suHouse : PySem.W.isFn K (.ref f_suHouse) = true)
    (j_stHouse : PySem.W.isFn K (.ref f_stHouse) = true)
    (j_stSure : PySem.W.isFn K (.ref f_stSure) = true)
    (j_giSure : PySem.W.isFn K (.ref f_giSure) = true)
    (j_atCell : PySem.W.isFn K (.ref f_atCell) = true)
    (j_taSp : PySem.W.isFn K (.ref f_taSp) = true)
    (j_meSp : PySem.W.isFn K (.ref f_meSp) = true)
    (j_suSp : PySem.W.isFn K (.ref f_suSp) = true)
    (j_giSp : PySem.W.isFn K (.ref f_giSp) = true)
    (j_adSp : PySem.W.isFn K (.ref f_adSp) = true)
    (j_plDone : PySem.W.isFn K (.ref f_plDone) = true)
    (j_neDone : PySem.W.isFn K (.ref f_neDone) = true)
    (j_place : PySem.W.isFn K (.ref f_place) = true)
    (j_stepNext : PySem.W.isFn K (.ref f_stepNext) = true)
    (j_handNow : PySem.W.isFn K (.ref f_handNow) = true)
    (j_plainSteps : PySem.W.isFn K (.ref f_plainSteps) = true)
    (j_sendStep : PySem.W.isFn K (.ref f_sendStep) = true)
    (j_turn : PySem.W.isFn K (.ref f_turn) = true)
    (j_go : PySem.W.isFn K (.ref f_go) = true)
    (j_goBack : PySem.W.isFn K (.ref f_goBack) = true)
    (j_close : PySem.W.isFn K (.ref f_close) = true)
    (j_came : PySem.W.isFn K (.ref f_came) = true)
    (j_up : PySem.W.isFn K (.ref f_up) = true)
    (j_end_ : PySem.W.isFn K (.ref f_end_) = true)
    (j_row : PySem.W.isFn K (.ref f_row) = true)
    (j_send : PySem.W.isFn K (.ref f_send) = true)
    (j_rowsTold : PySem.W.isFn K (.ref f_rowsTold) = true)
    (j_lettersTold : PySem.W.isFn K (.ref f_lettersTold) = true)
    (j_keep : PySem.W.isFn K (.ref f_keep) = true)
    (j_news : PySem.W.isFn K (.ref f_news) = true)
    (pgTake : PySem.W.plainGet K cTake Str.empty = true)
    (hdTake : PySem.W.hasDictIn K cTake = true)
    (poTake : PySem.W.plainOver K cTake = true)
    (saTake : PySem.W.findIn K (.ref cTake) "__setattr__" = some (some (.builtin "object.__setattr__")))
    (mkTake : PySem.W.makesIn K cTake = true)
    (kcTake : PySem.W.keepIn K (.ref cTake) = true)
    (nTake_where : PySem.W.findIn K (.ref cTake) "where" = some none)
    (nTake_cell : PySem.W.findIn K (.ref cTake) "cell" = some none)
    (pgMean : PySem.W.plainGet K cMean Str.empty = true)
    (hdMean : PySem.W.hasDictIn K cMean = true)
    (poMean : PySem.W.plainOver K cMean = true)
    (saMean : PySem.W.findIn K (.ref cMean) "__setattr__" = some (some (.builtin "object.__setattr__")))
    (mkMean : PySem.W.makesIn K cMean = true)
    (kcMean : PySem.W.keepIn K (.ref cMean) = true)
    (nMean_where : PySem.W.findIn K (.ref cMean) "where" = some none)
    (nMean_cell : PySem.W.findIn K (.ref cMean) "cell" = some none)
    (pgSum : PySem.W.plainGet K cSum Str.empty = true)
    (hdSum : PySem.W.hasDictIn K cSum = true)
    (poSum : PySem.W.plainOver K cSum = true)
    (saSum : PySem.W.findIn K (.ref cSum) "__setattr__" = some (some (.builtin "object.__setattr__")))
    (mkSum : PySem.W.makesIn K cSum = true)
    (kcSum : PySem.W.keepIn K (.ref cSum) = true)
    (nSum_where : PySem.W.findIn K (.ref cSum) "where" = some none)
    (nSum_low : PySem.W.findIn K (.ref cSum) "low" = some none)
    (nSum_high : PySem.W.findIn K (.ref cSum) "high" = some none)
    (pgGive : PySem.W.plainGet K cGive Str.empty = true)
    (hdGive : PySem.W.hasDictIn K cGive = true)
    (poGive : PySem.W.plainOver K cGive = true)
    (saGive : PySem.W.findIn K (.ref cGive) "__setattr__" = some (some (.builtin "object.__setattr__")))
    (mkGive : PySem.W.makesIn K cGive = true)
    (kcGive : PySem.W.keepIn K (.ref cGive) = true)
    (nGive_where : PySem.W.findIn K (.ref cGive) "where" = some none)
    (nGive_cell : PySem.W.findIn K (.ref cGive) "cell" = some none)
    (pgAdd : PySem.W.plainGet K cAdd Str.empty = true)
    (hdAdd : PySem.W.hasDictIn K cAdd = true)
    (poAdd : PySem.W.plainOver K cAdd = true)
    (saAdd : PySem.W.findIn K (.ref cAdd) "__setattr__" = some (some (.builtin "object.__setattr__")))
    (mkAdd : PySem.W.makesIn K cAdd = true)
    (kcAdd : PySem.W.keepIn K (.ref cAdd) = true)
    (nAdd_where : PySem.W.findIn K (.ref cAdd) "where" = some none)
    (nAdd_cell : PySem.W.findIn K (.ref cAdd) "cell" = some none)
    (nAdd_amount : PySem.W.findIn K (.ref cAdd) "amount" = some none)
    (pgPlus : PySem.W.plainGet K cPlus Str.empty = true)
    (hdPlus : PySem.W.hasDictIn K cPlus = true)
    (poPlus : PySem.W.plainOver K cPlus = true)
    (saPlus : PySem.W.findIn K (.ref cPlus) "__setattr__" = some (some (.builtin "object.__setattr__")))
    (mkPlus : PySem.W.makesIn K cPlus = true)
    (kcPlus : PySem.W.keepIn K (.ref cPlus) = true)
    (nPlus_amount : PySem.W.findIn K (.ref cPlus) "amount" = some none)
    (pgNeed : PySem.W.plainGet K cNeed Str.empty = true)
    (hdNeed : PySem.W.hasDictIn K cNeed = true)
    (poNeed : PySem.W.plainOver K cNeed = true)
    (saNeed : PySem.W.findIn K (.ref cNeed) "__setattr__" = some (some (.builtin "object.__setattr__")))
    (mkNeed : PySem.W.makesIn K cNeed = true)
    (kcNeed : PySem.W.keepIn K (.ref cNeed) = true)
    (nNeed_amount : PySem.W.findIn K (.ref cNeed) "amount" = some none)
    (pgPact : PySem.W.plainGet K cPact Str.empty = true)
    (hdPact : PySem.W.hasDictIn K cPact = true)
    (poPact : PySem.W.plainOver K cPact = true)
    (saPact : PySem.W.findIn K (.ref cPact) "__setattr__" = some (some (.builtin "object.__setattr__")))
    (mkPact : PySem.W.makesIn K cPact = true)
    (kcPact : PySem.W.keepIn K (.ref cPact) = true)
    (nPact_manner : PySem.W.findIn K (.ref cPact) "manner" = some none)
    (nPact_steps : PySem.W.findIn K (.ref cPact) "steps" = some none)
    (pgWalk : PySem.W.plainGet K cWalk Str.empty = true)
    (hdWalk : PySem.W.hasDictIn K cWalk = true)
    (poWalk : PySem.W.plainOver K cWalk = true)
    (saWalk : PySem.W.findIn K (.ref cWalk) "__setattr__" = some (some (.builtin "object.__setattr__")))
    (mkWalk : PySem.W.makesIn K cWalk = true)
    (kcWalk : PySem.W.keepIn K (.ref cWalk) = true)
    (nWalk_name : PySem.W.findIn K (.ref cWalk) "name" = some none)
    (nWalk_pact : PySem.W.findIn K (.ref cWalk) "pact" = some none)
    (nWalk_hands : PySem.W.findIn K (.ref cWalk) "hands" = some none)
    (nWalk_fate : PySem.W.findIn K (.ref cWalk) "fate" = some none)
    (nWalk_waited : PySem.W.findIn K (.ref cWalk) "waited" = some none)
    (nWalk_back_at : PySem.W.findIn K (.ref cWalk) "back_at" = some none)
    (nWalk_closed : PySem.W.findIn K (.ref cWalk) "closed" = some none)
    (pgSheet : PySem.W.plainGet K cSheet Str.empty = true)
    (hdSheet : PySem.W.hasDictIn K cSheet = true)
    (poSheet : PySem.W.plainOver K cSheet = true)
    (saSheet : PySem.W.findIn K (.ref cSheet) "__setattr__" = some (some (.builtin "object.__setattr__")))
    (mkSheet : PySem.W.makesIn K cSheet = true)
    (kcSheet : PySem.W.keepIn K (.ref cSheet) = true)
    (nSheet_ground : PySem.W.findIn K (.ref cSheet) "ground" = some none)
    (nSheet_lines : PySem.W.findIn K (.ref cSheet) "lines" = some none)
    (nSheet_wishes : PySem.W.findIn K (.ref cSheet) "wishes" = some none)
    (pgStand : PySem.W.plainGet K cStand Str.empty = true)
    (hdStand : PySem.W.hasDictIn K cStand = true)
    (poStand : PySem.W.plainOver K cStand = true)
    (saStand : PySem.W.findIn K (.ref cStand) "__setattr__" = some (some (.builtin "object.__setattr__")))
    (mkStand : PySem.W.makesIn K cStand = true)
    (kcStand : PySem.W.keepIn K (.ref cStand) = true)
    (nStand_numbers : PySem.W.findIn K (.ref cStand) "numbers" = some none)
    (nStand_texts : PySem.W.findIn K (.ref cStand) "texts" = some none)
    (nStand_worked : PySem.W.findIn K (.ref cStand) "worked" = some none)
    (nStand_readies : PySem.W.findIn K (.ref cStand) "readies" = some none)
    (nStand_ends : PySem.W.findIn K (.ref cStand) "ends" = some none)
    (nStand_marks : PySem.W.findIn K (.ref cStand) "marks" = some none)
    (nStand_overs : PySem.W.findIn K (.ref cStand) "overs" = some none)
    (z_len : PySem.W.nsIn K mainGlobals "len" = some none)
    (z_str : PySem.W.nsIn K mainGlobals "str" = some none)
    (z_int : PySem.W.nsIn K mainGlobals "int" = some none)
    (z_list : PySem.W.nsIn K mainGlobals "list" = some none)
    (z_range : PySem.W.nsIn K mainGlobals "range" = some none)
    (z_tuple : PySem.W.nsIn K mainGlobals "tuple" = some none)
    (z_sorted : PySem.W.nsIn K mainGlobals "sorted" = some none)
    (z_enumerate : PySem.W.nsIn K mainGlobals "enumerate" = some none)
    (z_reversed : PySem.W.nsIn K mainGlobals "reversed" = some none)
    (v_FIGURES : PySem.W.nsIn K mainGlobals "FIGURES" = some (some (.str "0123456789" t0)))
    (v_MOST_FIGURES_TOLD : PySem.W.nsIn K mainGlobals "MOST_FIGURES_TOLD" = some (some (.int 40 t1)))
    (v_MOST_STEPS : PySem.W.nsIn K mainGlobals "MOST_STEPS" = some (some (.int 12 t2)))
    (v_PATIENCE : PySem.W.nsIn K mainGlobals "PATIENCE" = some (some (.int 4 t3)))
    (rdLead : PySem.W.readsIn K cLead (.type "type") = true)
    (gaLead : PySem.W.specialIn K (.ref cLead) "__getattribute__" = some (some (.builtin "type.__getattribute__")))
    (rdCell : PySem.W.readsIn K cCell (.type "type") = true)
    (gaCell : PySem.W.specialIn K (.ref cCell) "__getattribute__" = some (some (.builtin "type.__getattribute__")))
    (xNoNeed : PySem.W.excIn K cNoNeed [.type "ValueError", .type "Exception", .type "BaseException", .type "object"] "ValueError.__new__" = true)
    (kNoNeed : PySem.W.keepIn K (.ref cNoNeed) = true)
    (bNoNeed : PySem.W.subIn K (.ref cNoNeed) (.type "BaseException") = some true)
    (tNoNeed : PySem.W.typeIn K (.ref cNoNeed) = some (.type "type"))
    (isNoNeed : PySem.W.isClsIn K cNoNeed = true)
    (sNoNeed : PySem.W.subIn K (.ref cNoNeed) (.ref cNoNeed) = some true)
    : ∃ fd : FuncData, (∀ (s : Shared) (u : Value), BindsTo s fd ⟨[u], []⟩ [("_law_script", u)]) ∧ ∀ base : Heap, K.In base → base.Ns mainGlobals mg → FnOk P w K mg base C8.CX0 8 fa fd ["_law_script"] (spLaw K) := by
  have e := hfa.symm.trans (PySem.W.mg_of X G a_law)
  cases e
  have F_law : Fn1 K "law" "law" s_law ["_law_script"] fa := fn1_mk bd_law l_law c_law k_law
  have T : Txt K mg ⟨cStep, cCell, cTake, cMean, cSum, cGive, cAdd, cPlus, cNeed, cPact, cLead, cWalk, cSheet, cStand, cNoNeed, f_whole, f_stHouse, f_stSure, f_ceInit, f_ceHouse, f_atCell, f_taSp, f_meSp, f_suInit, f_suHouse, f_suSp, f_giSure, f_giSp, f_adInit, f_adSp, f_plInit, f_plDone, f_neInit, f_neDone, f_atCellOr, f_stepOr, f_readStep, f_paInit, f_readPact, f_turning, f_leInit, f_place, f_stepNext, f_handNow, f_plainSteps, f_sendStep, f_turn, f_waInit, f_go, f_goBack, f_close, f_came, f_up, f_end_, f_shInit, f_row, f_send, f_rowsTold, f_lettersTold, f_sdInit, f_keep, f_news, f_lCell, f_lAmount, f_lStep, f_lSteps, f_lLast, f_lPlain, f_lWay, f_lBack, f_lDue, f_lCame, fa, f_noCell⟩ := {
    cTake := ⟨pgTake, hdTake, poTake, saTake⟩
    kTake := ⟨mkTake, iTake, j_ceInit, kcTake⟩
    gTake := PySem.W.mg_of X G aTake
    nTake_where := nTake_where
    nTake_cell := nTake_cell
    cMean := ⟨pgMean, hdMean, poMean, saMean⟩
    kMean := ⟨mkMean, iMean, j_ceInit, kcMean⟩
    gMean := PySem.W.mg_of X G aMean
    nMean_where := nMean_where
    nMean_cell := nMean_cell
    cSum := ⟨pgSum, hdSum, poSum, saSum⟩
    kSum := ⟨mkSum, iSum, j_suInit, kcSum⟩
    gSum := PySem.W.mg_of X G aSum
    nSum_where := nSum_where
    nSum_low := nSum_low
    nSum_high := nSum_high
    cGive := ⟨pgGive, hdGive, poGive, saGive⟩
    kGive := ⟨mkGive, iGive, j_ceInit, kcGive⟩
    gGive := PySem.W.mg_of X G aGive
    nGive_where := nGive_where
    nGive_cell := nGive_cell
    cAdd := ⟨pgAdd, hdAdd, poAdd, saAdd⟩
    kAdd := ⟨mkAdd, iAdd, j_adInit, kcAdd⟩
    gAdd := PySem.W.mg_of X G aAdd
    nAdd_where := nAdd_where
    nAdd_cell := nAdd_cell
    nAdd_amount := nAdd_amount
    cPlus := ⟨pgPlus, hdPlus, poPlus, saPlus⟩
    kPlus := ⟨mkPlus, iPlus, j_plInit, kcPlus⟩
    gPlus := PySem.W.mg_of X G aPlus
    nPlus_amount := nPlus_amount
    cNeed := ⟨pgNeed, hdNeed, poNeed, saNeed⟩
    kNeed := ⟨mkNeed, iNeed, j_neInit, kcNeed⟩
    gNeed := PySem.W.mg_of X G aNeed
    nNeed_amount := nNeed_amount
    cPact := ⟨pgPact, hdPact, poPact, saPact⟩
    kPact := ⟨mkPact, iPact, j_paInit, kcPact⟩
    gPact := PySem.W.mg_of X G aPact
    nPact_manner := nPact_manner
    nPact_steps := nPact_steps
    cWalk := ⟨pgWalk, hdWalk, poWalk, saWalk⟩
    kWalk := ⟨mkWalk, iWalk, j_waInit, kcWalk⟩
    gWalk := PySem.W.mg_of X G aWalk
    nWalk_name := nWalk_name
    nWalk_pact := nWalk_pact
    nWalk_hands := nWalk_hands
    nWalk_fate := nWalk_fate
    nWalk_waited := nWalk_waited
    nWalk_back_at := nWalk_back_at
    nWalk_closed := nWalk_closed
    cSheet := ⟨pgSheet, hdSheet, poSheet, saSheet⟩
    kSheet := ⟨mkSheet, iSheet, j_shInit, kcSheet⟩
    gSheet := PySem.W.mg_of X G aSheet
    nSheet_ground := nSheet_ground
    nSheet_lines := nSheet_lines
    nSheet_wishes := nSheet_wishes
    cStand := ⟨pgStand, hdStand, poStand, saStand⟩
    kStand := ⟨mkStand, iStand, j_sdInit, kcStand⟩
    gStand := PySem.W.mg_of X G aStand
    nStand_numbers := nStand_numbers
    nStand_texts := nStand_texts
    nStand_worked := nStand_worked
    nStand_readies := nStand_readies
    nStand_ends := nStand_ends
    nStand_marks := nStand_marks
    nStand_overs := nStand_overs
    mTake_house := ⟨mTake_house, j_ceHouse, F_ceHouse.kp⟩
    mMean_house := ⟨mMean_house, j_ceHouse, F_ceHouse.kp⟩
    mGive_house := ⟨mGive_house, j_ceHouse, F_ceHouse.kp⟩
    mAdd_house := ⟨mAdd_house, j_ceHouse, F_ceHouse.kp⟩
    mSum_house := ⟨mSum_house, j_suHouse, F_suHouse.kp⟩
    mPlus_house := ⟨mPlus_house, j_stHouse, F_stHouse.kp⟩
    mNeed_house := ⟨mNeed_house, j_stHouse, F_stHouse.kp⟩
    mTake_sure := ⟨mTake_sure, j_stSure, F_stSure.kp⟩
    mMean_sure := ⟨mMean_sure, j_stSure, F_stSure.kp⟩
    mAdd_sure := ⟨mAdd_sure, j_stSure, F_stSure.kp⟩
    mSum_sure := ⟨mSum_sure, j_stSure, F_stSure.kp⟩
    mPlus_sure := ⟨mPlus_sure, j_stSure, F_stSure.kp⟩
    mNeed_sure := ⟨mNeed_sure, j_stSure, F_stSure.kp⟩
    mGive_sure := ⟨mGive_sure, j_giSure, F_giSure.kp⟩
    mTake_at_cell := ⟨mTake_at_cell, j_atCell, F_atCell.kp⟩
    mMean_at_cell := ⟨mMean_at_cell, j_atCell, F_atCell.kp⟩
    mGive_at_cell := ⟨mGive_at_cell, j_atCell, F_atCell.kp⟩
    mAdd_at_cell := ⟨mAdd_at_cell, j_atCell, F_atCell.kp⟩
    mTake_spelled := ⟨mTake_spelled, j_taSp, F_taSp.kp⟩
    mMean_spelled := ⟨mMean_spelled, j_meSp, F_meSp.kp⟩
    mSum_spelled := ⟨mSum_spelled, j_suSp, F_suSp.kp⟩
    mGive_spelled := ⟨mGive_spelled, j_giSp, F_giSp.kp⟩
    mAdd_spelled := ⟨mAdd_spelled, j_adSp, F_adSp.kp⟩
    mPlus_step_done := ⟨mPlus_step_done, j_plDone, F_plDone.kp⟩
    mNeed_step_done := ⟨mNeed_step_done, j_neDone, F_neDone.kp⟩
    mWalk_place := ⟨mWalk_place, j_place, F_place.kp⟩
    mWalk_step_next := ⟨mWalk_step_next, j_stepNext, F_stepNext.kp⟩
    mWalk_hand_now := ⟨mWalk_hand_now, j_handNow, F_handNow.kp⟩
    mWalk_plain_steps := ⟨mWalk_plain_steps, j_plainSteps, F_plainSteps.kp⟩
    mWalk_send_step := ⟨mWalk_send_step, j_sendStep, F_sendStep.kp⟩
    mWalk_turn := ⟨mWalk_turn, j_turn, F_turn.kp⟩
    mWalk_go := ⟨mWalk_go, j_go, F_go.kp⟩
    mWalk_go_back := ⟨mWalk_go_back, j_goBack, F_goBack.kp⟩
    mWalk_close := ⟨mWalk_close, j_close, F_close.kp⟩
    mWalk_came := ⟨mWalk_came, j_came, F_came.kp⟩
    mWalk_up := ⟨mWalk_up, j_up, F_up.kp⟩
    mWalk_end := ⟨mWalk_end, j_end_, F_end_.kp⟩
    mSheet_row := ⟨mSheet_row, j_row, F_row.kp⟩
    mSheet_send := ⟨mSheet_send, j_send, F_send.kp⟩
    mSheet_rows_told := ⟨mSheet_rows_told, j_rowsTold, F_rowsTold.kp⟩
    mSheet_letters_told := ⟨mSheet_letters_told, j_lettersTold, F_lettersTold.kp⟩
    mStand_keep := ⟨mStand_keep, j_keep, F_keep.kp⟩
    mStand_news := ⟨mStand_news, j_news, F_news.kp⟩
    F_whole := F_whole
    F_stHouse := F_stHouse
    F_stSure := F_stSure
    F_ceInit := F_ceInit
    F_ceHouse := F_ceHouse
    F_atCell := F_atCell
    F_taSp := F_taSp
    F_meSp := F_meSp
    F_suInit := F_suInit
    F_suHouse := F_suHouse
    F_suSp := F_suSp
    F_giSure := F_giSure
    F_giSp := F_giSp
    F_adInit := F_adInit
    F_adSp := F_adSp
    F_plInit := F_plInit
    F_plDone := F_plDone
    F_neInit := F_neInit
    F_neDone := F_neDone
    F_atCellOr := F_atCellOr
    F_stepOr := F_stepOr
    F_readStep := F_readStep
    F_paInit := F_paInit
    F_readPact := F_readPact
    F_turning := F_turning
    F_leInit := F_leInit
    F_place := F_place
    F_stepNext := F_stepNext
    F_handNow := F_handNow
    F_plainSteps := F_plainSteps
    F_sendStep := F_sendStep
    F_turn := F_turn
    F_waInit := F_waInit
    F_go := F_go
    F_goBack := F_goBack
    F_close := F_close
    F_came := F_came
    F_up := F_up
    F_end_ := F_end_
    F_shInit := F_shInit
    F_row := F_row
    F_send := F_send
    F_rowsTold := F_rowsTold
    F_lettersTold := F_lettersTold
    F_sdInit := F_sdInit
    F_keep := F_keep
    F_news := F_news
    F_lCell := F_lCell
    F_lAmount := F_lAmount
    F_lStep := F_lStep
    F_lSteps := F_lSteps
    F_lLast := F_lLast
    F_lPlain := F_lPlain
    F_lWay := F_lWay
    F_lBack := F_lBack
    F_lDue := F_lDue
    F_lCame := F_lCame
    F_law := F_law
    g_whole := PySem.W.mg_of X G a_whole
    g_atCellOr := PySem.W.mg_of X G a_atCellOr
    g_stepOr := PySem.W.mg_of X G a_stepOr
    g_readStep := PySem.W.mg_of X G a_readStep
    g_readPact := PySem.W.mg_of X G a_readPact
    g_turning := PySem.W.mg_of X G a_turning
    g_lCell := PySem.W.mg_of X G a_lCell
    g_lAmount := PySem.W.mg_of X G a_lAmount
    g_lStep := PySem.W.mg_of X G a_lStep
    g_lSteps := PySem.W.mg_of X G a_lSteps
    g_lLast := PySem.W.mg_of X G a_lLast
    g_lPlain := PySem.W.mg_of X G a_lPlain
    g_lWay := PySem.W.mg_of X G a_lWay
    g_lBack := PySem.W.mg_of X G a_lBack
    g_lDue := PySem.W.mg_of X G a_lDue
    g_lCame := PySem.W.mg_of X G a_lCame
    g_law := PySem.W.mg_of X G a_law
    g_noCell := PySem.W.mg_of X G a_noCell
    z_len := PySem.W.mg_none_of X G z_len
    z_str := PySem.W.mg_none_of X G z_str
    z_int := PySem.W.mg_none_of X G z_int
    z_list := PySem.W.mg_none_of X G z_list
    z_range := PySem.W.mg_none_of X G z_range
    z_tuple := PySem.W.mg_none_of X G z_tuple
    z_sorted := PySem.W.mg_none_of X G z_sorted
    z_enumerate := PySem.W.mg_none_of X G z_enumerate
    z_reversed := PySem.W.mg_none_of X G z_reversed
    v_FIGURES := ⟨_, PySem.W.mg_of X G v_FIGURES, ⟨_, rfl⟩⟩
    v_MOST_FIGURES_TOLD := ⟨_, PySem.W.mg_of X G v_MOST_FIGURES_TOLD, ⟨_, rfl⟩⟩
    v_MOST_STEPS := ⟨_, PySem.W.mg_of X G v_MOST_STEPS, ⟨_, rfl⟩⟩
    v_PATIENCE := ⟨_, PySem.W.mg_of X G v_PATIENCE, ⟨_, rfl⟩⟩
    gLead := PySem.W.mg_of X G aLead
    rLead := ⟨_, ⟨rdLead, gaLead⟩, ⟨vLead, rfl⟩⟩
    gCell := PySem.W.mg_of X G aCell
    rCell := ⟨_, ⟨rdCell, gaCell⟩, ⟨vCell, rfl⟩⟩
    gNoNeed := PySem.W.mg_of X G aNoNeed
    xNoNeed := xNoNeed
    kNoNeed := kNoNeed
    bNoNeed := bNoNeed
    tNoNeed := tNoNeed
    eNoNeed := exm_self bNoNeed isNoNeed tNoNeed sNoNeed }
  have F1 : C8.Fun K "law" "law" s_law fa (PySem.W.fnOf "law" "law" (C8.fnArgs s_law) (C8.fnBody s_law) (C8.fnScope s_law) .none kV dc pm an cd ct) := ⟨⟨oc, od, .none, kV, dc, pm, an, cd, ct, sl, rfl, l_law, c_law⟩⟩
  exact ⟨_, fun s u => .of_eq rfl, fun base _ _ => ok_law T F1⟩
/-- the law row's walk (63 items, 8 rooms) -/
theorem walk {l : PySem.W.OpenLaw} {q : Program} {loose : List Str} {XP : (Str → Option Value) → Heap → Prop} {YP : World → Heap → Prop} {d : DefRec} {K : Params → PySem.W.Frag} (hn : l.most = some 63) (hdf : d.params.defaults = [])
    (hY : ∀ (w : World) (h : Heap), YP w h → (K w.params).In h)
    (F : ∀ (w : World) (mg : Str → Option Value) (fa : Addr) (h : Heap), (K w.params).In h → h.Ns mainGlobals mg → mg d.name = some (.ref fa) →
      ∃ fd : FuncData, (∀ (s : Shared) (u : Value), BindsTo s fd ⟨[u], []⟩ [("_law_script", u)]) ∧ ∀ base : Heap, (K w.params).In base → base.Ns mainGlobals mg → FnOk l.prog w (K w.params) mg base C8.CX0 8 fa fd ["_law_script"] (spLaw (K w.params))) :
    PySem.W.WalkO q loose XP YP l.row.toRowW d [] (fun f vs => PySem.call f vs) :=
  L2.walk_of (n := 63) (k := 8) (x := "_law_script") (CX := fun _ => C8.CX0) (sp := fun w => spLaw (K w.params)) hn (by decide) hdf ⟨rfl, by decide, by decide⟩ hY F (fun _ _ a ns hl _ hS => ⟨a, ns, rfl, hS, hl, fun _ => rfl⟩) fun _ _ _ _ _ z => z
end Pk

open PySem PySem.W PyProof.Rows
set_option maxHeartbeats 0 in
theorem PySem.Challenge.cw_pactroom_k45_undone_from_the_last_holds : PySem.Challenge.rw_pactroom_k45_undone_from_the_last.Holds := by
  w_on; o_law; k_headL; (case hw => w_witness2)
  k_fill
  refine Pk.walk (l := PySem.Challenge.rw_pactroom_k45_undone_from_the_last) rfl rfl (fun w h Y => PySem.W.kIn_of Y) ?F
  case F =>
    intro w mg fa h KX G hmg
    refine' Pk.all_mk KX G hmg ?aCell ?aTake ?aMean ?aSum ?aGive ?aAdd ?aPlus ?aNeed ?aPact ?aLead ?aWalk ?aSheet ?aStand ?aNoNeed ?aStep ?a_whole ?a_atCellOr ?a_stepOr ?a_readStep ?a_readPact ?a_turning ?a_lCell ?a_lAmount ?a_lStep ?a_lSteps ?a_lLast ?a_lPlain ?a_lWay ?a_lBack ?a_lDue ?a_lCame ?a_law ?a_noCell ?iTake ?iMean ?iSum ?iGive ?iAdd ?iPlus ?iNeed ?iPact ?iWalk ?iSheet ?iStand ?vLead ?vCell ?mTake_house ?mMean_house ?mGive_house ?mAdd_house ?mSum_house ?mPlus_house ?mNeed_house ?mTake_sure ?mMean_sure ?mAdd_sure ?mSum_sure ?mPlus_sure ?mNeed_sure ?mGive_sure ?mTake_at_cell ?mMean_at_cell ?mGive_at_cell ?mAdd_at_cell ?mTake_spelled ?mMean_spelled ?mSum_spelled ?mGive_spelled ?mAdd_spelled ?mPlus_step_done ?mNeed_step_done ?mWalk_place ?mWalk_step_next ?mWalk_hand_now ?mWalk_plain_steps ?mWalk_send_step ?mWalk_turn ?mWalk_go ?mWalk_go_back ?mWalk_close ?mWalk_came ?mWalk_up ?mWalk_end ?mSheet_row ?mSheet_send ?mSheet_rows_told ?mSheet_letters_told ?mStand_keep ?mStand_news ?F_whole ?F_stHouse ?F_stSure ?F_ceInit ?F_ceHouse ?F_atCell ?F_taSp ?F_meSp ?F_suInit ?F_suHouse ?F_suSp ?F_giSure ?F_giSp ?F_adInit ?F_adSp ?F_plInit ?F_plDone ?F_neInit ?F_neDone ?F_atCellOr ?F_stepOr ?F_readStep ?F_paInit ?F_readPact ?F_turning ?F_leInit ?F_place ?F_stepNext ?F_handNow ?F_plainSteps ?F_sendStep ?F_turn ?F_waInit ?F_go ?F_goBack ?F_close ?F_came ?F_up ?F_end_ ?F_shInit ?F_row ?F_send ?F_rowsTold ?F_lettersTold ?F_sdInit ?F_keep ?F_news ?F_lCell ?F_lAmount ?F_lStep ?F_lSteps ?F_lLast ?F_lPlain ?F_lWay ?F_lBack ?F_lDue ?F_lCame ?l_law ?c_law ?k_law ?j_ceInit ?j_suInit ?j_adInit ?j_plInit ?j_neInit ?j_paInit ?j_waInit ?j_shInit ?j_sdInit ?j_ceHouse ?j_suHouse ?j_stHouse ?j_stSure ?j_giSure ?j_atCell ?j_taSp ?j_meSp ?j_suSp ?j_giSp ?j_adSp ?j_plDone ?j_neDone ?j_place ?j_stepNext ?j_handNow ?j_plainSteps ?j_sendStep ?j_turn ?j_go ?j_goBack ?j_close ?j_came ?j_up ?j_end_ ?j_row ?j_send ?j_rowsTold ?j_lettersTold ?j_keep ?j_news ?pgTake ?hdTake ?poTake ?saTake ?mkTake ?kcTake ?nTake_where ?nTake_cell ?pgMean ?hdMean ?poMean ?saMean ?mkMean ?kcMean ?nMean_where ?nMean_cell ?pgSum ?hdSum ?poSum ?saSum ?mkSum ?kcSum ?nSum_where ?nSum_low ?nSum_high ?pgGive ?hdGive ?poGive ?saGive ?mkGive ?kcGive ?nGive_where ?nGive_cell ?pgAdd ?hdAdd ?poAdd ?saAdd ?mkAdd ?kcAdd ?nAdd_where ?nAdd_cell ?nAdd_amount ?pgPlus ?hdPlus ?poPlus ?saPlus ?mkPlus ?kcPlus ?nPlus_amount ?pgNeed ?hdNeed ?poNeed ?saNeed ?mkNeed ?kcNeed ?nNeed_amount ?pgPact ?hdPact ?poPact ?saPact ?mkPact ?kcPact ?nPact_manner ?nPact_steps ?pgWalk ?hdWalk ?poWalk ?saWalk ?mkWalk ?kcWalk ?nWalk_name ?nWalk_pact ?nWalk_hands ?nWalk_fate ?nWalk_waited ?nWalk_back_at ?nWalk_closed ?pgSheet ?hdSheet ?poSheet ?saSheet ?mkSheet ?kcSheet ?nSheet_ground ?nSheet_lines ?nSheet_wishes ?pgStand ?hdStand ?poStand ?saStand ?mkStand ?kcStand ?nStand_numbers ?nStand_texts ?nStand_worked ?nStand_readies ?nStand_ends ?nStand_marks ?nStand_overs ?z_len ?z_str ?z_int ?z_list ?z_range ?z_tuple ?z_sorted ?z_enumerate ?z_reversed ?v_FIGURES ?v_MOST_FIGURES_TOLD ?v_MOST_STEPS ?v_PATIENCE ?rdLead ?gaLead ?rdCell ?gaCell ?xNoNeed ?kNoNeed ?bNoNeed ?tNoNeed ?isNoNeed ?sNoNeed
    (case aCell => as_aux_lemma => k_is)
    (case aTake => as_aux_lemma => k_is)
    (case aMean => as_aux_lemma => k_is)
    (case aSum => as_aux_lemma => k_is)
    (case aGive => as_aux_lemma => k_is)
    (case aAdd => as_aux_lemma => k_is)
    (case aPlus => as_aux_lemma => k_is)
    (case aNeed => as_aux_lemma => k_is)
    (case aPact => as_aux_lemma => k_is)
    (case aLead => as_aux_lemma => k_is)
    (case aWalk => as_aux_lemma => k_is)
    (case aSheet => as_aux_lemma => k_is)
    (case aStand => as_aux_lemma => k_is)
    (case aNoNeed => as_aux_lemma => k_is)
    (case aStep => as_aux_lemma => k_is)
    (case a_whole => as_aux_lemma => k_is)
    (case a_atCellOr => as_aux_lemma => k_is)
    (case a_stepOr => as_aux_lemma => k_is)
    (case a_readStep => as_aux_lemma => k_is)
    (case a_readPact => as_aux_lemma => k_is)
    (case a_turning => as_aux_lemma => k_is)
    (case a_lCell => as_aux_lemma => k_is)
    (case a_lAmount => as_aux_lemma => k_is)
    (case a_lStep => as_aux_lemma => k_is)
    (case a_lSteps => as_aux_lemma => k_is)
    (case a_lLast => as_aux_lemma => k_is)
    (case a_lPlain => as_aux_lemma => k_is)
    (case a_lWay => as_aux_lemma => k_is)
    (case a_lBack => as_aux_lemma => k_is)
    (case a_lDue => as_aux_lemma => k_is)
    (case a_lCame => as_aux_lemma => k_is)
    (case a_law => as_aux_lemma => k_is)
    (case a_noCell => as_aux_lemma => k_is)
    (case iTake => as_aux_lemma => k_is)
    (case iMean => as_aux_lemma => k_is)
    (case iSum => as_aux_lemma => k_is)
    (case iGive => as_aux_lemma => k_is)
    (case iAdd => as_aux_lemma => k_is)
    (case iPlus => as_aux_lemma => k_is)
    (case iNeed => as_aux_lemma => k_is)
    (case iPact => as_aux_lemma => k_is)
    (case iWalk => as_aux_lemma => k_is)
    (case iSheet => as_aux_lemma => k_is)
    (case iStand => as_aux_lemma => k_is)
    (case vLead => as_aux_lemma => k_is)
    (case vCell => as_aux_lemma => k_is)
    (case mTake_house => as_aux_lemma => k_is)
    (case mMean_house => as_aux_lemma => k_is)
    (case mGive_house => as_aux_lemma => k_is)
    (case mAdd_house => as_aux_lemma => k_is)
    (case mSum_house => as_aux_lemma => k_is)
    (case mPlus_house => as_aux_lemma => k_is)
    (case mNeed_house => as_aux_lemma => k_is)
    (case mTake_sure => as_aux_lemma => k_is)
    (case mMean_sure => as_aux_lemma => k_is)
    (case mAdd_sure => as_aux_lemma => k_is)
    (case mSum_sure => as_aux_lemma => k_is)
    (case mPlus_sure => as_aux_lemma => k_is)
    (case mNeed_sure => as_aux_lemma => k_is)
    (case mGive_sure => as_aux_lemma => k_is)
    (case mTake_at_cell => as_aux_lemma => k_is)
    (case mMean_at_cell => as_aux_lemma => k_is)
    (case mGive_at_cell => as_aux_lemma => k_is)
    (case mAdd_at_cell => as_aux_lemma => k_is)
    (case mTake_spelled => as_aux_lemma => k_is)
    (case mMean_spelled => as_aux_lemma => k_is)
    (case mSum_spelled => as_aux_lemma => k_is)
    (case mGive_spelled => as_aux_lemma => k_is)
    (case mAdd_spelled => as_aux_lemma => k_is)
    (case mPlus_step_done => as_aux_lemma => k_is)
    (case mNeed_step_done => as_aux_lemma => k_is)
    (case mWalk_place => as_aux_lemma => k_is)
    (case mWalk_step_next => as_aux_lemma => k_is)
    (case mWalk_hand_now => as_aux_lemma => k_is)
    (case mWalk_plain_steps => as_aux_lemma => k_is)
    (case mWalk_send_step => as_aux_lemma => k_is)
    (case mWalk_turn => as_aux_lemma => k_is)
    (case mWalk_go => as_aux_lemma => k_is)
    (case mWalk_go_back => as_aux_lemma => k_is)
    (case mWalk_close => as_aux_lemma => k_is)
    (case mWalk_came => as_aux_lemma => k_is)
    (case mWalk_up => as_aux_lemma => k_is)
    (case mWalk_end => as_aux_lemma => k_is)
    (case mSheet_row => as_aux_lemma => k_is)
    (case mSheet_send => as_aux_lemma => k_is)
    (case mSheet_rows_told => as_aux_lemma => k_is)
    (case mSheet_letters_told => as_aux_lemma => k_is)
    (case mStand_keep => as_aux_lemma => k_is)
    (case mStand_news => as_aux_lemma => k_is)
    (case F_whole => (refine' Pk.fn1_mk Pk.bd_whole ?l ?c ?k; (case l => as_aux_lemma => k_is); (case c => as_aux_lemma => k_is); (case k => as_aux_lemma => k_is)))
    (case F_stHouse => (refine' Pk.fn1_mk Pk.bd_stHouse ?l ?c ?k; (case l => as_aux_lemma => k_is); (case c => as_aux_lemma => k_is); (case k => as_aux_lemma => k_is)))
    (case F_stSure => (refine' Pk.fn1_mk Pk.bd_stSure ?l ?c ?k; (case l => as_aux_lemma => k_is); (case c => as_aux_lemma => k_is); (case k => as_aux_lemma => k_is)))
    (case F_ceInit => (refine' Pk.fn1_mk Pk.bd_ceInit ?l ?c ?k; (case l => as_aux_lemma => k_is); (case c => as_aux_lemma => k_is); (case k => as_aux_lemma => k_is)))
    (case F_ceHouse => (refine' Pk.fn1_mk Pk.bd_ceHouse ?l ?c ?k; (case l => as_aux_lemma => k_is); (case c => as_aux_lemma => k_is); (case k => as_aux_lemma => k_is)))
    (case F_atCell => (refine' Pk.fn1_mk Pk.bd_atCell ?l ?c ?k; (case l => as_aux_lemma => k_is); (case c => as_aux_lemma => k_is); (case k => as_aux_lemma => k_is)))
    (case F_taSp => (refine' Pk.fn1_mk Pk.bd_taSp ?l ?c ?k; (case l => as_aux_lemma => k_is); (case c => as_aux_lemma => k_is); (case k => as_aux_lemma => k_is)))
    (case F_meSp => (refine' Pk.fn1_mk Pk.bd_meSp ?l ?c ?k; (case l => as_aux_lemma => k_is); (case c => as_aux_lemma => k_is); (case k => as_aux_lemma => k_is)))
    (case F_suInit => (refine' Pk.fn1_mk Pk.bd_suInit ?l ?c ?k; (case l => as_aux_lemma => k_is); (case c => as_aux_lemma => k_is); (case k => as_aux_lemma => k_is)))
    (case F_suHouse => (refine' Pk.fn1_mk Pk.bd_suHouse ?l ?c ?k; (case l => as_aux_lemma => k_is); (case c => as_aux_lemma => k_is); (case k => as_aux_lemma => k_is)))
    (case F_suSp => (refine' Pk.fn1_mk Pk.bd_suSp ?l ?c ?k; (case l => as_aux_lemma => k_is); (case c => as_aux_lemma => k_is); (case k => as_aux_lemma => k_is)))
    (case F_giSure => (refine' Pk.fn1_mk Pk.bd_giSure ?l ?c ?k; (case l => as_aux_lemma => k_is); (case c => as_aux_lemma => k_is); (case k => as_aux_lemma => k_is)))
    (case F_giSp => (refine' Pk.fn1_mk Pk.bd_giSp ?l ?c ?k; (case l => as_aux_lemma => k_is); (case c => as_aux_lemma => k_is); (case k => as_aux_lemma => k_is)))
    (case F_adInit => (refine' Pk.fn1_mk Pk.bd_adInit ?l ?c ?k; (case l => as_aux_lemma => k_is); (case c => as_aux_lemma => k_is); (case k => as_aux_lemma => k_is)))
    (case F_adSp => (refine' Pk.fn1_mk Pk.bd_adSp ?l ?c ?k; (case l => as_aux_lemma => k_is); (case c => as_aux_lemma => k_is); (case k => as_aux_lemma => k_is)))
    (case F_plInit => (refine' Pk.fn1_mk Pk.bd_plInit ?l ?c ?k; (case l => as_aux_lemma => k_is); (case c => as_aux_lemma => k_is); (case k => as_aux_lemma => k_is)))
    (case F_plDone => (refine' Pk.fn1_mk Pk.bd_plDone ?l ?c ?k; (case l => as_aux_lemma => k_is); (case c => as_aux_lemma => k_is); (case k => as_aux_lemma => k_is)))
    (case F_neInit => (refine' Pk.fn1_mk Pk.bd_neInit ?l ?c ?k; (case l => as_aux_lemma => k_is); (case c => as_aux_lemma => k_is); (case k => as_aux_lemma => k_is)))
    (case F_neDone => (refine' Pk.fn1_mk Pk.bd_neDone ?l ?c ?k; (case l => as_aux_lemma => k_is); (case c => as_aux_lemma => k_is); (case k => as_aux_lemma => k_is)))
    (case F_atCellOr => (refine' Pk.fn1_mk Pk.bd_atCellOr ?l ?c ?k; (case l => as_aux_lemma => k_is); (case c => as_aux_lemma => k_is); (case k => as_aux_lemma => k_is)))
    (case F_stepOr => (refine' Pk.fn1_mk Pk.bd_stepOr ?l ?c ?k; (case l => as_aux_lemma => k_is); (case c => as_aux_lemma => k_is); (case k => as_aux_lemma => k_is)))
    (case F_readStep => (refine' Pk.fn1_mk Pk.bd_readStep ?l ?c ?k; (case l => as_aux_lemma => k_is); (case c => as_aux_lemma => k_is); (case k => as_aux_lemma => k_is)))
    (case F_paInit => (refine' Pk.fn1_mk Pk.bd_paInit ?l ?c ?k; (case l => as_aux_lemma => k_is); (case c => as_aux_lemma => k_is); (case k => as_aux_lemma => k_is)))
    (case F_readPact => (refine' Pk.fn1_mk Pk.bd_readPact ?l ?c ?k; (case l => as_aux_lemma => k_is); (case c => as_aux_lemma => k_is); (case k => as_aux_lemma => k_is)))
    (case F_turning => (refine' Pk.fn1_mk Pk.bd_turning ?l ?c ?k; (case l => as_aux_lemma => k_is); (case c => as_aux_lemma => k_is); (case k => as_aux_lemma => k_is)))
    (case F_leInit => (refine' Pk.fn1_mk Pk.bd_leInit ?l ?c ?k; (case l => as_aux_lemma => k_is); (case c => as_aux_lemma => k_is); (case k => as_aux_lemma => k_is)))
    (case F_place => (refine' Pk.fn1_mk Pk.bd_place ?l ?c ?k; (case l => as_aux_lemma => k_is); (case c => as_aux_lemma => k_is); (case k => as_aux_lemma => k_is)))
    (case F_stepNext => (refine' Pk.fn1_mk Pk.bd_stepNext ?l ?c ?k; (case l => as_aux_lemma => k_is); (case c => as_aux_lemma => k_is); (case k => as_aux_lemma => k_is)))
    (case F_handNow => (refine' Pk.fn1_mk Pk.bd_handNow ?l ?c ?k; (case l => as_aux_lemma => k_is); (case c => as_aux_lemma => k_is); (case k => as_aux_lemma => k_is)))
    (case F_plainSteps => (refine' Pk.fn1_mk Pk.bd_plainSteps ?l ?c ?k; (case l => as_aux_lemma => k_is); (case c => as_aux_lemma => k_is); (case k => as_aux_lemma => k_is)))
    (case F_sendStep => (refine' Pk.fn1_mk Pk.bd_sendStep ?l ?c ?k; (case l => as_aux_lemma => k_is); (case c => as_aux_lemma => k_is); (case k => as_aux_lemma => k_is)))
    (case F_turn => (refine' Pk.fn1_mk Pk.bd_turn ?l ?c ?k; (case l => as_aux_lemma => k_is); (case c => as_aux_lemma => k_is); (case k => as_aux_lemma => k_is)))
    (case F_waInit => (refine' Pk.fn1_mk Pk.bd_waInit ?l ?c ?k; (case l => as_aux_lemma => k_is); (case c => as_aux_lemma => k_is); (case k => as_aux_lemma => k_is)))
    (case F_go => (refine' Pk.fn1_mk Pk.bd_go ?l ?c ?k; (case l => as_aux_lemma => k_is); (case c => as_aux_lemma => k_is); (case k => as_aux_lemma => k_is)))
    (case F_goBack => (refine' Pk.fn1_mk Pk.bd_goBack ?l ?c ?k; (case l => as_aux_lemma => k_is); (case c => as_aux_lemma => k_is); (case k => as_aux_lemma => k_is)))
    (case F_close => (refine' Pk.fn1_mk Pk.bd_close ?l ?c ?k; (case l => as_aux_lemma => k_is); (case c => as_aux_lemma => k_is); (case k => as_aux_lemma => k_is)))
    (case F_came => (refine' Pk.fn1_mk Pk.bd_came ?l ?c ?k; (case l => as_aux_lemma => k_is); (case c => as_aux_lemma => k_is); (case k => as_aux_lemma => k_is)))
    (case F_up => (refine' Pk.fn1_mk Pk.bd_up ?l ?c ?k; (case l => as_aux_lemma => k_is); (case c => as_aux_lemma => k_is); (case k => as_aux_lemma => k_is)))
    (case F_end_ => (refine' Pk.fn1_mk Pk.bd_end_ ?l ?c ?k; (case l => as_aux_lemma => k_is); (case c => as_aux_lemma => k_is); (case k => as_aux_lemma => k_is)))
    (case F_shInit => (refine' Pk.fn1_mk Pk.bd_shInit ?l ?c ?k; (case l => as_aux_lemma => k_is); (case c => as_aux_lemma => k_is); (case k => as_aux_lemma => k_is)))
    (case F_row => (refine' Pk.fn1_mk Pk.bd_row ?l ?c ?k; (case l => as_aux_lemma => k_is); (case c => as_aux_lemma => k_is); (case k => as_aux_lemma => k_is)))
    (case F_send => (refine' Pk.fn1_mk Pk.bd_send ?l ?c ?k; (case l => as_aux_lemma => k_is); (case c => as_aux_lemma => k_is); (case k => as_aux_lemma => k_is)))
    (case F_rowsTold => (refine' Pk.fn1_mk Pk.bd_rowsTold ?l ?c ?k; (case l => as_aux_lemma => k_is); (case c => as_aux_lemma => k_is); (case k => as_aux_lemma => k_is)))
    (case F_lettersTold => (refine' Pk.fn1_mk Pk.bd_lettersTold ?l ?c ?k; (case l => as_aux_lemma => k_is); (case c => as_aux_lemma => k_is); (case k => as_aux_lemma => k_is)))
    (case F_sdInit => (refine' Pk.fn1_mk Pk.bd_sdInit ?l ?c ?k; (case l => as_aux_lemma => k_is); (case c => as_aux_lemma => k_is); (case k => as_aux_lemma => k_is)))
    (case F_keep => (refine' Pk.fn1_mk Pk.bd_keep ?l ?c ?k; (case l => as_aux_lemma => k_is); (case c => as_aux_lemma => k_is); (case k => as_aux_lemma => k_is)))
    (case F_news => (refine' Pk.fn1_mk Pk.bd_news ?l ?c ?k; (case l => as_aux_lemma => k_is); (case c => as_aux_lemma => k_is); (case k => as_aux_lemma => k_is)))
    (case F_lCell => (refine' Pk.fn1_mk Pk.bd_lCell ?l ?c ?k; (case l => as_aux_lemma => k_is); (case c => as_aux_lemma => k_is); (case k => as_aux_lemma => k_is)))
    (case F_lAmount => (refine' Pk.fn1_mk Pk.bd_lAmount ?l ?c ?k; (case l => as_aux_lemma => k_is); (case c => as_aux_lemma => k_is); (case k => as_aux_lemma => k_is)))
    (case F_lStep => (refine' Pk.fn1_mk Pk.bd_lStep ?l ?c ?k; (case l => as_aux_lemma => k_is); (case c => as_aux_lemma => k_is); (case k => as_aux_lemma => k_is)))
    (case F_lSteps => (refine' Pk.fn1_mk Pk.bd_lSteps ?l ?c ?k; (case l => as_aux_lemma => k_is); (case c => as_aux_lemma => k_is); (case k => as_aux_lemma => k_is)))
    (case F_lLast => (refine' Pk.fn1_mk Pk.bd_lLast ?l ?c ?k; (case l => as_aux_lemma => k_is); (case c => as_aux_lemma => k_is); (case k => as_aux_lemma => k_is)))
    (case F_lPlain => (refine' Pk.fn1_mk Pk.bd_lPlain ?l ?c ?k; (case l => as_aux_lemma => k_is); (case c => as_aux_lemma => k_is); (case k => as_aux_lemma => k_is)))
    (case F_lWay => (refine' Pk.fn1_mk Pk.bd_lWay ?l ?c ?k; (case l => as_aux_lemma => k_is); (case c => as_aux_lemma => k_is); (case k => as_aux_lemma => k_is)))
    (case F_lBack => (refine' Pk.fn1_mk Pk.bd_lBack ?l ?c ?k; (case l => as_aux_lemma => k_is); (case c => as_aux_lemma => k_is); (case k => as_aux_lemma => k_is)))
    (case F_lDue => (refine' Pk.fn1_mk Pk.bd_lDue ?l ?c ?k; (case l => as_aux_lemma => k_is); (case c => as_aux_lemma => k_is); (case k => as_aux_lemma => k_is)))
    (case F_lCame => (refine' Pk.fn1_mk Pk.bd_lCame ?l ?c ?k; (case l => as_aux_lemma => k_is); (case c => as_aux_lemma => k_is); (case k => as_aux_lemma => k_is)))
    (case l_law => as_aux_lemma => k_is)
    (case c_law => as_aux_lemma => k_is)
    (case k_law => as_aux_lemma => k_is)
    (case j_ceInit => as_aux_lemma => k_is)
    (case j_suInit => as_aux_lemma => k_is)
    (case j_adInit => as_aux_lemma => k_is)
    (case j_plInit => as_aux_lemma => k_is)
    (case j_neInit => as_aux_lemma => k_is)
    (case j_paInit => as_aux_lemma => k_is)
    (case j_waInit => as_aux_lemma => k_is)
    (case j_shInit => as_aux_lemma => k_is)
    (case j_sdInit => as_aux_lemma => k_is)
    (case j_ceHouse => as_aux_lemma => k_is)
    (case j_suHouse => as_aux_lemma => k_is)
    (case j_stHouse => as_aux_lemma => k_is)
    (case j_stSure => as_aux_lemma => k_is)
    (case j_giSure => as_aux_lemma => k_is)
    (case j_atCell => as_aux_lemma => k_is)
    (case j_taSp => as_aux_lemma => k_is)
    (case j_meSp => as_aux_lemma => k_is)
    (case j_suSp => as_aux_lemma => k_is)
    (case j_giSp => as_aux_lemma => k_is)
    (case j_adSp => as_aux_lemma => k_is)
    (case j_plDone => as_aux_lemma => k_is)
    (case j_neDone => as_aux_lemma => k_is)
    (case j_place => as_aux_lemma => k_is)
    (case j_stepNext => as_aux_lemma => k_is)
    (case j_handNow => as_aux_lemma => k_is)
    (case j_plainSteps => as_aux_lemma => k_is)
    (case j_sendStep => as_aux_lemma => k_is)
    (case j_turn => as_aux_lemma => k_is)
    (case j_go => as_aux_lemma => k_is)
    (case j_goBack => as_aux_lemma => k_is)
    (case j_close => as_aux_lemma => k_is)
    (case j_came => as_aux_lemma => k_is)
    (case j_up => as_aux_lemma => k_is)
    (case j_end_ => as_aux_lemma => k_is)
    (case j_row => as_aux_lemma => k_is)
    (case j_send => as_aux_lemma => k_is)
    (case j_rowsTold => as_aux_lemma => k_is)
    (case j_lettersTold => as_aux_lemma => k_is)
    (case j_keep => as_aux_lemma => k_is)
    (case j_news => as_aux_lemma => k_is)
    (case pgTake => as_aux_lemma => k_is)
    (case hdTake => as_aux_lemma => k_is)
    (case poTake => as_aux_lemma => k_is)
    (case saTake => as_aux_lemma => k_is)
    (case mkTake => as_aux_lemma => k_is)
    (case kcTake => as_aux_lemma => k_is)
    (case nTake_where => as_aux_lemma => k_is)
    (case nTake_cell => as_aux_lemma => k_is)
    (case pgMean => as_aux_lemma => k_is)
    (case hdMean => as_aux_lemma => k_is)
    (case poMean => as_aux_lemma => k_is)
    (case saMean => as_aux_lemma => k_is)
    (case mkMean => as_aux_lemma => k_is)
    (case kcMean => as_aux_lemma => k_is)
    (case nMean_where => as_aux_lemma => k_is)
    (case nMean_cell => as_aux_lemma => k_is)
    (case pgSum => as_aux_lemma => k_is)
    (case hdSum => as_aux_lemma => k_is)
    (case poSum => as_aux_lemma => k_is)
    (case saSum => as_aux_lemma => k_is)
    (case mkSum => as_aux_lemma => k_is)
    (case kcSum => as_aux_lemma => k_is)
    (case nSum_where => as_aux_lemma => k_is)
    (case nSum_low => as_aux_lemma => k_is)
    (case nSum_high => as_aux_lemma => k_is)
    (case pgGive => as_aux_lemma => k_is)
    (case hdGive => as_aux_lemma => k_is)
    (case poGive => as_aux_lemma => k_is)
    (case saGive => as_aux_lemma => k_is)
    (case mkGive => as_aux_lemma => k_is)
    (case kcGive => as_aux_lemma => k_is)
    (case nGive_where => as_aux_lemma => k_is)
    (case nGive_cell => as_aux_lemma => k_is)
    (case pgAdd => as_aux_lemma => k_is)
    (case hdAdd => as_aux_lemma => k_is)
    (case poAdd => as_aux_lemma => k_is)
    (case saAdd => as_aux_lemma => k_is)
    (case mkAdd => as_aux_lemma => k_is)
    (case kcAdd => as_aux_lemma => k_is)
    (case nAdd_where => as_aux_lemma => k_is)
    (case nAdd_cell => as_aux_lemma => k_is)
    (case nAdd_amount => as_aux_lemma => k_is)
    (case pgPlus => as_aux_lemma => k_is)
    (case hdPlus => as_aux_lemma => k_is)
    (case poPlus => as_aux_lemma => k_is)
    (case saPlus => as_aux_lemma => k_is)
    (case mkPlus => as_aux_lemma => k_is)
    (case kcPlus => as_aux_lemma => k_is)
    (case nPlus_amount => as_aux_lemma => k_is)
    (case pgNeed => as_aux_lemma => k_is)
    (case hdNeed => as_aux_lemma => k_is)
    (case poNeed => as_aux_lemma => k_is)
    (case saNeed => as_aux_lemma => k_is)
    (case mkNeed => as_aux_lemma => k_is)
    (case kcNeed => as_aux_lemma => k_is)
    (case nNeed_amount => as_aux_lemma => k_is)
    (case pgPact => as_aux_lemma => k_is)
    (case hdPact => as_aux_lemma => k_is)
    (case poPact => as_aux_lemma => k_is)
    (case saPact => as_aux_lemma => k_is)
    (case mkPact => as_aux_lemma => k_is)
    (case kcPact => as_aux_lemma => k_is)
    (case nPact_manner => as_aux_lemma => k_is)
    (case nPact_steps => as_aux_lemma => k_is)
    (case pgWalk => as_aux_lemma => k_is)
    (case hdWalk => as_aux_lemma => k_is)
    (case poWalk => as_aux_lemma => k_is)
    (case saWalk => as_aux_lemma => k_is)
    (case mkWalk => as_aux_lemma => k_is)
    (case kcWalk => as_aux_lemma => k_is)
    (case nWalk_name => as_aux_lemma => k_is)
    (case nWalk_pact => as_aux_lemma => k_is)
    (case nWalk_hands => as_aux_lemma => k_is)
    (case nWalk_fate => as_aux_lemma => k_is)
    (case nWalk_waited => as_aux_lemma => k_is)
    (case nWalk_back_at => as_aux_lemma => k_is)
    (case nWalk_closed => as_aux_lemma => k_is)
    (case pgSheet => as_aux_lemma => k_is)
    (case hdSheet => as_aux_lemma => k_is)
    (case poSheet => as_aux_lemma => k_is)
    (case saSheet => as_aux_lemma => k_is)
    (case mkSheet => as_aux_lemma => k_is)
    (case kcSheet => as_aux_lemma => k_is)
    (case nSheet_ground => as_aux_lemma => k_is)
    (case nSheet_lines => as_aux_lemma => k_is)
    (case nSheet_wishes => as_aux_lemma => k_is)
    (case pgStand => as_aux_lemma => k_is)
    (case hdStand => as_aux_lemma => k_is)
    (case poStand => as_aux_lemma => k_is)
    (case saStand => as_aux_lemma => k_is)
    (case mkStand => as_aux_lemma => k_is)
    (case kcStand => as_aux_lemma => k_is)
    (case nStand_numbers => as_aux_lemma => k_is)
    (case nStand_texts => as_aux_lemma => k_is)
    (case nStand_worked => as_aux_lemma => k_is)
    (case nStand_readies => as_aux_lemma => k_is)
    (case nStand_ends => as_aux_lemma => k_is)
    (case nStand_marks => as_aux_lemma => k_is)
    (case nStand_overs => as_aux_lemma => k_is)
    (case z_len => as_aux_lemma => k_is)
    (case z_str => as_aux_lemma => k_is)
    (case z_int => as_aux_lemma => k_is)
    (case z_list => as_aux_lemma => k_is)
    (case z_range => as_aux_lemma => k_is)
    (case z_tuple => as_aux_lemma => k_is)
    (case z_sorted => as_aux_lemma => k_is)
    (case z_enumerate => as_aux_lemma => k_is)
    (case z_reversed => as_aux_lemma => k_is)
    (case v_FIGURES => as_aux_lemma => k_is)
    (case v_MOST_FIGURES_TOLD => as_aux_lemma => k_is)
    (case v_MOST_STEPS => as_aux_lemma => k_is)
    (case v_PATIENCE => as_aux_lemma => k_is)
    (case rdLead => as_aux_lemma => k_is)
    (case gaLead => as_aux_lemma => k_is)
    (case rdCell => as_aux_lemma => k_is)
    (case gaCell => as_aux_lemma => k_is)
    (case xNoNeed => as_aux_lemma => k_exc)
    (case kNoNeed => as_aux_lemma => k_is)
    (case bNoNeed => as_aux_lemma => k_is)
    (case tNoNeed => as_aux_lemma => k_is)
    (case isNoNeed => as_aux_lemma => k_is)
    (case sNoNeed => as_aux_lemma => first | rfl | k_is)
#print axioms PySem.Challenge.cw_pactroom_k45_undone_from_the_last_holds
