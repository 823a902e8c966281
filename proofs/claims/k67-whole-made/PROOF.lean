import PyProof.Rows.All
import Wide.All
import OpenK.AllK
import Wide.FinOn
import KE.KStateDown
import HandS.Base
import HandS.Call
import HandS.Exc
import HandS.ExcInit
import HandS.ExcField
import HandS.ExcIs
import HandS.Words
import HandS.Defaults
import HandS.Head0
import HandS.Head1
import HandS.Head2
import HandS.Head3
import HandS.HeadEnd
import HandS.HeadHook1
import HandS.HeadHook2
import HandS.ForMost
import HandS.ExcOwn
import HandS.HotCalls
import HandS.IsInst
import HandS.Gcd
import HandS.Wide
import HandS.Zip
import HandS.Style
import HandS.Flow
import KE.GoesMore
import HandS.Rev
import KE.KTupSum
import HandS.ExcCtx
import KE.KExcIs
import HandS.Ends
import PySem.Challenge.RW_evenlater_k67_whole_made_of_goes_on
set_option Elab.async false
set_option linter.all false
set_option maxRecDepth 100000
section
namespace EL
open PySem
def top (i : Nat) : Stmt := PySem.Challenge.pw_evenlater_k67_whole_made_of_goes_on.main.body.getD i (.Pass ⟨0, 0, 0, 0⟩)
end EL
end
section
set_option maxHeartbeats 0
/-! The head: what the module leaves, read at explicit places. -/
namespace EH
open PySem PySem.Spec PyProof.Rows L2 EL
def mkD (g : Str) (x : Str) (i : Nat) : He.DefD := ⟨(g, none), x, x, defArgs (top i), defBody (top i), defScope (top i), [], []⟩
def clsB : Stmt → List Stmt
  | .ClassDef _ _ _ b .. => b
  | _ => []
def uIni : Stmt := (clsB (top 7)).getD 0 (.Pass ⟨0, 0, 0, 0⟩)
def uD : He.DefD := ⟨("Unmade", some "__init__"), "__init__", "Unmade.__init__", defArgs uIni, defBody uIni, defScope uIni, [], []⟩
def fn0 : List He.DefD := [mkD "usable" "usable" 9, mkD "whole" "whole" 10, mkD "is_pair" "is_pair" 11, mkD "lowest" "lowest" 12, mkD "turns_in" "turns_in" 13, mkD "factor_of" "factor_of" 14, mkD "moves_in" "moves_in" 15, mkD "back_from" "back_from" 16, mkD "is_integer" "is_integer" 18, mkD "is_number" "is_number" 19, mkD "is_quotient" "is_quotient" 20, mkD "is_move" "is_move" 21, mkD "moves_many" "moves_many" 23, mkD "turns_many" "turns_many" 24, mkD "is_deal" "is_deal" 26, mkD "want_deal" "want_deal" 28, mkD "want_two" "want_two" 29, mkD "want_quotient" "want_quotient" 30, mkD "factor_at" "factor_at" 32, mkD "back_of" "back_of" 33, mkD "number_of" "number_of" 34, mkD "all_moves" "all_moves" 35, mkD "settled" "settled" 37, mkD "idle_deal" "idle_deal" 38, mkD "even_deal" "even_deal" 39, mkD "dealt" "dealt" 41, mkD "taken" "taken" 43, mkD "scaled" "scaled" 44, mkD "mirrored" "mirrored" 46, mkD "common_of" "common_of" 48]
def fn1 : List He.DefD := [mkD "_is_row" "_is_row" 50, mkD "_want_rows" "_want_rows" 51, mkD "_lowest" "_lowest" 52, mkD "_cleared" "_cleared" 53, mkD "_least_place" "_least_place" 54, mkD "_stepped" "_stepped" 55, mkD "_solved" "_solved" 56, mkD "combined" "combined" 57, mkD "shifted_row" "shifted_row" 59, mkD "shifted_rows" "shifted_rows" 60, mkD "solved" "solved" 61, mkD "weights_share" "weights_share" 62, mkD "small_deal" "small_deal" 63, mkD "recall_made" "recall_made" 64, mkD "left_unit" "left_unit" 65, mkD "right_unit" "right_unit" 66, mkD "need_deal_e_wants" "need_deal" 68, mkD "need_deals" "need_deals" 70, mkD "need_side" "need_side" 71, mkD "is_made_left" "is_made_left" 73, mkD "is_made_right" "is_made_right" 74, mkD "made_left" "made_left" 75, mkD "made_right" "made_right" 76, mkD "quotient_of" "quotient_of" 78, mkD "total_of" "total_of" 80, mkD "need_deal_f_told" "need_deal" 82, mkD "without_even" "without_even" 84, mkD "left_side" "left_side" 86, mkD "right_side" "right_side" 87, mkD "evener_right" "evener_right" 89]
def fn2 : List He.DefD := [mkD "beside" "beside" 91, mkD "made_paper" "made_paper" 92, mkD "is_zero" "is_zero" 93, mkD "is_paper" "is_paper" 94, mkD "lets_made" "lets_made" 95, mkD "_law_cell" "_law_cell" 97, mkD "_law_row" "_law_row" 98, mkD "_law_clock" "_law_clock" 99, mkD "_law_whole" "_law_whole" 100, mkD "_law_share" "_law_share" 101, mkD "_law_is_deal" "_law_is_deal" 102, mkD "_law_settled" "_law_settled" 103, mkD "_law_factors" "_law_factors" 104, mkD "_law_table" "_law_table" 105, mkD "_law_dealt" "_law_dealt" 106, mkD "_law_part" "_law_part" 107, mkD "_law_members" "_law_members" 108, mkD "_law_weights" "_law_weights" 109, mkD "_law_rank" "_law_rank" 110, mkD "_law_lefts" "_law_lefts" 111, mkD "_law_is" "_law_is" 112, mkD "_law_mirror" "_law_mirror" 113, mkD "_law_three" "_law_three" 114, mkD "_law_added" "_law_added" 115, mkD "_law_world" "_law_world" 116, mkD "_law_made" "_law_made" 117, mkD "_law_witness" "_law_witness" 118, mkD "_law_ask" "_law_ask" 119, mkD "_law_less" "_law_less" 120, mkD "_law_eveners" "_law_eveners" 121]
def fn3 : List He.DefD := [mkD "_law_turned" "_law_turned" 122, mkD "_law_sides" "_law_sides" 123, mkD "law" "law" 124]
def fn : List He.DefD := (fn0 ++ (fn1 ++ (fn2 ++ (fn3)))) ++ [uD]
def fa0 : List He.Fa := [.glo "usable", .glo "whole", .glo "is_pair", .glo "lowest", .glo "turns_in", .glo "factor_of", .glo "moves_in", .glo "back_from", .glo "is_integer", .glo "is_number", .glo "is_quotient", .glo "is_move", .glo "moves_many", .glo "turns_many", .glo "is_deal", .glo "want_deal", .glo "want_two", .glo "want_quotient", .glo "factor_at", .glo "back_of", .glo "number_of", .glo "all_moves", .glo "settled", .glo "idle_deal", .glo "even_deal", .glo "dealt", .glo "taken", .glo "scaled", .glo "mirrored", .glo "common_of"]
def fa1 : List He.Fa := [.glo "_is_row", .glo "_want_rows", .glo "_lowest", .glo "_cleared", .glo "_least_place", .glo "_stepped", .glo "_solved", .glo "combined", .glo "shifted_row", .glo "shifted_rows", .glo "solved", .glo "weights_share", .glo "small_deal", .glo "recall_made", .glo "left_unit", .glo "right_unit", .glo "need_deal_e_wants", .glo "need_deals", .glo "need_side", .glo "is_made_left", .glo "is_made_right", .glo "made_left", .glo "made_right", .glo "quotient_of", .glo "total_of", .glo "need_deal_f_told", .glo "without_even", .glo "left_side", .glo "right_side", .glo "evener_right"]
def fa2 : List He.Fa := [.glo "beside", .glo "made_paper", .glo "is_zero", .glo "is_paper", .glo "lets_made", .glo "_law_cell", .glo "_law_row", .glo "_law_clock", .glo "_law_whole", .glo "_law_share", .glo "_law_is_deal", .glo "_law_settled", .glo "_law_factors", .glo "_law_table", .glo "_law_dealt", .glo "_law_part", .glo "_law_members", .glo "_law_weights", .glo "_law_rank", .glo "_law_lefts", .glo "_law_is", .glo "_law_mirror", .glo "_law_three", .glo "_law_added", .glo "_law_world", .glo "_law_made", .glo "_law_witness", .glo "_law_ask", .glo "_law_less", .glo "_law_eveners"]
def fa3 : List He.Fa := [.glo "_law_turned", .glo "_law_sides", .glo "law"]
def faX : List He.Fa := [.glo "Unmade", .glo "DealError", .free "len", .free "range", .free "isinstance", .free "int", .free "bool", .free "tuple", .free "str", .free "abs", .free "list", .free "enumerate", .free "zip", .free "reversed", .free "sum", .free "all", .free "any"]
def fa : List He.Fa := fa0 ++ (fa1 ++ (fa2 ++ (fa3 ++ (faX))))
def ls0 : List PySem.Str := [PySem.Str.ofString "__name__", PySem.Str.ofString "LaterError", PySem.Str.ofString "PaperError", PySem.Str.ofString "DealError", PySem.Str.ofString "InvalidPaper", PySem.Str.ofString "NotUsable", PySem.Str.ofString "Unmade", PySem.Str.ofString "usable", PySem.Str.ofString "whole", PySem.Str.ofString "is_pair", PySem.Str.ofString "lowest", PySem.Str.ofString "turns_in", PySem.Str.ofString "factor_of", PySem.Str.ofString "moves_in", PySem.Str.ofString "back_from", PySem.Str.ofString "is_integer", PySem.Str.ofString "is_number", PySem.Str.ofString "is_quotient", PySem.Str.ofString "is_move", PySem.Str.ofString "moves_many", PySem.Str.ofString "turns_many", PySem.Str.ofString "is_deal", PySem.Str.ofString "want_deal", PySem.Str.ofString "want_two", PySem.Str.ofString "want_quotient", PySem.Str.ofString "factor_at", PySem.Str.ofString "back_of", PySem.Str.ofString "number_of", PySem.Str.ofString "all_moves", PySem.Str.ofString "settled", PySem.Str.ofString "idle_deal", PySem.Str.ofString "even_deal", PySem.Str.ofString "dealt", PySem.Str.ofString "taken", PySem.Str.ofString "scaled", PySem.Str.ofString "mirrored", PySem.Str.ofString "common_of", PySem.Str.ofString "_is_row"]
def ls1 : List PySem.Str := [PySem.Str.ofString "_want_rows", PySem.Str.ofString "_lowest", PySem.Str.ofString "_cleared", PySem.Str.ofString "_least_place", PySem.Str.ofString "_stepped", PySem.Str.ofString "_solved", PySem.Str.ofString "combined", PySem.Str.ofString "shifted_row", PySem.Str.ofString "shifted_rows", PySem.Str.ofString "solved", PySem.Str.ofString "weights_share", PySem.Str.ofString "small_deal", PySem.Str.ofString "recall_made", PySem.Str.ofString "left_unit", PySem.Str.ofString "right_unit", PySem.Str.ofString "need_deal", PySem.Str.ofString "need_deal_e_wants", PySem.Str.ofString "need_deals", PySem.Str.ofString "need_side", PySem.Str.ofString "is_made_left", PySem.Str.ofString "is_made_right", PySem.Str.ofString "made_left", PySem.Str.ofString "made_right", PySem.Str.ofString "quotient_of", PySem.Str.ofString "total_of", PySem.Str.ofString "need_deal_f_told", PySem.Str.ofString "without_even", PySem.Str.ofString "left_side", PySem.Str.ofString "right_side", PySem.Str.ofString "evener_right", PySem.Str.ofString "beside", PySem.Str.ofString "made_paper", PySem.Str.ofString "is_zero", PySem.Str.ofString "is_paper", PySem.Str.ofString "lets_made", PySem.Str.ofString "_law_cell", PySem.Str.ofString "_law_row", PySem.Str.ofString "_law_clock"]
def ls2 : List PySem.Str := [PySem.Str.ofString "_law_whole", PySem.Str.ofString "_law_share", PySem.Str.ofString "_law_is_deal", PySem.Str.ofString "_law_settled", PySem.Str.ofString "_law_factors", PySem.Str.ofString "_law_table", PySem.Str.ofString "_law_dealt", PySem.Str.ofString "_law_part", PySem.Str.ofString "_law_members", PySem.Str.ofString "_law_weights", PySem.Str.ofString "_law_rank", PySem.Str.ofString "_law_lefts", PySem.Str.ofString "_law_is", PySem.Str.ofString "_law_mirror", PySem.Str.ofString "_law_three", PySem.Str.ofString "_law_added", PySem.Str.ofString "_law_world", PySem.Str.ofString "_law_made", PySem.Str.ofString "_law_witness", PySem.Str.ofString "_law_ask", PySem.Str.ofString "_law_less", PySem.Str.ofString "_law_eveners", PySem.Str.ofString "_law_turned", PySem.Str.ofString "_law_sides"]
def ls : List PySem.Str := ls0 ++ (ls1 ++ (ls2))
def asX : List Addr := 3 :: (([143, 150, 157, 164, 171, 178, 183, 190, 197, 204, 211, 218, 225, 232, 239, 246, 253, 260, 267, 274, 281, 288, 293, 298, 303, 308, 313, 318, 323, 330, 335, 342, 347, 352, 359, 364, 369, 374, 381, 386, 391, 398, 403, 410, 417, 424, 431, 438, 445, 452, 459, 466, 473, 480, 487, 494, 501, 508, 515, 522, 529, 536, 541, 548, 555, 562, 569, 576, 583, 590, 597, 602, 609, 614, 619, 624, 631, 636, 641, 646, 653, 658, 663, 668, 673, 680, 685, 692, 697, 704, 711, 716, 721] : List Addr).flatMap (fun i => [i, i - 1]) ++ (List.range 93).map fun i => 49 + i)
def cU (K : PySem.W.Frag) : Addr := He.ga K "Unmade"
def cE (K : PySem.W.Frag) : Addr := He.ga K "DealError"
def oexB (K : PySem.W.Frag) (C : Addr) : Bool := (match K.lookup C with
  | some ⟨.type t, _, .cls cd, sl⟩ => decide (t = "type") && (match cd.mro, sl.toList with
    | .ref C' :: bm, [_, _, _, _, some (.builtin n), _] => decide (C' = C) && (decide (n = "ValueError.__new__") && (cd.hasDict && (!cd.hasDel && PySem.HandSPX.refsVE bm)))
    | _, _ => false)
  | _ => false)
def moreB (K : PySem.W.Frag) (C D fI : Addr) : List Bool := [oexB K C,
  decide (PySem.W.findIn K (.ref C) "__setattr__" = some (some (.builtin "object.__setattr__"))),
  decide (PySem.W.subIn K (.ref C) (.type "BaseException") = some true), decide (PySem.W.typeIn K (.ref C) = some (.type "type")), PySem.W.keepIn K (.ref C),
  xfB K C, decide (PySem.W.findIn K (.ref C) "witness" = some none), decide (PySem.W.findIn K (.ref C) "__init__" = some (some (.ref fI))),
  decide (PySem.W.typeIn K (.ref fI) = some (.type "function")), decide (PySem.W.exmOne K (.ref C) (.ref C) = some true),
  decide (PySem.W.findIn K (.ref C) "__class__" = some (some (.builtin "object.__class__"))), decide (PySem.W.mroIn K C (.type "object") = some true),
  decide (PySem.W.kitOne K (.ref C) (.ref D) = some true), decide (PySem.W.nsIn K mainGlobals "gcd" = some (some (.builtin "math.gcd")))]
def obK (K : PySem.W.Frag) : He.AlD := let p := He.obsD fa fn K; (p.1 && (moreB K (cU K) (cE K) (He.ma K (cU K) "__init__")).all id, p.2)
def hk : PySem.W.Hook where
  α := He.AlD
  obs := fun s => obK (He.frG s.heap.get? asX)
  val := fun _ => He.valD fn
  says := fun _ h => ∃ K : PySem.W.Frag, K.In h ∧ obK K = He.valD fn
  of := fun _ _ e => ⟨_, He.frG_in, e⟩
  keeps := fun _ _ _ ⟨K, hK, c⟩ k => ⟨K, PySem.W.Frag.In.keeps hK k, c⟩
abbrev R : PySem.W.OpenRow := PySem.W.OpenLaw.row PySem.Challenge.rw_evenlater_k67_whole_made_of_goes_on
def ob (s : PySem.W.SharedT) : He.AlD := obK (He.frG (HandSHeadRun.getT s) asX)
theorem ob_eq (s : PySem.W.SharedT) : ob s = hk.obs s.abs := by
  have e : HandSHeadRun.getT s = s.abs.heap.get? := funext (HandSHeadRun.getT_eq s)
  show obK (He.frG (HandSHeadRun.getT s) asX) = obK (He.frG s.abs.heap.get? asX)
  rw [e]
abbrev qv : Program := PySem.W.view R.prog [0, 124]
theorem run (w : World) : HandSHeadRun.RunEqI R qv hk ob 8000 ls w := by
  unfold HandSHeadRun.RunEqI
  kernel_rfl
end EH
end
section
set_option maxHeartbeats 2000000
/-! Loops, comprehensions, unpacking where an exception may be handled. -/
namespace DL
open PySem PySem.Spec PyProof.Rows L2 HotX
section
variable {prog : Program} {w : World} {A : Around} {E : Value → Shared → Prop} {s : Shared}
/-- nothing is handled, or what is handled has no context -/
def Mh (A : Around) (h : Heap) : Prop := A.handled = none ∨ ∃ x1, HotAt A x1 h
theorem hotK {x1 : Addr} {h h' : Heap} (q : HotAt A x1 h) (k : ∀ o, h.get? x1 = some o → h'.get? x1 = some o) : HotAt A x1 h' := let ⟨a, o, vs, b, c, d⟩ := q; ⟨a, o, vs, k o b, c, d⟩
theorem list_stop {it l : Addr} {i : Nat} {items} {Q : Option Value → Shared → Prop} (mh : Mh A s.heap) (hit : s.heap.IsListIter it l i) (hl : s.heap.IsList l items) (hx : items[i]? = none) (hne : ∀ x1, A.handled = some (.ref x1) → x1 ≠ it)
    (hQ : ∀ h', Heap.ExtBut it s.heap h' → Q none { s with heap := h' }) : wpAny (model prog w) A (pyNext (.ref it)) Q E s := by
  rcases mh with hh | ⟨x1, hot⟩
  · exact wpAny_pyNext_list_end hh hit hl hx hQ
  · obtain ⟨o, ho, hc, hd⟩ := id hit
    obtain ⟨ol, hol, _, nl, hdl⟩ := hl
    unfold pyNext
    refine wpAny_bind (wpAny_attempt (wpAny_callSpecial?_slot (name := Str.ofString "__next__") hit.typeIs slot_listiter_next (wpAny_call_entry slot_listiter_next hit.typeIs entry_listiter_next ?_ (args_listiter_next _))))
    refine wpAny_bind (m := field (.ref it) 0) (wpAny_field ho hd (x := .ref l) rfl ?_)
    refine (show wpAny _ _ (if (Value.ref l == Value.none) = true then _ else _) _ _ s from ?_)
    rw [if_neg (show ¬ ((Value.ref l == Value.none) = true) from Bool.false_ne_true)]
    refine wpAny_bind (m := field (.ref it) 1) (wpAny_field ho hd (x := .int i 0) rfl ?_)
    refine wpAny_bind (m := seqItems? (.ref l)) (wpAny_seqItems hol hdl ?_)
    simp only [Int.toNat_natCast, hx]
    refine wpAny_bind (wpAny_rule (wpAny_bind (wpAny_setField ho hd (by simp) ?_)))
    refine wpAny_bind (m := newExc (.type "StopIteration") []) ?_
    simp only [newExc, newTuple]
    refine wpAny_bind (wpAny_newObj_type (wpAny_bind (m := firstArgMember _ _) (wpAny_of_eq (a := Value.none) (by first | rfl | (simp only [firstArgMember]; rfl)) (wpAny_newObj_type ?_ (by size_fits)))) (by size_fits))
    have z1 := hne x1 hot.1
    obtain ⟨hh, o1, vs1, g1, d1, c1⟩ := hot
    have g2 : ∀ f, (s.heap.update it f).get? x1 = some o1 := fun f => ((Heap.SameBut.update s.heap it f).2 x1 z1).trans g1
    refine raiseNew_hot ⟨hh, o1, vs1, Heap.get?_push_of_some _ (Heap.get?_push_of_some _ (g2 _)), d1, c1⟩ (Nat.ne_of_lt (Heap.lt_size (Heap.get?_push_of_some _ (g2 _)))) (Heap.get?_push_size _ rfl) rfl (by first | (simp; done) | (simp; omega) | (simp only [Array.size_append]; simp; omega)) ?_
    refine wpAny_bind (wpAny_isInstance (T := "StopIteration") (b := true) ⟨_, Heap.get?_update_self _ (Heap.get?_push_size _ rfl) rfl, rfl⟩ isSubtype_stop (wpAny_pure (hQ _ fun b o hb e => ?_)))
    have e2 : ∀ f, (s.heap.update it f).get? b = some o := fun f => ((Heap.SameBut.update s.heap it f).2 b hb).trans e
    rw [Heap.get?_update_other _ _ (Nat.ne_of_gt (Heap.lt_size (Heap.get?_push_of_some _ (e2 _))))]
    exact Heap.get?_push_of_some _ (Heap.get?_push_of_some _ (e2 _))
theorem tuple_stop {it t : Addr} {i : Nat} {items} {Q : Option Value → Shared → Prop} (mh : Mh A s.heap) (hit : s.heap.IsTupleIter it t i) (ht : s.heap.IsTuple t items) (hx : items[i]? = none) (hne : ∀ x1, A.handled = some (.ref x1) → x1 ≠ it)
    (hQ : ∀ h', Heap.ExtBut it s.heap h' → Q none { s with heap := h' }) : wpAny (model prog w) A (pyNext (.ref it)) Q E s := by
  rcases mh with hh | ⟨x1, hot⟩
  · exact wpAny_pyNext_tuple_end hh hit ht hx hQ
  · obtain ⟨o, ho, hc, hd⟩ := id hit
    obtain ⟨ol, hol, _, nl, hdl⟩ := ht
    unfold pyNext
    refine wpAny_bind (wpAny_attempt (wpAny_callSpecial?_slot (name := Str.ofString "__next__") hit.typeIs F.slot_tuple_iterator_next (wpAny_call_entry F.slot_tuple_iterator_next hit.typeIs F.entry_tuple_iterator_next ?_ (F.args_tuple_iterator_next_1 _))))
    refine wpAny_bind (m := field (.ref it) 0) (wpAny_field ho hd (x := .ref t) rfl ?_)
    refine (show wpAny _ _ (if (Value.ref t == Value.none) = true then _ else _) _ _ s from ?_)
    rw [if_neg (show ¬ ((Value.ref t == Value.none) = true) from Bool.false_ne_true)]
    refine wpAny_bind (m := field (.ref it) 1) (wpAny_field ho hd (x := .int i 0) rfl ?_)
    refine wpAny_bind (m := seqItems? (.ref t)) (wpAny_seqItems hol hdl ?_)
    simp only [Int.toNat_natCast, hx]
    refine wpAny_bind (wpAny_rule (wpAny_bind (wpAny_setField ho hd (by simp) ?_)))
    refine wpAny_bind (m := newExc (.type "StopIteration") []) ?_
    simp only [newExc, newTuple]
    refine wpAny_bind (wpAny_newObj_type (wpAny_bind (m := firstArgMember _ _) (wpAny_of_eq (a := Value.none) (by first | rfl | (simp only [firstArgMember]; rfl)) (wpAny_newObj_type ?_ (by size_fits)))) (by size_fits))
    have z1 := hne x1 hot.1
    obtain ⟨hh, o1, vs1, g1, d1, c1⟩ := hot
    have g2 : ∀ f, (s.heap.update it f).get? x1 = some o1 := fun f => ((Heap.SameBut.update s.heap it f).2 x1 z1).trans g1
    refine raiseNew_hot ⟨hh, o1, vs1, Heap.get?_push_of_some _ (Heap.get?_push_of_some _ (g2 _)), d1, c1⟩ (Nat.ne_of_lt (Heap.lt_size (Heap.get?_push_of_some _ (g2 _)))) (Heap.get?_push_size _ rfl) rfl (by first | (simp; done) | (simp; omega) | (simp only [Array.size_append]; simp; omega)) ?_
    refine wpAny_bind (wpAny_isInstance (T := "StopIteration") (b := true) ⟨_, Heap.get?_update_self _ (Heap.get?_push_size _ rfl) rfl, rfl⟩ isSubtype_stop (wpAny_pure (hQ _ fun b o hb e => ?_)))
    have e2 : ∀ f, (s.heap.update it f).get? b = some o := fun f => ((Heap.SameBut.update s.heap it f).2 b hb).trans e
    rw [Heap.get?_update_other _ _ (Nat.ne_of_gt (Heap.lt_size (Heap.get?_push_of_some _ (e2 _))))]
    exact Heap.get?_push_of_some _ (Heap.get?_push_of_some _ (e2 _))
theorem range_stop {it : Addr} {x left step : Int} {Q : Option Value → Shared → Prop} (mh : Mh A s.heap) (hit : IsRangeIter s.heap it x left step) (hleft : left ≤ 0)
    (hQ : ∀ h', Heap.ExtBut it s.heap h' → Q none { s with heap := h' }) : wpAny (model prog w) A (pyNext (.ref it)) Q E s := by
  rcases mh with hh | ⟨x1, hot⟩
  · exact wpAny_pyNext_range_end hh hit hleft hQ
  · exact pyNext_range_end_hot hot hit hleft fun h' k => hQ h' fun b o _ e => k b o e
/-- a tuple is unpacked -/
theorem unpack_mild {t : Addr} {items : Array Value} {Q : List Value → Shared → Prop} (mh : Mh A s.heap) (ht : IsTup s.heap t items)
    (hQ : ∀ h', Heap.ExtBut s.heap.objs.size s.heap h' → Q items.toList { s with heap := h' }) : wpAny (model prog w) A (unpackItems (.ref t) items.size none) Q E s := by
  rcases mh with hh | ⟨x1, hot⟩
  · exact unpackItems_tuple hh ht hQ
  · have hlt : t ≠ s.heap.objs.size := by obtain ⟨o, ho, _⟩ := ht; exact Nat.ne_of_lt (Heap.lt_size ho)
    have x1lt : x1 < s.heap.objs.size := by obtain ⟨_, _, _, q, _⟩ := hot; exact Heap.lt_size q
    unfold unpackItems
    refine wpAny_bind ?_
    unfold notIterableAtAll
    refine wpAny_bind (wpAny_specialOf ht.typeIs slot_tuple_iter.lookup (wpAny_pure ?_))
    simp only [Bool.false_eq_true, if_false]
    refine wpAny_bind (wpAny_holding (iter_tuple ht ?_))
    refine wpAny_bind (wpAny_holding (draw_tuple hlt items.size 0 _ _ ⟨_, Heap.get?_push_size _ rfl, rfl, rfl⟩ (ht.push _) (by omega) fun h1 it1 s1 => ?_))
    have hall : List.take items.size (List.drop 0 items.toList) = items.toList := by rw [List.drop_zero]; exact List.take_of_length_le (by simp)
    rw [hall, if_neg (by simp)]
    have t1 : IsTup h1 t items := (ht.push _).extBut s1.extBut hlt
    have hot1 : HotAt A x1 h1 := hotK hot fun o q => (s1.2 x1 (Nat.ne_of_lt x1lt)).trans (Heap.get?_push_of_some _ q)
    refine wpAny_bind (wpAny_holding (tuple_stop (s := { s with heap := h1 }) (items := items) (.inr ⟨x1, hot1⟩) it1 t1 (by simp) (fun y e => ?_) fun h2 e2 => ?_))
    · rw [hot.1] at e; cases e; exact Nat.ne_of_lt x1lt
    · simp only [Option.isSome_none, Bool.false_eq_true, if_false]
      exact wpAny_pure (hQ h2 fun b o hb e => e2 b o hb (s1.extBut b o hb (Heap.get?_push_of_some _ e)))
theorem assign_tup_mild {env : Env} {elts : List Expr} {k : Nat} {pos : Pos} {t : Addr} {items : Array Value} {Q : Unit → Shared → Prop} (mh : Mh A s.heap) (ht : IsTup s.heap t items)
    (hn : (assignEach elts env).length = items.size) (hst : (assignEach elts env).findIdx? (·.1) = none)
    (h : ∀ h', Heap.ExtBut s.heap.objs.size s.heap h' → wpAny (model prog w) A (assignInOrder ((assignEach elts env).map (·.2)) items.toList) Q E { s with heap := h' }) : wpAny (model prog w) A (assign (.Tuple elts k pos) env (.ref t)) Q E s := by
  rw [assign_Tuple]
  refine wpAny_bind (wpAny_standAt ?_)
  unfold unpack
  rw [hn, hst]
  exact wpAny_bind (wpAny_holding (unpack_mild mh ht h))
end
/-! ### contexts -/
/-- calm, or the handled exception is pinned -/
def Mild (X : Cx) : Prop := X.calm = true ∨ ∃ p : Addr × Obj, L2H.Hot1 X.A p ∧ p ∈ X.pn
/-- c: no exception is handled -/
def Md (c : Bool) (X : Cx) : Prop := if c then X.calm = true else Mild X
theorem Md.mild {c : Bool} {X : Cx} (m : Md c X) : Mild X := by
  cases c with
  | true => exact .inl m
  | false => exact m
section
variable {X : Cx} {pins : List (Addr × Obj)} {σ : L2.St} {H : Hp} {s : Shared}
theorem Mild.mh (m : Mild X) (I : Inv X pins σ H s) : Mh X.A s.heap := by
  rcases m with c | ⟨p, ⟨hh, v1, e1, c1⟩, hp⟩
  · exact .inl (I.ok.hd c)
  · exact .inr ⟨p.1, hh, p.2, v1, (I.pin p (List.mem_append_left _ hp)).1, e1, c1⟩
theorem Mild.ne (m : Mild X) (I : Inv X pins σ H s) {it : Addr} (f : FpOk X pins H it) : ∀ x1, X.A.handled = some (.ref x1) → x1 ≠ it := fun x1 e => by
  rcases m with c | ⟨p, ⟨hh, _⟩, hp⟩
  · rw [I.ok.hd c] at e; cases e
  · rw [hh] at e; cases e
    exact f.2.2.2.2.2 p (List.mem_append_left _ hp)
end
/-- a turn of an iterator, where c -/
structure TurnM (c : Bool) (P : Program) (w : World) (K : PySem.W.Frag) (tg : Expr) (J : It) (fp : List Addr) (it : Addr) (tn : Nat → Heap → Prop) : Prop where
  mem : it ∈ fp
  obj : ∀ i h, tn i h → ∀ b ∈ fp, ∃ o, h.get? b = some o ∧ ∀ v, o.data ≠ .cell v
  keep : ∀ i h h', tn i h → (∀ b ∈ fp, ∀ o, h.get? b = some o → h'.get? b = some o) → tn i h'
  item : ∀ (X : Cx), X.prog = P → X.w = w → X.K = K → Md c X → ∀ (i : Nat) (pins : List (Addr × Obj)) (s : Shared) (σ : L2.St) (H : Hp) (E : Value → Shared → Prop), Inv X pins σ H s → (∀ b ∈ fp, FpOk X pins H b) → tn i s.heap → J.go i H →
    wpAny (model P w) X.A (pyNext (.ref it)) (fun r s1 => ∃ u, r = some u ∧ wpAny (model P w) X.A (letOwnedTupleGo tg (.ref it) u) (fun _ s2 => ∃ x H', Inv X pins σ H' s2 ∧ RelV x u ∧ J.yld i H x H' ∧ tn (i + 1) s2.heap ∧ ∀ b ∈ fp, H' b = none) E s1) E s
  done : ∀ (X : Cx), X.prog = P → X.w = w → X.K = K → Md c X → ∀ (i : Nat) (pins : List (Addr × Obj)) (s : Shared) (σ : L2.St) (H : Hp) (E : Value → Shared → Prop), Inv X pins σ H s → (∀ b ∈ fp, FpOk X pins H b) → tn i s.heap → J.stop i H →
    wpAny (model P w) X.A (pyNext (.ref it)) (fun r s1 => r = none ∧ Inv X pins σ H s1) E s
  self : ∀ (A : Around) (i : Nat) (s : Shared) (Q : Value → Shared → Prop) (E : Value → Shared → Prop), tn i s.heap → Q (.ref it) s → wpAny (model P w) A (pyIter (.ref it)) Q E s
theorem turnM_of {P : Program} {w : World} {K : PySem.W.Frag} {tg : Expr} {J : It} {fp : List Addr} {it : Addr} {tn : Nat → Heap → Prop} (T : Turn P w K tg J fp it tn) : TurnM true P w K tg J fp it tn :=
  ⟨T.mem, T.obj, T.keep, fun X a b c m => T.item X a b c m, fun X a b c m => T.done X a b c m, T.self⟩
/-- an iterator has come -/
def PIEM (c : Bool) (X : Cx) (pins : List (Addr × Obj)) (σ : L2.St) (tg : Expr) (R : It → Hp → Prop) (itv : Value) (s2 : Shared) : Prop :=
  ∃ (it : Addr) (fp : List Addr) (tn : Nat → Heap → Prop) (J : It) (H' : Hp), itv = .ref it ∧ Inv X pins σ H' s2 ∧ TurnM c X.prog X.w X.K tg J fp it tn ∧ tn 0 s2.heap ∧ (∀ b ∈ fp, FpOk X pins H' b) ∧ R J H'
structure PIM (c : Bool) (X : Cx) (tg iter : Expr) (wi : TI) : Prop where
  run : ∀ (pins : List (Addr × Obj)) (s : Shared) (σ : L2.St) (H : Hp) (R : It → Hp → Prop), Inv X pins σ H s → wi σ H R →
    wpAny (model X.prog X.w) X.A (eval iter X.env) (fun v s1 => wpAny (model X.prog X.w) X.A (pyIter v) (PIEM c X pins σ tg R) X.xe s1) X.xe s
theorem pim_of {X : Cx} {tg iter : Expr} {wi : TI} (h : PI X tg iter wi) : PIM true X tg iter wi :=
  ⟨fun pins s σ H R I hw => thn (h.run pins s σ H R I hw) fun v s1 h1 => thn h1 fun u s2 ⟨it, fp, tn, J, H', e, I2, T, st, f, r⟩ => ⟨it, fp, tn, J, H', e, I2, turnM_of T, st, f, r⟩⟩
/-- the three walks that may end where an exception is handled -/
theorem turnM_list {P : Program} {w : World} {K : PySem.W.Frag} {tg : Expr} (a it : Addr) : TurnM false P w K tg (Itl K a) [it] it (fun i h => h.IsListIter it a i) where
  mem := (turn_list (P := P) (w := w) (K := K) (tg := tg) a it).mem
  obj := (turn_list (P := P) (w := w) (K := K) (tg := tg) a it).obj
  keep := (turn_list (P := P) (w := w) (K := K) (tg := tg) a it).keep
  item := by
    intro X hP hw hK hc i pins s σ H E I hf st hg
    subst hP hw hK
    obtain ⟨xs, x, hq, hx⟩ := hg
    obtain ⟨its, rv, p, hz⟩ := I.list hq
    obtain ⟨u, hu, ru⟩ := rv.get hx
    obtain ⟨f0, f1, f2, f3, f4, f5⟩ := hf it (by simp)
    refine wpAny_pyNext_list_item st p.isList (x := u) (by simpa using hu) fun h' st' sb => ?_
    have I1 : Inv X pins σ H { s with heap := h' } := I.turned (t' := s.toks) (fun b o hb e => (sb.2 b hb).trans e) f0 f1 f3 f4 f5
    obtain ⟨o, e, c, d⟩ := id st'
    exact ⟨u, rfl, go_of (s := { s with heap := h' }) e c d (by decide) ⟨x, H, I1, ru, ⟨rfl, fun ys hy => by rw [I.list_inj hy hq]; exact hx⟩, st', fun b hb => (hf b hb).1⟩⟩
  done := by
    intro X hP hw hK hc i pins s σ H E I hf st hg
    subst hP hw hK
    obtain ⟨xs, hq, hx⟩ := hg
    obtain ⟨its, rv, p, hz⟩ := I.list hq
    have fi := hf it (by simp)
    obtain ⟨f0, f1, f2, f3, f4, f5⟩ := id fi
    have hl := rv.length
    exact list_stop (Mild.mh hc I) st p.isList (by simp; omega) (Mild.ne hc I fi) fun h' eb => ⟨rfl, I.turned (t' := s.toks) (fun b o hb e => eb b o hb e) f0 f1 f3 f4 f5⟩
  self := fun _ _ _ _ _ st h => wpAny_pyIter_listiter st h
theorem turnM_tuple {P : Program} {w : World} {K : PySem.W.Frag} {tg : Expr} (a it : Addr) : TurnM false P w K tg (Itt K a) [it] it (fun i h => h.IsTupleIter it a i) where
  mem := (turn_tuple (P := P) (w := w) (K := K) (tg := tg) a it).mem
  obj := (turn_tuple (P := P) (w := w) (K := K) (tg := tg) a it).obj
  keep := (turn_tuple (P := P) (w := w) (K := K) (tg := tg) a it).keep
  item := by
    intro X hP hw hK hc i pins s σ H E I hf st hg
    subst hP hw hK
    obtain ⟨xs, x, hq, hx⟩ := hg
    obtain ⟨its, rv, p, hz⟩ := I.tuple hq
    obtain ⟨u, hu, ru⟩ := rv.get hx
    obtain ⟨f0, f1, f2, f3, f4, f5⟩ := hf it (by simp)
    refine wpAny_pyNext_tuple_item st (show s.heap.IsTuple a its.toArray from p) (x := u) (by simpa using hu) fun h' st' sb => ?_
    have I1 : Inv X pins σ H { s with heap := h' } := I.turned (t' := s.toks) (fun b o hb e => (sb.2 b hb).trans e) f0 f1 f3 f4 f5
    obtain ⟨o, e, c, d⟩ := id st'
    exact ⟨u, rfl, go_of (s := { s with heap := h' }) e c d (by decide) ⟨x, H, I1, ru, ⟨rfl, fun ys hy => by rw [I.tuple_inj hy hq]; exact hx⟩, st', fun b hb => (hf b hb).1⟩⟩
  done := by
    intro X hP hw hK hc i pins s σ H E I hf st hg
    subst hP hw hK
    obtain ⟨xs, hq, hx⟩ := hg
    obtain ⟨its, rv, p, hz⟩ := I.tuple hq
    have fi := hf it (by simp)
    obtain ⟨f0, f1, f2, f3, f4, f5⟩ := id fi
    have hl := rv.length
    exact tuple_stop (Mild.mh hc I) st (show s.heap.IsTuple a its.toArray from p) (by simp; omega) (Mild.ne hc I fi) fun h' eb => ⟨rfl, I.turned (t' := s.toks) (fun b o hb e => eb b o hb e) f0 f1 f3 f4 f5⟩
  self := fun _ _ _ _ _ st h => wpAny_pyIter_tupleiter st h
theorem turnM_range {P : Program} {w : World} {K : PySem.W.Frag} {tg : Expr} (it : Addr) (lo : Int) (n : Nat) : TurnM false P w K tg (Itr lo n) [it] it (fun i h => IsRangeIter h it (lo + (i : Nat) * 1) ((n : Int) - (i : Nat)) 1) where
  mem := (turn_range (P := P) (w := w) (K := K) (tg := tg) it lo n).mem
  obj := (turn_range (P := P) (w := w) (K := K) (tg := tg) it lo n).obj
  keep := (turn_range (P := P) (w := w) (K := K) (tg := tg) it lo n).keep
  item := by
    intro X hP hw hK hc i pins s σ H E I hf st hg
    subst hP hw hK
    obtain ⟨f0, f1, f2, f3, f4, f5⟩ := hf it (by simp)
    have hl : (0 : Int) < (n : Int) - (i : Nat) := by
      have z : i < n := hg
      omega
    refine wpAny_pyNext_range_item st hl (fun h' st' sb => ?_)
    have I1 : Inv X pins σ H { s with heap := h', toks := s.toks + 1 } := I.turned (fun b o hb e => (sb.2 b hb).trans e) f0 f1 f3 f4 f5
    have e1 : lo + ((i + 1 : Nat) : Int) * 1 = lo + (i : Nat) * 1 + 1 := by omega
    have e2 : (n : Int) - ((i + 1 : Nat) : Int) = (n : Int) - (i : Nat) - 1 := by omega
    refine ⟨_, rfl, go_of (s := { s with heap := h', toks := s.toks + 1 }) (n := "range_iterator") st' rfl rfl (by decide) ⟨.int (lo + i), H, I1, ⟨_, by rw [Int.mul_one]⟩, ⟨rfl, rfl⟩, ?_, fun b hb => (hf b hb).1⟩⟩
    show IsRangeIter _ _ (lo + ((i + 1 : Nat) : Int) * 1) ((n : Int) - ((i + 1 : Nat) : Int)) 1
    rw [e1, e2]
    exact st'
  done := by
    intro X hP hw hK hc i pins s σ H E I hf st hg
    subst hP hw hK
    obtain ⟨f0, f1, f2, f3, f4, f5⟩ := hf it (by simp)
    exact range_stop (Mild.mh hc I) st (by have : n ≤ i := hg; omega) fun h' eb => ⟨rfl, I.turned (t' := s.toks) (fun b o hb e => eb b o hb e) f0 f1 f3 f4 f5⟩
  self := fun _ _ _ _ _ st h => wpAny_pyIter_rangeiter st h
section
variable {X : Cx} {tg : Expr}
theorem pim_list {l : Expr} {tl : TE} (hl : PE X l tl) : PIM false X tg l (iList X.K tl) := by
  refine ⟨fun pins s σ H R I h => thn (hl.run pins s σ H _ I h) fun v s1 ⟨x, H1, I1, r1, q1⟩ => ?_⟩
  obtain ⟨a, e, ⟨xs, hq⟩, q⟩ := q1
  subst e
  cases r1
  obtain ⟨its, rv, p, hz⟩ := I1.list hq
  refine wpAny_pyIter_list p.isList ⟨s1.heap.objs.size, [s1.heap.objs.size], _, _, H1, rfl, I1.kept (t' := s1.toks) fun b o e => Heap.get?_push_of_some _ e, turnM_list a _, ⟨_, Heap.get?_push_size _ rfl, rfl, rfl⟩, fun b hb => ?_, q⟩
  have e : b = s1.heap.objs.size := by simpa using hb
  exact e ▸ I1.fpOk (Nat.le_refl _) (I1.hok.fresh (Nat.le_refl _))
theorem pim_tup {l : Expr} {tl : TE} (hl : PE X l tl) : PIM false X tg l (iTup X.K tl) := by
  refine ⟨fun pins s σ H R I h => thn (hl.run pins s σ H _ I h) fun v s1 ⟨x, H1, I1, r1, q1⟩ => ?_⟩
  obtain ⟨a, e, ⟨xs, hq⟩, q⟩ := q1
  subst e
  cases r1
  obtain ⟨its, rv, p, hz⟩ := I1.tuple hq
  refine wpAny_pyIter_tuple (show s1.heap.IsTuple a its.toArray from p) ⟨s1.heap.objs.size, [s1.heap.objs.size], _, _, H1, rfl, I1.kept (t' := s1.toks) fun b o e => Heap.get?_push_of_some _ e, turnM_tuple a _, ⟨_, Heap.get?_push_size _ rfl, rfl, rfl⟩, fun b hb => ?_, q⟩
  have e : b = s1.heap.objs.size := by simpa using hb
  exact e ▸ I1.fpOk (Nat.le_refl _) (I1.hok.fresh (Nat.le_refl _))
theorem rangeM_it {pins : List (Addr × Obj)} {σ : L2.St} {H : Hp} {s : Shared} {R : It → Hp → Prop} {E : Value → Shared → Prop} {lo hi : Int} {t u v : Tok} {tk : Nat} (I : Inv X pins σ H s) (h1 : -(2 ^ 62) ≤ lo) (h2 : lo < 2 ^ 62) (h3 : -(2 ^ 62) ≤ hi) (h4 : hi < 2 ^ 62)
    (q : R (Itr lo (hi - lo).toNat) H) : wpAny (model X.prog X.w) X.A (pyIter (.ref s.heap.objs.size)) (PIEM false X pins σ tg R) E { s with heap := s.heap.push { cls := .type "range", data := .fields #[.int lo t, .int hi u, .int 1 v] }, toks := tk } := by
  have I1 : ∀ o : Obj, Inv X pins σ H { s with heap := s.heap.push o, toks := tk } := fun o => I.kept fun b u e => Heap.get?_push_of_some _ e
  refine wpAny_pyIter_range (IsRange.new ..) (small_one h1 h2 h3 h4) ⟨_, [_], _, _, H, rfl, (I1 _).kept (t' := tk) fun b o e => Heap.get?_push_of_some _ e, turnM_range _ lo (hi - lo).toNat, ?_, fun b hb => ?_, q⟩
  · have e1 : lo + ((0 : Nat) : Int) * 1 = lo := by simp
    have e2 : (((hi - lo).toNat : Nat) : Int) - ((0 : Nat) : Int) = Builtin.Range.rangeSize lo hi 1 := by rw [rangeSize_one]; split <;> omega
    show IsRangeIter _ _ (lo + ((0 : Nat) : Int) * 1) ((((hi - lo).toNat : Nat) : Int) - ((0 : Nat) : Int)) 1
    rw [e1, e2]
    exact Heap.get?_push_size _ rfl
  · have e := List.mem_singleton.mp hb
    rw [e]
    exact (I1 _).fpOk (Nat.le_refl _) ((I1 _).hok.fresh (Nat.le_refl _))
theorem pim_range1 {a : Expr} {ta : TA} {p pos : Pos} (hg : Gl X "range") (hm : X.mg "range" = none) (ha : PA X [a] ta) (hs : starEach [a] X.env = [(false, eval a X.env)] := by rfl) : PIM false X tg (.Call (.Name "range" p) [a] [] pos) (iRng1 ta) := by
  refine ⟨fun pins s σ H R I h => Call_ (ld_blt I hg hm boot_range (PyProof.Rows.callWith_type1 (thn (ha.run pos pins s σ H _ I h) fun us s1 ⟨vs, H1, I1, r1, q1⟩ => ?_) hs rfl))⟩
  obtain ⟨j, e, q1, q2, q⟩ := q1
  subst e
  cases r1 with
  | cons r rr =>
    cases rr
    obtain ⟨t, rfl⟩ := r
    exact call_range_1 (rangeM_it I1 (by omega) (by omega) q1 q2 (by simpa using q))
theorem pim_range2 {a b : Expr} {ta : TA} {p pos : Pos} (hg : Gl X "range") (hm : X.mg "range" = none) (ha : PA X [a, b] ta) (hs : starEach [a, b] X.env = [(false, eval a X.env), (false, eval b X.env)] := by rfl) (hs2 : starEach [b] X.env = [(false, eval b X.env)] := by rfl) :
    PIM false X tg (.Call (.Name "range" p) [a, b] [] pos) (iRng2 ta) := by
  refine ⟨fun pins s σ H R I h => Call_ (ld_blt I hg hm boot_range (PyProof.Rows.callWith_type1 (thn (ha.run pos pins s σ H _ I h) fun us s1 ⟨vs, H1, I1, r1, q1⟩ => ?_) (by rw [hs, hs2]) (by rw [hs2]; rfl)))⟩
  obtain ⟨i, j, e, ⟨q1, q2, q3, q4⟩, q⟩ := q1
  subst e
  cases r1 with
  | cons r rr =>
    cases rr with
    | cons r' rr =>
      cases rr
      obtain ⟨t, rfl⟩ := r
      obtain ⟨t', rfl⟩ := r'
      exact call_range_2 (rangeM_it I1 q1 q2 q3 q4 q)
/-- for, where c -/
theorem ps_forM {c : Bool} {iter : Expr} {body : List Stmt} {wi : TI} {g : TG} {tb : TS} {pos : Pos} (hp : PassesOwn (model X.prog X.w) X.A X.env X.xe) (hc : Md c X) (hi : PIM c X tg iter wi) (hg : PG X tg g) (hb : PSs X body tb)
    (hs : ∀ x, foldedSetIterable iter X.env x = pure x := by intro _; rfl) : PS X (.For tg iter body [] pos) (tFor wi g tb) := by
  refine ⟨fun pins s σ H D I h => wpAny_For (thn (hi.run pins s σ H _ I h) fun v s1 h1 => thn h1 fun itv s2 h2 => ?_) hs⟩
  obtain ⟨it, fp, tn, J, H2, e, I2, T, st2, f2, W, ⟨m0, w0⟩, turn⟩ := h2
  subst e
  have stat : ∀ {H' : Hp}, (∀ b ∈ fp, H' b = none) → ∀ b ∈ fp, FpOk X pins H' b := fun hn b hb => ⟨hn b hb, (f2 b hb).2⟩
  refine codeAny_forLoop_any (fun n s' => ∃ i σ' H', Inv X pins σ' H' s' ∧ tn i s'.heap ∧ (∀ b ∈ fp, H' b = none) ∧ W i n σ' H') ?_ m0 ⟨0, σ, H2, I2, st2, fun b hb => (f2 b hb).1, w0⟩
  rintro n s3 ⟨i, σ3, H3, I3, st3, fr3, w3⟩
  rcases turn i n σ3 H3 w3 with ⟨stop, qn⟩ | ⟨go, N, hN, step⟩
  · refine wpAny_passesOwn hp (thn (T.done X rfl rfl rfl hc i pins s3 σ3 H3 X.xe I3 (stat fr3) st3 stop) fun r s4 ⟨hr, I4⟩ => ?_)
    subst hr
    exact wpAny_execs_nil ⟨σ3, H3, I4, qn⟩
  · refine wpAny_passesOwn hp (thn (T.item X rfl rfl rfl hc i pins s3 σ3 H3 X.xe I3 (stat fr3) st3 go) fun r s4 ⟨u, hr, h4⟩ => ?_)
    subst hr
    refine wpAny_passesOwn hp (thn h4 fun _ s5 ⟨x, H5, I5, r5, y5, st5, fr5⟩ => ?_)
    have J5 := I5.pinned (stat fr5) (T.obj _ _ st5)
    refine wpAny_passesOwn hp (thn (hg.run _ s5 σ3 H5 x u _ J5 r5 (step x H5 y5)) fun _ s6 ⟨σ6, H6, I6, q6⟩ => ?_)
    refine wpAny_passesOwn hp (thn (hb.run _ s6 σ6 H6 _ I6 q6) fun f s7 q7 => ?_)
    have again : ∀ {σ7 : L2.St} {H7 : Hp}, Inv X (pins ++ pinsAt fp s5.heap) σ7 H7 s7 → N σ7 H7 → ∃ m, m < n ∧ ∃ i σ' H', Inv X pins σ' H' s7 ∧ tn i s7.heap ∧ (∀ b ∈ fp, H' b = none) ∧ W i m σ' H' := fun {σ7 H7} I7 n7 => by
      obtain ⟨m', hm, w7⟩ := hN σ7 H7 n7
      have at7 : ∀ b ∈ fp, ∀ o, s5.heap.get? b = some o → s7.heap.get? b = some o ∧ H7 b = none := fun b hb o e => let z := I7.pin (b, o) (List.mem_append_right _ (List.mem_append_right _ (mem_pinsAt hb e))); ⟨z.1, z.2.1⟩
      refine ⟨m', hm, i + 1, σ7, H7, I7.unpinned, T.keep _ _ _ st5 fun b hb o e => (at7 b hb o e).1, fun b hb => ?_, w7⟩
      obtain ⟨o, e, d⟩ := T.obj _ _ st5 b hb
      exact (at7 b hb o e).2
    cases f with
    | next => obtain ⟨σ7, H7, I7, n7⟩ := q7; exact again I7 n7
    | cont => obtain ⟨σ7, H7, I7, n7⟩ := q7; exact again I7 n7
    | brk => obtain ⟨σ7, H7, I7, q7⟩ := q7; exact ⟨σ7, H7, I7.unpinned, q7⟩
    | ret v => obtain ⟨x7, σ7, H7, I7, r7, q7⟩ := q7; exact ⟨x7, σ7, H7, I7.unpinned, r7, q7⟩
theorem pg_tupM {es : List Expr} {k : Nat} {t : TGs} {n : Nat} {pos : Pos} (hc : Mild X) (h : PGs X es t) (hn : (assignEach es X.env).length = n := by rfl) (hst : (assignEach es X.env).findIdx? (·.1) = none := by rfl) :
    PG X (.Tuple es k pos) (gTup X.K n t) := by
  refine ⟨fun pins s σ H v u Q I r hw => ?_⟩
  obtain ⟨a, xs, e1, hq, hl, hw⟩ := hw
  subst e1
  cases r
  obtain ⟨its, rv, ht, hz⟩ := I.tuple hq
  refine assign_tup_mild (hc.mh I) ht (by simp [hn, ← hl, rv.length]) hst fun h' hx => ?_
  exact h.run pins _ σ H xs _ Q (I.kept (t' := s.toks) fun b o e => hx b o (Nat.ne_of_lt (Heap.lt_size e)) e) (by simpa using rv) hw
theorem ps_parM {i j : Nat} {x y : Str} {a b : Expr} {ta : TA} {px py pt pos : Pos} {kt k2 pt2} (hc : Mild X) (hN : X.N.Nodup) (hi : X.N[i]? = some x) (hj : X.N[j]? = some y) (hij : i ≠ j)
    (hx : X.env.scope.names.lookup x = some .local) (hy : X.env.scope.names.lookup y = some .local) (ha : PA X [a, b] ta)
    (hw : swappedStores [.Tuple [.Name x px, .Name y py] kt pt] (.Tuple [a, b] k2 pt2) X.env = pure (some [x, y]))
    (hs : swapsWithSole [.Tuple [.Name x px, .Name y py] kt pt] (.Tuple [a, b] k2 pt2) pos.line X.env = pure false := by rfl) :
    PS X (.Assign [.Tuple [.Name x px, .Name y py] kt pt] (.Tuple [a, b] k2 pt2) pos) (tPar i j ta) := by
  refine ⟨fun pins s σ H D I h => ?_⟩
  rw [exec_Assign_arm]
  refine wpAny_bind (wpAny_standAt ?_)
  rw [hs]
  refine wpAny_bind (wpAny_pure ?_)
  rw [if_neg (by decide)]
  refine wpAny_bind (Tuple_ (thn (ha.run _ pins s σ H _ I h) fun us s1 ⟨vs, H1, I1, r1, q1⟩ => ?_))
  obtain ⟨v, w, e1, q1⟩ := q1
  subst e1
  obtain ⟨u1, u2, rfl, rv, rw'⟩ : ∃ u1 u2, us = [u1, u2] ∧ RelV v u1 ∧ RelV w u2 := by
    cases r1 with
    | cons p q => cases q with
      | cons p' q' => cases q'; exact ⟨_, _, rfl, p, p'⟩
  refine wpAny_newObj_type ?_ (by show 2 ≤ sizeLine; decide)
  have I2 : Inv X pins σ H1 { s1 with heap := s1.heap.push { cls := .type "tuple", data := .seq [u1, u2].toArray } } := I1.kept (t' := s1.toks) fun b o e => Heap.get?_push_of_some _ e
  rw [hw]
  refine wpAny_bind (wpAny_pure ?_)
  refine (show wpAny (model X.prog X.w) X.A (do rule "assign.swapped-stores"; let items ← unpackItems (.ref s1.heap.objs.size) 2 none; assignInOrder [fun v => bindName X.env y v, fun v => bindName X.env x v] items.reverse; pure Flow.next) _ _ _ from ?_)
  refine wpAny_bind (wpAny_rule (wpAny_bind (unpack_mild (items := #[u1, u2]) (hc.mh I2) (IsTup.new s1.heap _) fun h' hx' => ?_)))
  have I3 := I2.kept (h' := h') (t' := s1.toks) fun b o e => hx' b o (Nat.ne_of_lt (Heap.lt_size e)) e
  refine (show wpAny _ _ (assignInOrder [fun v => bindName X.env y v, fun v => bindName X.env x v] [u2, u1] >>= fun _ => pure Flow.next) _ _ _ from ?_)
  refine wpAny_bind (assignInOrder_cons (wpAny_bindName (store_ok I3 hN hj (.inl hy) rw' (fun s2 I4 => ?_) (.inr hy))))
  refine assignInOrder_cons (wpAny_bindName (store_ok I4 hN hi (.inl hx) rv (fun s3 I5 => assignInOrder_nil (wpAny_pure ?_)) (.inr hx)))
  rw [List.set_comm _ _ (Ne.symm hij)] at I5
  exact ⟨_, H1, I5, q1⟩
/-! ### comprehensions: the pins go within -/
abbrev Cx.blkM (X : Cx) (s : Shared) (H : Hp) (scope : Scope) (cenv : Env) (fp : List Addr) : Cx := { X with s_0 := s, H_0 := H, env := cenv, outer := X.stack, ex := fp, fn := fun x => scope.names.lookup x == some .cell, xe := fun _ _ => False }
theorem Md.blk {c : Bool} (m : Md c X) (s : Shared) (H : Hp) (scope : Scope) (cenv : Env) (fp : List Addr) : Md c (Cx.blkM X s H scope cenv fp) := by
  cases c with
  | true => exact m
  | false => exact m
variable {pins : List (Addr × Obj)} {σ : L2.St} {H : Hp} {s : Shared}
theorem startM {scope : Scope} {own : List (Str × Nat)} {fp : List Addr} (I : Inv X pins σ H s) (ok : BlkOk X.N X.env.scope scope own) (hN : X.N.Nodup) (hfp : ∀ b ∈ fp, FpOk X pins H b ∧ b < s.heap.objs.size) :
    Inv (Cx.blkM X s H scope (compEnvC scope (cellsFrom (s.heap.objs.size + 1) scope.names (cloFrom X.env.cells scope.names [])) s.heap.objs.size X.env) fp) [] (wipe σ (own.map (·.2))) H { s with heap := pushCells (s.heap.push { cls := .type "dict", data := .dict #[] }) scope.names } := by
  have B := block_start I ok hN hfp
  refine ⟨⟨B.ok.mod, B.ok.kind, B.ok.glob, B.ok.blt, B.ok.above, B.ok.inj, B.ok.has, B.ok.cab, B.ok.hd, B.ok.frames, B.ok.stk, B.ok.exf, B.ok.bs, B.ok.bsz, B.ok.noex, B.ok.exfs, B.ok.funs, B.ok.frf⟩, B.os, B.bare, B.base, B.loc, B.cell, B.free, B.freeC, fun p hp => ?_, B.hok, B.len⟩
  have hp' : p ∈ X.pn := by simpa using hp
  obtain ⟨e, n, ne, nf, d⟩ := I.pin p (List.mem_append_left _ hp')
  refine ⟨pushCells_keeps _ _ _ _ (Heap.get?_push_of_some _ e), n, Nat.ne_of_lt (Heap.lt_size e), fun z => ?_, d⟩
  exact (List.mem_cons.mp (I.stkSub p.1 z)).elim ne nf
theorem lcM_core {c : Bool} {Q : VK} {elt iter : Expr} {ifs : List Expr} {scope : Scope} {own : List (Str × Nat)} {pos pos' : Pos} {wi : TI} {g : TG} {tt : TT} {te : TE} {use : Option (Value → Sem Unit)} {Qf : Value → Shared → Prop}
    (hc : Md c X) (hN : X.N.Nodup) (I : Inv X pins σ H s) (hi : PIM c X tg iter wi) (ok : BlkOk X.N X.env.scope scope own)
    (hg : ∀ (s : Shared) (H : Hp) (C : Addr) (cl : List (Str × Addr)) (fp : List Addr), PG (Cx.blkM X s H scope (compEnvC scope cl C X.env) fp) tg g) (ht : ∀ (s : Shared) (H : Hp) (C : Addr) (cl : List (Str × Addr)) (fp : List Addr), PTs (Cx.blkM X s H scope (compEnvC scope cl C X.env) fp) ifs tt)
    (he : ∀ (s : Shared) (H : Hp) (C : Addr) (cl : List (Str × Addr)) (fp : List Addr), PE (Cx.blkM X s H scope (compEnvC scope cl C X.env) fp) elt te) (hs : ∀ x, foldedSetIterable iter X.env x = pure x)
    (h : tLc wi g tt te (own.map (·.2)) σ H Q)
    (hRR : ∀ D C s' m H', Inv X pins σ H' s' → Q (.ref D) H' → s'.heap.Ns C m → FpOk X pins H' C → compPost (model X.prog X.w) X.A X.xe use Qf (.ref D) C (.ok .next) s') :
    wpAny (model X.prog X.w) X.A (comprehension (.ListComp elt [⟨tg, iter, ifs, 0⟩] scope pos) scope X.env pos' (newList []) false (eval iter X.env) use) Qf X.xe s := by
  have hfree : ∀ y ∈ scope.names, y.2 = .free → ∃ c, X.env.cells.lookup y.1 = some c := fun y hy e => (ok.free y hy e).elim (fun k => I.ok.has _ (.inl k)) fun k => I.ok.has _ (.inr k)
  refine wpAny_comprehension_free (use := use) rfl hs (closure_ok hfree) ok.kind (fun y hy e => by rw [ok.uniq y hy, e]) (thn (hi.run pins s σ H _ I h) fun xv s1 hx => thn hx fun itv s2 h2 => ?_)
  obtain ⟨it, fp, tn, J, H2, e, I2, T, st2, f2, q⟩ := h2
  subst e
  refine wpAny_newObj_type (newEnv_comp ?_) (by show 0 ≤ sizeLine; decide)
  generalize hD : s2.heap.objs.size = D
  have hDn : H2 D = none := I2.hok.fresh (Nat.le_of_eq hD)
  obtain ⟨W, ⟨m0, w0⟩, turn⟩ := q D hDn
  generalize hs3 : ({ s2 with heap := s2.heap.push { cls := .type "list", data := .seq ([] : List Value).toArray } } : Shared) = s3
  have h3 : s3.heap = s2.heap.push { cls := .type "list", data := .seq ([] : List Value).toArray } := by rw [← hs3]
  have I3 : Inv X pins σ (upd H2 D (.lst [])) s3 := by
    rw [← hs3]
    refine I2.laid (t' := s2.toks) (fun b o e => Heap.get?_push_of_some _ e) (Nat.le_of_eq hD) ⟨Nat.zero_le _, [], 0, .nil, ?_⟩
    rw [← hD]
    exact Heap.get?_push_size _ rfl
  have sz : ∀ b ∈ fp, b < s2.heap.objs.size := fun b hb => let ⟨o, e, _⟩ := T.obj _ _ st2 b hb; Heap.lt_size e
  have f3 : ∀ b ∈ fp, FpOk X pins (upd H2 D (.lst [])) b ∧ b < s3.heap.objs.size := fun b hb => by
    have hlt := sz b hb
    refine ⟨⟨?_, (f2 b hb).2⟩, by rw [h3, Heap.size_push]; exact Nat.lt_succ_of_lt hlt⟩
    rw [upd_ne (by rw [← hD]; exact Nat.ne_of_lt hlt)]
    exact (f2 b hb).1
  have st3 : tn 0 s3.heap := T.keep _ _ _ st2 fun b _ o e => by rw [h3]; exact Heap.get?_push_of_some _ e
  have I4 := startM I3 ok hN f3
  have pg := hg s3 (upd H2 D (.lst [])) s3.heap.objs.size (cellsFrom (s3.heap.objs.size + 1) scope.names (cloFrom X.env.cells scope.names [])) fp
  have pt := ht s3 (upd H2 D (.lst [])) s3.heap.objs.size (cellsFrom (s3.heap.objs.size + 1) scope.names (cloFrom X.env.cells scope.names [])) fp
  have pe := he s3 (upd H2 D (.lst [])) s3.heap.objs.size (cellsFrom (s3.heap.objs.size + 1) scope.names (cloFrom X.env.cells scope.names [])) fp
  refine (show codeAny _ _ (.compStart (.ListComp elt [⟨tg, iter, ifs, 0⟩] scope pos) 0 (.ref it) (.ref D) (compEnvC scope (cellsFrom (s3.heap.objs.size + 1) scope.names (cloFrom X.env.cells scope.names [])) s3.heap.objs.size X.env)) (compPost (model X.prog X.w) X.A X.xe use Qf (.ref D) s3.heap.objs.size) { s3 with heap := pushCells (s3.heap.push { cls := .type "dict", data := .dict #[] }) scope.names } from ?_)
  have nfp : ∀ b ∈ fp, (upd H2 D (.lst [])) b = none := fun b hb => (f3 b hb).1.1
  generalize hce : compEnvC scope (cellsFrom (s3.heap.objs.size + 1) scope.names (cloFrom X.env.cells scope.names [])) s3.heap.objs.size X.env = ce at I4 pg pt pe ⊢
  have cL : ce.locals = s3.heap.objs.size := by subst hce; rfl
  generalize hH3 : upd H2 D (.lst []) = H3 at I3 I4 pg pt pe w0 nfp f3
  generalize hs4 : ({ s3 with heap := pushCells (s3.heap.push { cls := .type "dict", data := .dict #[] }) scope.names } : Shared) = s4 at I4 ⊢
  have st4 : tn 0 s4.heap := T.keep _ _ _ st3 fun b _ o e => by rw [← hs4]; exact pushCells_keeps _ _ _ _ (Heap.get?_push_of_some _ e)
  have hcB : Md c (Cx.blkM X s3 H3 scope ce fp) := hc.blk s3 H3 scope ce fp
  have stat : ∀ {σ' : L2.St} {H' : Hp} {s' : Shared}, Inv (Cx.blkM X s3 H3 scope ce fp) [] σ' H' s' → (∀ b ∈ fp, H' b = none) → ∀ b ∈ fp, FpOk (Cx.blkM X s3 H3 scope ce fp) [] H' b := fun {σ' H' s'} I' hn b hb =>
    ⟨hn b hb, (I'.ok.exf b hb).1, I'.ok.exfs b hb, .inl hb, fun x c e => (I'.ok.exf b hb).2 x c e, fun p hp => (f3 b hb).1.2.2.2.2.2 p (List.mem_append_left _ (by simpa using hp))⟩
  have loop : codeAny (model X.prog X.w) X.A (.compLoop (.ListComp elt [⟨tg, iter, ifs, 0⟩] scope pos) 0 (.ref it) (.ref D) ce) (compPost (model X.prog X.w) X.A X.xe use Qf (.ref D) s3.heap.objs.size) s4 := by
    refine compLoop_any (fun n s' => ∃ i H', Inv (Cx.blkM X s3 H3 scope ce fp) [] (wipe σ (own.map (·.2))) H' s' ∧ tn i s'.heap ∧ (∀ b ∈ fp, H' b = none) ∧ W i n H') ?_ m0 ⟨0, H3, I4, st4, nfp, w0⟩
    rintro n s5 ⟨i, H5, I5, st5, n5, w5⟩
    rcases turn i n H5 w5 with ⟨stop, qq⟩ | ⟨go, Nx, hNx, step⟩
    · refine thnF (T.done (Cx.blkM X s3 H3 scope ce fp) rfl rfl rfl hcB i [] s5 _ H5 (fun _ _ => False) I5 (stat I5 n5) st5 stop) fun r s6 ⟨hr, I6⟩ => ?_
      subst hr
      have I7 : Inv X pins σ H5 s6 := I3.call' (ch := fp) I6.os I6.base I6.hok I6.bare fun b hb => ⟨(f3 b hb).1.2.2.2.1, (f3 b hb).1.2.1, (f3 b hb).1.2.2.2.2.1, (f3 b hb).1.2.2.2.2.2⟩
      have nC : H5 s3.heap.objs.size = none := by have z : H5 ce.locals = none := I6.free; rw [cL] at z; exact z
      obtain ⟨m, hn, _⟩ := I6.loc
      have hn : s6.heap.Ns ce.locals m := hn
      rw [cL] at hn
      exact hRR D s3.heap.objs.size s6 m H5 I7 qq hn (I3.fpOk (Nat.le_refl _) nC)
    · refine thnF (T.item (Cx.blkM X s3 H3 scope ce fp) rfl rfl rfl hcB i [] s5 _ H5 (fun _ _ => False) I5 (stat I5 n5) st5 go) fun r s6 ⟨u, hr, h6⟩ => ?_
      subst hr
      refine thnF h6 fun _ s7 ⟨x, H7, I7, r7, y7, st7, n7⟩ => ?_
      have J7 := I7.pinned (stat I7 n7) (T.obj _ _ st7)
      refine thnF (pg.run _ s7 _ H7 x u _ J7 r7 (step x H7 y7)) fun _ s8 ⟨σ8, H8, I8, hw8, q8⟩ => ?_
      refine thnF (pt.run _ s8 σ8 H8 _ I8 q8) fun b s9 ⟨H9, I9, q9⟩ => ?_
      have fin : ∀ {s' : Shared} {H' : Hp}, Inv (Cx.blkM X s3 H3 scope ce fp) ([] ++ pinsAt fp s7.heap) σ8 H' s' → Nx H' → ∃ m, m < n ∧ ∃ i H', Inv (Cx.blkM X s3 H3 scope ce fp) [] (wipe σ (own.map (·.2))) H' s' ∧ tn i s'.heap ∧ (∀ b ∈ fp, H' b = none) ∧ W i m H' := fun {s' H'} I' nx => by
        obtain ⟨m', hm, w'⟩ := hNx H' nx
        have pin' : ∀ b ∈ fp, ∀ o, s7.heap.get? b = some o → s'.heap.get? b = some o ∧ H' b = none := fun b hb o e => let z := I'.pin (b, o) (List.mem_append_right _ (List.mem_append_right _ (mem_pinsAt hb e))); ⟨z.1, z.2.1⟩
        have hl : (wipe σ (own.map (·.2))).length = σ8.length := by rw [← hw8, wipe_length]
        refine ⟨m', hm, i + 1, H', (I'.unpinned (pins := [])).weak hl (fun j v e => ?_), T.keep _ _ _ st7 fun b hb o e => (pin' b hb o e).1, fun b hb => ?_, w'⟩
        · rw [← hw8] at e
          exact (wipe_some e).1
        · obtain ⟨o, e, _⟩ := T.obj _ _ st7 b hb
          exact (pin' b hb o e).2
      cases b with
      | false =>
        simp only [Bool.false_eq_true, if_false] at q9 ⊢
        exact fin I9 q9
      | true =>
        simp only [if_true] at q9 ⊢
        refine thnF (pe.run _ s9 σ8 H9 _ I9 q9) fun z s10 ⟨yv, H10, I10, r10, acc, hD10, hz10, nx⟩ => ?_
        exact app_ok (X := Cx.blkM X s3 H3 scope ce fp) I10 hD10 hz10 r10 fun s11 I11 => fin I11 nx
  exact codeAny_compStart_list loop (T.self X.A 0 _ _ _ st4 loop)
theorem pe_lcM {c : Bool} {elt iter : Expr} {ifs : List Expr} {scope : Scope} {own : List (Str × Nat)} {pos : Pos} {wi : TI} {g : TG} {tt : TT} {te : TE} (hc : Md c X) (hN : X.N.Nodup) (hi : PIM c X tg iter wi) (ok : BlkOk X.N X.env.scope scope own)
    (hg : ∀ (s : Shared) (H : Hp) (C : Addr) (cl : List (Str × Addr)) (fp : List Addr), PG (Cx.blkM X s H scope (compEnvC scope cl C X.env) fp) tg g) (ht : ∀ (s : Shared) (H : Hp) (C : Addr) (cl : List (Str × Addr)) (fp : List Addr), PTs (Cx.blkM X s H scope (compEnvC scope cl C X.env) fp) ifs tt)
    (he : ∀ (s : Shared) (H : Hp) (C : Addr) (cl : List (Str × Addr)) (fp : List Addr), PE (Cx.blkM X s H scope (compEnvC scope cl C X.env) fp) elt te) (hs : ∀ x, foldedSetIterable iter X.env x = pure x := by intro _; rfl) :
    PE X (.ListComp elt [⟨tg, iter, ifs, 0⟩] scope pos) (tLc wi g tt te (own.map (·.2))) := by
  refine ⟨fun pins s σ H Q I h => ?_⟩
  rw [eval_ListComp]
  refine lcM_core hc hN I hi ok hg ht he hs h fun D C s' m H' I' q hn f => ⟨m, hn, fun h'' sb => ?_⟩
  obtain ⟨f0, f1, f2, f3, f4, f5⟩ := f
  exact ⟨.ref D, H', I'.turned (t' := s'.toks) (fun b o hb e => (sb.2 b hb).trans e) f0 f1 f3 f4 f5, rfl, q⟩
theorem ps_setLcM {c : Bool} {i : Nat} {y : Str} {py : Pos} {elt iter : Expr} {ifs : List Expr} {scope : Scope} {own : List (Str × Nat)} {pos spos : Pos} {wi : TI} {g : TG} {tt : TT} {te : TE} (hc : Md c X) (hN : X.N.Nodup) (hy : X.N[i]? = some y) (hyl : X.env.scope.names.lookup y = some .local)
    (hsw : swapsWith (.ListComp elt [⟨tg, iter, ifs, 0⟩] scope pos) (some (.Name y py)) spos.line X.env = pure true) (hi : PIM c X tg iter wi) (ok : BlkOk X.N X.env.scope scope own)
    (hg : ∀ (s : Shared) (H : Hp) (C : Addr) (cl : List (Str × Addr)) (fp : List Addr), PG (Cx.blkM X s H scope (compEnvC scope cl C X.env) fp) tg g) (ht : ∀ (s : Shared) (H : Hp) (C : Addr) (cl : List (Str × Addr)) (fp : List Addr), PTs (Cx.blkM X s H scope (compEnvC scope cl C X.env) fp) ifs tt)
    (he : ∀ (s : Shared) (H : Hp) (C : Addr) (cl : List (Str × Addr)) (fp : List Addr), PE (Cx.blkM X s H scope (compEnvC scope cl C X.env) fp) elt te) (hs : ∀ x, foldedSetIterable iter X.env x = pure x := by intro _; rfl) :
    PS X (.Assign [.Name y py] (.ListComp elt [⟨tg, iter, ifs, 0⟩] scope pos) spos) (tAsg (tLc wi g tt te (own.map (·.2))) (gName i)) := by
  refine ⟨fun pins s σ H D I h => ?_⟩
  rw [exec_Assign_Name_used _ _ _ _ hsw]
  refine wpAny_bind (wpAny_standAt (wpAny_bind ?_))
  refine (show wpAny _ X.A (do let _ ← comprehension (.ListComp elt [⟨tg, iter, ifs, 0⟩] scope pos) scope X.env (firstIterPos [⟨tg, iter, ifs, 0⟩] pos) (newList []) false (eval iter X.env) (some (assign (.Name y py) X.env))) _ _ s from ?_)
  have h : tLc wi g tt te (own.map (·.2)) σ H (fun x H1 => gName i x σ H1 D.nx) := h
  refine wpAny_bind (thn (lcM_core (Qf := fun _ s' => SP X pins D .next s') hc hN I hi ok hg ht he hs h fun L C s' m H' I' q hn f => ?_) fun _ s' hq => wpAny_pure (wpAny_pure hq))
  refine (show wpAny _ _ (assign (.Name y py) X.env (.ref L)) _ _ _ from ?_)
  refine wpAny_assign_Name (store_ok2 (v := V.ref L) I' hN hy (.inl hyl) rfl (fun s2 I2 ⟨a, sb, ha⟩ => ?_) (.inr hyl))
  obtain ⟨f0, f1, f2, f3, f4, f5⟩ := f
  have haC : C ≠ a := ha.elim (fun z => by rw [z]; exact f1) fun z e => f4 y a z e.symm
  exact ⟨m, hn.sameBut sb haC, fun h3 sb3 => ⟨_, H', I2.turned (t' := s2.toks) (fun b o hb e => (sb3.2 b hb).trans e) f0 f1 f3 f4 f5, q⟩⟩
end
end DL
end
section
/-! Data level: what an expression is worth in an environment of data, over the hand layer. -/
namespace DL
open PySem PySem.Spec PyProof.Rows L2
/-! ### data that stand in the abstract heap for good -/
/-- the script: never written -/
def ScrAt (K : PySem.W.Frag) (H : Hp) (a : Addr) (ns : List Int) : Prop :=
  (∃ o, H a = some (.frz o (.lst (ns.map V.int)))) ∨ ∀ H' : Hp, SqL K H' a (ns.map V.int)
def scrD (ns : List Int) : PyData := .dict (ns.map fun n => (.int n, .none))
mutual
inductive Rep (K : PySem.W.Frag) (H : Hp) : V → PyData → Prop
  | non : Rep K H .non .none
  | bl (b : Bool) : Rep K H (.bl b) (.bool b)
  | int (i : Int) : Rep K H (.int i) (.int i)
  | str (x : Str) : Rep K H (.str x) (.str x)
  | lst {a : Addr} {o : Obj} {xs : List V} {ds : List PyData} : H a = some (.frz o (.lst xs)) → Reps K H xs ds → Rep K H (.ref a) (.list ds)
  | tup {a : Addr} {xs : List V} {ds : List PyData} : H a = some (.tup xs) → Reps K H xs ds → Rep K H (.ref a) (.tuple ds)
  | scr {a : Addr} {ns : List Int} : ScrAt K H a ns → Rep K H (.ref a) (scrD ns)
inductive Reps (K : PySem.W.Frag) (H : Hp) : List V → List PyData → Prop
  | nil : Reps K H [] []
  | cons {v : V} {vs : List V} {d : PyData} {ds : List PyData} : Rep K H v d → Reps K H vs ds → Reps K H (v :: vs) (d :: ds)
end
/-- what never changes stays -/
structure Kp (H H' : Hp) : Prop where
  tup : ∀ a xs, H a = some (.tup xs) → H' a = some (.tup xs)
  frz : ∀ a o u, H a = some (.frz o u) → H' a = some (.frz o u)
theorem ScrAt.kp {K : PySem.W.Frag} {H H' : Hp} {a : Addr} {ns : List Int} (k : Kp H H') (h : ScrAt K H a ns) : ScrAt K H' a ns := h.elim (fun ⟨o, e⟩ => .inl ⟨o, k.frz _ _ _ e⟩) .inr
theorem ScrAt.seq {K : PySem.W.Frag} {H : Hp} {a : Addr} {ns : List Int} (h : ScrAt K H a ns) : SqL K H a (ns.map V.int) := h.elim (fun ⟨o, e⟩ => .inl (.inr ⟨o, e⟩)) fun f => f H
theorem Kp.refl (H : Hp) : Kp H H := ⟨fun _ _ h => h, fun _ _ _ h => h⟩
theorem Kp.trans {H H1 H2 : Hp} (a : Kp H H1) (b : Kp H1 H2) : Kp H H2 := ⟨fun c xs h => b.tup c xs (a.tup c xs h), fun c o u h => b.frz c o u (a.frz c o u h)⟩
theorem Kp.of {H H' : Hp} (s : Same H H') : Kp H H' := ⟨fun a xs h => s a _ h, fun a o u h => s a _ h⟩
theorem Kp.upd {H : Hp} {p : Addr} {vs : List V} {o : HO} (h : H p = some (.lst vs)) : Kp H (upd H p o) :=
  ⟨fun a xs e => by rw [upd_ne (ne_of e h (fun q => nomatch q))]; exact e, fun a o u e => by rw [upd_ne (ne_of e h (fun q => nomatch q))]; exact e⟩
theorem Same.newp {H : Hp} {p : Addr} {o : HO} (h : H p = none) : Same H (L2.upd H p o) := fun b u e => by rw [upd_ne (ne_of_none e h)]; exact e
mutual
theorem Rep.kp {K : PySem.W.Frag} {H H' : Hp} (k : Kp H H') : ∀ {d : PyData} {v : V}, Rep K H v d → Rep K H' v d
  | .none, _, h => by cases h; exact .non
  | .bool b, _, h => by cases h; exact .bl b
  | .int i, _, h => by cases h; exact .int i
  | .str x, _, h => by cases h; exact .str x
  | .list ds, _, h => by
    cases h with
    | lst e r => exact .lst (k.frz _ _ _ e) (Reps.kp k r)
  | .tuple ds, _, h => by
    cases h with
    | tup e r => exact .tup (k.tup _ _ e) (Reps.kp k r)
  | .dict _, _, h => by
    generalize hd : PyData.dict _ = d at h
    cases h with
    | scr s => exact .scr (s.kp k)
    | _ => cases hd
theorem Reps.kp {K : PySem.W.Frag} {H H' : Hp} (k : Kp H H') : ∀ {ds : List PyData} {vs : List V}, Reps K H vs ds → Reps K H' vs ds
  | [], _, h => by cases h; exact .nil
  | d :: ds, _, h => by
    cases h with
    | cons a b => exact .cons (Rep.kp k a) (Reps.kp k b)
end
theorem Rep.same {K : PySem.W.Frag} {H H' : Hp} (s : Same H H') {d : PyData} {v : V} (r : Rep K H v d) : Rep K H' v d := r.kp (.of s)
theorem Reps.same {K : PySem.W.Frag} {H H' : Hp} (s : Same H H') {ds : List PyData} {vs : List V} (r : Reps K H vs ds) : Reps K H' vs ds := r.kp (.of s)
theorem Reps.length {K : PySem.W.Frag} {H : Hp} : ∀ {vs : List V} {ds : List PyData}, Reps K H vs ds → vs.length = ds.length
  | _, _, .nil => rfl
  | _, _, .cons _ b => congrArg Nat.succ (Reps.length b)
theorem Reps.get {K : PySem.W.Frag} {H : Hp} : ∀ {vs : List V} {ds : List PyData} {i : Nat} {d : PyData}, Reps K H vs ds → ds[i]? = some d → ∃ v, vs[i]? = some v ∧ Rep K H v d
  | _, _, _, _, .nil, e => by simp at e
  | _, _, 0, _, .cons a _, e => by simp at e; subst e; exact ⟨_, rfl, a⟩
  | _, _, i + 1, _, .cons _ b, e => by
    obtain ⟨v, h1, h2⟩ := Reps.get (i := i) b (by simpa using e)
    exact ⟨v, by simpa using h1, h2⟩
theorem Reps.append {K : PySem.W.Frag} {H : Hp} : ∀ {vs us : List V} {ds es : List PyData}, Reps K H vs ds → Reps K H us es → Reps K H (vs ++ us) (ds ++ es)
  | _, _, _, _, .nil, s => s
  | _, _, _, _, .cons a b, s => .cons a (Reps.append b s)
theorem Reps.one {K : PySem.W.Frag} {H : Hp} {v : V} {d : PyData} (r : Rep K H v d) : Reps K H [v] [d] := .cons r .nil
theorem Reps.set {K : PySem.W.Frag} {H : Hp} {x : V} {u : PyData} (r : Rep K H x u) : ∀ {xs : List V} {us : List PyData} (i : Nat), Reps K H xs us → Reps K H (xs.set i x) (us.set i u)
  | _, _, _, .nil => .nil
  | _, _, 0, .cons _ t => .cons r t
  | _, _, i + 1, .cons q t => .cons q (Reps.set r i t)
theorem Reps.take {K : PySem.W.Frag} {H : Hp} : ∀ {vs : List V} {ds : List PyData} (n : Nat), Reps K H vs ds → Reps K H (vs.take n) (ds.take n)
  | _, _, 0, _ => .nil
  | _, _, _ + 1, .nil => .nil
  | _, _, n + 1, .cons a b => .cons a (Reps.take n b)
theorem Reps.drop {K : PySem.W.Frag} {H : Hp} : ∀ {vs : List V} {ds : List PyData} (n : Nat), Reps K H vs ds → Reps K H (vs.drop n) (ds.drop n)
  | _, _, 0, r => r
  | _, _, _ + 1, .nil => .nil
  | _, _, n + 1, .cons _ b => Reps.drop n b
theorem Reps.rep {K : PySem.W.Frag} {H : Hp} {vs : List V} {ds : List PyData} (r : Reps K H vs ds) : ∀ n : Nat, Reps K H (List.replicate n vs).flatten (List.replicate n ds).flatten
  | 0 => .nil
  | n + 1 => by
    rw [List.replicate_succ, List.replicate_succ, List.flatten_cons, List.flatten_cons]
    exact r.append (r.rep n)
theorem Rep.int_eq {K : PySem.W.Frag} {H : Hp} {v : V} {i : Int} (r : Rep K H v (.int i)) : v = .int i := by cases r; rfl
theorem Rep.bl_eq {K : PySem.W.Frag} {H : Hp} {v : V} {b : Bool} (r : Rep K H v (.bool b)) : v = .bl b := by cases r; rfl
theorem Rep.str_eq {K : PySem.W.Frag} {H : Hp} {v : V} {b : Str} (r : Rep K H v (.str b)) : v = .str b := by cases r; rfl
theorem Rep.non_eq {K : PySem.W.Frag} {H : Hp} {v : V} (r : Rep K H v .none) : v = .non := by cases r; rfl
theorem Reps.ints {K : PySem.W.Frag} {H : Hp} : ∀ {ns : List Int} {vs : List V}, Reps K H vs (ns.map PyData.int) → vs = ns.map V.int
  | [], _, h => by cases h; rfl
  | n :: ns, _, h => by
    cases h with
    | cons a b => rw [a.int_eq, Reps.ints b]; rfl
theorem Reps.bls {K : PySem.W.Frag} {H : Hp} : ∀ {ns : List Bool} {vs : List V}, Reps K H vs (ns.map PyData.bool) → vs = ns.map V.bl
  | [], _, h => by cases h; rfl
  | n :: ns, _, h => by
    cases h with
    | cons a b => rw [a.bl_eq, Reps.bls b]; rfl
mutual
theorem Rep.dp {K : PySem.W.Frag} {H : Hp} : ∀ {d : PyData} {v : V}, d.canLay0 = true → Rep K H v d → Dp K H v d
  | .none, _, _, h => by cases h; exact .non
  | .bool b, _, _, h => by cases h; exact .bl b
  | .int i, _, _, h => by cases h; exact .int i
  | .str x, _, _, h => by cases h; exact .str x
  | .list ds, _, c, h => by
    cases h with
    | lst e r => exact .lst (.inl (.inr ⟨_, e⟩)) (Reps.dp (by rw [PyData.canLay0] at c; exact c) r)
  | .tuple ds, _, c, h => by
    cases h with
    | tup e r => exact .tup (.of e) (Reps.dp (by rw [PyData.canLay0] at c; exact c) r)
  | .dict _, _, c, h => by rw [PyData.canLay0] at c; cases c
theorem Reps.dp {K : PySem.W.Frag} {H : Hp} : ∀ {ds : List PyData} {vs : List V}, PyData.canLayAll0 ds = true → Reps K H vs ds → DpAll K H vs ds
  | [], _, _, h => by cases h; exact .nil
  | d :: ds, _, c, h => by
    rw [PyData.canLayAll0, Bool.and_eq_true] at c
    cases h with
    | cons a b => exact .cons (Rep.dp c.1 a) (Reps.dp c.2 b)
end
/-! ### environments of data -/
inductive Sl where
  | no | dat (d : PyData) | own (ds : List PyData)
abbrev Ev := List Sl
/-- H0: what the caller has; G: what the names hold -/
structure StR (K : PySem.W.Frag) (H0 : Hp) (G : Ev) (σ : L2.St) (H : Hp) : Prop where
  same : Same H0 H
  len : G.length = σ.length
  slot : ∀ (i : Nat) (d : PyData), G[i]? = some (.dat d) → ∃ v : V, σ[i]? = some (some v) ∧ Rep K H v d
  own : ∀ (i : Nat) (ds : List PyData), G[i]? = some (.own ds) → ∃ (p : Addr) (vs : List V), σ[i]? = some (some (.ref p)) ∧ H p = some (.lst vs) ∧ Reps K H vs ds ∧ H0 p = none
  apart : ∀ (i j : Nat) (ds es : List PyData) (p : Addr), G[i]? = some (.own ds) → G[j]? = some (.own es) → σ[i]? = some (some (.ref p)) → σ[j]? = some (some (.ref p)) → i = j
theorem StR.step {K : PySem.W.Frag} {H0 H H' : Hp} {G : Ev} {σ : L2.St} (r : StR K H0 G σ H) (s : Same H H') : StR K H0 G σ H' :=
  ⟨r.same.trans s, r.len, fun i d e => let ⟨v, a, b⟩ := r.slot i d e; ⟨v, a, b.same s⟩, fun i ds e => let ⟨p, vs, a, b, c, d⟩ := r.own i ds e; ⟨p, vs, a, s _ _ b, c.same s, d⟩, r.apart⟩
/-- forget -/
def Less (G G' : Ev) : Prop := G'.length = G.length ∧ ∀ (i : Nat) (g : Sl), G'[i]? = some g → g = .no ∨ G[i]? = some g
theorem StR.less {K : PySem.W.Frag} {H0 H : Hp} {G G' : Ev} {σ : L2.St} (r : StR K H0 G σ H) (l : Less G G') : StR K H0 G' σ H := by
  refine ⟨r.same, l.1.trans r.len, fun i d e => ?_, fun i ds e => ?_, fun i j ds es p e1 e2 => ?_⟩
  · rcases l.2 i _ e with z | z
    · cases z
    · exact r.slot i d z
  · rcases l.2 i _ e with z | z
    · cases z
    · exact r.own i ds z
  · rcases l.2 i _ e1 with z | z
    · cases z
    · rcases l.2 j _ e2 with y | y
      · cases y
      · exact r.apart i j ds es p z y
/-- a slot is set -/
theorem StR.set {K : PySem.W.Frag} {H0 H : Hp} {G : Ev} {σ : L2.St} {i : Nat} {v : V} {d : PyData} (r : StR K H0 G σ H) (q : Rep K H v d) : StR K H0 (G.set i (.dat d)) (σ.set i (some v)) H := by
  refine ⟨r.same, by rw [List.length_set, List.length_set]; exact r.len, fun j e h => ?_, fun j ds h => ?_, fun j k ds es p h1 h2 h3 h4 => ?_⟩
  · by_cases hj : i = j
    · subst hj
      have hl : i < G.length := by
        have := (List.getElem?_eq_some_iff.mp h).1
        simpa using this
      rw [List.getElem?_set_self hl] at h
      cases h
      exact ⟨v, List.getElem?_set_self (by rw [← r.len]; exact hl), q⟩
    · rw [List.getElem?_set_ne hj] at h
      rw [List.getElem?_set_ne hj]
      exact r.slot j e h
  · by_cases hj : i = j
    · subst hj
      have hl : i < G.length := by
        have := (List.getElem?_eq_some_iff.mp h).1
        simpa using this
      rw [List.getElem?_set_self hl] at h
      cases h
    · rw [List.getElem?_set_ne hj] at h
      rw [List.getElem?_set_ne hj]
      exact r.own j ds h
  · have ne : ∀ {m : Nat} {x : List PyData}, (G.set i (.dat d))[m]? = some (.own x) → i ≠ m := fun {m x} h z => by
      subst z
      have hl : i < G.length := by
        have := (List.getElem?_eq_some_iff.mp h).1
        simpa using this
      rw [List.getElem?_set_self hl] at h
      cases h
    have n1 := ne h1
    have n2 := ne h2
    rw [List.getElem?_set_ne n1] at h1 h3
    rw [List.getElem?_set_ne n2] at h2 h4
    exact r.apart j k ds es p h1 h2 h3 h4
/-- a slot is set to a new list -/
theorem StR.setOwn {K : PySem.W.Frag} {H0 H H' : Hp} {G : Ev} {σ : L2.St} {i : Nat} {p : Addr} {vs : List V} {ds : List PyData} (r : StR K H0 G σ H) (s : Same H H') (hn : H p = none) (hp : H' p = some (.lst vs)) (q : Reps K H' vs ds) :
    StR K H0 (G.set i (.own ds)) (σ.set i (some (.ref p))) H' := by
  have r' := r.step s
  refine ⟨r'.same, by rw [List.length_set, List.length_set]; exact r.len, fun j e h => ?_, fun j es h => ?_, fun j k es fs p' h1 h2 h3 h4 => ?_⟩
  · by_cases hj : i = j
    · subst hj
      have hl : i < G.length := by
        have := (List.getElem?_eq_some_iff.mp h).1
        simpa using this
      rw [List.getElem?_set_self hl] at h
      cases h
    · rw [List.getElem?_set_ne hj] at h
      rw [List.getElem?_set_ne hj]
      exact r'.slot j e h
  · by_cases hj : i = j
    · subst hj
      have hl : i < G.length := by
        have := (List.getElem?_eq_some_iff.mp h).1
        simpa using this
      rw [List.getElem?_set_self hl] at h
      cases h
      refine ⟨p, vs, List.getElem?_set_self (by rw [← r.len]; exact hl), hp, q, ?_⟩
      exact Same.free r.same hn
    · rw [List.getElem?_set_ne hj] at h
      rw [List.getElem?_set_ne hj]
      exact r'.own j es h
  · have old : ∀ {m : Nat} {x : List PyData}, i ≠ m → (G.set i (.own ds))[m]? = some (.own x) → (σ.set i (some (.ref p)))[m]? = some (some (.ref p')) → p' ≠ p := fun {m x} hm h g z => by
      rw [List.getElem?_set_ne hm] at h g
      obtain ⟨p2, vs2, a, b, _, _⟩ := r.own m x h
      rw [a] at g
      cases g
      rw [z, hn] at b
      cases b
    have me : ∀ {x : List PyData}, (G.set i (.own ds))[i]? = some (.own x) → (σ.set i (some (.ref p)))[i]? = some (some (.ref p')) → p' = p := fun {x} h g => by
      have hl : i < G.length := by
        have := (List.getElem?_eq_some_iff.mp h).1
        simpa using this
      rw [List.getElem?_set_self (by rw [← r.len]; exact hl)] at g
      cases g
      rfl
    by_cases n1 : i = j
    · by_cases n2 : i = k
      · rw [← n1, ← n2]
      · subst n1
        exact absurd (me h1 h3) (old n2 h2 h4)
    · by_cases n2 : i = k
      · subst n2
        exact absurd (me h2 h4) (old n1 h1 h3)
      · rw [List.getElem?_set_ne n1] at h1 h3
        rw [List.getElem?_set_ne n2] at h2 h4
        exact r.apart j k es fs p' h1 h2 h3 h4
/-- an own list is written -/
theorem StR.write {K : PySem.W.Frag} {H0 H : Hp} {G : Ev} {σ : L2.St} {i : Nat} {p : Addr} {vs us : List V} {ds es : List PyData} (r : StR K H0 G σ H) (hi : G[i]? = some (.own ds)) (hp : σ[i]? = some (some (.ref p))) (hH : H p = some (.lst vs)) (q : Reps K H us es) :
    StR K H0 (G.set i (.own es)) σ (upd H p (.lst us)) := by
  have hl : i < G.length := (List.getElem?_eq_some_iff.mp hi).1
  have k : Kp H (upd H p (.lst us)) := .upd hH
  have h0 : H0 p = none := by
    obtain ⟨p2, vs2, a, b, _, c⟩ := r.own i ds hi
    rw [hp] at a
    cases a
    exact c
  have back : ∀ {m : Nat} {x : List PyData}, (G.set i (.own es))[m]? = some (.own x) → ∃ y, G[m]? = some (.own y) := fun {m x} h => by
    by_cases hm : i = m
    · subst hm; exact ⟨_, hi⟩
    · rw [List.getElem?_set_ne hm] at h; exact ⟨_, h⟩
  refine ⟨fun b o e => ?_, by rw [List.length_set]; exact r.len, fun j d h => ?_, fun j fs h => ?_, fun j m fs gs p' h1 h2 h3 h4 => ?_⟩
  · rw [upd_ne (ne_of_none e h0)]
    exact r.same b o e
  · have hj : i ≠ j := fun z => by
      subst z
      rw [List.getElem?_set_self hl] at h
      cases h
    rw [List.getElem?_set_ne hj] at h
    obtain ⟨v, a, b⟩ := r.slot j d h
    exact ⟨v, a, b.kp k⟩
  · by_cases hj : i = j
    · subst hj
      rw [List.getElem?_set_self hl] at h
      cases h
      exact ⟨p, us, hp, upd_same, q.kp k, h0⟩
    · rw [List.getElem?_set_ne hj] at h
      obtain ⟨p2, vs2, a, b, c, d⟩ := r.own j fs h
      have ne : p2 ≠ p := fun z => by
        subst z
        exact hj (r.apart i j ds fs p2 hi h hp a)
      exact ⟨p2, vs2, a, by rw [upd_ne ne]; exact b, c.kp k, d⟩
  · obtain ⟨y1, z1⟩ := back h1
    obtain ⟨y2, z2⟩ := back h2
    exact r.apart j m y1 y2 p' z1 z2 h3 h4
/-- an own list is frozen -/
theorem StR.freeze {K : PySem.W.Frag} {H0 H : Hp} {G : Ev} {σ : L2.St} {i : Nat} {p : Addr} {vs : List V} {ds : List PyData} {o : Obj} (r : StR K H0 G σ H) (hi : G[i]? = some (.own ds)) (hp : σ[i]? = some (some (.ref p))) (hH : H p = some (.lst vs)) (q : Reps K H vs ds) :
    StR K H0 (G.set i (.dat (.list ds))) σ (upd H p (.frz o (.lst vs))) := by
  have hl : i < G.length := (List.getElem?_eq_some_iff.mp hi).1
  have k : Kp H (upd H p (.frz o (.lst vs))) := .upd hH
  have h0 : H0 p = none := by
    obtain ⟨p2, vs2, a, b, _, c⟩ := r.own i ds hi
    rw [hp] at a
    cases a
    exact c
  refine ⟨fun b o' e => ?_, by rw [List.length_set]; exact r.len, fun j d h => ?_, fun j fs h => ?_, fun j m fs gs p' h1 h2 h3 h4 => ?_⟩
  · rw [upd_ne (ne_of_none e h0)]
    exact r.same b o' e
  · by_cases hj : i = j
    · subst hj
      rw [List.getElem?_set_self hl] at h
      cases h
      exact ⟨.ref p, hp, .lst upd_same (q.kp k)⟩
    · rw [List.getElem?_set_ne hj] at h
      obtain ⟨v, a, b⟩ := r.slot j d h
      exact ⟨v, a, b.kp k⟩
  · have hj : i ≠ j := fun z => by
      subst z
      rw [List.getElem?_set_self hl] at h
      cases h
    rw [List.getElem?_set_ne hj] at h
    obtain ⟨p2, vs2, a, b, c, d⟩ := r.own j fs h
    have ne : p2 ≠ p := fun z => by
      subst z
      exact hj (r.apart i j ds fs p2 hi h hp a)
    exact ⟨p2, vs2, a, by rw [upd_ne ne]; exact b, c.kp k, d⟩
  · have ne : ∀ {m : Nat} {x : List PyData}, (G.set i (.dat (.list ds)))[m]? = some (.own x) → i ≠ m := fun {m x} h z => by
      subst z
      rw [List.getElem?_set_self hl] at h
      cases h
    have n1 := ne h1
    have n2 := ne h2
    rw [List.getElem?_set_ne n1] at h1
    rw [List.getElem?_set_ne n2] at h2
    exact r.apart j m fs gs p' h1 h2 h3 h4
/-- the heap without what may be written and is not the caller's -/
def still (H0 H : Hp) : Hp := fun a => match H0 a with
  | some o => some o
  | none => match H a with
    | some (.lst _) => none
    | z => z
theorem still_same {H0 H : Hp} (s : Same H0 H) : Same (still H0 H) H := fun b o e => by
  unfold still at e
  cases q : H0 b with
  | some u =>
    rw [q] at e
    cases e
    exact s b _ q
  | none =>
    rw [q] at e
    dsimp only at e
    split at e
    · cases e
    · exact e
theorem still_0 {H0 H : Hp} : Same H0 (still H0 H) := fun b o e => by
  unfold still
  rw [e]
theorem still_kp {H0 H : Hp} (s : Same H0 H) : Kp H (still H0 H) := by
  refine ⟨fun a xs e => ?_, fun a o u e => ?_⟩ <;> unfold still <;> cases q : H0 a with
  | some z => have := s a _ q; rw [e] at this; cases this; rfl
  | none => simp only [e]
theorem StR.still {K : PySem.W.Frag} {H0 H : Hp} {G : Ev} {σ : L2.St} (r : StR K H0 G σ H) : StR K (still H0 H) G σ H :=
  ⟨still_same r.same, r.len, r.slot, fun i ds e => let ⟨p, vs, a, b, c, d⟩ := r.own i ds e; ⟨p, vs, a, b, c, by unfold DL.still; rw [d, b]⟩, r.apart⟩
theorem StR.unstill {K : PySem.W.Frag} {H0 H1 H : Hp} {G : Ev} {σ : L2.St} (r : StR K (DL.still H0 H1) G σ H) : StR K H0 G σ H :=
  ⟨still_0.trans r.same, r.len, r.slot, fun i ds e => let ⟨p, vs, a, b, c, d⟩ := r.own i ds e; ⟨p, vs, a, b, c, Same.free still_0 d⟩, r.apart⟩
end DL
end
section
namespace DL
open PySem PySem.Spec PyProof.Rows L2
/-! ### what an expression is worth -/
/-- the greatest reading -/
def uE (X : Cx) (e : Expr) : TE := fun σ H Q => ∃ te, PE X e te ∧ te σ H Q
theorem pe_u {X : Cx} {e : Expr} : PE X e (uE X e) := ⟨fun pins s σ H Q I ⟨te, h, q⟩ => h.run pins s σ H Q I q⟩
def uT (X : Cx) (e : Expr) : TT := fun σ H Q => ∃ te, PT X e te ∧ te σ H Q
theorem pt_u {X : Cx} {e : Expr} : PT X e (uT X e) := ⟨fun pins s σ H Q I ⟨te, h, q⟩ => h.run pins s σ H Q I q⟩
def uG (X : Cx) (e : Expr) : TG := fun v σ H Q => ∃ g, PG X e g ∧ g v σ H Q
theorem pg_u {X : Cx} {e : Expr} : PG X e (uG X e) := ⟨fun pins s σ H v u Q I r ⟨g, h, q⟩ => h.run pins s σ H v u Q I r q⟩
def uSs (X : Cx) (b : List Stmt) : TS := fun D σ H => ∃ t, PSs X b t ∧ t D σ H
theorem pss_u {X : Cx} {b : List Stmt} : PSs X b (uSs X b) := ⟨fun pins s σ H D I ⟨t, h, q⟩ => h.run pins s σ H D I q⟩
def uTs (X : Cx) (b : List Expr) : TT := fun σ H Q => ∃ t, PTs X b t ∧ t σ H Q
theorem pts_u {X : Cx} {b : List Expr} : PTs X b (uTs X b) := ⟨fun pins s σ H D I ⟨t, h, q⟩ => h.run pins s σ H D I q⟩
/-- e is worth d in G -/
def DE (X : Cx) (G : Ev) (e : Expr) (d : PyData) : Prop :=
  ∃ te, PE X e te ∧ ∀ H0 σ H (Q : VK), StR X.K H0 G σ H → (∀ v H', Same H H' → Rep X.K H' v d → Q v H') → te σ H Q
/-- e is a new list of ds -/
def DN (X : Cx) (G : Ev) (e : Expr) (ds : List PyData) : Prop :=
  ∃ te, PE X e te ∧ ∀ H0 σ H (Q : VK), StR X.K H0 G σ H → (∀ p vs H', Same H H' → H p = none → H' p = some (.lst vs) → Reps X.K H' vs ds → Q (.ref p) H') → te σ H Q
/-- e is a list that may be read -/
def DR (X : Cx) (G : Ev) (e : Expr) (ds : List PyData) : Prop :=
  ∃ te, PE X e te ∧ ∀ H0 σ H (Q : VK), StR X.K H0 G σ H → (∀ p vs H', Same H H' → SqL X.K H' p vs → Reps X.K H' vs ds → Q (.ref p) H') → te σ H Q
/-- e as a test -/
def DT (X : Cx) (G : Ev) (e : Expr) (b : Bool) : Prop :=
  ∃ te, PT X e te ∧ ∀ H0 σ H (Q : Bool → Hp → Prop), StR X.K H0 G σ H → (∀ H', Same H H' → Q b H') → te σ H Q
/-- the chain's end -/
def DW (X : Cx) (G : Ev) (e : Expr) (b : Bool) : Prop :=
  ∃ te, PW X e te ∧ ∀ H0 σ H (Q : Bool → Hp → Prop), StR X.K H0 G σ H → (∀ H', Same H H' → Q b H') → te σ H Q
/-- arguments -/
def DA (X : Cx) (G : Ev) (es : List Expr) (ds : List PyData) : Prop :=
  ∃ te, PA X es te ∧ ∀ H0 σ H (Q : List V → Hp → Prop), StR X.K H0 G σ H → (∀ vs H', Same H H' → Reps X.K H' vs ds → Q vs H') → te σ H Q
section
variable {X : Cx} {G : Ev} {e a b c : Expr} {es : List Expr} {d d1 d2 : PyData} {ds : List PyData} {pos : Pos}
theorem DE.cast (h : DE X G e d) (q : d = d1) : DE X G e d1 := q ▸ h
theorem DN.dr (h : DN X G e ds) : DR X G e ds := by
  obtain ⟨te, p, q⟩ := h
  exact ⟨te, p, fun H0 σ H Q r k => q H0 σ H Q r fun p vs H' s _ e r' => k p vs H' s (.of e) r'⟩
theorem DE.dr (h : DE X G e (.list ds)) : DR X G e ds := by
  obtain ⟨te, p, q⟩ := h
  refine ⟨te, p, fun H0 σ H Q r k => q H0 σ H Q r fun v H' s r' => ?_⟩
  cases r' with
  | lst e r' => exact k _ _ H' s (.inl (.inr ⟨_, e⟩)) r'
/-- the new list is frozen -/
theorem DN.de (h : DN X G e ds) : DE X G e (.list ds) := by
  obtain ⟨te, p, q⟩ := h
  refine ⟨fun σ H Q => te σ H fun v H1 => ∃ a xs, v = .ref a ∧ H1 a = some (.lst xs) ∧ ∀ o, Q v (upd H1 a (.frz o (.lst xs))), ⟨fun pins s σ H Q I h => ?_⟩, fun H0 σ H Q r k => q H0 σ H _ r fun p vs H' s hn e r' => ⟨p, vs, rfl, e, fun o => k _ _ (fun b u z => ?_) (.lst upd_same (r'.kp (.upd e)))⟩⟩
  · refine thn (p.run pins s σ H _ I h) fun u s1 ⟨v, H1, I1, r1, a, xs, ev, e1, k1⟩ => ?_
    obtain ⟨o, I2⟩ := I1.lock e1 True.intro
    exact ⟨v, _, I2, r1, k1 o⟩
  · rw [upd_ne (ne_of_none z hn)]
    exact s _ _ z
/-! ### names, constants -/
theorem de_v (i : Nat) {x : Str} (hG : G[i]? = some (.dat d) := by rfl) (hN : X.N[i]? = some x := by rfl) (hv : Vis X.env.scope x := by first | exact Or.inl rfl | exact Or.inr (Or.inl rfl) | exact Or.inr (Or.inr rfl)) (hd : (x == ("__debug__" : Str)) = false := by decide)
    (hcd : (x == ("__classdict__" : Str)) = false := by decide) : DE X G (.Name x pos) d :=
  ⟨_, pe_var hN hv hd hcd, fun _ σ H Q r k => let ⟨v, h1, h2⟩ := r.slot i d hG; ⟨v, h1, k v H (.refl H) h2⟩⟩
theorem dr_v (i : Nat) {x : Str} (hG : G[i]? = some (.own ds) := by rfl) (hN : X.N[i]? = some x := by rfl) (hv : Vis X.env.scope x := by first | exact Or.inl rfl | exact Or.inr (Or.inl rfl) | exact Or.inr (Or.inr rfl)) (hd : (x == ("__debug__" : Str)) = false := by decide)
    (hcd : (x == ("__classdict__" : Str)) = false := by decide) : DR X G (.Name x pos) ds :=
  ⟨_, pe_var hN hv hd hcd, fun _ σ H Q r k => let ⟨p, vs, h1, h2, h3, _⟩ := r.own i ds hG; ⟨.ref p, h1, k p vs H (.refl H) (.of h2) h3⟩⟩
theorem de_int {i : Int} {j} : DE X G (.Constant (.int i) j pos) (.int i) := ⟨_, pe_int, fun _ σ H Q r k => k _ H (.refl H) (.int i)⟩
theorem de_bl {i : Bool} {j} : DE X G (.Constant (.bool i) j pos) (.bool i) := ⟨_, pe_bl, fun _ σ H Q r k => k _ H (.refl H) (.bl i)⟩
theorem de_str {i : Str} {j} : DE X G (.Constant (.str i) j pos) (.str i) := ⟨_, pe_str, fun _ σ H Q r k => k _ H (.refl H) (.str i)⟩
theorem de_non {j} : DE X G (.Constant .none j pos) .none := ⟨_, pe_non, fun _ σ H Q r k => k _ H (.refl H) .non⟩
/-! ### operators on ints -/
variable {i j : Int}
theorem de_bin {op : Operator} {C : Int → Int → Prop} {g : Int → Int → Int} (ho : OpR X (binaryOp op) (rI C fun i j => .int (g i j))) (ha : DE X G a (.int i)) (hb : DE X G b (.int j)) (hc : C i j) : DE X G (.BinOp a op b pos) (.int (g i j)) := by
  obtain ⟨ta, pa, qa⟩ := ha
  obtain ⟨tb, pb, qb⟩ := hb
  exact ⟨_, pe_op ho pa pb, fun H0 σ H Q r k => qa H0 σ H _ r fun v H1 s1 r1 => qb H0 σ H1 _ (r.step s1) fun u H2 s2 r2 => ⟨i, j, r1.int_eq, r2.int_eq, hc, k _ H2 (s1.trans s2) (.int _)⟩⟩
theorem de_add (ha : DE X G a (.int i)) (hb : DE X G b (.int j)) : DE X G (.BinOp a .Add b pos) (.int (i + j)) := by
  obtain ⟨ta, pa, qa⟩ := ha
  obtain ⟨tb, pb, qb⟩ := hb
  exact ⟨_, pe_op op_add pa pb, fun H0 σ H Q r k => qa H0 σ H _ r fun v H1 s1 r1 => qb H0 σ H1 _ (r.step s1) fun u H2 s2 r2 => ⟨i, j, r1.int_eq, r2.int_eq, k _ H2 (s1.trans s2) (.int _)⟩⟩
theorem de_sub (ha : DE X G a (.int i)) (hb : DE X G b (.int j)) : DE X G (.BinOp a .Sub b pos) (.int (i - j)) := by
  obtain ⟨ta, pa, qa⟩ := ha
  obtain ⟨tb, pb, qb⟩ := hb
  exact ⟨_, pe_op op_sub pa pb, fun H0 σ H Q r k => qa H0 σ H _ r fun v H1 s1 r1 => qb H0 σ H1 _ (r.step s1) fun u H2 s2 r2 => ⟨i, j, r1.int_eq, r2.int_eq, k _ H2 (s1.trans s2) (.int _)⟩⟩
/-- a product: a bound that omega sees -/
def Sm (i : Int) : Prop := -(2 ^ 64) < i ∧ i < 2 ^ 64
theorem opW_mul : OpR X (binaryOp .Mult) (rI IntMulOk fun i j => .int (i * j)) := opI fun _ _ _ _ _ _ _ hc q => mul_int q hc
theorem de_mul (ha : DE X G a (.int i)) (hb : DE X G b (.int j)) (hc : IntMulOk i j) : DE X G (.BinOp a .Mult b pos) (.int (i * j)) := de_bin opW_mul ha hb hc
/-- a divisor not 0, below 2^9000 -/
def CDv (_ j : Int) : Prop := j ≠ 0 ∧ j.natAbs.log2 < 9000
theorem opW_div : OpR X (binaryOp .FloorDiv) (rI CDv fun i j => .int (i.fdiv j)) := opI fun i j _ _ _ _ _ hc q => floordiv_int hc.1 q (.inl (PyProof.noPylong_of_log2 hc.2))
theorem de_div (ha : DE X G a (.int i)) (hb : DE X G b (.int j)) (hc : CDv i j) : DE X G (.BinOp a .FloorDiv b pos) (.int (i.fdiv j)) := de_bin opW_div ha hb hc
theorem de_mod (ha : DE X G a (.int i)) (hb : DE X G b (.int j)) (hc : j ≠ 0) : DE X G (.BinOp a .Mod b pos) (.int (i.fmod j)) := de_bin (C := fun _ j => j ≠ 0) op_modN ha hb hc
theorem de_modP (ha : DE X G a (.int i)) (hb : DE X G b (.int j)) (hc : 0 < j) : DE X G (.BinOp a .Mod b pos) (.int (i % j)) := de_bin (C := fun _ j => 0 < j) op_mod ha hb hc
theorem de_neg (ha : DE X G a (.int i)) : DE X G (.UnaryOp .USub a pos) (.int (-i)) := by
  obtain ⟨ta, pa, qa⟩ := ha
  exact ⟨_, pe_un un_neg pa, fun H0 σ H Q r k => qa H0 σ H _ r fun v H1 s1 r1 => ⟨i, r1.int_eq, k _ H1 s1 (.int _)⟩⟩
/-! ### comparisons -/
theorem de_cmp {op : CmpOp} {g : Int → Int → Bool} (ho : OpR X (compareOp op) (rI0 fun i j => .bl (g i j))) (ha : DE X G a (.int i)) (hb : DE X G b (.int j)) (hm : behindInMarks op b = false) : DE X G (.Compare a [op] [b] pos) (.bool (g i j)) := by
  obtain ⟨ta, pa, qa⟩ := ha
  obtain ⟨tb, pb, qb⟩ := hb
  exact ⟨_, pe_cmpR ho pa pb hm, fun H0 σ H Q r k => qa H0 σ H _ r fun v H1 s1 r1 => qb H0 σ H1 _ (r.step s1) fun u H2 s2 r2 => ⟨i, j, r1.int_eq, r2.int_eq, k _ H2 (s1.trans s2) (.bl _)⟩⟩
theorem de_lt (ha : DE X G a (.int i)) (hb : DE X G b (.int j)) : DE X G (.Compare a [.Lt] [b] pos) (.bool (decide (i < j))) := de_cmp op_lt ha hb (nomark _)
theorem de_le (ha : DE X G a (.int i)) (hb : DE X G b (.int j)) : DE X G (.Compare a [.LtE] [b] pos) (.bool (decide (i ≤ j))) := de_cmp op_le ha hb (nomark _)
theorem de_gt (ha : DE X G a (.int i)) (hb : DE X G b (.int j)) : DE X G (.Compare a [.Gt] [b] pos) (.bool (decide (j < i))) := de_cmp op_gt ha hb (nomark _)
theorem de_ge (ha : DE X G a (.int i)) (hb : DE X G b (.int j)) : DE X G (.Compare a [.GtE] [b] pos) (.bool (decide (j ≤ i))) := de_cmp op_ge ha hb (nomark _)
/-- scalars -/
def scV : PyData → V
  | .bool b => .bl b
  | .int i => .int i
  | .str x => .str x
  | _ => .non
def flt (d : PyData) : Prop := match d with
  | .none => True | .bool _ => True | .int _ => True | .str _ => True | _ => False
theorem Rep.scV {K : PySem.W.Frag} {H : Hp} {v : V} (r : Rep K H v d) (f : flt d) : v = scV d := by
  cases r <;> first | rfl | exact f.elim
theorem de_eqS (ha : DE X G a d1) (hb : DE X G b d2) (f1 : flt d1 := by trivial) (f2 : flt d2 := by trivial) (hs : scal (scV d1) (scV d2) = true := by rfl) : DE X G (.Compare a [.Eq] [b] pos) (.bool (decide (scV d1 = scV d2))) := by
  obtain ⟨ta, pa, qa⟩ := ha
  obtain ⟨tb, pb, qb⟩ := hb
  refine ⟨_, pe_cmpR op_eq pa pb (nomark _), fun H0 σ H Q r k => qa H0 σ H _ r fun v H1 s1 r1 => qb H0 σ H1 _ (r.step s1) fun u H2 s2 r2 => ?_⟩
  rw [r1.scV f1, r2.scV f2]
  exact ⟨hs, k _ H2 (s1.trans s2) (.bl _)⟩
theorem de_neS (ha : DE X G a d1) (hb : DE X G b d2) (f1 : flt d1 := by trivial) (f2 : flt d2 := by trivial) (hs : scal (scV d1) (scV d2) = true := by rfl) : DE X G (.Compare a [.NotEq] [b] pos) (.bool (!decide (scV d1 = scV d2))) := by
  obtain ⟨ta, pa, qa⟩ := ha
  obtain ⟨tb, pb, qb⟩ := hb
  refine ⟨_, pe_cmpR op_ne pa pb (nomark _), fun H0 σ H Q r k => qa H0 σ H _ r fun v H1 s1 r1 => qb H0 σ H1 _ (r.step s1) fun u H2 s2 r2 => ?_⟩
  rw [r1.scV f1, r2.scV f2]
  exact ⟨hs, k _ H2 (s1.trans s2) (.bl _)⟩
theorem de_eq (ha : DE X G a (.int i)) (hb : DE X G b (.int j)) : DE X G (.Compare a [.Eq] [b] pos) (.bool (decide (i = j))) :=
  (de_eqS ha hb).cast (by show PyData.bool (decide (V.int i = V.int j)) = _; congr 1; exact decide_eq_decide.mpr ⟨fun h => V.int.inj h, fun h => by rw [h]⟩)
theorem de_ne (ha : DE X G a (.int i)) (hb : DE X G b (.int j)) : DE X G (.Compare a [.NotEq] [b] pos) (.bool (!decide (i = j))) :=
  (de_neS ha hb).cast (by show PyData.bool (!decide (V.int i = V.int j)) = _; congr 2; exact decide_eq_decide.mpr ⟨fun h => V.int.inj h, fun h => by rw [h]⟩)
/-- deep == -/
theorem de_eqD (hu : X.A.units + 64 < cLine) (ha : DE X G a d1) (hb : DE X G b d2) (h1 : SeqAt.shaped d1 = true) (h2 : SeqAt.shaped d2 = true) : DE X G (.Compare a [.Eq] [b] pos) (.bool (PyData.eqv d1 d2)) := by
  obtain ⟨ta, pa, qa⟩ := ha
  obtain ⟨tb, pb, qb⟩ := hb
  exact ⟨_, pe_cmpR (op_eqD hu) pa pb (nomark _), fun H0 σ H Q r k => qa H0 σ H _ r fun v H1 s1 r1 => qb H0 σ H1 _ (r.step s1) fun u H2 s2 r2 => ⟨d1, d2, (r1.same s2).dp (SeqAt.canLay_of_shaped h1), r2.dp (SeqAt.canLay_of_shaped h2), h1, h2, k _ H2 (s1.trans s2) (.bl _)⟩⟩
theorem de_neD (hu : X.A.units + 64 < cLine) (ha : DE X G a d1) (hb : DE X G b d2) (h1 : SeqAt.shaped d1 = true) (h2 : SeqAt.shaped d2 = true) : DE X G (.Compare a [.NotEq] [b] pos) (.bool (!PyData.eqv d1 d2)) := by
  obtain ⟨ta, pa, qa⟩ := ha
  obtain ⟨tb, pb, qb⟩ := hb
  exact ⟨_, pe_cmpR (op_neD hu) pa pb (nomark _), fun H0 σ H Q r k => qa H0 σ H _ r fun v H1 s1 r1 => qb H0 σ H1 _ (r.step s1) fun u H2 s2 r2 => ⟨d1, d2, (r1.same s2).dp (SeqAt.canLay_of_shaped h1), r2.dp (SeqAt.canLay_of_shaped h2), h1, h2, k _ H2 (s1.trans s2) (.bl _)⟩⟩
/-! ### tests -/
variable {x y : Bool}
theorem DE.dt (h : DE X G e (.bool x)) (he : ∀ whole, isTrue e X.env whole = (do let v ← whole; standAt e.pos; holding [v] (truthy v)) := by intro _; rfl) : DT X G e x := by
  obtain ⟨te, p, q⟩ := h
  exact ⟨_, pt_val p he, fun H0 σ H Q r k => q H0 σ H _ r fun v H1 s1 r1 => ⟨x, r1.bl_eq, k H1 s1⟩⟩
/-! ### comparisons as tests -/
theorem dt_cmp {op : CmpOp} {g : Int → Int → Bool} (ho : OpR X (compareOp op) (rI0 fun i j => .bl (g i j))) (ha : DE X G a (.int i)) (hb : DE X G b (.int j)) (hm : behindInMarks op b = false) : DT X G (.Compare a [op] [b] pos) (g i j) := by
  obtain ⟨ta, pa, qa⟩ := ha
  obtain ⟨tb, pb, qb⟩ := hb
  exact ⟨_, pt_cmpR ho pa pb hm, fun H0 σ H Q r k => qa H0 σ H _ r fun v H1 s1 r1 => qb H0 σ H1 _ (r.step s1) fun u H2 s2 r2 => ⟨i, j, r1.int_eq, r2.int_eq, _, rfl, k H2 (s1.trans s2)⟩⟩
theorem dt_lt (ha : DE X G a (.int i)) (hb : DE X G b (.int j)) : DT X G (.Compare a [.Lt] [b] pos) (decide (i < j)) := dt_cmp op_lt ha hb (nomark _)
theorem dt_le (ha : DE X G a (.int i)) (hb : DE X G b (.int j)) : DT X G (.Compare a [.LtE] [b] pos) (decide (i ≤ j)) := dt_cmp op_le ha hb (nomark _)
theorem dt_gt (ha : DE X G a (.int i)) (hb : DE X G b (.int j)) : DT X G (.Compare a [.Gt] [b] pos) (decide (j < i)) := dt_cmp op_gt ha hb (nomark _)
theorem dt_ge (ha : DE X G a (.int i)) (hb : DE X G b (.int j)) : DT X G (.Compare a [.GtE] [b] pos) (decide (j ≤ i)) := dt_cmp op_ge ha hb (nomark _)
theorem dt_eqS (ha : DE X G a d1) (hb : DE X G b d2) (f1 : flt d1 := by trivial) (f2 : flt d2 := by trivial) (hs : scal (scV d1) (scV d2) = true := by rfl) : DT X G (.Compare a [.Eq] [b] pos) (decide (scV d1 = scV d2)) := by
  obtain ⟨ta, pa, qa⟩ := ha
  obtain ⟨tb, pb, qb⟩ := hb
  refine ⟨_, pt_cmpR op_eq pa pb (nomark _), fun H0 σ H Q r k => qa H0 σ H _ r fun v H1 s1 r1 => qb H0 σ H1 _ (r.step s1) fun u H2 s2 r2 => ?_⟩
  rw [r1.scV f1, r2.scV f2]
  exact ⟨hs, _, rfl, k H2 (s1.trans s2)⟩
theorem dt_neS (ha : DE X G a d1) (hb : DE X G b d2) (f1 : flt d1 := by trivial) (f2 : flt d2 := by trivial) (hs : scal (scV d1) (scV d2) = true := by rfl) : DT X G (.Compare a [.NotEq] [b] pos) (!decide (scV d1 = scV d2)) := by
  obtain ⟨ta, pa, qa⟩ := ha
  obtain ⟨tb, pb, qb⟩ := hb
  refine ⟨_, pt_cmpR op_ne pa pb (nomark _), fun H0 σ H Q r k => qa H0 σ H _ r fun v H1 s1 r1 => qb H0 σ H1 _ (r.step s1) fun u H2 s2 r2 => ?_⟩
  rw [r1.scV f1, r2.scV f2]
  exact ⟨hs, _, rfl, k H2 (s1.trans s2)⟩
theorem DT.cast {p q : Bool} (h : DT X G e p) (z : p = q) : DT X G e q := z ▸ h
theorem dt_eq (ha : DE X G a (.int i)) (hb : DE X G b (.int j)) : DT X G (.Compare a [.Eq] [b] pos) (decide (i = j)) :=
  (dt_eqS ha hb).cast (decide_eq_decide.mpr ⟨fun h => V.int.inj h, fun h => by show V.int i = V.int j; rw [h]⟩)
theorem dt_ne (ha : DE X G a (.int i)) (hb : DE X G b (.int j)) : DT X G (.Compare a [.NotEq] [b] pos) (!decide (i = j)) :=
  (dt_neS ha hb).cast (congrArg (!·) (decide_eq_decide.mpr ⟨fun h => V.int.inj h, fun h => by show V.int i = V.int j; rw [h]⟩))
def isN : PyData → Bool
  | .none => true
  | _ => false
theorem Rep.isN {K : PySem.W.Frag} {H : Hp} {v : V} (r : Rep K H v d) : decide (v = .non) = DL.isN d := by
  cases r <;> rfl
theorem dt_isN {j : Nat} {p2 : Pos} (ha : DE X G a d) : DT X G (.Compare a [.Is] [.Constant .none j p2] pos) (isN d) := by
  obtain ⟨ta, pa, qa⟩ := ha
  refine ⟨_, pt_cmp (pc_isN pa) rfl, fun H0 σ H Q r k => qa H0 σ H _ r fun v H1 s1 r1 => ⟨_, rfl, ?_⟩⟩
  rw [r1.isN]
  exact k H1 s1
theorem dt_notN {j : Nat} {p2 : Pos} (ha : DE X G a d) : DT X G (.Compare a [.IsNot] [.Constant .none j p2] pos) (!isN d) := by
  obtain ⟨ta, pa, qa⟩ := ha
  refine ⟨_, pt_cmp (pc_notN pa) rfl, fun H0 σ H Q r k => qa H0 σ H _ r fun v H1 s1 r1 => ⟨_, rfl, ?_⟩⟩
  rw [r1.isN]
  exact k H1 s1
theorem de_isN {j : Nat} {p2 : Pos} (ha : DE X G a d) : DE X G (.Compare a [.Is] [.Constant .none j p2] pos) (.bool (isN d)) := by
  obtain ⟨ta, pa, qa⟩ := ha
  refine ⟨_, pe_cmp (pc_isN pa) rfl, fun H0 σ H Q r k => qa H0 σ H _ r fun v H1 s1 r1 => ?_⟩
  have z := k (.bl (decide (v = .non))) H1 s1
  rw [r1.isN] at z
  show Q (.bl (decide (v = .non))) H1
  rw [r1.isN]
  exact z (.bl _)
theorem dt_eqD (hu : X.A.units + 64 < cLine) (ha : DE X G a d1) (hb : DE X G b d2) (h1 : SeqAt.shaped d1 = true) (h2 : SeqAt.shaped d2 = true) : DT X G (.Compare a [.Eq] [b] pos) (PyData.eqv d1 d2) := by
  obtain ⟨ta, pa, qa⟩ := ha
  obtain ⟨tb, pb, qb⟩ := hb
  exact ⟨_, pt_cmpR (op_eqD hu) pa pb (nomark _), fun H0 σ H Q r k => qa H0 σ H _ r fun v H1 s1 r1 => qb H0 σ H1 _ (r.step s1) fun u H2 s2 r2 => ⟨d1, d2, (r1.same s2).dp (SeqAt.canLay_of_shaped h1), r2.dp (SeqAt.canLay_of_shaped h2), h1, h2, _, rfl, k H2 (s1.trans s2)⟩⟩
theorem dt_neD (hu : X.A.units + 64 < cLine) (ha : DE X G a d1) (hb : DE X G b d2) (h1 : SeqAt.shaped d1 = true) (h2 : SeqAt.shaped d2 = true) : DT X G (.Compare a [.NotEq] [b] pos) (!PyData.eqv d1 d2) := by
  obtain ⟨ta, pa, qa⟩ := ha
  obtain ⟨tb, pb, qb⟩ := hb
  exact ⟨_, pt_cmpR (op_neD hu) pa pb (nomark _), fun H0 σ H Q r k => qa H0 σ H _ r fun v H1 s1 r1 => qb H0 σ H1 _ (r.step s1) fun u H2 s2 r2 => ⟨d1, d2, (r1.same s2).dp (SeqAt.canLay_of_shaped h1), r2.dp (SeqAt.canLay_of_shaped h2), h1, h2, _, rfl, k H2 (s1.trans s2)⟩⟩
theorem DW.dt (h : DW X G e x) : DT X G e x := let ⟨te, p, q⟩ := h; ⟨te, p.pt, q⟩
theorem dt_not (h : DT X G e x) : DT X G (.UnaryOp .Not e pos) (!x) := by
  obtain ⟨te, p, q⟩ := h
  exact ⟨_, pt_not p, fun H0 σ H Q r k => q H0 σ H _ r fun H1 s1 => k H1 s1⟩
theorem dw_and1 (h : DT X G a x) : DW X G (.BoolOp .And [a] pos) x := by
  obtain ⟨te, p, q⟩ := h
  exact ⟨_, pw_and1 p, q⟩
theorem dw_or1 (h : DT X G a x) : DW X G (.BoolOp .Or [a] pos) x := by
  obtain ⟨te, p, q⟩ := h
  exact ⟨_, pw_or1 p, q⟩
theorem dw_andT {rest : List Expr} (h : DT X G a true) (h2 : DW X G (.BoolOp .And (b :: rest) pos) y) : DW X G (.BoolOp .And (a :: b :: rest) pos) y := by
  obtain ⟨te, p, q⟩ := h
  obtain ⟨te2, p2, q2⟩ := h2
  exact ⟨_, pw_and p p2, fun H0 σ H Q r k => q H0 σ H _ r fun H1 s1 => iteT (q2 H0 σ H1 Q (r.step s1) fun H2 s2 => k H2 (s1.trans s2))⟩
theorem dw_orF {rest : List Expr} (h : DT X G a false) (h2 : DW X G (.BoolOp .Or (b :: rest) pos) y) : DW X G (.BoolOp .Or (a :: b :: rest) pos) y := by
  obtain ⟨te, p, q⟩ := h
  obtain ⟨te2, p2, q2⟩ := h2
  exact ⟨_, pw_or p p2, fun H0 σ H Q r k => q H0 σ H _ r fun H1 s1 => iteF (q2 H0 σ H1 Q (r.step s1) fun H2 s2 => k H2 (s1.trans s2))⟩
/-- code that is never come to -/
theorem pw_never (e : Expr) : PW X e (fun _ _ _ => False) := ⟨fun _ _ _ _ _ _ _ h => h.elim⟩
theorem pt_never (e : Expr) : PT X e (fun _ _ _ => False) := ⟨fun _ _ _ _ _ _ h => h.elim⟩
theorem pe_never (e : Expr) : PE X e (fun _ _ _ => False) := ⟨fun _ _ _ _ _ _ h => h.elim⟩
theorem dw_andF {rest : List Expr} (h : DT X G a false) : DW X G (.BoolOp .And (a :: b :: rest) pos) false := by
  obtain ⟨te, p, q⟩ := h
  exact ⟨_, pw_and p (pw_never _), fun H0 σ H Q r k => q H0 σ H _ r fun H1 s1 => iteF (k H1 s1)⟩
theorem dw_orT {rest : List Expr} (h : DT X G a true) : DW X G (.BoolOp .Or (a :: b :: rest) pos) true := by
  obtain ⟨te, p, q⟩ := h
  exact ⟨_, pw_or p (pw_never _), fun H0 σ H Q r k => q H0 σ H _ r fun H1 s1 => iteT (k H1 s1)⟩
/-- the value in place of its test -/
theorem dw_and {rest : List Expr} (h : DT X G a x) (h2 : x = true → DW X G (.BoolOp .And (b :: rest) pos) y) : DW X G (.BoolOp .And (a :: b :: rest) pos) (x && y) := by
  cases x with
  | true => exact dw_andT h (h2 rfl)
  | false => exact dw_andF h
theorem dw_or {rest : List Expr} (h : DT X G a x) (h2 : x = false → DW X G (.BoolOp .Or (b :: rest) pos) y) : DW X G (.BoolOp .Or (a :: b :: rest) pos) (x || y) := by
  cases x with
  | true => exact dw_orT h
  | false => exact dw_orF h (h2 rfl)
theorem de_one {op} (h : DE X G a d) : DE X G (.BoolOp op [a] pos) d := by
  obtain ⟨te, p, q⟩ := h
  exact ⟨_, pe_one p, q⟩
theorem de_andT {rest : List Expr} (h : DE X G a (.bool true)) (h2 : DE X G (.BoolOp .And (b :: rest) pos) d) : DE X G (.BoolOp .And (a :: b :: rest) pos) d := by
  obtain ⟨te, p, q⟩ := h
  obtain ⟨te2, p2, q2⟩ := h2
  exact ⟨_, pe_and p p2, fun H0 σ H Q r k => q H0 σ H _ r fun v H1 s1 r1 => ⟨true, r1.bl_eq, iteT (q2 H0 σ H1 Q (r.step s1) fun u H2 s2 r2 => k u H2 (s1.trans s2) r2)⟩⟩
theorem de_andF {rest : List Expr} (h : DE X G a (.bool false)) : DE X G (.BoolOp .And (a :: b :: rest) pos) (.bool false) := by
  obtain ⟨te, p, q⟩ := h
  exact ⟨_, pe_and p (pe_never _), fun H0 σ H Q r k => q H0 σ H _ r fun v H1 s1 r1 => ⟨false, r1.bl_eq, iteF (k _ H1 s1 (.bl _))⟩⟩
theorem de_and {rest : List Expr} (h : DE X G a (.bool x)) (h2 : x = true → DE X G (.BoolOp .And (b :: rest) pos) (.bool y)) : DE X G (.BoolOp .And (a :: b :: rest) pos) (.bool (x && y)) := by
  cases x with
  | true => exact de_andT h (h2 rfl)
  | false => exact de_andF h
theorem de_not (h : DE X G a (.bool x)) : DE X G (.UnaryOp .Not a pos) (.bool (!x)) := by
  obtain ⟨te, p, q⟩ := h
  exact ⟨_, pe_not p, fun H0 σ H Q r k => q H0 σ H _ r fun v H1 s1 r1 => ⟨x, r1.bl_eq, k _ H1 s1 (.bl _)⟩⟩
theorem de_ifT (hc : DT X G c true) (ha : DE X G a d) : DE X G (.IfExp c a b pos) d := by
  obtain ⟨te, p, q⟩ := hc
  obtain ⟨te2, p2, q2⟩ := ha
  exact ⟨_, pe_ifExp p p2 (pe_never _), fun H0 σ H Q r k => q H0 σ H _ r fun H1 s1 => iteT (q2 H0 σ H1 Q (r.step s1) fun u H2 s2 r2 => k u H2 (s1.trans s2) r2)⟩
theorem de_ifF (hc : DT X G c false) (ha : DE X G b d) : DE X G (.IfExp c a b pos) d := by
  obtain ⟨te, p, q⟩ := hc
  obtain ⟨te2, p2, q2⟩ := ha
  exact ⟨_, pe_ifExp p (pe_never _) p2, fun H0 σ H Q r k => q H0 σ H _ r fun H1 s1 => iteF (q2 H0 σ H1 Q (r.step s1) fun u H2 s2 r2 => k u H2 (s1.trans s2) r2)⟩
/-! ### argument lists, displays -/
theorem da_nil : DA X G [] [] := ⟨_, pa_nil, fun H0 σ H Q r k => k [] H (.refl H) .nil⟩
theorem da_cons (h : DE X G e d) (h2 : DA X G es ds) (hs : starEach (e :: es) X.env = (false, eval e X.env) :: starEach es X.env := by rfl) : DA X G (e :: es) (d :: ds) := by
  obtain ⟨te, p, q⟩ := h
  obtain ⟨te2, p2, q2⟩ := h2
  exact ⟨_, pa_cons p p2 hs, fun H0 σ H Q r k => q H0 σ H _ r fun v H1 s1 r1 => q2 H0 σ H1 _ (r.step s1) fun vs H2 s2 r2 => k _ H2 (s1.trans s2) (.cons (r1.same s2) r2)⟩
theorem de_tup {x1} (h : DA X G es ds) (hz : ds.length ≤ sizeLine) : DE X G (.Tuple es x1 pos) (.tuple ds) := by
  obtain ⟨te, p, q⟩ := h
  exact ⟨_, pe_tup p, fun H0 σ H Q r k => q H0 σ H _ r fun vs H1 s1 r1 => ⟨by rw [r1.length]; exact hz, fun a ha => k _ _ (s1.trans (Same.newp ha)) (.tup upd_same (r1.same (Same.newp ha)))⟩⟩
theorem dn_lst (h : DA X G es ds) (hz : ds.length ≤ sizeLine) : DN X G (.List es pos) ds := by
  obtain ⟨te, p, q⟩ := h
  exact ⟨_, pe_lst p, fun H0 σ H Q r k => q H0 σ H _ r fun vs H1 s1 r1 => ⟨by rw [r1.length]; exact hz, fun a ha => k a vs _ (s1.trans (Same.newp ha)) (Same.free s1 ha) upd_same (r1.same (Same.newp ha))⟩⟩
theorem sz2 : 2 ≤ sizeLine := by rw [sizeLine_eq]; decide
theorem sz3 : 3 ≤ sizeLine := by rw [sizeLine_eq]; decide
theorem szk {n : Nat} (h : n ≤ 1000) : n ≤ sizeLine := by rw [sizeLine_eq]; omega
theorem de_tup2 {x1} (h : DE X G a d1) (h2 : DE X G b d2) (hs : starEach [a, b] X.env = (false, eval a X.env) :: starEach [b] X.env := by rfl) (hs2 : starEach [b] X.env = (false, eval b X.env) :: starEach [] X.env := by rfl) : DE X G (.Tuple [a, b] x1 pos) (.tuple [d1, d2]) :=
  de_tup (da_cons h (da_cons h2 da_nil hs2) hs) sz2
theorem dn_nil : DN X G (.List [] pos) [] := dn_lst da_nil (Nat.zero_le _)
/-! ### items, slices, + and * of lists -/
theorem de_ixT (ha : DE X G a (.tuple ds)) (hb : DE X G b (.int i)) (hi : atI ds i = some d) (hs : PlainIx b := by intro _ _; rfl) : DE X G (.Subscript a b pos) d := by
  obtain ⟨ta, pa, qa⟩ := ha
  obtain ⟨tb, pb, qb⟩ := hb
  refine ⟨_, pe_ix ix_tup pa pb hs, fun H0 σ H Q r k => qa H0 σ H _ r fun v H1 s1 r1 => qb H0 σ H1 _ (r.step s1) fun u H2 s2 r2 => ?_⟩
  cases r1 with
  | tup e rs =>
    rename_i p xs
    have l := rs.length
    unfold atI at hi
    rw [← l] at hi
    cases q : ixN xs.length i with
    | none => rw [q] at hi; cases hi
    | some m =>
      rw [q] at hi
      obtain ⟨v, hv, rv⟩ := rs.get (show ds[m]? = some d from hi)
      exact ⟨p, xs, i, v, rfl, r2.int_eq, .of (s2 _ _ e), by unfold atI; rw [q]; exact hv, k v H2 (s1.trans s2) (rv.same s2)⟩
theorem de_ixL (ha : DR X G a ds) (hb : DE X G b (.int i)) (hi : atI ds i = some d) (hs : PlainIx b := by intro _ _; rfl) : DE X G (.Subscript a b pos) d := by
  obtain ⟨ta, pa, qa⟩ := ha
  obtain ⟨tb, pb, qb⟩ := hb
  refine ⟨_, pe_ix ix_list pa pb hs, fun H0 σ H Q r k => qa H0 σ H _ r fun p xs H1 s1 e rs => qb H0 σ H1 _ (r.step s1) fun u H2 s2 r2 => ?_⟩
  have l := rs.length
  unfold atI at hi
  rw [← l] at hi
  cases q : ixN xs.length i with
  | none => rw [q] at hi; cases hi
  | some m =>
    rw [q] at hi
    obtain ⟨v, hv, rv⟩ := rs.get (show ds[m]? = some d from hi)
    exact ⟨p, xs, i, v, rfl, r2.int_eq, s2.seq e, by unfold atI; rw [q]; exact hv, k v H2 (s1.trans s2) (rv.same s2)⟩
/-- two lists that are known whole -/
theorem opL_cat : OpR X (binaryOp .Add) (fun x y H Q => ∃ l b xs zs, x = .ref l ∧ y = .ref b ∧ Rd H l (.lst xs) ∧ Rd H b (.lst zs) ∧ xs.length + zs.length ≤ sizeLine ∧ ∀ p, H p = none → Q (.ref p) (upd H p (.lst (xs ++ zs)))) := by
  intro pins s σ H x y v u Q I rx ry h
  obtain ⟨l, b, xs, zs, rfl, rfl, hl, hb, hz, q⟩ := h
  cases rx
  cases ry
  obtain ⟨z1, i1, n1, v1, e1⟩ := hl.ok I.hok
  obtain ⟨z2, i2, n2, v2, e2⟩ := hb.ok I.hok
  have m1 := v1.length
  have m2 := v2.length
  refine PySem.P.add_list e1 e2 ?_ (by rw [List.size_toArray, List.size_toArray]; omega)
  rw [show i1.toArray ++ i2.toArray = (i1 ++ i2).toArray by simp]
  exact ⟨.ref _, _, I.lnew (t' := s.toks) (v1.append v2) (by rw [List.length_append]; omega), rfl, q _ I.fresh⟩
/-- e is a list that is known whole -/
def DC (X : Cx) (G : Ev) (e : Expr) (ds : List PyData) : Prop :=
  ∃ te, PE X e te ∧ ∀ H0 σ H (Q : VK), StR X.K H0 G σ H → (∀ p vs H', Same H H' → Rd H' p (.lst vs) → Reps X.K H' vs ds → Q (.ref p) H') → te σ H Q
theorem DN.dc (h : DN X G e ds) : DC X G e ds := by
  obtain ⟨te, p, q⟩ := h
  exact ⟨te, p, fun H0 σ H Q r k => q H0 σ H Q r fun p vs H' s _ e r' => k p vs H' s (.inl e) r'⟩
theorem DE.dc (h : DE X G e (.list ds)) : DC X G e ds := by
  obtain ⟨te, p, q⟩ := h
  refine ⟨te, p, fun H0 σ H Q r k => q H0 σ H Q r fun v H' s r' => ?_⟩
  cases r' with
  | lst e r' => exact k _ _ H' s (.inr ⟨_, e⟩) r'
theorem dc_v (i : Nat) {x : Str} (hG : G[i]? = some (.own ds) := by rfl) (hN : X.N[i]? = some x := by rfl) (hv : Vis X.env.scope x := by first | exact Or.inl rfl | exact Or.inr (Or.inl rfl) | exact Or.inr (Or.inr rfl)) (hd : (x == ("__debug__" : Str)) = false := by decide)
    (hcd : (x == ("__classdict__" : Str)) = false := by decide) : DC X G (.Name x pos) ds :=
  ⟨_, pe_var hN hv hd hcd, fun _ σ H Q r k => let ⟨p, vs, h1, h2, h3, _⟩ := r.own i ds hG; ⟨.ref p, h1, k p vs H (.refl H) (.inl h2) h3⟩⟩
theorem Rd.same {H H' : Hp} {a : Addr} {u : HO} (s : Same H H') (h : Rd H a u) : Rd H' a u := h.elim (fun e => .inl (s _ _ e)) fun ⟨o, e⟩ => .inr ⟨o, s _ _ e⟩
theorem dn_cat {es : List PyData} (ha : DC X G a ds) (hb : DC X G b es) (hz : ds.length + es.length ≤ sizeLine) : DN X G (.BinOp a .Add b pos) (ds ++ es) := by
  obtain ⟨ta, pa, qa⟩ := ha
  obtain ⟨tb, pb, qb⟩ := hb
  refine ⟨_, pe_op opL_cat pa pb, fun H0 σ H Q r k => qa H0 σ H _ r fun p xs H1 s1 e1 r1 => qb H0 σ H1 _ (r.step s1) fun u ys H2 s2 e2 r2 => ?_⟩
  have l1 := r1.length
  have l2 := r2.length
  exact ⟨p, u, xs, ys, rfl, rfl, Rd.same s2 e1, e2, by omega, fun t ht => k t _ _ ((s1.trans s2).trans (Same.newp ht)) (Same.free (s1.trans s2) ht) upd_same (((r1.same s2).append r2).same (Same.newp ht))⟩
theorem dn_rep (ha : DN X G a ds) (hb : DE X G b (.int i)) (h0 : 0 ≤ i) (h1 : i < 2 ^ 63) (hz : ds.length * i.toNat ≤ sizeLine) : DN X G (.BinOp a .Mult b pos) (List.replicate i.toNat ds).flatten := by
  obtain ⟨ta, pa, qa⟩ := ha
  obtain ⟨tb, pb, qb⟩ := hb
  refine ⟨_, pe_op op_rep pa pb, fun H0 σ H Q r k => qa H0 σ H _ r fun p xs H1 s1 hn e1 r1 => qb H0 σ H1 _ (r.step s1) fun u H2 s2 r2 => ?_⟩
  have l1 := r1.length
  exact ⟨p, i, xs, rfl, r2.int_eq, s2 _ _ e1, by omega, h1, by rw [l1]; exact hz, fun t ht => k t _ _ ((s1.trans s2).trans (Same.newp ht)) (Same.free (s1.trans s2) ht) upd_same (((r1.same s2).rep i.toNat).same (Same.newp ht))⟩
end
end DL
end
section
namespace DL
open PySem PySem.Spec PyProof.Rows L2
/-! ### calls of the text's own defs -/
structure FnB (hot : Bool) (P : Program) (w : World) (K : PySem.W.Frag) (mg : Str → Option Value) (base : Heap) (k : Nat) (f : Addr) (fd : FuncData) (ps : List Str) (sp : Sp) : Prop where
  ok : FnOk P w K mg base CX0 k f fd ps sp
  hh : hot = true → L2H.FnH P w K mg base CX0 k f fd ps sp
  bd : Binds K fd ps []
  kp : PySem.W.keepIn K (.ref f) = true
def RmX (hot : Bool) (k : Nat) (X : Cx) : Prop := Room k X.A ∨ (hot = true ∧ L2H.RoomH k X.A ∧ L2H.HotC X)
theorem RmX.mono {hot : Bool} {j k : Nat} {X : Cx} (r : RmX hot k X) (h : j ≤ k) : RmX hot j X := r.elim (fun a => .inl (a.mono h)) fun ⟨a, b, c⟩ => .inr ⟨a, b.mono h, c⟩
theorem RmX.to {hot hot' : Bool} {k : Nat} {X : Cx} (r : RmX hot k X) (h : hot = true → hot' = true) : RmX hot' k X := r.elim .inl fun ⟨a, b, c⟩ => .inr ⟨h a, b, c⟩
theorem RmX.units {hot : Bool} {k : Nat} {X : Cx} (r : RmX hot k X) : X.A.units + 64 < cLine := r.elim (fun a => a.units) fun ⟨_, b, _⟩ => by have := b.un; omega
/-- a promise on data -/
def spD (K : PySem.W.Frag) (n : Nat) (R : List PyData → PyData → Prop) : Sp := fun vs H Q _ => ∃ ds r, Reps K H vs ds ∧ ds.length = n ∧ R ds r ∧ ∀ v H', Same H H' → Rep K H' v r → Q v H'
/-- x may be called in X -/
def Cal (X : Cx) (x : Str) (n : Nat) (R : List PyData → PyData → Prop) : Prop :=
  ∃ (hot : Bool) (k : Nat) (f : Addr) (fd : FuncData) (ps : List Str), X.mg x = some (.ref f) ∧ FnB hot X.prog X.w X.K X.mg X.base k f fd ps (spD X.K n R) ∧ RmX hot k X
section
variable {X : Cx} {G : Ev} {e a b c : Expr} {es : List Expr} {d d1 d2 r : PyData} {ds : List PyData} {pos p : Pos} {x : Str} {n : Nat} {R : List PyData → PyData → Prop}
theorem Cal.blk (h : Cal X x n R) (s : Shared) (H : Hp) (scope : Scope) (cenv : Env) (fp : List Addr) : Cal (Cx.blkM X s H scope cenv fp) x n R := h
theorem de_call (C : Cal X x n R) (ha : DA X G (e :: es) ds) (hR : R ds r) (hn : ds.length = n := by rfl) (hg : Gl X x := by rfl) (hdb : (x == ("__debug__" : Str)) = false := by decide)
    (he : starEach (e :: es) X.env = (false, eval e X.env) :: starEach es X.env := by rfl) (hpl : (backTo pos (starEach es X.env)).any (·.1) = false := by rfl) : DE X G (.Call (.Name x p) (e :: es) [] pos) r := by
  obtain ⟨ta, pa, qa⟩ := ha
  obtain ⟨hot, k, f, fd, ps, hm, F, rm⟩ := C
  have fin : ∀ (H0 : Hp) (σ : L2.St) (H : Hp) (Q : VK) (E : XK), StR X.K H0 G σ H → (∀ v H', Same H H' → Rep X.K H' v r → Q v H') → ta σ H fun vs H1 => spD X.K n R vs H1 Q E := fun H0 σ H Q E st k =>
    qa H0 σ H _ st fun vs H1 s1 r1 => ⟨ds, r, r1, hn, hR, fun v H' s2 r2 => k v H' (s1.trans s2) r2⟩
  rcases rm with hr | ⟨hh, hr, hc⟩
  · refine ⟨_, pe_call F.ok hr hg hm F.kp F.bd .nil pass0 pa hdb he hpl, fun H0 σ H Q st k => ?_⟩
    have z := fin H0 σ H Q E0 st k
    have e0 : (fun vs H1 => spD X.K n R (vs ++ []) H1 Q E0) = fun vs H1 => spD X.K n R vs H1 Q E0 := funext fun vs => by rw [List.append_nil]
    show ta σ H fun vs H1 => spD X.K n R (vs ++ []) H1 Q E0
    rw [e0]
    exact z
  · exact ⟨_, L2H.pe_callH (E := fun _ => E0) (F.hh hh) hr hc hg hm F.kp F.bd (fun _ _ _ _ _ _ _ h => h.elim) pa hdb he hpl, fun H0 σ H Q st k => fin H0 σ H Q E0 st k⟩
/-! ### built-in functions -/
def Bt (X : Cx) (x : Str) : Prop := X.mg x = none
variable {i j : Int}
theorem da_1 (h : DE X G e d) (hs : starEach [e] X.env = (false, eval e X.env) :: starEach [] X.env := by rfl) : DA X G [e] [d] := da_cons h da_nil hs
theorem da_2 (h : DE X G a d1) (h2 : DE X G b d2) (hs : starEach [a, b] X.env = (false, eval a X.env) :: starEach [b] X.env := by rfl) (hs2 : starEach [b] X.env = (false, eval b X.env) :: starEach [] X.env := by rfl) : DA X G [a, b] [d1, d2] := da_cons h (da_cons h2 da_nil hs2) hs
theorem de_lenL (hm : Bt X "len") (h : DR X G e ds) (hg : Gl X "len" := by rfl) (hs : starEach [e] X.env = (false, eval e X.env) :: starEach [] X.env := by rfl) : DE X G (.Call (.Name "len" p) [e] [] pos) (.int ds.length) := by
  obtain ⟨te, q, k1⟩ := h
  refine ⟨_, pe_callB call_len_seq hg hm PySem.boot_len (pa_cons q pa_nil hs) (by decide) (by decide) hs rfl, fun H0 σ H Q st k => k1 H0 σ H _ st fun a vs H1 s1 q1 r1 => ⟨a, vs, rfl, .inl q1, ?_⟩⟩
  rw [r1.length]
  exact k _ H1 s1 (.int _)
theorem de_lenT (hm : Bt X "len") (h : DE X G e (.tuple ds)) (hg : Gl X "len" := by rfl) (hs : starEach [e] X.env = (false, eval e X.env) :: starEach [] X.env := by rfl) : DE X G (.Call (.Name "len" p) [e] [] pos) (.int ds.length) := by
  obtain ⟨te, q, k1⟩ := h
  refine ⟨_, pe_callB call_len_seq hg hm PySem.boot_len (pa_cons q pa_nil hs) (by decide) (by decide) hs rfl, fun H0 σ H Q st k => k1 H0 σ H _ st fun v H1 s1 r1 => ?_⟩
  cases r1 with
  | tup q1 r1 => exact ⟨_, _, rfl, .inr (.of q1), by rw [r1.length]; exact k _ H1 s1 (.int _)⟩
theorem de_abs (hm : Bt X "abs") (h : DE X G e (.int i)) (hg : Gl X "abs" := by rfl) (hs : starEach [e] X.env = (false, eval e X.env) :: starEach [] X.env := by rfl) : DE X G (.Call (.Name "abs" p) [e] [] pos) (.int i.natAbs) := by
  obtain ⟨te, q, k1⟩ := h
  refine ⟨_, pe_callB call_abs hg hm (by decide +kernel) (pa_cons q pa_nil hs) (by decide) (by decide) hs rfl, fun H0 σ H Q st k => k1 H0 σ H _ st fun v H1 s1 r1 => ⟨i, by rw [r1.int_eq], ?_⟩⟩
  have e1 : (if i < 0 then -i else i) = (i.natAbs : Int) := by omega
  rw [e1]
  exact k _ H1 s1 (.int _)
theorem de_intI (hm : Bt X "int") (h : DE X G e (.int i)) (hg : Gl X "int" := by rfl) (hs : starEach [e] X.env = (false, eval e X.env) :: starEach [] X.env := by rfl) : DE X G (.Call (.Name "int" p) [e] [] pos) (.int i) := by
  obtain ⟨te, q, k1⟩ := h
  exact ⟨_, pe_callTy call_int1 hg hm (by decide +kernel) (pa_cons q pa_nil hs) (by decide) (by decide) hs rfl, fun H0 σ H Q st k => k1 H0 σ H _ st fun v H1 s1 r1 => .inl ⟨i, by rw [r1.int_eq], k _ H1 s1 (.int _)⟩⟩
theorem de_intB {b : Bool} (hm : Bt X "int") (h : DE X G e (.bool b)) (hg : Gl X "int" := by rfl) (hs : starEach [e] X.env = (false, eval e X.env) :: starEach [] X.env := by rfl) : DE X G (.Call (.Name "int" p) [e] [] pos) (.int (if b then 1 else 0)) := by
  obtain ⟨te, q, k1⟩ := h
  exact ⟨_, pe_callTy call_int1 hg hm (by decide +kernel) (pa_cons q pa_nil hs) (by decide) (by decide) hs rfl, fun H0 σ H Q st k => k1 H0 σ H _ st fun v H1 s1 r1 => .inr ⟨b, by rw [r1.bl_eq], k _ H1 s1 (.int _)⟩⟩
theorem de_gcd (hm : X.mg "gcd" = some (.builtin "math.gcd")) (ha : DE X G a (.int i)) (hb : DE X G b (.int j)) (hg : Gl X "gcd" := by rfl) (hs : starEach [a, b] X.env = (false, eval a X.env) :: starEach [b] X.env := by rfl) (hs2 : starEach [b] X.env = (false, eval b X.env) :: starEach [] X.env := by rfl)
    (hpl : (backTo pos (starEach [b] X.env)).any (·.1) = false := by rfl) : DE X G (.Call (.Name "gcd" p) [a, b] [] pos) (.int (Nat.gcd i.natAbs j.natAbs : Nat)) := by
  obtain ⟨ta, qa, k1⟩ := ha
  obtain ⟨tb, qb, k2⟩ := hb
  exact ⟨_, pe_callBfun cr_gcd hg hm (pa_cons qa (pa_cons qb pa_nil hs2) hs) (by decide) hs hpl, fun H0 σ H Q st k => k1 H0 σ H _ st fun v H1 s1 r1 => k2 H0 σ H1 _ (st.step s1) fun u H2 s2 r2 => ⟨i, j, by rw [r1.int_eq, r2.int_eq], k _ H2 (s1.trans s2) (.int _)⟩⟩
theorem de_tupL (hm : Bt X "tuple") (h : DR X G e ds) (hg : Gl X "tuple" := by rfl) (hs : starEach [e] X.env = (false, eval e X.env) :: starEach [] X.env := by rfl) : DE X G (.Call (.Name "tuple" p) [e] [] pos) (.tuple ds) := by
  obtain ⟨te, q, k1⟩ := h
  exact ⟨_, pe_callTy call_tuple_of hg hm (by decide +kernel) (pa_cons q pa_nil hs) (by decide) (by decide) hs rfl, fun H0 σ H Q st k => k1 H0 σ H _ st fun a vs H1 s1 q1 r1 => ⟨a, vs, rfl, .inl ⟨q1, fun l hl => k _ _ (s1.trans (Same.newp hl)) (.tup upd_same (r1.same (Same.newp hl)))⟩⟩⟩
theorem dn_listL (hm : Bt X "list") (h : DR X G e ds) (hg : Gl X "list" := by rfl) (hs : starEach [e] X.env = (false, eval e X.env) :: starEach [] X.env := by rfl) : DN X G (.Call (.Name "list" p) [e] [] pos) ds := by
  obtain ⟨te, q, k1⟩ := h
  exact ⟨_, pe_callTy call_list_of hg hm (by decide +kernel) (pa_cons q pa_nil hs) (by decide) (by decide) hs rfl, fun H0 σ H Q st k => k1 H0 σ H _ st fun a vs H1 s1 q1 r1 => ⟨a, vs, rfl, .inl q1, fun l hl => k l vs _ (s1.trans (Same.newp hl)) (Same.free s1 hl) upd_same (r1.same (Same.newp hl))⟩⟩
theorem dn_listT (hm : Bt X "list") (h : DE X G e (.tuple ds)) (hg : Gl X "list" := by rfl) (hs : starEach [e] X.env = (false, eval e X.env) :: starEach [] X.env := by rfl) : DN X G (.Call (.Name "list" p) [e] [] pos) ds := by
  obtain ⟨te, q, k1⟩ := h
  refine ⟨_, pe_callTy call_list_of hg hm (by decide +kernel) (pa_cons q pa_nil hs) (by decide) (by decide) hs rfl, fun H0 σ H Q st k => k1 H0 σ H _ st fun v H1 s1 r1 => ?_⟩
  cases r1 with
  | tup q1 r1 => exact ⟨_, _, rfl, .inr (.of q1), fun l hl => k l _ _ (s1.trans (Same.newp hl)) (Same.free s1 hl) upd_same (r1.same (Same.newp hl))⟩
theorem de_sum {ns : List Int} (hc : X.calm = true) (hm : Bt X "sum") (h : DR X G e (ns.map .int)) (hg : Gl X "sum" := by rfl) (hs : starEach [e] X.env = (false, eval e X.env) :: starEach [] X.env := by rfl) : DE X G (.Call (.Name "sum" p) [e] [] pos) (.int ns.sum) := by
  obtain ⟨te, q, k1⟩ := h
  exact ⟨_, pe_callB (cr_sum hc) hg hm (by decide +kernel) (pa_cons q pa_nil hs) (by decide) (by decide) hs rfl, fun H0 σ H Q st k => k1 H0 σ H _ st fun a vs H1 s1 q1 r1 => ⟨a, ns, rfl, by rw [← r1.ints]; exact q1, k _ H1 s1 (.int _)⟩⟩
theorem de_all {ns : List Bool} (hc : X.calm = true) (hm : Bt X "all") (h : DR X G e (ns.map .bool)) (hg : Gl X "all" := by rfl) (hs : starEach [e] X.env = (false, eval e X.env) :: starEach [] X.env := by rfl) : DE X G (.Call (.Name "all" p) [e] [] pos) (.bool (ns.all id)) := by
  obtain ⟨te, q, k1⟩ := h
  exact ⟨_, pe_callB (cr_all hc) hg hm (by decide +kernel) (pa_cons q pa_nil hs) (by decide) (by decide) hs rfl, fun H0 σ H Q st k => k1 H0 σ H _ st fun a vs H1 s1 q1 r1 => ⟨a, ns, rfl, by rw [← r1.bls]; exact q1, k _ H1 s1 (.bl _)⟩⟩
theorem de_any {ns : List Bool} (hc : X.calm = true) (hm : Bt X "any") (h : DR X G e (ns.map .bool)) (hg : Gl X "any" := by rfl) (hs : starEach [e] X.env = (false, eval e X.env) :: starEach [] X.env := by rfl) : DE X G (.Call (.Name "any" p) [e] [] pos) (.bool (ns.any id)) := by
  obtain ⟨te, q, k1⟩ := h
  exact ⟨_, pe_callB (cr_any hc) hg hm (by decide +kernel) (pa_cons q pa_nil hs) (by decide) (by decide) hs rfl, fun H0 σ H Q st k => k1 H0 σ H _ st fun a vs H1 s1 q1 r1 => ⟨a, ns, rfl, by rw [← r1.bls]; exact q1, k _ H1 s1 (.bl _)⟩⟩
/-! ### statements -/
inductive Out where
  | nx (G : Ev) | ret (d : PyData) | brk (G : Ev) | cnt (G : Ev)
/-- what is wanted of an end -/
def Wnt (K : PySem.W.Frag) (H0 : Hp) (D : Ends) : Out → Prop
  | .nx G => ∀ σ H, StR K H0 G σ H → D.nx σ H
  | .ret d => ∀ v H, Same H0 H → Rep K H v d → D.rt v H
  | .brk G => ∀ σ H, StR K H0 G σ H → D.bk σ H
  | .cnt G => ∀ σ H, StR K H0 G σ H → D.ct σ H
def DS (X : Cx) (G : Ev) (st : Stmt) (o : Out) : Prop := ∃ t, PS X st t ∧ ∀ H0 σ H D, StR X.K H0 G σ H → Wnt X.K H0 D o → t D σ H
def DSs (X : Cx) (G : Ev) (sts : List Stmt) (o : Out) : Prop := ∃ t, PSs X sts t ∧ ∀ H0 σ H D, StR X.K H0 G σ H → Wnt X.K H0 D o → t D σ H
variable {G1 G2 : Ev} {st : Stmt} {sts : List Stmt} {o : Out}
theorem dss_nil : DSs X G [] (.nx G) := ⟨_, pss_nil, fun H0 σ H D r k => k σ H r⟩
theorem dss_cons (h : DS X G st (.nx G1)) (h2 : DSs X G1 sts o) : DSs X G (st :: sts) o := by
  obtain ⟨t, p, q⟩ := h
  obtain ⟨t2, p2, q2⟩ := h2
  exact ⟨_, pss_cons p p2, fun H0 σ H D r k => q H0 σ H _ r fun σ1 H1 r1 => q2 H0 σ1 H1 D r1 k⟩
theorem dss_one (h : DS X G st o) : DSs X G [st] o := by
  obtain ⟨t, p, q⟩ := h
  exact ⟨_, pss_one p, q⟩
/-- the rest is not come to -/
theorem dss_ret (h : DS X G st (.ret d)) : DSs X G (st :: sts) (.ret d) := by
  obtain ⟨t, p, q⟩ := h
  exact ⟨_, pss_cons p pss_never, fun H0 σ H D r k => q H0 σ H _ r k⟩
theorem dss_brk (h : DS X G st (.brk G1)) : DSs X G (st :: sts) (.brk G1) := by
  obtain ⟨t, p, q⟩ := h
  exact ⟨_, pss_cons p pss_never, fun H0 σ H D r k => q H0 σ H _ r k⟩
theorem Wnt.less {K : PySem.W.Frag} {H0 : Hp} {D : Ends} (l : Less G G1) (k : Wnt K H0 D (.nx G1)) : Wnt K H0 D (.nx G) := fun σ H r => k σ H (r.less l)
theorem DSs.less (h : DSs X G sts (.nx G1)) (l : Less G1 G2) : DSs X G sts (.nx G2) := by
  obtain ⟨t, p, q⟩ := h
  exact ⟨t, p, fun H0 σ H D r k => q H0 σ H D r (Wnt.less l k)⟩
theorem DS.less (h : DS X G st (.nx G1)) (l : Less G1 G2) : DS X G st (.nx G2) := by
  obtain ⟨t, p, q⟩ := h
  exact ⟨t, p, fun H0 σ H D r k => q H0 σ H D r (Wnt.less l k)⟩
theorem DSs.pre (l : Less G G1) (h : DSs X G1 sts o) : DSs X G sts o := by
  obtain ⟨t, p, q⟩ := h
  exact ⟨t, p, fun H0 σ H D r k => q H0 σ H D (r.less l) k⟩
theorem DSs.cast (h : DSs X G sts o) {o' : Out} (q : o = o') : DSs X G sts o' := q ▸ h
theorem DS.cast (h : DS X G st o) {o' : Out} (q : o = o') : DS X G st o' := q ▸ h
theorem ds_ret (h : DE X G e d) : DS X G (.Return (some e) pos) (.ret d) := by
  obtain ⟨te, p, q⟩ := h
  exact ⟨_, ps_ret p, fun H0 σ H D r k => q H0 σ H _ r fun v H1 s1 r1 => k v H1 (r.same.trans s1) r1⟩
theorem ds_expr (h : DE X G e d) (hs : swapsWith e none pos.line X.env = pure false := by rfl) : DS X G (.Expr e pos) (.nx G) := by
  obtain ⟨te, p, q⟩ := h
  exact ⟨_, ps_expr p hs, fun H0 σ H D r k => q H0 σ H _ r fun v H1 s1 r1 => k σ H1 (r.step s1)⟩
theorem ds_pass : DS X G (.Pass pos) (.nx G) := ⟨_, ps_pass, fun H0 σ H D r k => k σ H r⟩
theorem ds_ifT {x y : List Stmt} (h : DT X G c true) (h2 : DSs X G x o) : DS X G (.If c x y pos) o := by
  obtain ⟨te, p, q⟩ := h
  obtain ⟨t2, p2, q2⟩ := h2
  exact ⟨_, ps_if p p2 pss_never, fun H0 σ H D r k => q H0 σ H _ r fun H1 s1 => iteT (q2 H0 σ H1 D (r.step s1) k)⟩
theorem ds_ifF {x y : List Stmt} (h : DT X G c false) (h2 : DSs X G y o) : DS X G (.If c x y pos) o := by
  obtain ⟨te, p, q⟩ := h
  obtain ⟨t2, p2, q2⟩ := h2
  exact ⟨_, ps_if p pss_never p2, fun H0 σ H D r k => q H0 σ H _ r fun H1 s1 => iteF (q2 H0 σ H1 D (r.step s1) k)⟩
theorem ds_if {x y : List Stmt} {t : Bool} (h : DT X G c t) (h1 : t = true → DSs X G x o) (h2 : t = false → DSs X G y o) : DS X G (.If c x y pos) o := by
  cases t with
  | true => exact ds_ifT h (h1 rfl)
  | false => exact ds_ifF h (h2 rfl)
/-- name = e -/
theorem ds_set (i : Nat) {pos' : Pos} (hN : X.N.Nodup) (h : DE X G e d) (hi : X.N[i]? = some x := by rfl) (hx : Loc X.env.scope x := by first | exact Or.inl rfl | exact Or.inr rfl) (hs : swapsWith e (some (.Name x pos')) pos.line X.env = pure false := by rfl) (hf : X.fn x = true ∨ X.env.scope.names.lookup x = some .local := by first | exact .inl rfl | exact .inr rfl) :
    DS X G (.Assign [.Name x pos'] e pos) (.nx (G.set i (.dat d))) := by
  obtain ⟨te, p, q⟩ := h
  exact ⟨_, ps_set hN hi hx p hs hf, fun H0 σ H D r k => q H0 σ H _ r fun v H1 s1 r1 => k _ H1 ((r.step s1).set r1)⟩
theorem ds_setN (i : Nat) {pos' : Pos} (hN : X.N.Nodup) (h : DN X G e ds) (hi : X.N[i]? = some x := by rfl) (hx : Loc X.env.scope x := by first | exact Or.inl rfl | exact Or.inr rfl) (hs : swapsWith e (some (.Name x pos')) pos.line X.env = pure false := by rfl) (hf : X.fn x = true ∨ X.env.scope.names.lookup x = some .local := by first | exact .inl rfl | exact .inr rfl) :
    DS X G (.Assign [.Name x pos'] e pos) (.nx (G.set i (.own ds))) := by
  obtain ⟨te, p, q⟩ := h
  exact ⟨_, ps_set hN hi hx p hs hf, fun H0 σ H D r k => q H0 σ H _ r fun a vs H1 s1 hn e1 r1 => k _ H1 (r.setOwn s1 hn e1 r1)⟩
/-- an own list is frozen -/
theorem dss_frz (i : Nat) (hG : G[i]? = some (.own ds)) (h : DSs X (G.set i (.dat (.list ds))) sts o) : DSs X G sts o := by
  obtain ⟨t, p, q⟩ := h
  refine ⟨fun D σ H => ∃ a xs, H a = some (.lst xs) ∧ ∀ ob, t D σ (upd H a (.frz ob (.lst xs))), ⟨fun pins s σ H D I hw => ?_⟩, fun H0 σ H D r k => ?_⟩
  · obtain ⟨a, xs, e1, k⟩ := hw
    obtain ⟨ob, I2⟩ := I.lock e1 True.intro
    exact p.run pins s σ _ D I2 (k ob)
  · obtain ⟨a, vs, e1, e2, r2, _⟩ := r.own i ds hG
    exact ⟨a, vs, e2, fun ob => q H0 σ _ D (r.freeze hG e1 e2 r2) k⟩
end
end DL
end
section
namespace DL
open PySem PySem.Spec PyProof.Rows L2
/-! ### targets -/
/-- only the slots at js may have changed -/
def Off (js : List Nat) (σ σ' : L2.St) : Prop := σ'.length = σ.length ∧ ∀ j, j ∉ js → σ'[j]? = σ[j]?
theorem Off.refl (js : List Nat) (σ : L2.St) : Off js σ σ := ⟨rfl, fun _ _ => rfl⟩
theorem Off.trans {js ks : List Nat} {σ σ1 σ2 : L2.St} (a : Off js σ σ1) (b : Off ks σ1 σ2) : Off (js ++ ks) σ σ2 := ⟨b.1.trans a.1, fun j h => (b.2 j fun q => h (List.mem_append_right _ q)).trans (a.2 j fun q => h (List.mem_append_left _ q))⟩
theorem wipe_get {σ : L2.St} {i : Nat} : ∀ {vs : List Nat}, i ∈ vs → i < σ.length → (wipe σ vs)[i]? = some none
  | v :: vs, h, hl => by
    unfold wipe
    by_cases e : v = i
    · subst e
      exact List.getElem?_set_self (by rw [wipe_length]; exact hl)
    · rw [List.getElem?_set_ne e]
      exact wipe_get ((List.mem_cons.mp h).resolve_left fun q => e q.symm) hl
theorem wipe_out' {σ : L2.St} {i : Nat} : ∀ {vs : List Nat}, i ∉ vs → (wipe σ vs)[i]? = σ[i]?
  | [], _ => rfl
  | v :: vs, h => by
    unfold wipe
    rw [List.getElem?_set_ne (fun e => h (by rw [e]; exact List.mem_cons_self))]
    exact wipe_out' fun q => h (List.mem_cons_of_mem _ q)
theorem wipe_off {js vs : List Nat} {σ σ' : L2.St} (h : Off js σ σ') (hs : ∀ j ∈ js, j ∈ vs) : wipe σ' vs = wipe σ vs := by
  refine List.ext_getElem? fun i => ?_
  by_cases hi : i ∈ vs
  · by_cases hl : i < σ.length
    · rw [wipe_get hi (by rw [h.1]; exact hl), wipe_get hi hl]
    · rw [List.getElem?_eq_none (by rw [wipe_length, h.1]; omega), List.getElem?_eq_none (by rw [wipe_length]; omega)]
  · rw [wipe_out' hi, wipe_out' hi]
    exact h.2 i fun q => hi (hs i q)
theorem wipe_wipe {σ : L2.St} {vs : List Nat} : wipe (wipe σ vs) vs = wipe σ vs := wipe_off (js := vs) ⟨wipe_length σ vs, fun j h => wipe_out' h⟩ fun _ h => h
/-- targets that keep the heap and touch the slots js -/
def DGs (X : Cx) (ts : List Expr) (ds : List PyData) (G G1 : Ev) (js : List Nat) : Prop :=
  ∃ g, PGs X ts g ∧ ∀ H0 σ H vs (Q : L2.St → Hp → Prop), StR X.K H0 G σ H → Reps X.K H vs ds → (∀ σ', StR X.K H0 G1 σ' H → Off js σ σ' → Q σ' H) → g vs σ H Q
def DG (X : Cx) (tg : Expr) (d : PyData) (G G1 : Ev) (js : List Nat) : Prop :=
  ∃ g, PG X tg g ∧ ∀ H0 σ H v (Q : L2.St → Hp → Prop), StR X.K H0 G σ H → Rep X.K H v d → (∀ σ', StR X.K H0 G1 σ' H → Off js σ σ' → Q σ' H) → g v σ H Q
section
variable {X : Cx} {G G1 G2 : Ev} {e a b c tg iter : Expr} {es : List Expr} {d d1 d2 r : PyData} {ds : List PyData} {pos p : Pos} {x : Str} {st : Stmt} {sts body : List Stmt} {o : Out} {i j : Int} {js ks : List Nat}
theorem dg_name (i : Nat) (hN : X.N.Nodup) (hi : X.N[i]? = some x := by rfl) (hx : Loc X.env.scope x := by first | exact Or.inl rfl | exact Or.inr rfl) (hf : X.fn x = true ∨ X.env.scope.names.lookup x = some .local := by first | exact .inl rfl | exact .inr rfl) : DG X (.Name x pos) d G (G.set i (.dat d)) [i] :=
  ⟨_, pg_name hN hi hx hf, fun H0 σ H v Q r rv k => k _ (r.set rv) ⟨List.length_set, fun j h => List.getElem?_set_ne fun q => h (by rw [q]; exact List.mem_singleton.mpr rfl)⟩⟩
theorem dgs_nil : DGs X [] [] G G [] := ⟨_, pgs_nil, fun H0 σ H vs Q r rv k => by cases rv; exact ⟨rfl, k σ r (.refl _ _)⟩⟩
theorem dgs_cons (h : DG X e d G G1 js) (h2 : DGs X es ds G1 G2 ks) (hs : (assignEach (e :: es) X.env).map (·.2) = assign e X.env :: (assignEach es X.env).map (·.2) := by rfl) : DGs X (e :: es) (d :: ds) G G2 (js ++ ks) := by
  obtain ⟨g, p, q⟩ := h
  obtain ⟨g2, p2, q2⟩ := h2
  refine ⟨_, pgs_cons p p2 hs, fun H0 σ H vs Q r rv k => ?_⟩
  cases rv with
  | cons a b => exact ⟨_, _, rfl, q H0 σ H _ _ r a fun σ1 r1 f1 => q2 H0 σ1 H _ Q r1 b fun σ2 r2 f2 => k σ2 r2 (f1.trans f2)⟩
theorem dg_tup {k : Nat} (hc : Mild X) (h : DGs X es ds G G1 js) (hn : (assignEach es X.env).length = ds.length := by rfl) (hst : (assignEach es X.env).findIdx? (·.1) = none := by rfl) : DG X (.Tuple es k pos) (.tuple ds) G G1 js := by
  obtain ⟨g, p, q⟩ := h
  refine ⟨_, pg_tupM hc p hn hst, fun H0 σ H v Q r rv kk => ?_⟩
  cases rv with
  | tup e1 r1 => exact ⟨_, _, rfl, .of e1, r1.length, q H0 σ H _ Q r r1 kk⟩
theorem dg_tup2 {k : Nat} (hc : Mild X) (h : DG X a d1 G G1 js) (h2 : DG X b d2 G1 G2 ks) (hs : (assignEach [a, b] X.env).map (·.2) = assign a X.env :: (assignEach [b] X.env).map (·.2) := by rfl) (hs2 : (assignEach [b] X.env).map (·.2) = assign b X.env :: (assignEach [] X.env).map (·.2) := by rfl)
    (hn : (assignEach [a, b] X.env).length = 2 := by rfl) (hst : (assignEach [a, b] X.env).findIdx? (·.1) = none := by rfl) : DG X (.Tuple [a, b] k pos) (.tuple [d1, d2]) G G2 (js ++ (ks ++ [])) :=
  dg_tup hc (dgs_cons h (dgs_cons h2 dgs_nil hs2) hs) hn hst
/-- target = e -/
theorem ds_asg (h : DE X G e d) (hg : DG X tg d G G1 js) (hs : swapsWithSole [tg] e pos.line X.env = pure false := by rfl) (hw : swappedStores [tg] e X.env = pure none := by rfl) (h1 : (assignEach [tg] X.env).map (·.2) = [assign tg X.env] := by rfl) : DS X G (.Assign [tg] e pos) (.nx G1) := by
  obtain ⟨te, p, q⟩ := h
  obtain ⟨g, p2, q2⟩ := hg
  exact ⟨_, ps_asg p p2 hs hw h1, fun H0 σ H D r k => q H0 σ H _ r fun v H1 s1 r1 => q2 H0 σ H1 v _ (r.step s1) r1 fun σ' r' _ => k σ' H1 r'⟩
/-- a, b = x, y, local names -/
theorem ds_par (i j : Nat) {x y : Str} {px py pt : Pos} {kt k2 pt2} (hc : Mild X) (hN : X.N.Nodup) (h : DE X G a d1) (h2 : DE X G b d2) (hi : X.N[i]? = some x := by rfl) (hj : X.N[j]? = some y := by rfl) (hij : i ≠ j := by decide)
    (hx : X.env.scope.names.lookup x = some .local := by rfl) (hy : X.env.scope.names.lookup y = some .local := by rfl)
    (hw : swappedStores [.Tuple [.Name x px, .Name y py] kt pt] (.Tuple [a, b] k2 pt2) X.env = pure (some [x, y]) := by rfl)
    (hs : swapsWithSole [.Tuple [.Name x px, .Name y py] kt pt] (.Tuple [a, b] k2 pt2) pos.line X.env = pure false := by rfl)
    (ss : starEach [a, b] X.env = (false, eval a X.env) :: starEach [b] X.env := by rfl) (ss2 : starEach [b] X.env = (false, eval b X.env) :: starEach [] X.env := by rfl) :
    DS X G (.Assign [.Tuple [.Name x px, .Name y py] kt pt] (.Tuple [a, b] k2 pt2) pos) (.nx ((G.set i (.dat d1)).set j (.dat d2))) := by
  obtain ⟨ta, pa, qa⟩ := h
  obtain ⟨tb, pb, qb⟩ := h2
  exact ⟨_, ps_parM hc hN hi hj hij hx hy (pa_cons pa (pa_cons pb pa_nil ss2) ss) hw hs, fun H0 σ H D r k => qa H0 σ H _ r fun v H1 s1 r1 => qb H0 σ H1 _ (r.step s1) fun u H2 s2 r2 =>
    ⟨v, u, rfl, k _ H2 (((r.step (s1.trans s2)).set (r1.same s2)).set r2)⟩⟩
/-! ### own lists are written -/
theorem ds_app (i : Nat) {apos cpos spos : Pos} (hG : G[i]? = some (.own ds)) (h : DE X G e d) (hz : ds.length < sizeLine) (hN : X.N[i]? = some x := by rfl) (hv : Vis X.env.scope x := by first | exact Or.inl rfl | exact Or.inr (Or.inl rfl) | exact Or.inr (Or.inr rfl)) (hd : (x == ("__debug__" : Str)) = false := by decide)
    (hcd : (x == ("__classdict__" : Str)) = false := by decide) (hst : starEach [e] X.env = (false, eval e X.env) :: starEach [] X.env := by rfl)
    (hbase : attributeBase (.Name x pos) "append" X.env (eval (.Name x pos) X.env) = eval (.Name x pos) X.env := by rfl)
    (hfew : ((backTo cpos (starEach [e] X.env)).all (fun x => !x.1) && (backToKw cpos (keywordEach [] X.env)).all (fun x => x.1.isSome) && decide (([e] : List Expr).length + ([] : List Keyword).length + (if ([] : List Keyword).isEmpty then 0 else 1) < 30)) = true := by rfl)
    (hline : (apos.endLine == cpos.line) = true := by rfl) (hpl : (backTo cpos (starEach [] X.env)).any (·.1) = false := by rfl)
    (hs : swapsWith (.Call (.Attribute (.Name x pos) "append" apos) [e] [] cpos) none spos.line X.env = pure false := by rfl) :
    DS X G (.Expr (.Call (.Attribute (.Name x pos) "append" apos) [e] [] cpos) spos) (.nx (G.set i (.own (ds ++ [d])))) := by
  obtain ⟨te, p, q⟩ := h
  refine ⟨_, ps_expr (pe_bm PySem.F.plainAttrs_list PySem.F.slot_list_append PySem.F.type_list_append mt_append (pe_var hN hv hd hcd) (pa_cons p pa_nil hst) hbase hfew hline hst hpl) hs, fun H0 σ H D r k => ?_⟩
  obtain ⟨a, vs, e1, e2, r2, e3⟩ := r.own i ds hG
  refine ⟨.ref a, e1, .inl ⟨rfl, vs, .of e2⟩, q H0 σ H _ r fun v H1 s1 r1 => ⟨a, vs, v, rfl, rfl, s1 _ _ e2, by rw [r2.length]; exact hz, k σ _ ?_⟩⟩
  exact (r.step s1).write hG e1 (s1 _ _ e2) ((r2.same s1).append (.one r1))
/-- x[k] = e, x an own list -/
theorem ds_put (i : Nat) {m : Nat} {tpos : Pos} (hG : G[i]? = some (.own ds)) (h : DE X G e d) (hb : DE X G b (.int j)) (hj : ixN ds.length j = some m) (hN : X.N[i]? = some x := by rfl) (hv : Vis X.env.scope x := by first | exact Or.inl rfl | exact Or.inr (Or.inl rfl) | exact Or.inr (Or.inr rfl)) (hd : (x == ("__debug__" : Str)) = false := by decide)
    (hcd : (x == ("__classdict__" : Str)) = false := by decide)
    (ha : ∀ v, assign (.Subscript (.Name x p) b tpos) X.env v = (do
      let ov ← holding [v] (eval (.Name x p) X.env)
      let iv ← holding [v, ov] (eval b X.env)
      standAt tpos
      holding [v, ov, iv] (setItem ov iv v)
      release [v, ov, iv] []) := by intro _; rfl)
    (hs : swapsWithSole [.Subscript (.Name x p) b tpos] e pos.line X.env = pure false := by rfl) (hw : swappedStores [.Subscript (.Name x p) b tpos] e X.env = pure none := by rfl) (h1 : (assignEach [.Subscript (.Name x p) b tpos] X.env).map (·.2) = [assign (.Subscript (.Name x p) b tpos) X.env] := by rfl) :
    DS X G (.Assign [.Subscript (.Name x p) b tpos] e pos) (.nx (G.set i (.own (ds.set m d)))) := by
  obtain ⟨te, pe, q⟩ := h
  obtain ⟨tb, pb, qb⟩ := hb
  refine ⟨_, ps_asg pe (pg_sub (pe_var hN hv hd hcd) pb set_list ha) hs hw h1, fun H0 σ H D r k => q H0 σ H _ r fun v H1 s1 r1 => ?_⟩
  obtain ⟨a, vs, e1, e2, r2, e3⟩ := (r.step s1).own i ds hG
  refine ⟨.ref a, e1, qb H0 σ H1 _ (r.step s1) fun u H2 s2 r3 => ⟨a, vs, j, m, rfl, r3.int_eq, s2 _ _ e2, by rw [r2.length]; exact hj, k σ _ ?_⟩⟩
  exact ((r.step s1).step s2).write hG e1 (s2 _ _ e2) (Reps.set (r1.same s2) m (r2.same s2))
/-- an item is read, by values -/
theorem get_list : PGet X (fun o iv H Q => ∃ (p : Addr) (xs : List V) (k : Int) (v : V), o = .ref p ∧ iv = .int k ∧ 0 ≤ k ∧ k < 2 ^ 63 ∧ SqL X.K H p xs ∧ xs[k.toNat]? = some v ∧ Q v H) := by
  intro pins s σ H o iv ov u Q I r1 r2 h
  obtain ⟨p, xs, k, v, rfl, rfl, h0, h1, hq, hx, q⟩ := h
  cases r1
  obtain ⟨t, rfl⟩ := r2
  obtain ⟨its, r, pl, hz⟩ := I.list hq
  obtain ⟨w, ew, rw'⟩ := r.get hx
  exact wpAny_getItem_list pl.isList h0 h1 (by simpa using ew) ⟨v, H, I, rw', q⟩
/-- x[k] += e, x an own list of ints at k -/
theorem ds_inc (i : Nat) {m : Nat} {y z : Int} {tpos : Pos} (hG : G[i]? = some (.own ds)) (hb : DE X G b (.int m)) (hj : m < 2 ^ 62) (hy : ds[m]? = some (.int y)) (h : DE X G e (.int z)) (hN : X.N[i]? = some x := by rfl) (hv : Vis X.env.scope x := by first | exact Or.inl rfl | exact Or.inr (Or.inl rfl) | exact Or.inr (Or.inr rfl)) (hd : (x == ("__debug__" : Str)) = false := by decide)
    (hcd : (x == ("__classdict__" : Str)) = false := by decide)
    (ha : ∀ ov iv new, augStore b ov iv new = (do holding [new, ov, iv] (setItem ov iv new); release [new, ov, iv] []; pure .next) := by intros; rfl) :
    DS X G (.AugAssign (.Subscript (.Name x p) b tpos) .Add e pos) (.nx (G.set i (.own (ds.set m (.int (y + z)))))) := by
  obtain ⟨te, pe, q⟩ := h
  obtain ⟨tb, pb, qb⟩ := hb
  refine ⟨_, ps_augS (pe_var hN hv hd hcd) pb get_list pe ip_add set_list ha, fun H0 σ H D r k => ?_⟩
  obtain ⟨a, vs, e1, e2, r2, e3⟩ := r.own i ds hG
  refine ⟨.ref a, e1, qb H0 σ H _ r fun u H1 s1 r1 => ?_⟩
  obtain ⟨w, hw, rw1⟩ := r2.get hy
  have hm : m < vs.length := (List.getElem?_eq_some_iff.mp hw).1
  refine ⟨a, vs, m, w, rfl, r1.int_eq, by omega, by omega, .of (s1 _ _ e2), by rw [Int.toNat_natCast]; exact hw, q H0 σ H1 _ (r.step s1) fun v H2 s2 r3 => ⟨y, z, rw1.int_eq, r3.int_eq, a, vs, m, m, rfl, r1.int_eq, s2 _ _ (s1 _ _ e2), ?_, k σ _ ?_⟩⟩
  · unfold ixN
    rw [if_pos (by omega), if_pos (by omega), Int.toNat_natCast]
  · exact ((r.step s1).step s2).write hG e1 (s2 _ _ (s1 _ _ e2)) (Reps.set (.int _) m ((r2.same s1).same s2))
/-- xs[lo:hi] -/
theorem dn_sl {lo hi : Expr} {p2 : Pos} (ha : DR X G a ds) (hl : DE X G lo (.int i)) (hh : DE X G hi (.int j)) (h0 : 0 ≤ i) (h1 : i ≤ j) (h2 : j ≤ ds.length) : DN X G (.Subscript a (.Slice (some lo) (some hi) none p2) pos) ((ds.drop i.toNat).take (j - i).toNat) := by
  obtain ⟨ta, pa, qa⟩ := ha
  obtain ⟨tl, pl, ql⟩ := hl
  obtain ⟨th, ph, qh⟩ := hh
  refine ⟨_, pe_slice sl_list pa (po_some pl) (po_some ph), fun H0 σ H Q r k => qa H0 σ H _ r fun t vs H1 s1 e1 r1 => ql H0 σ H1 _ (r.step s1) fun u H2 s2 r2 => ⟨i, r2.int_eq, qh H0 σ H2 _ ((r.step s1).step s2) fun w H3 s3 r3 => ⟨j, r3.int_eq, t, vs, rfl, s3.seq (s2.seq e1), fun l hl => ?_⟩⟩⟩
  have e : cutV vs (some i) (some j) = (vs.drop i.toNat).take (j - i).toNat := by
    have ll := r1.length
    have a1 : HT.sIx vs.length 0 (some i) = i.toNat := by
      show (if i < 0 then (i + (vs.length : Int)).toNat else min i.toNat vs.length) = i.toNat
      rw [if_neg (by omega)]
      omega
    have a2 : HT.sIx vs.length vs.length (some j) = j.toNat := by
      show (if j < 0 then (j + (vs.length : Int)).toNat else min j.toNat vs.length) = j.toNat
      rw [if_neg (by omega)]
      omega
    unfold cutV
    rw [a1, a2]
    congr 1
    omega
  rw [e]
  exact k l _ _ ((s1.trans s2).trans (s3.trans (Same.newp hl))) (Same.free (s1.trans (s2.trans s3)) hl) upd_same ((((r1.same s2).same s3).drop _).take _ |>.same (Same.newp hl))
end
end DL
end
section
namespace DL
open PySem PySem.Spec PyProof.Rows L2
/-- J yields ds, as long as what never changes stays -/
def Yld (K : PySem.W.Frag) (J : It) (ds : List PyData) (H1 : Hp) : Prop :=
  ∀ H', Kp H1 H' → (∀ (i : Nat) (d : PyData), ds[i]? = some d → J.go i H' ∧ ∀ x H'', J.yld i H' x H'' → Same H' H'' ∧ Rep K H'' x d) ∧ J.stop ds.length H'
/-- iter walks ds -/
def DI (c : Bool) (X : Cx) (tg iter : Expr) (G : Ev) (ds : List PyData) : Prop :=
  ∃ wi, PIM c X tg iter wi ∧ ∀ H0 σ H (R : It → Hp → Prop), StR X.K H0 G σ H → (∀ J H1, Same H H1 → Yld X.K J ds H1 → R J H1) → wi σ H R
section
variable {X : Cx} {G G1 G2 : Ev} {e a b tg iter : Expr} {es : List Expr} {d d1 d2 r : PyData} {ds : List PyData} {pos p : Pos} {x : Str} {st : Stmt} {sts body : List Stmt} {o : Out} {i j : Int} {js ks : List Nat} {c : Bool}
theorem di_list (h : DE X G e (.list ds)) : DI false X tg e G ds := by
  obtain ⟨te, p, q⟩ := h
  refine ⟨_, pim_list p, fun H0 σ H R st k => q H0 σ H _ st fun v H1 s1 r1 => ?_⟩
  cases r1 with
  | lst e1 r1 =>
    rename_i a ob xs
    have sq : ∀ {H' : Hp}, Kp H1 H' → SqL X.K H' a xs := fun kp => .inl (.inr ⟨ob, kp.frz _ _ _ e1⟩)
    refine ⟨a, rfl, ⟨xs, sq (.refl _)⟩, k _ H1 s1 fun H' kp => ⟨fun m d hd => ?_, xs, sq kp, Nat.le_of_eq r1.length⟩⟩
    obtain ⟨v, hv, rv⟩ := r1.get hd
    exact ⟨⟨xs, v, sq kp, hv⟩, fun y H'' ⟨e2, hy⟩ => by subst e2; have z := hy xs (sq kp); rw [hv] at z; cases z; exact ⟨.refl _, rv.kp kp⟩⟩
theorem di_tup (h : DE X G e (.tuple ds)) : DI false X tg e G ds := by
  obtain ⟨te, p, q⟩ := h
  refine ⟨_, pim_tup p, fun H0 σ H R st k => q H0 σ H _ st fun v H1 s1 r1 => ?_⟩
  cases r1 with
  | tup e1 r1 =>
    rename_i a xs
    have sq : ∀ {H' : Hp}, Kp H1 H' → SqT X.K H' a xs := fun kp => .of (kp.tup _ _ e1)
    refine ⟨a, rfl, ⟨xs, sq (.refl _)⟩, k _ H1 s1 fun H' kp => ⟨fun m d hd => ?_, xs, sq kp, Nat.le_of_eq r1.length⟩⟩
    obtain ⟨v, hv, rv⟩ := r1.get hd
    exact ⟨⟨xs, v, sq kp, hv⟩, fun y H'' ⟨e2, hy⟩ => by subst e2; have z := hy xs (sq kp); rw [hv] at z; cases z; exact ⟨.refl _, rv.kp kp⟩⟩
/-- 0, 1, .. below n -/
abbrev iN (i : Nat) : PyData := .int (i : Int)
def rg (n : Nat) : List PyData := (List.range n).map iN
def rg2 (lo n : Nat) : List PyData := (List.range n).map fun i => iN (lo + i)
theorem range_get {n m i : Nat} (h : (List.range n)[m]? = some i) : i = m ∧ m < n := by
  obtain ⟨a, b⟩ := List.getElem?_eq_some_iff.mp h
  rw [List.getElem_range] at b
  rw [List.length_range] at a
  exact ⟨b.symm, a⟩
theorem map_get {α β : Type} {f : α → β} {l : List α} {m : Nat} {y : β} (h : (l.map f)[m]? = some y) : ∃ x, l[m]? = some x ∧ f x = y := by
  rw [List.getElem?_map] at h
  cases e : l[m]? with
  | none => rw [e] at h; cases h
  | some x => rw [e] at h; exact ⟨x, rfl, Option.some.inj h⟩
theorem di_range (hm : X.mg "range" = none) (n : Nat) (h : DE X G e (.int n)) (hn : n < 2 ^ 62) (hg : Gl X "range" := by rfl) (hs : starEach [e] X.env = [(false, eval e X.env)] := by rfl) : DI false X tg (.Call (.Name "range" p) [e] [] pos) G (rg n) := by
  obtain ⟨te, pe, q⟩ := h
  refine ⟨_, pim_range1 hg hm (pa_cons pe pa_nil hs) hs, fun H0 σ H R st k => q H0 σ H _ st fun v H1 s1 r1 => ⟨n, by rw [r1.int_eq], by omega, by omega, ?_⟩⟩
  refine k _ H1 s1 fun H' kp => ⟨fun m d hd => ?_, ?_⟩
  · obtain ⟨q, hq, rfl⟩ := map_get hd
    obtain ⟨rfl, hl⟩ := range_get hq
    exact ⟨by show q < (n : Int).toNat; omega, fun x H'' ⟨e1, e2⟩ => by subst e1; subst e2; exact ⟨.refl _, by rw [Int.zero_add]; exact .int _⟩⟩
  · show (n : Int).toNat ≤ (rg n).length
    unfold rg
    simp
theorem di_range2 (hm : X.mg "range" = none) (lo hi : Nat) (h : DE X G a (.int lo)) (h2 : DE X G b (.int hi)) (hn : hi < 2 ^ 62) (hl : lo < 2 ^ 62) (hg : Gl X "range" := by rfl) (hs : starEach [a, b] X.env = [(false, eval a X.env), (false, eval b X.env)] := by rfl) (hs2 : starEach [b] X.env = [(false, eval b X.env)] := by rfl) :
    DI false X tg (.Call (.Name "range" p) [a, b] [] pos) G (rg2 lo (hi - lo)) := by
  obtain ⟨ta, pa, qa⟩ := h
  obtain ⟨tb, pb, qb⟩ := h2
  refine ⟨_, pim_range2 hg hm (pa_cons pa (pa_cons pb pa_nil hs2) (by rw [hs, hs2])) hs hs2, fun H0 σ H R st k => qa H0 σ H _ st fun v H1 s1 r1 => qb H0 σ H1 _ (st.step s1) fun u H2 s2 r2 => ⟨lo, hi, by rw [r1.int_eq, r2.int_eq], by omega, ?_⟩⟩
  have e0 : ((hi : Int) - (lo : Int)).toNat = hi - lo := by omega
  rw [e0]
  refine k _ H2 (s1.trans s2) fun H' kp => ⟨fun m d hd => ?_, ?_⟩
  · obtain ⟨q, hq, rfl⟩ := map_get hd
    obtain ⟨rfl, hl⟩ := range_get hq
    refine ⟨hl, fun x H'' ⟨e1, e2⟩ => ?_⟩
    subst e1
    subst e2
    refine ⟨.refl _, ?_⟩
    show Rep _ _ _ (.int ((lo + q : Nat) : Int))
    rw [Int.natCast_add]
    exact .int _
  · show hi - lo ≤ (rg2 lo (hi - lo)).length
    unfold rg2
    simp
/-- enumerate of a list -/
def en (ds : List PyData) : List PyData := ds.zipIdx.map fun (d, i) => .tuple [.int (i : Nat), d]
/-! ### for -/
inductive DFor (X : Cx) (tg : Expr) (body : List Stmt) : List PyData → Ev → Out → Prop
  | nil {G : Ev} : DFor X tg body [] G (.nx G)
  | next {d : PyData} {ds : List PyData} {G G1 G2 : Ev} {js : List Nat} {o : Out} : DG X tg d G G1 js → DSs X G1 body (.nx G2) → DFor X tg body ds G2 o → DFor X tg body (d :: ds) G o
  | ret {d r : PyData} {ds : List PyData} {G G1 : Ev} {js : List Nat} : DG X tg d G G1 js → DSs X G1 body (.ret r) → DFor X tg body (d :: ds) G (.ret r)
theorem Wnt.still {K : PySem.W.Frag} {H0 H1 : Hp} {D : Ends} {o : Out} (k : Wnt K H0 D o) : Wnt K (still H0 H1) D o := by
  cases o with
  | nx G => exact fun σ H r => k σ H r.unstill
  | ret d => exact fun v H s r => k v H (still_0.trans s) r
  | brk G => exact fun σ H r => k σ H r.unstill
  | cnt G => exact fun σ H r => k σ H r.unstill
theorem StR.kpOf {K : PySem.W.Frag} {H0 H1 H : Hp} {σ : L2.St} (s : Same H0 H1) (r : StR K (DL.still H0 H1) G σ H) : Kp H1 H := (still_kp s).trans (.of r.same)
theorem ds_for (hc : Md c X) (hp : PassesOwn (model X.prog X.w) X.A X.env X.xe) (hi : DI c X tg iter G ds) (hf : DFor X tg body ds G o) (hs : ∀ x, foldedSetIterable iter X.env x = pure x := by intro _; rfl) : DS X G (.For tg iter body [] pos) o := by
  obtain ⟨wi, pi, qi⟩ := hi
  refine ⟨_, ps_forM hp hc pi pg_u pss_u hs, fun H0 σ H D st k => qi H0 σ H _ st fun J H1 s1 y => ?_⟩
  have st1 := st.step s1
  refine ⟨fun i m σ' H' => i ≤ ds.length ∧ m = ds.length - i ∧ ∃ G', StR X.K (DL.still H0 H1) G' σ' H' ∧ DFor X tg body (ds.drop i) G' o, ⟨_, Nat.zero_le _, rfl, G, st1.still, hf⟩, ?_⟩
  rintro i m σ' H' ⟨hi, rfl, G', r', f⟩
  have kp := StR.kpOf st1.same r'
  obtain ⟨y1, y2⟩ := y H' kp
  by_cases hlt : i < ds.length
  · have hd : ds[i]? = some ds[i] := List.getElem?_eq_getElem hlt
    rw [List.drop_eq_getElem_cons hlt] at f
    obtain ⟨go, yl⟩ := y1 i _ hd
    refine .inr ⟨go, fun σ2 H2 => i + 1 ≤ ds.length ∧ ∃ G', StR X.K (DL.still H0 H1) G' σ2 H2 ∧ DFor X tg body (ds.drop (i + 1)) G' o, fun σ2 H2 ⟨h1, h2⟩ => ⟨_, by omega, h1, rfl, h2⟩, fun x H2 hx => ?_⟩
    obtain ⟨s2, rx⟩ := yl x H2 hx
    cases f with
    | next g1 b1 f1 =>
      obtain ⟨g, pg, qg⟩ := g1
      obtain ⟨t, pt, qt⟩ := b1
      exact ⟨g, pg, qg _ σ' H2 x _ (r'.step s2) rx fun σ3 r3 _ => ⟨t, pt, qt _ σ3 H2 _ r3 fun σ4 H4 r4 => ⟨hlt, _, r4, f1⟩⟩⟩
    | ret g1 b1 =>
      obtain ⟨g, pg, qg⟩ := g1
      obtain ⟨t, pt, qt⟩ := b1
      exact ⟨g, pg, qg _ σ' H2 x _ (r'.step s2) rx fun σ3 r3 _ => ⟨t, pt, qt _ σ3 H2 _ r3 fun v H4 s4 r4 => k.still v H4 s4 r4⟩⟩
  · have e : i = ds.length := by omega
    subst e
    rw [List.drop_length] at f
    cases f with
    | nil => exact .inl ⟨y2, k.still σ' H' r'⟩
/-- a for whose turns all go on -/
theorem dfor_inv {α : Type} (l : List α) (γ : α → PyData) (E : Nat → Ev) (h : ∀ (i : Nat) (a : α), l[i]? = some a → ∃ G1 js, DG X tg (γ a) (E i) G1 js ∧ DSs X G1 body (.nx (E (i + 1)))) : DFor X tg body (l.map γ) (E 0) (.nx (E l.length)) := by
  have go : ∀ n i, l.length - i = n → i ≤ l.length → DFor X tg body ((l.drop i).map γ) (E i) (.nx (E l.length)) := by
    intro n
    induction n with
    | zero =>
      intro i e hi
      have : i = l.length := by omega
      subst this
      rw [List.drop_length]
      exact .nil
    | succ n ih =>
      intro i e hi
      have hlt : i < l.length := by omega
      rw [List.drop_eq_getElem_cons hlt, List.map_cons]
      obtain ⟨G1, js, g, b⟩ := h i _ (List.getElem?_eq_getElem hlt)
      exact .next g b (ih (i + 1) (by omega) hlt)
  exact go _ 0 rfl (Nat.zero_le _)
/-! ### while -/
inductive DWh (X : Cx) (test : Expr) (body : List Stmt) : Ev → Out → Prop
  | done {G : Ev} : DT X G test false → DWh X test body G (.nx G)
  | turn {G G1 : Ev} {o : Out} : DT X G test true → DSs X G body (.nx G1) → DWh X test body G1 o → DWh X test body G o
inductive DWn (X : Cx) (test : Expr) (body : List Stmt) : Nat → Ev → Out → Prop
  | done {G : Ev} : DT X G test false → DWn X test body 0 G (.nx G)
  | turn {n : Nat} {G G1 : Ev} {o : Out} : DT X G test true → DSs X G body (.nx G1) → DWn X test body n G1 o → DWn X test body (n + 1) G o
theorem DWh.n {test : Expr} (h : DWh X test body G o) : ∃ n, DWn X test body n G o := by
  induction h with
  | done t => exact ⟨0, .done t⟩
  | turn t b _ ih => obtain ⟨n, q⟩ := ih; exact ⟨n + 1, .turn t b q⟩
theorem ds_while {test : Expr} (hp : PassesOwn (model X.prog X.w) X.A X.env X.xe) (h : DWh X test body G o) : DS X G (.While test body [] pos) o := by
  obtain ⟨n, h⟩ := h.n
  refine ⟨_, ps_while hp pt_u pss_u, fun H0 σ H D st k => ⟨fun m σ' H' => ∃ G', StR X.K H0 G' σ' H' ∧ DWn X test body m G' o, ⟨n, G, st, h⟩, ?_⟩⟩
  rintro m σ' H' ⟨G', r', f⟩
  cases f with
  | done t =>
    obtain ⟨tt, p, q⟩ := t
    exact ⟨tt, p, q H0 σ' H' _ r' fun H2 s2 => iteF (k σ' H2 (r'.step s2))⟩
  | turn t b f =>
    obtain ⟨tt, p, q⟩ := t
    obtain ⟨tb, pb, qb⟩ := b
    exact ⟨tt, p, q H0 σ' H' _ r' fun H2 s2 => iteT ⟨fun σ3 H3 => ∃ G', StR X.K H0 G' σ3 H3 ∧ DWn X test body _ G' o, fun σ3 H3 h3 => ⟨_, Nat.lt_succ_self _, h3⟩, tb, pb, qb H0 σ' H2 _ (r'.step s2) fun σ3 H3 r3 => ⟨_, r3, f⟩⟩⟩
/-! ### comprehensions -/
/-- the block's own slots forgotten -/
def wipeG (G : Ev) : List Nat → Ev
  | [] => G
  | v :: vs => (wipeG G vs).set v .no
theorem wipeG_length (G : Ev) : ∀ vs : List Nat, (wipeG G vs).length = G.length
  | [] => rfl
  | v :: vs => by unfold wipeG; rw [List.length_set, wipeG_length G vs]
theorem StR.wipe {K : PySem.W.Frag} {H0 H : Hp} {σ : L2.St} (r : StR K H0 G σ H) : ∀ vs : List Nat, StR K H0 (wipeG G vs) (L2.wipe σ vs) H
  | [] => r
  | v :: vs => by
    have q := StR.wipe r vs
    unfold wipeG L2.wipe
    have bk : ∀ {i : Nat} {g : Sl}, ((wipeG G vs).set v .no)[i]? = some g → g ≠ .no → v ≠ i ∧ (wipeG G vs)[i]? = some g := fun {i g} h hn => by
      by_cases e : v = i
      · subst e
        have hl : v < (wipeG G vs).length := by have := (List.getElem?_eq_some_iff.mp h).1; simpa using this
        rw [List.getElem?_set_self hl] at h
        cases h
        exact absurd rfl hn
      · rw [List.getElem?_set_ne e] at h
        exact ⟨e, h⟩
    refine ⟨q.same, by rw [List.length_set, List.length_set]; exact q.len, fun i d h => ?_, fun i ds h => ?_, fun i j ds es p h1 h2 h3 h4 => ?_⟩
    · obtain ⟨ne, h'⟩ := bk h (fun z => nomatch z)
      rw [List.getElem?_set_ne ne]
      exact q.slot i d h'
    · obtain ⟨ne, h'⟩ := bk h (fun z => nomatch z)
      rw [List.getElem?_set_ne ne]
      exact q.own i ds h'
    · obtain ⟨n1, g1⟩ := bk h1 (fun z => nomatch z)
      obtain ⟨n2, g2⟩ := bk h2 (fun z => nomatch z)
      rw [List.getElem?_set_ne n1] at h3
      rw [List.getElem?_set_ne n2] at h4
      exact q.apart i j ds es p g1 g2 h3 h4
/-- the clause's tests -/
def DTs (X : Cx) (G : Ev) (ifs : List Expr) (b : Bool) : Prop :=
  ∃ te, PTs X ifs te ∧ ∀ H0 σ H (Q : Bool → Hp → Prop), StR X.K H0 G σ H → (∀ H', Same H H' → Q b H') → te σ H Q
theorem dts_nil : DTs X G [] true := ⟨_, pts_nil, fun H0 σ H Q r k => k H (.refl H)⟩
theorem dts_one {q : Bool} (h : DT X G e q) : DTs X G [e] q := let ⟨te, p, k⟩ := h; ⟨te, pts_one p, k⟩
/-- a turn of the block, its item d, what is made of it -/
abbrev BlkX (X : Cx) (scope : Scope) (s : Shared) (H : Hp) (C : Addr) (cl : List (Str × Addr)) (fp : List Addr) : Cx := Cx.blkM X s H scope (compEnvC scope cl C X.env) fp
def DTurn (X : Cx) (scope : Scope) (tg elt : Expr) (ifs : List Expr) (vs : List Nat) (G : Ev) (d : PyData) (t : Bool) (u : PyData) : Prop :=
  ∃ G1 js, (∀ j ∈ js, j ∈ vs) ∧ ∀ (s : Shared) (H : Hp) (C : Addr) (cl : List (Str × Addr)) (fp : List Addr), DG (BlkX X scope s H C cl fp) tg d G G1 js ∧ DTs (BlkX X scope s H C cl fp) G1 ifs t ∧ (t = true → DE (BlkX X scope s H C cl fp) G1 elt u)
theorem tlc_of {α : Type} {vs : List Nat} {ifs : List Expr} {elt : Expr} {scope : Scope} {wi : TI} {H0 : Hp} {σ : L2.St} {H : Hp} {Q : VK} (l : List α) (γ ψ : α → PyData) (t : α → Bool) (hz : l.length < sizeLine)
    (qi : ∀ H0 σ H (R : It → Hp → Prop), StR X.K H0 G σ H → (∀ J H1, Same H H1 → Yld X.K J (l.map γ) H1 → R J H1) → wi σ H R)
    (hb : ∀ a ∈ l, DTurn X scope tg elt ifs vs (wipeG G vs) (γ a) (t a) (ψ a))
    (st : StR X.K H0 G σ H) (k : ∀ p vs H', Same H H' → H p = none → H' p = some (.lst vs) → Reps X.K H' vs ((l.filter t).map ψ) → Q (.ref p) H') :
    tLc wi (fun v σ H Q => ∀ (s : Shared) (H' : Hp) (C : Addr) (cl : List (Str × Addr)) (fp : List Addr), uG (BlkX X scope s H' C cl fp) tg v σ H Q)
      (fun σ H Q => ∀ (s : Shared) (H' : Hp) (C : Addr) (cl : List (Str × Addr)) (fp : List Addr), uTs (BlkX X scope s H' C cl fp) ifs σ H Q)
      (fun σ H Q => ∀ (s : Shared) (H' : Hp) (C : Addr) (cl : List (Str × Addr)) (fp : List Addr), uE (BlkX X scope s H' C cl fp) elt σ H Q) vs σ H Q := by
  refine qi H0 σ H _ st fun J H1 s1 y D hD => ?_
  refine ⟨fun i m H' => i ≤ l.length ∧ m = l.length - i ∧ Same H1 H' ∧ ∃ acc, H' D = some (.lst acc) ∧ Reps X.K H' acc (((l.take i).filter t).map ψ), ⟨_, Nat.zero_le _, rfl, Same.newp hD, [], upd_same, by rw [List.take_zero]; exact .nil⟩, ?_⟩
  rintro i m H' ⟨hi, rfl, s2, acc, eD, rD⟩
  obtain ⟨y1, y2⟩ := y H' (.of s2)
  by_cases hlt : i < l.length
  · have hd : (l.map γ)[i]? = some (γ l[i]) := by rw [List.getElem?_map, List.getElem?_eq_getElem hlt]; rfl
    obtain ⟨go, yl⟩ := y1 i _ hd
    obtain ⟨G1, js, hjs, turn⟩ := hb l[i] (List.getElem_mem hlt)
    refine .inr ⟨go, fun H2 => i + 1 ≤ l.length ∧ Same H1 H2 ∧ ∃ acc, H2 D = some (.lst acc) ∧ Reps X.K H2 acc (((l.take (i + 1)).filter t).map ψ), fun H2 ⟨h1, h2⟩ => ⟨_, by omega, h1, rfl, h2⟩, fun x H2 hx sA HA CA clA fpA => ?_⟩
    obtain ⟨s3, rx⟩ := yl x H2 hx
    obtain ⟨⟨g, pg, qg⟩, _, _⟩ := turn sA HA CA clA fpA
    have stw : StR X.K H0 (wipeG G vs) (wipe σ vs) H2 := (st.step (s1.trans (s2.trans s3))).wipe vs
    have tk : ((l.take (i + 1)).filter t).map ψ = ((l.take i).filter t).map ψ ++ (if t l[i] = true then [ψ l[i]] else []) := by
      rw [List.take_succ_eq_append_getElem hlt, List.filter_append, List.map_append]
      congr 1
      by_cases ht : t l[i] = true
      · rw [if_pos ht, List.filter_cons_of_pos ht]; rfl
      · rw [if_neg ht, List.filter_cons_of_neg ht]; rfl
    have la : acc.length ≤ i := by
      rw [rD.length, List.length_map]
      refine Nat.le_trans (List.length_filter_le _ _) ?_
      rw [List.length_take]
      omega
    refine ⟨g, pg, qg H0 (wipe σ vs) H2 x _ stw rx fun σ2 r2 off => ⟨(wipe_off off hjs).trans wipe_wipe, fun sB HB CB clB fpB => ?_⟩⟩
    obtain ⟨_, ⟨tt, pt, qt⟩, _⟩ := turn sB HB CB clB fpB
    refine ⟨tt, pt, qt H0 σ2 H2 _ r2 fun H3 s4 => ?_⟩
    have s14 : Same H1 H3 := (s2.trans s3).trans s4
    have eD3 : H3 D = some (.lst acc) := s4 _ _ (s3 _ _ eD)
    by_cases ht : t l[i] = true
    · rw [if_pos ht]
      intro sC HC CC clC fpC
      obtain ⟨_, _, el⟩ := turn sC HC CC clC fpC
      obtain ⟨te, pe, qe⟩ := el ht
      refine ⟨te, pe, qe H0 σ2 H3 _ (r2.step s4) fun v H4 s5 rv => ⟨acc, s5 _ _ eD3, by omega, hlt, fun b u e => ?_, acc ++ [v], upd_same, ?_⟩⟩
      · rw [upd_ne (ne_of_none e hD)]
        exact s5 _ _ (s14 _ _ e)
      · rw [tk, if_pos ht]
        have kp : Kp H4 (upd H4 D (.lst (acc ++ [v]))) := .upd (s5 _ _ eD3)
        exact ((((rD.same s3).same s4).same s5).append (.one rv)).kp kp
    · rw [if_neg ht]
      exact ⟨hlt, s14, acc, eD3, by rw [tk, if_neg ht, List.append_nil]; exact (rD.same s3).same s4⟩
  · have e : i = l.length := by omega
    subst e
    rw [List.take_length] at rD
    rw [List.length_map] at y2
    exact .inl ⟨y2, k D acc H' (s1.trans s2) (Same.free s1 hD) eD rD⟩
theorem dn_lcF {α : Type} {own : List (Str × Nat)} {ifs : List Expr} {elt : Expr} {scope : Scope} (l : List α) (γ ψ : α → PyData) (t : α → Bool) (hc : Md c X) (hN : X.N.Nodup) (hz : l.length < sizeLine) (ok : BlkOk X.N X.env.scope scope own) (hi : DI c X tg iter G (l.map γ))
    (hb : ∀ a ∈ l, DTurn X scope tg elt ifs (own.map (·.2)) (wipeG G (own.map (·.2))) (γ a) (t a) (ψ a)) (hs : ∀ x, foldedSetIterable iter X.env x = pure x := by intro _; rfl) : DN X G (.ListComp elt [⟨tg, iter, ifs, 0⟩] scope pos) ((l.filter t).map ψ) := by
  obtain ⟨wi, pi, qi⟩ := hi
  refine ⟨_, pe_lcM hc hN pi ok (fun s H C cl fp => ⟨fun pins s' σ H' v u Q I r h => pg_u.run pins s' σ H' v u Q I r (h s H C cl fp)⟩) (fun s H C cl fp => ⟨fun pins s' σ H' Q I h => pts_u.run pins s' σ H' Q I (h s H C cl fp)⟩)
    (fun s H C cl fp => ⟨fun pins s' σ H' Q I h => pe_u.run pins s' σ H' Q I (h s H C cl fp)⟩) hs, fun H0 σ H Q st k => tlc_of l γ ψ t hz qi hb st k⟩
theorem dn_lc {α : Type} {own : List (Str × Nat)} {elt : Expr} {scope : Scope} (l : List α) (γ ψ : α → PyData) (hc : Md c X) (hN : X.N.Nodup) (hz : l.length < sizeLine) (ok : BlkOk X.N X.env.scope scope own) (hi : DI c X tg iter G (l.map γ))
    (hb : ∀ a ∈ l, ∃ G1 js, (∀ j ∈ js, j ∈ own.map (·.2)) ∧ ∀ (s : Shared) (H : Hp) (C : Addr) (cl : List (Str × Addr)) (fp : List Addr), DG (BlkX X scope s H C cl fp) tg (γ a) (wipeG G (own.map (·.2))) G1 js ∧ DE (BlkX X scope s H C cl fp) G1 elt (ψ a)) (hs : ∀ x, foldedSetIterable iter X.env x = pure x := by intro _; rfl) : DN X G (.ListComp elt [⟨tg, iter, [], 0⟩] scope pos) (l.map ψ) := by
  have z := dn_lcF (pos := pos) (ifs := []) l γ ψ (fun _ => true) hc hN hz ok hi (fun a ha => let ⟨G1, js, h1, h2⟩ := hb a ha; ⟨G1, js, h1, fun s H C cl fp => ⟨(h2 s H C cl fp).1, dts_nil, fun _ => (h2 s H C cl fp).2⟩⟩) hs
  rwa [List.filter_eq_self.mpr (fun _ _ => rfl)] at z
/-- name = [..], the name a local -/
theorem ds_lcF {α : Type} {own : List (Str × Nat)} {ifs : List Expr} {elt : Expr} {scope : Scope} {py spos : Pos} (i : Nat) (l : List α) (γ ψ : α → PyData) (t : α → Bool) (hc : Md c X) (hN : X.N.Nodup) (hz : l.length < sizeLine) (ok : BlkOk X.N X.env.scope scope own) (hi : DI c X tg iter G (l.map γ))
    (hb : ∀ a ∈ l, DTurn X scope tg elt ifs (own.map (·.2)) (wipeG G (own.map (·.2))) (γ a) (t a) (ψ a)) (hy : X.N[i]? = some x := by rfl) (hyl : X.env.scope.names.lookup x = some .local := by rfl)
    (hsw : swapsWith (.ListComp elt [⟨tg, iter, ifs, 0⟩] scope pos) (some (.Name x py)) spos.line X.env = pure true := by exact sw_true rfl rfl rfl (by decide +kernel)) (hs : ∀ x, foldedSetIterable iter X.env x = pure x := by intro _; rfl) : DS X G (.Assign [.Name x py] (.ListComp elt [⟨tg, iter, ifs, 0⟩] scope pos) spos) (.nx (G.set i (.own ((l.filter t).map ψ)))) := by
  obtain ⟨wi, pi, qi⟩ := hi
  refine ⟨_, ps_setLcM hc hN hy hyl hsw pi ok (fun s H C cl fp => ⟨fun pins s' σ H' v u Q I r h => pg_u.run pins s' σ H' v u Q I r (h s H C cl fp)⟩) (fun s H C cl fp => ⟨fun pins s' σ H' Q I h => pts_u.run pins s' σ H' Q I (h s H C cl fp)⟩)
    (fun s H C cl fp => ⟨fun pins s' σ H' Q I h => pe_u.run pins s' σ H' Q I (h s H C cl fp)⟩) hs, fun H0 σ H D st k => tlc_of l γ ψ t hz qi hb st fun p vs H' s1 hn e1 r1 => k _ H' (st.setOwn s1 hn e1 r1)⟩
theorem ds_lc {α : Type} {own : List (Str × Nat)} {elt : Expr} {scope : Scope} {py spos : Pos} (i : Nat) (l : List α) (γ ψ : α → PyData) (hc : Md c X) (hN : X.N.Nodup) (hz : l.length < sizeLine) (ok : BlkOk X.N X.env.scope scope own) (hi : DI c X tg iter G (l.map γ))
    (hb : ∀ a ∈ l, ∃ G1 js, (∀ j ∈ js, j ∈ own.map (·.2)) ∧ ∀ (s : Shared) (H : Hp) (C : Addr) (cl : List (Str × Addr)) (fp : List Addr), DG (BlkX X scope s H C cl fp) tg (γ a) (wipeG G (own.map (·.2))) G1 js ∧ DE (BlkX X scope s H C cl fp) G1 elt (ψ a)) (hy : X.N[i]? = some x := by rfl) (hyl : X.env.scope.names.lookup x = some .local := by rfl)
    (hsw : swapsWith (.ListComp elt [⟨tg, iter, [], 0⟩] scope pos) (some (.Name x py)) spos.line X.env = pure true := by exact sw_true rfl rfl rfl (by decide +kernel)) (hs : ∀ x, foldedSetIterable iter X.env x = pure x := by intro _; rfl) : DS X G (.Assign [.Name x py] (.ListComp elt [⟨tg, iter, [], 0⟩] scope pos) spos) (.nx (G.set i (.own (l.map ψ)))) := by
  have z := ds_lcF (pos := pos) (ifs := []) (py := py) (spos := spos) i l γ ψ (fun _ => true) hc hN hz ok hi (fun a ha => let ⟨G1, js, h1, h2⟩ := hb a ha; ⟨G1, js, h1, fun s H C cl fp => ⟨(h2 s H C cl fp).1, dts_nil, fun _ => (h2 s H C cl fp).2⟩⟩) hy hyl hsw hs
  rwa [List.filter_eq_self.mpr (fun _ _ => rfl)] at z
end
end DL
end
section
namespace DL
open PySem PySem.Spec PyProof.Rows L2
/-! ### defs -/
/-- a def's body; b: nothing is handled; pn: what is pinned -/
abbrev cxB (P : Program) (w : World) (K : PySem.W.Frag) (mg : Str → Option Value) (base : Heap) (N : List Str) (qual : Str) (scope : Scope) (f : Addr) (cd : Value) (A : Around) (outer : List Env) (s : Shared) (H : Hp) (b : Bool) (pn : List (Addr × Obj)) : Cx :=
  { (cxOf CX0 P w K mg base N qual scope f cd A outer s H E0).nox with calm := b, pn := pn }
def startG (N : List Str) (ds : List PyData) : Ev := ds.map .dat ++ List.replicate (N.length - ds.length) .no
theorem start_str {K : PySem.W.Frag} {H : Hp} {N : List Str} {vs : List V} {ds : List PyData} (r : Reps K H vs ds) : StR K H (startG N ds) (L2.start N vs) H := by
  have hl := r.length
  have noOwn : ∀ (i : Nat) (es : List PyData), (startG N ds)[i]? ≠ some (.own es) := fun i es h => by
    have := List.mem_of_getElem? h
    unfold startG at this
    rcases List.mem_append.mp this with z | z
    · obtain ⟨_, _, e⟩ := List.mem_map.mp z
      cases e
    · have := (List.mem_replicate.mp z).2
      cases this
  refine ⟨.refl H, by unfold startG L2.start; rw [List.length_append, List.length_append, List.length_map, List.length_map, List.length_replicate, List.length_replicate, hl], fun i d h => ?_, fun i es h => absurd h (noOwn i es), fun i j ds es p h _ _ _ => absurd h (noOwn i ds)⟩
  unfold startG at h
  unfold L2.start
  by_cases hi : i < ds.length
  · rw [List.getElem?_append_left (by rw [List.length_map]; exact hi)] at h
    obtain ⟨e, h1, h2⟩ := map_get h
    cases h2
    obtain ⟨v, hv, rv⟩ := r.get h1
    exact ⟨v, by rw [List.getElem?_append_left (by rw [List.length_map, hl]; exact hi), List.getElem?_map, hv]; rfl, rv⟩
  · rw [List.getElem?_append_right (by rw [List.length_map]; omega)] at h
    have := (List.mem_replicate.mp (List.mem_of_getElem? h)).2
    cases this
/-- how a body ends -/
def Ends1 (X : Cx) (G : Ev) (b : List Stmt) (r : PyData) : Prop := DSs X G b (.ret r) ∨ (r = .none ∧ ∃ G', DSs X G b (.nx G'))
section
variable {P : Program} {w : World} {K : PySem.W.Frag} {mg : Str → Option Value} {base : Heap} {x qual : Str} {st : Stmt} {f : Addr} {fd : FuncData} {N ps : List Str} {k n : Nat} {R : List PyData → PyData → Prop}
theorem Ends1.run {X : Cx} {ds : List PyData} {r : PyData} {vs : List V} {H : Hp} {Q : VK} {b : List Stmt} (h : Ends1 X (startG N ds) b r) (rv : Reps X.K H vs ds) (q : ∀ v H', Same H H' → Rep X.K H' v r → Q v H') :
    ∃ t, PSs X b t ∧ t { nx := fun _ H' => Q .non H', rt := Q } (L2.start N vs) H := by
  rcases h with ⟨t, p, k⟩ | ⟨rfl, G', t, p, k⟩
  · exact ⟨t, p, k H _ H _ (start_str rv) fun v H' s r => q v H' s r⟩
  · exact ⟨t, p, k H _ H _ (start_str rv) fun σ H' r => q .non H' r.same .non⟩
/-- a def that is called where nothing is handled -/
theorem def_calm (F : Fun K x qual st f fd) (S : FnScope N ps (defScope st)) (bd : Binds K fd ps []) (hn : ps.length = n)
    (body : ∀ (cdv : Value) (A : Around) (outer : List Env) (s : Shared) (H : Hp) (ds : List PyData) (r : PyData), RmX false k (cxB P w K mg base N qual (defScope st) f cdv A outer s H true []) → R ds r → ds.length = n →
      Ends1 (cxB P w K mg base N qual (defScope st) f cdv A outer s H true []) (startG N ds) (defBody st) r) : FnB false P w K mg base (k + 1) f fd ps (spD K n R) := by
  refine ⟨F.ok S (fun vs H Q E ⟨ds, r, h1, h2, _⟩ => by rw [h1.length, h2, hn]) fun cdv A outer s H vs Q E hr ⟨ds, r, h1, h2, h3, h4⟩ => ?_, (fun h => Bool.noConfusion h), bd, F.kp⟩
  exact Ends1.run (X := cxB P w K mg base N qual (defScope st) f cdv A outer s H true []) (body cdv A outer s H ds r (.inl hr) h3 h2) h1 h4
/-- .. or where an exception may be handled -/
theorem def_both (F : Fun K x qual st f fd) (S : FnScope N ps (defScope st)) (bd : Binds K fd ps []) (hn : ps.length = n)
    (body : ∀ (cdv : Value) (A : Around) (outer : List Env) (s : Shared) (H : Hp) (b : Bool) (pn : List (Addr × Obj)) (ds : List PyData) (r : PyData), Mild (cxB P w K mg base N qual (defScope st) f cdv A outer s H b pn) → RmX true k (cxB P w K mg base N qual (defScope st) f cdv A outer s H b pn) → R ds r → ds.length = n →
      Ends1 (cxB P w K mg base N qual (defScope st) f cdv A outer s H b pn) (startG N ds) (defBody st) r) : FnB true P w K mg base (k + 1) f fd ps (spD K n R) := by
  refine ⟨F.ok S (fun vs H Q E ⟨ds, r, h1, h2, _⟩ => by rw [h1.length, h2, hn]) fun cdv A outer s H vs Q E hr ⟨ds, r, h1, h2, h3, h4⟩ => ?_, fun _ => ?_, bd, F.kp⟩
  · exact Ends1.run (X := cxB P w K mg base N qual (defScope st) f cdv A outer s H true []) (body cdv A outer s H true [] ds r (.inl rfl) (.inl hr) h3 h2) h1 h4
  · obtain ⟨oc, od, kV, doc, pm, an, cdv, ct, osl, rfl, lk, hcd⟩ := F.ex
    refine L2H.fn_ofH lk hcd S (fun vs H Q E ⟨ds, r, h1, h2, _⟩ => by rw [h1.length, h2, hn]) fun A outer s H vs Q E p hot hr ⟨ds, r, h1, h2, h3, h4⟩ => ?_
    have hc : ∃ q : Addr × Obj, L2H.Hot1 (A.deeper (envOfC qual (defScope st) s.heap.objs.size f cdv)) q ∧ q ∈ [p] := ⟨p, ⟨hot.1, hot.2⟩, List.mem_singleton.mpr rfl⟩
    obtain ⟨t, pt, q⟩ := Ends1.run (X := cxB P w K mg base N qual (defScope st) f cdv A outer s H false [p]) (Q := Q) (body cdv A outer s H false [p] ds r (.inr hc) (.inr ⟨rfl, hr, hc⟩) h3 h2) h1 h4
    exact ⟨t, PSs.nox pt, q⟩
end
end DL
end
section
/-! enumerate of a tuple, in the hand layer's way. -/
namespace DLE
open PySem
set_option maxHeartbeats 1000000 in
theorem enumT_meets (t : Addr) (vs : Array Value) :
    Meets (Builtin.«enumerate.__new__» ⟨[.type "enumerate", .ref t], []⟩) (fun _ R z => z.heap.IsTuple t vs ∧
      R (.ok (.ret (.ref (z.heap.push { cls := .type "tuple_iterator", data := .fields #[.ref t, .int 0 0] }).objs.size))) { z with heap := (z.heap.push { cls := .type "tuple_iterator", data := .fields #[.ref t, .int 0 0] }).push { cls := .type "enumerate", data := .fields #[.none, .bool false, .ref z.heap.objs.size, rawInt 0, .none, .none] } }) :=
  .of_wp fun P1 w1 A1 R1 z hz => by
    obtain ⟨hp1, g1, dr1, tk1, os1⟩ := z
    obtain ⟨hT, hR⟩ := hz
    have hse := sub_enumerate
    have it1 : ∀ {A' : Around} {E : Value → Shared → Prop} {Q : Value → Shared → Prop}, Q (.ref hp1.objs.size) ⟨hp1.push { cls := .type "tuple_iterator", data := .fields #[.ref t, .int 0 0] }, g1, dr1, tk1, os1⟩ → wpAny (model P1 w1) A' (pyIter (.ref t)) Q E ⟨hp1, g1, dr1, tk1, os1⟩ :=
      fun q => (begins_tuple t vs).iter P1 w1 _ _ ⟨hp1, g1, dr1, tk1, os1⟩ _ hT q
    wp_walk using it1
    refine wpAny_stack_any fun stk => wpAny_pure ?_
    split
    · rename_i c1 _ _ _ _ _
      cases (c1 == Value.type "enumerate")
      · wp_walk using it1
        exact ⟨_, rfl, hR⟩
      · wp_walk using it1
        exact ⟨_, rfl, hR⟩
    · wp_walk using it1
      exact ⟨_, rfl, hR⟩
theorem enumT_call {prog : Program} {w : World} {A : Around} {E : Value → Shared → Prop} {s : Shared} {t : Addr} {vs : Array Value} {Q : Value → Shared → Prop} (hT : s.heap.IsTuple t vs)
    (q : ∀ h2, IsEnum h2 (s.heap.objs.size + 1) s.heap.objs.size 0 .none → h2.IsTupleIter s.heap.objs.size t 0 → (∀ b o, s.heap.get? b = some o → h2.get? b = some o) → Q (.ref (s.heap.objs.size + 1)) { s with heap := h2 }) :
    wpAny (model prog w) A (call (.type "enumerate") [.ref t]) Q E s := by
  refine callType_new F.called_enumerate (by decide) (F.typeCall_enumerate_1 _) (F.newCall_enumerate_1 _) (fun ob => F.args_object_init_2 ob _) F.entry_enumerate_new (enumT_meets t vs) ⟨hT, ?_⟩
  have sz : (s.heap.push { cls := .type "tuple_iterator", data := .fields #[.ref t, .int 0 0] }).objs.size = s.heap.objs.size + 1 := Heap.size_push ..
  show _ ∧ _
  rw [sz]
  have ise : IsEnum ((s.heap.push { cls := .type "tuple_iterator", data := .fields #[.ref t, .int 0 0] }).push { cls := .type "enumerate", data := .fields #[.none, .bool false, .ref s.heap.objs.size, rawInt 0, .none, .none] }) (s.heap.objs.size + 1) s.heap.objs.size 0 .none := by
    have z := Heap.get?_push_size (s.heap.push { cls := .type "tuple_iterator", data := .fields #[.ref t, .int 0 0] }) (o := { cls := .type "enumerate", data := .fields #[.none, .bool false, .ref s.heap.objs.size, rawInt 0, .none, .none] }) rfl
    rwa [sz] at z
  exact ⟨⟨_, ise, rfl⟩, q _ ise ⟨_, Heap.get?_push_of_some _ (Heap.get?_push_size _ rfl), rfl, rfl⟩ fun b o x => Heap.get?_push_of_some _ (Heap.get?_push_of_some _ x)⟩
end DLE
namespace DL
open PySem PySem.Spec PyProof.Rows L2
/-- the tuple at a, its items with their numbers in new pairs -/
def ItN (K : PySem.W.Frag) (a : Addr) : It :=
  ⟨fun i H => ∃ (vs : List V) (x : V), SqT K H a vs ∧ vs[i]? = some x, fun i H v H2 => ∃ T x, v = .ref T ∧ H T = none ∧ H2 = upd H T (.tup [.int (i : Nat), x]) ∧ ∀ vs, SqT K H a vs → vs[i]? = some x, fun i H => ∃ vs : List V, SqT K H a vs ∧ vs.length ≤ i⟩
theorem turnN {P : Program} {w : World} {K : PySem.W.Frag} {el : List Expr} {k1 : Nat} {p1 : Pos} (a e it : Addr) :
    Turn P w K (.Tuple el k1 p1) (ItN K a) [e, it] e (fun i h => (∃ old, IsEnum h e it ((i : Nat) : Int) old) ∧ h.IsTupleIter it a i ∧ e ≠ it ∧ a ≠ it ∧ e ≠ a) where
  mem := List.mem_cons_self
  obj := fun i h st b hb => by
    obtain ⟨⟨o1, h1⟩, ⟨o2, h2, _, d2⟩, _⟩ := st
    rcases List.mem_cons.mp hb with z | z
    · subst z; exact ⟨_, h1, fun v q => nomatch q⟩
    · have z' := List.mem_singleton.mp z
      subst z'; exact ⟨o2, h2, fun v q => by rw [d2] at q; cases q⟩
  keep := fun i h h' st k => let ⟨⟨o1, h1⟩, h2, r⟩ := st; ⟨⟨o1, k e List.mem_cons_self _ h1⟩, h2.at fun o q => k it (by simp) o q, r⟩
  item := by
    rintro X rfl rfl rfl hc i pins s σ H E I hf ⟨⟨o1, h1⟩, h2, n1, n2, n3⟩ ⟨vs, x, hq, hx⟩
    obtain ⟨its, rv, tp, hz⟩ := I.tuple hq
    obtain ⟨u, hu, ru⟩ := rv.get hx
    have lte : e < s.heap.objs.size := Heap.lt_size h1
    have lti : it < s.heap.objs.size := by obtain ⟨_, q, _⟩ := h2; exact Heap.lt_size q
    have hi : i < its.toArray.size := by have := (List.getElem?_eq_some_iff.mp hu).1; simpa using this
    have hd1 : X.A.in1.handled = none := I.ok.hd hc
    refine wpAny_pyNext_enum_itemD (Draws.tuple hd1 it a n2 its.toArray) h1 ⟨h2, tp⟩ hi n1 (by simp [n1, n3]) fun y h' tk hy ho hst hT hsz hk => ?_
    have ey : y = u := by
      have hy2 : its.toArray[i]? = some y := hy
      rw [List.getElem?_toArray, hu] at hy2
      exact (Option.some.inj hy2).symm
    subst ey
    refine ⟨_, rfl, wpAny_letOwnedTupleGo_enum (s := { s with heap := h', toks := tk + 1 }) ho fun h3 he3 sb => ?_⟩
    have hT3 : h3.get? s.heap.objs.size = some { cls := .type "tuple", data := .seq #[.int i tk, y] } := (sb.2 _ (Nat.ne_of_gt lte)).trans hT
    have nw : ObjOk X.prog X.w (upd H s.heap.objs.size (.tup [.int (i : Nat), x])) h3 s.heap.objs.size (.tup [.int (i : Nat), x]) := ⟨by show 2 ≤ sizeLine; exact sz2, [.int i tk, y], .cons ⟨_, rfl⟩ (.cons ru .nil), ⟨_, hT3, rfl, _, rfl⟩⟩
    have J : Inv X pins σ (upd H s.heap.objs.size (.tup [.int (i : Nat), x])) { s with heap := h3, toks := tk + 1 } :=
      I.turnedNew (t' := tk + 1) (ch := [e, it]) (fun b ob hb q => (sb.2 b (fun z => hb (by simp [z]))).trans (hk b ob (fun z => hb (by simp [z])) (fun z => hb (by simp [z])) q)) hf (Nat.le_refl _) nw
    refine ⟨.ref s.heap.objs.size, _, J, rfl, ⟨_, x, rfl, I.hok.fresh (Nat.le_refl _), rfl, fun ys hy => by rw [I.tuple_inj hy hq]; exact hx⟩, ⟨⟨y, ?_⟩, hst.1.at fun o q => (sb.2 it (Ne.symm n1)).trans q, n1, n2, n3⟩, fun b hb => ?_⟩
    · rw [Int.natCast_succ]; exact he3
    · have hb' : b < s.heap.objs.size := by
        rcases List.mem_cons.mp hb with z | z
        · rw [z]; exact lte
        · rw [List.mem_singleton.mp z]; exact lti
      rw [upd_ne (Nat.ne_of_lt hb')]
      exact (hf b hb).1
  done := by
    rintro X rfl rfl rfl hc i pins s σ H E I hf ⟨⟨o1, h1⟩, h2, n1, n2, n3⟩ ⟨vs, hq, hx⟩
    obtain ⟨its, rv, tp, hz⟩ := I.tuple hq
    obtain ⟨f0, f1, f2, f3, f4, f5⟩ := hf it (by simp)
    have hl := rv.length
    have hd1 : X.A.in1.handled = none := I.ok.hd hc
    have D := Draws.tuple (prog := X.prog) (w := X.w) hd1 it a n2 its.toArray
    -- beyond the end: the same answer
    have hT1 : s.TypeIs (.ref e) "enumerate" := ⟨_, h1, rfl⟩
    unfold pyNext
    refine wpAny_bind (wpAny_attempt (wpAny_callSpecial?_slot (name := Str.ofString "__next__") hT1 F.slot_enumerate_next (wpAny_call_entry F.slot_enumerate_next hT1 F.entry_enumerate_next ?_ (F.args_enumerate_next_1 _))))
    show wpAny _ _ (field (.ref e) 2 >>= _) _ _ _
    refine wpAny_bind (wpAny_field h1 rfl (x := .ref it) rfl (wpAny_bind (wpAny_nextOf_tuple_end hd1 h2 tp (by simp; omega) fun h' xx eb hx' => ?_)))
    obtain ⟨ox, hox, hcx⟩ := hx'
    refine wpAny_bind (wpAny_isInstance (T := "StopIteration") (b := true) ⟨ox, hox, hcx⟩ isSubtype_stop (wpAny_pure ?_))
    exact ⟨rfl, I.turned (t' := s.toks) (fun b o hb q => eb b o hb q) f0 f1 f3 f4 f5⟩
  self := fun A i s Q E st h => let ⟨⟨_, he⟩, _⟩ := st; wpAny_pyIter_enum he h
def iEnT (K : PySem.W.Frag) (te : TE) : TI := fun σ H R => te σ H fun v H1 => ∃ a vs, v = .ref a ∧ SqT K H1 a vs ∧ R (ItN K a) H1
theorem pi_enT {X : Cx} {e : Expr} {te : TE} {p pos p1 : Pos} {el : List Expr} {k1 : Nat} (hg : Gl X "enumerate") (hm : X.mg "enumerate" = none) (he : PE X e te) (hs : starEach [e] X.env = (false, eval e X.env) :: starEach [] X.env := by rfl) :
    PI X (.Tuple el k1 p1) (.Call (.Name "enumerate" p) [e] [] pos) (iEnT X.K te) := by
  refine ⟨fun pins s σ H R I h => ?_⟩
  refine Call_ (ld_blt I hg hm boot_enumerate (PyProof.Rows.callWith_type1 (args_cons (thn (he.run pins s σ H _ I h) fun u s1 ⟨v, H1, I1, r1, q1⟩ => args_nil ?_) hs) hs rfl))
  obtain ⟨a, vs, rfl, hq, q⟩ := q1
  obtain rfl : u = Value.ref a := r1
  obtain ⟨its, rv, tp, hz⟩ := I1.tuple hq
  have la : a < s1.heap.objs.size := by obtain ⟨_, q, _⟩ := tp; exact Heap.lt_size q
  refine DLE.enumT_call tp fun h' he hit hk => wpAny_pyIter_enum he ?_
  have J : Inv X pins σ H1 { s1 with heap := h' } := I1.kept (t' := s1.toks) hk
  refine ⟨s1.heap.objs.size + 1, [s1.heap.objs.size + 1, s1.heap.objs.size], _, _, H1, rfl, J, turnN a (s1.heap.objs.size + 1) s1.heap.objs.size, ⟨⟨.none, he⟩, hit, Nat.succ_ne_self _, Nat.ne_of_lt la, Nat.ne_of_gt (Nat.lt_succ_of_lt la)⟩, fun b hb => ?_, q⟩
  have hle : s1.heap.objs.size ≤ b := by
    rcases List.mem_cons.mp hb with z | z
    · rw [z]; exact Nat.le_succ _
    · rw [List.mem_singleton.mp z]; exact Nat.le_refl _
  exact I1.fpOk hle (I1.hok.fresh hle)
end DL
end
section
set_option maxHeartbeats 1000000
namespace DL
open PySem PySem.Spec PyProof.Rows L2
section
variable {X : Cx} {G G1 G2 : Ev} {e a b c tg iter : Expr} {es : List Expr} {d d1 d2 r : PyData} {ds : List PyData} {pos p : Pos} {x : Str} {st : Stmt} {sts body : List Stmt} {o : Out} {i j : Int} {js ks : List Nat}
theorem de_pow (ha : DE X G a (.int i)) (hb : DE X G b (.int j)) (hc : CPow i j) : DE X G (.BinOp a .Pow b pos) (.int (i ^ j.toNat)) := de_bin op_pow ha hb hc
theorem de_if {t : Bool} (hc : DT X G c t) (h1 : t = true → DE X G a d) (h2 : t = false → DE X G b d) : DE X G (.IfExp c a b pos) d := by
  cases t with
  | true => exact de_ifT hc (h1 rfl)
  | false => exact de_ifF hc (h2 rfl)
/-- name += e -/
theorem ds_aug (n : Nat) {pos' : Pos} (hN : X.N.Nodup) (hG : G[n]? = some (.dat (.int i))) (h : DE X G e (.int j)) (hi : X.N[n]? = some x := by rfl) (hx : Loc X.env.scope x := by first | exact Or.inl rfl | exact Or.inr rfl) (hf : X.fn x = true ∨ X.env.scope.names.lookup x = some .local := by first | exact .inl rfl | exact .inr rfl) :
    DS X G (.AugAssign (.Name x pos') .Add e pos) (.nx (G.set n (.dat (.int (i + j))))) := by
  obtain ⟨te, pe, q⟩ := h
  refine ⟨_, ps_aug hN hi hx pe ip_add hf, fun H0 σ H D r k => ?_⟩
  obtain ⟨v, e1, rv⟩ := r.slot n _ hG
  exact ⟨v, e1, q H0 σ H _ r fun u H1 s1 r1 => ⟨i, j, rv.int_eq, r1.int_eq, k _ H1 ((r.step s1).set (.int _))⟩⟩
/-! ### isinstance -/
def tyN : PyData → String
  | .none => "NoneType"
  | .bool _ => "bool"
  | .int _ => "int"
  | .str _ => "str"
  | .list _ => "list"
  | .tuple _ => "tuple"
  | _ => "dict"
theorem Rep.ty {K : PySem.W.Frag} {H : Hp} {v : V} (r : Rep K H v d) (hd : ∀ l, d ≠ .dict l) : TyX K H v (.type (tyN d)) := by
  cases r with
  | non => exact .base .non
  | bl b => exact .base (.bl b)
  | int i => exact .base (.int i)
  | str x => exact .base (.str x)
  | lst e _ => exact .base (.frz e)
  | tup e _ => exact .base (.tup e)
  | scr _ => exact absurd rfl (hd _)
theorem de_isi {T : Str} {n : String} {q : Bool} {p2 : Pos} (hm : Bt X "isinstance") (hmT : X.mg T = none) (h : DE X G e d) (hd : ∀ l, d ≠ .dict l) (hT : bootBuiltins T = some (.type n)) (hk : kitB (tyN d) n = some q) (hg : Gl X "isinstance" := by rfl) (hgT : Gl X T := by rfl) (hnT : T ≠ "__name__" := by decide) (hdT : (T == ("__debug__" : Str)) = false := by decide)
    (hs : starEach [e, .Name T p2] X.env = (false, eval e X.env) :: starEach [.Name T p2] X.env := by rfl) (hs2 : starEach [.Name T p2] X.env = (false, eval (.Name T p2) X.env) :: starEach [] X.env := by rfl) (hpl : (backTo pos (starEach [.Name T p2] X.env)).any (·.1) = false := by rfl) :
    DE X G (.Call (.Name "isinstance" p) [e, .Name T p2] [] pos) (.bool q) := by
  obtain ⟨te, pe, k1⟩ := h
  exact ⟨_, pe_callB call_isi hg hm (by decide +kernel) (pa_cons pe (pa_cons (pe_bltn (v := .ty n) hgT hmT hT rfl hnT hdT) pa_nil hs2) hs) (by decide) (by decide) hs hpl, fun H0 σ H Q st k => k1 H0 σ H _ st fun v H1 s1 r1 => ⟨v, .ty n, _, _, q, rfl, .ty n, r1.ty hd, kit_ty hk, k _ H1 s1 (.bl q)⟩⟩
theorem kb_ii : kitB "int" "int" = some true := by decide +kernel
theorem kb_ib : kitB "int" "bool" = some false := by decide +kernel
theorem kb_bb : kitB "bool" "bool" = some true := by decide +kernel
theorem kb_tt : kitB "tuple" "tuple" = some true := by decide +kernel
theorem kb_ss : kitB "str" "str" = some true := by decide +kernel
theorem bb_int : bootBuiltins "int" = some (.type "int") := by decide +kernel
theorem bb_bool : bootBuiltins "bool" = some (.type "bool") := by decide +kernel
theorem bb_tuple : bootBuiltins "tuple" = some (.type "tuple") := by decide +kernel
theorem bb_str : bootBuiltins "str" = some (.type "str") := by decide +kernel
/-! ### not in a tuple of texts -/
theorem Reps.strs {K : PySem.W.Frag} {H : Hp} : ∀ {zs : List Str} {vs : List V}, Reps K H vs (zs.map PyData.str) → vs = zs.map V.str
  | [], _, h => by cases h; rfl
  | z :: zs, _, h => by
    cases h with
    | cons a b => rw [a.str_eq, Reps.strs b]; rfl
theorem dt_notIn {z : Str} {zs : List Str} (ha : DE X G a (.str z)) (hb : DE X G b (.tuple (zs.map PyData.str))) (hm : behindInMarks .NotIn b = false) : DT X G (.Compare a [.NotIn] [b] pos) (!zs.any fun y => y == z) := by
  obtain ⟨ta, pa, qa⟩ := ha
  obtain ⟨tb, pb, qb⟩ := hb
  refine ⟨_, pt_cmpR op_notIn_seq pa pb hm, fun H0 σ H Q r k => qa H0 σ H _ r fun v H1 s1 r1 => qb H0 σ H1 _ (r.step s1) fun u H2 s2 r2 => ?_⟩
  rw [r1.str_eq]
  cases r2 with
  | tup e1 rs =>
    rename_i q xs
    have ex : xs = zs.map V.str := rs.strs
    subst ex
    refine ⟨q, _, rfl, .inr (.of e1), rfl, ?_, _, rfl, ?_⟩
    · rw [List.all_map]; exact List.all_eq_true.mpr fun _ _ => rfl
    · have e2 : inV (.str z) (zs.map V.str) = zs.any fun y => y == z := by unfold inV; rw [List.any_map]; rfl
      show Q (if true = true then !inV (.str z) (zs.map V.str) else _) H2
      rw [if_pos rfl, e2]
      exact k H2 (s1.trans s2)
/-! ### list.index -/
theorem de_index {ns : List Int} {m : Nat} {apos : Pos} (ha : DR X G a (ns.map .int)) (hb : DE X G b (.int i)) (hm : ns[m]? = some i) (hno : ∀ (k : Nat) (y : Int), k < m → ns[k]? = some y → y ≠ i) (hbase : attributeBase a "index" X.env (eval a X.env) = eval a X.env := by rfl)
    (hfew : ((backTo p (starEach [b] X.env)).all (fun x => !x.1) && (backToKw p (keywordEach [] X.env)).all (fun x => x.1.isSome) && decide ([b].length + ([] : List Keyword).length + (if ([] : List Keyword).isEmpty then 0 else 1) < 30)) = true := by rfl)
    (hline : (apos.endLine == p.line) = true := by rfl) (hs : starEach [b] X.env = (false, eval b X.env) :: starEach [] X.env := by rfl) : DE X G (.Call (.Attribute a "index" apos) [b] [] p) (.int m) := by
  obtain ⟨ta, pa, qa⟩ := ha
  obtain ⟨tb, pb, qb⟩ := hb
  refine ⟨_, pe_bm PySem.F.plainAttrs_list PySem.F.slot_list_index (by kernel_rfl) mt_index pa (pa_cons pb pa_nil hs) hbase hfew hline hs rfl, fun H0 σ H Q r k => qa H0 σ H _ r fun q vs H1 s1 e1 r1 => ⟨.inl ⟨rfl, _, e1⟩, qb H0 σ H1 _ (r.step s1) fun u H2 s2 r2 => ?_⟩⟩
  have ev := r1.ints
  subst ev
  refine ⟨q, _, .int i, m, .int i, rfl, by rw [r2.int_eq], s2.seq e1, rfl, ?_, ?_, ?_, fun k z hk hz => ?_, k _ H2 (s1.trans s2) (.int _)⟩
  · rw [List.all_map]; exact List.all_eq_true.mpr fun _ _ => rfl
  · rw [List.getElem?_map, hm]; rfl
  · show (i == i) = true; exact beq_self_eq_true i
  · rw [List.getElem?_map] at hz
    cases e2 : ns[k]? with
    | none => rw [e2] at hz; cases hz
    | some y =>
      rw [e2] at hz
      cases hz
      show (y == i) = false
      exact beq_eq_false_iff_ne.mpr (hno k y hk e2)
/-! ### enumerate, zip, reversed -/
theorem Yld.pim {wi : TI} (c : PI X tg iter wi) (q : ∀ H0 σ H (R : It → Hp → Prop), StR X.K H0 G σ H → (∀ J H1, Same H H1 → Yld X.K J ds H1 → R J H1) → wi σ H R) : DI true X tg iter G ds := ⟨_, pim_of c, q⟩
theorem en_get {m : Nat} (h : (en ds)[m]? = some d) : ∃ d', ds[m]? = some d' ∧ d = .tuple [.int (m : Nat), d'] := by
  unfold en at h
  obtain ⟨⟨y, k⟩, h1, rfl⟩ := map_get h
  rw [List.getElem?_zipIdx] at h1
  cases e1 : ds[m]? with
  | none => rw [e1] at h1; cases h1
  | some y' => rw [e1] at h1; cases h1; exact ⟨_, rfl, by rw [Nat.zero_add]⟩
theorem en_length : (en ds).length = ds.length := by unfold en; simp
theorem di_enL {es : List Expr} {k : Nat} {p1 : Pos} (hm : Bt X "enumerate") (hz : DE X G e (.list ds)) (hg : Gl X "enumerate" := by rfl) (hs : starEach [e] X.env = [(false, eval e X.env)] := by rfl) :
    DI true X (.Tuple es k p1) (.Call (.Name "enumerate" p) [e] [] pos) G (en ds) := by
  obtain ⟨te, pe, q⟩ := hz
  refine Yld.pim (pi_enum hg hm (pa_cons pe pa_nil hs) hs) fun H0 σ H R st k => q H0 σ H _ st fun v H1 s1 r1 => ?_
  cases r1 with
  | lst e1 rs =>
    rename_i a ob xs
    have sq : ∀ {H' : Hp}, Kp H1 H' → SqL X.K H' a xs := fun kp => .inl (.inr ⟨ob, kp.frz _ _ _ e1⟩)
    refine ⟨a, xs, rfl, sq (.refl _), k _ H1 s1 fun H' kp => ⟨fun m d hd => ?_, xs, sq kp, by rw [en_length, rs.length]; exact Nat.le_refl _⟩⟩
    obtain ⟨d', hd', rfl⟩ := en_get hd
    obtain ⟨v, hv, rv⟩ := rs.get hd'
    refine ⟨⟨xs, v, sq kp, hv⟩, fun y H'' ⟨T, x, ey, hT, eH, hx⟩ => ?_⟩
    subst ey eH
    have ex := hx xs (sq kp)
    rw [hv] at ex
    cases ex
    exact ⟨Same.newp hT, .tup upd_same (.cons (.int _) (.one ((rv.kp kp).same (Same.newp hT))))⟩
theorem di_enT {es : List Expr} {k : Nat} {p1 : Pos} (hm : Bt X "enumerate") (h : DE X G e (.tuple ds)) (hg : Gl X "enumerate" := by rfl) (hs : starEach [e] X.env = (false, eval e X.env) :: starEach [] X.env := by rfl) :
    DI true X (.Tuple es k p1) (.Call (.Name "enumerate" p) [e] [] pos) G (en ds) := by
  obtain ⟨te, pe, q⟩ := h
  refine Yld.pim (pi_enT hg hm pe hs) fun H0 σ H R st k => q H0 σ H _ st fun v H1 s1 r1 => ?_
  cases r1 with
  | tup e1 rs =>
    rename_i a xs
    have sq : ∀ {H' : Hp}, Kp H1 H' → SqT X.K H' a xs := fun kp => .of (kp.tup _ _ e1)
    refine ⟨a, xs, rfl, sq (.refl _), k _ H1 s1 fun H' kp => ⟨fun m d hd => ?_, xs, sq kp, by rw [en_length, rs.length]; exact Nat.le_refl _⟩⟩
    obtain ⟨d', hd', rfl⟩ := en_get hd
    obtain ⟨v, hv, rv⟩ := rs.get hd'
    refine ⟨⟨xs, v, sq kp, hv⟩, fun y H'' ⟨T, x, ey, hT, eH, hx⟩ => ?_⟩
    subst ey eH
    have ex := hx xs (sq kp)
    rw [hv] at ex
    cases ex
    exact ⟨Same.newp hT, .tup upd_same (.cons (.int _) (.one ((rv.kp kp).same (Same.newp hT))))⟩
def zp (ds es : List PyData) : List PyData := (ds.zip es).map fun q => .tuple [q.1, q.2]
theorem zp_get {es : List PyData} {m : Nat} (h : (zp ds es)[m]? = some d) : ∃ d1 d2, ds[m]? = some d1 ∧ es[m]? = some d2 ∧ d = .tuple [d1, d2] := by
  unfold zp at h
  obtain ⟨⟨y, z⟩, h1, rfl⟩ := map_get h
  rw [List.getElem?_zip_eq_some] at h1
  exact ⟨y, z, h1.1, h1.2, rfl⟩
theorem zp_length {es : List PyData} (h : ds.length = es.length) : (zp ds es).length = ds.length := by unfold zp; simp; omega
theorem di_zpT {ts : List Expr} {es : List PyData} {k : Nat} {p1 : Pos} (hm : Bt X "zip") (h : DE X G a (.tuple ds)) (h2 : DE X G b (.tuple es)) (hl : ds.length = es.length) (hg : Gl X "zip" := by rfl) (hs : starEach [a, b] X.env = (false, eval a X.env) :: starEach [b] X.env := by rfl) (hs2 : starEach [b] X.env = (false, eval b X.env) :: starEach [] X.env := by rfl) (hpl : (backTo pos (starEach [b] X.env)).any (·.1) = false := by rfl) :
    DI true X (.Tuple ts k p1) (.Call (.Name "zip" p) [a, b] [] pos) G (zp ds es) := by
  obtain ⟨ta, pa, qa⟩ := h
  obtain ⟨tb, pb, qb⟩ := h2
  refine Yld.pim (RZ.pi_zipA hg hm (pa_cons pa (pa_cons pb pa_nil hs2) hs) hs hpl) fun H0 σ H R st k => qa H0 σ H _ st fun v H1 s1 r1 => qb H0 σ H1 _ (st.step s1) fun u H2 s2 r2 => ?_
  cases r1 with
  | tup e1 rs =>
    rename_i a1 xs
    cases r2 with
    | tup e2 rs2 =>
      rename_i a2 ys
      have sq : ∀ {H' : Hp}, Kp H2 H' → SqT X.K H' a1 xs := fun kp => .of (kp.tup _ _ (s2 _ _ e1))
      have sq2 : ∀ {H' : Hp}, Kp H2 H' → SqT X.K H' a2 ys := fun kp => .of (kp.tup _ _ e2)
      refine ⟨a1, a2, xs, ys, rfl, .inr ⟨sq (.refl _), sq2 (.refl _), k _ H2 (s1.trans s2) fun H' kp => ⟨fun m d hd => ?_, xs, ys, sq kp, sq2 kp, .inl (by rw [zp_length hl, rs.length]; exact Nat.le_refl _)⟩⟩⟩
      obtain ⟨d1, d2, hd1, hd2, rfl⟩ := zp_get hd
      obtain ⟨v, hv, rv⟩ := rs.get hd1
      obtain ⟨u, hu, ru⟩ := rs2.get hd2
      refine ⟨⟨xs, ys, v, u, sq kp, sq2 kp, hv, hu⟩, fun y H'' ⟨T, x, x2, ey, hT, eH, hx, hx2⟩ => ?_⟩
      subst ey eH
      have ex := hx xs (sq kp)
      rw [hv] at ex
      cases ex
      have ex2 := hx2 ys (sq2 kp)
      rw [hu] at ex2
      cases ex2
      exact ⟨Same.newp hT, .tup upd_same (.cons (((rv.same s2).kp kp).same (Same.newp hT)) (.one ((ru.kp kp).same (Same.newp hT))))⟩
theorem di_zpL {ts : List Expr} {es : List PyData} {k : Nat} {p1 : Pos} (hm : Bt X "zip") (h : DE X G a (.list ds)) (h2 : DE X G b (.list es)) (hl : ds.length = es.length) (hg : Gl X "zip" := by rfl) (hs : starEach [a, b] X.env = (false, eval a X.env) :: starEach [b] X.env := by rfl) (hs2 : starEach [b] X.env = (false, eval b X.env) :: starEach [] X.env := by rfl) (hpl : (backTo pos (starEach [b] X.env)).any (·.1) = false := by rfl) :
    DI true X (.Tuple ts k p1) (.Call (.Name "zip" p) [a, b] [] pos) G (zp ds es) := by
  obtain ⟨ta, pa, qa⟩ := h
  obtain ⟨tb, pb, qb⟩ := h2
  refine Yld.pim (pi_zip hg hm (pa_cons pa (pa_cons pb pa_nil hs2) hs) hs hpl) fun H0 σ H R st k => qa H0 σ H _ st fun v H1 s1 r1 => qb H0 σ H1 _ (st.step s1) fun u H2 s2 r2 => ?_
  cases r1 with
  | lst e1 rs =>
    rename_i a1 o1 xs
    cases r2 with
    | lst e2 rs2 =>
      rename_i a2 o2 ys
      have sq : ∀ {H' : Hp}, Kp H2 H' → SqL X.K H' a1 xs := fun kp => .inl (.inr ⟨o1, kp.frz _ _ _ (s2 _ _ e1)⟩)
      have sq2 : ∀ {H' : Hp}, Kp H2 H' → SqL X.K H' a2 ys := fun kp => .inl (.inr ⟨o2, kp.frz _ _ _ e2⟩)
      refine ⟨a1, a2, xs, ys, rfl, sq (.refl _), sq2 (.refl _), k _ H2 (s1.trans s2) fun H' kp => ⟨fun m d hd => ?_, xs, ys, sq kp, sq2 kp, .inl (by rw [zp_length hl, rs.length]; exact Nat.le_refl _)⟩⟩
      obtain ⟨d1, d2, hd1, hd2, rfl⟩ := zp_get hd
      obtain ⟨v, hv, rv⟩ := rs.get hd1
      obtain ⟨u, hu, ru⟩ := rs2.get hd2
      refine ⟨⟨xs, ys, v, u, sq kp, sq2 kp, hv, hu⟩, fun y H'' ⟨T, x, x2, ey, hT, eH, hx, hx2⟩ => ?_⟩
      subst ey eH
      have ex := hx xs (sq kp)
      rw [hv] at ex
      cases ex
      have ex2 := hx2 ys (sq2 kp)
      rw [hu] at ex2
      cases ex2
      exact ⟨Same.newp hT, .tup upd_same (.cons (((rv.same s2).kp kp).same (Same.newp hT)) (.one ((ru.kp kp).same (Same.newp hT))))⟩
theorem di_rev (hm : Bt X "reversed") (h : DE X G e (.list ds)) (hg : Gl X "reversed" := by rfl) (hs : starEach [e] X.env = (false, eval e X.env) :: starEach [] X.env := by rfl) :
    DI true X tg (.Call (.Name "reversed" p) [e] [] pos) G ds.reverse := by
  obtain ⟨te, pe, q⟩ := h
  refine Yld.pim (RT.pi_revA hg hm pe hs) fun H0 σ H R st k => q H0 σ H _ st fun v H1 s1 r1 => ?_
  cases r1 with
  | lst e1 rs =>
    rename_i a ob xs
    have sq : ∀ {H' : Hp}, Kp H1 H' → SqL X.K H' a xs := fun kp => .inl (.inr ⟨ob, kp.frz _ _ _ e1⟩)
    have l := rs.length
    refine ⟨a, xs, rfl, .inl ⟨sq (.refl _), k _ H1 s1 fun H' kp => ⟨fun m d hd => ?_, by show xs.length ≤ ds.reverse.length; rw [List.length_reverse, l]; exact Nat.le_refl _⟩⟩⟩
    have hlt : m < ds.length := by have := (List.getElem?_eq_some_iff.mp hd).1; simpa using this
    rw [List.getElem?_reverse hlt, ← l] at hd
    obtain ⟨v, hv, rv⟩ := rs.get hd
    refine ⟨⟨by omega, xs, v, sq kp, hv⟩, fun y H'' ⟨e2, hy⟩ => ?_⟩
    subst e2
    have ex := hy xs (sq kp)
    rw [hv] at ex
    cases ex
    exact ⟨.refl _, rv.kp kp⟩
end
end DL
end
section
set_option maxHeartbeats 1000000
namespace DL
open PySem PySem.Spec PyProof.Rows L2
/-- iter walks ds, by the library's own walks -/
def DIp (X : Cx) (tg iter : Expr) (G : Ev) (ds : List PyData) : Prop :=
  ∃ wi, PI X tg iter wi ∧ ∀ H0 σ H (R : It → Hp → Prop), StR X.K H0 G σ H → (∀ J H1, Same H H1 → Yld X.K J ds H1 → R J H1) → wi σ H R
def uI (X : Cx) (tg iter : Expr) : TI := fun σ H R => ∃ wi, PI X tg iter wi ∧ wi σ H R
theorem pi_u {X : Cx} {tg iter : Expr} : PI X tg iter (uI X tg iter) := ⟨fun pins s σ H R I ⟨wi, h, q⟩ => h.run pins s σ H R I q⟩
theorem StR.noown {K : PySem.W.Frag} {H0 H H' : Hp} {G : Ev} {σ : L2.St} (r : StR K H0 G σ H) (no : ∀ (i : Nat) (ds : List PyData), G[i]? ≠ some (Sl.own ds)) (k : Kp H H') (s : Same H0 H') : StR K H0 G σ H' :=
  ⟨s, r.len, fun i d e => let ⟨v, a, b⟩ := r.slot i d e; ⟨v, a, b.kp k⟩, fun i ds e => absurd e (no i ds), r.apart⟩
section
variable {X : Cx} {G G1 G2 : Ev} {e a b tg iter tg1 iter1 : Expr} {es : List Expr} {d d1 d2 r : PyData} {ds : List PyData} {pos p : Pos} {x : Str}
theorem dip_range (hm : X.mg "range" = none) (n : Nat) (h : DE X G e (.int n)) (hn : n < 2 ^ 62) (hg : Gl X "range" := by rfl) (hs : starEach [e] X.env = [(false, eval e X.env)] := by rfl) : DIp X tg (.Call (.Name "range" p) [e] [] pos) G (rg n) := by
  obtain ⟨te, pe, q⟩ := h
  refine ⟨_, pi_range1 hg hm (pa_cons pe pa_nil hs) hs, fun H0 σ H R st k => q H0 σ H _ st fun v H1 s1 r1 => ⟨n, by rw [r1.int_eq], by omega, by omega, ?_⟩⟩
  refine k _ H1 s1 fun H' kp => ⟨fun m d hd => ?_, ?_⟩
  · obtain ⟨q, hq, rfl⟩ := map_get hd
    obtain ⟨rfl, hl⟩ := range_get hq
    exact ⟨by show q < (n : Int).toNat; omega, fun x H'' ⟨e1, e2⟩ => by subst e1; subst e2; exact ⟨.refl _, by rw [Int.zero_add]; exact .int _⟩⟩
  · show (n : Int).toNat ≤ (rg n).length
    unfold rg
    simp
abbrev BlkC (X : Cx) (scope : Scope) (s : Shared) (H : Hp) (C : Addr) (cl : List (Str × Addr)) (fp : List Addr) : Cx := X.blk s H scope (compEnvC scope cl C X.env) fp
/-- a comprehension of two clauses, the inner one alike at each turn -/
theorem dn_lc2 {α β : Type} {own : List (Str × Nat)} {vs1 : List Nat} {elt : Expr} {scope : Scope} (l : List α) (l1 : List β) (γ : α → PyData) (γ1 : β → PyData) (ψ : α → β → PyData) (hc : X.calm = true) (hN : X.N.Nodup) (hz : l.length * l1.length < sizeLine) (ok : BlkOk X.N X.env.scope scope own) (hv : ∀ i ∈ vs1, i ∈ own.map (·.2))
    (hi : DIp X tg iter G (l.map γ))
    (hb : ∀ a ∈ l, ∃ G1 js, (∀ j ∈ js, j ∈ own.map (·.2)) ∧ (∀ (i : Nat) (ds : List PyData), G1[i]? ≠ some (Sl.own ds)) ∧ (∀ s H C cl fp, DG (BlkC X scope s H C cl fp) tg (γ a) (wipeG G (own.map (·.2))) G1 js) ∧ (∀ s H C cl fp, DIp (BlkC X scope s H C cl fp) tg1 iter1 G1 (l1.map γ1)) ∧
      ∀ b ∈ l1, ∃ G2 ks, (∀ j ∈ ks, j ∈ vs1) ∧ ∀ s H C cl fp, DG (BlkC X scope s H C cl fp) tg1 (γ1 b) (wipeG G1 vs1) G2 ks ∧ DE (BlkC X scope s H C cl fp) G2 elt (ψ a b))
    (hs : ∀ x, foldedSetIterable iter X.env x = pure x := by intro _; rfl) (hs1 : ∀ env x, foldedSetIterable iter1 env x = pure x := by intro _ _; rfl) :
    DN X G (.ListComp elt [⟨tg, iter, [], 0⟩, ⟨tg1, iter1, [], 0⟩] scope pos) (l.flatMap fun a => l1.map (ψ a)) := by
  obtain ⟨wi, pi, qi⟩ := hi
  refine ⟨_, pe_lc2 (g := fun v σ H Q => ∀ s H' C cl fp, uG (BlkC X scope s H' C cl fp) tg v σ H Q) (tt := fun σ H Q => Q true H) (wi1 := fun σ H R => ∀ s H' C cl fp, uI (BlkC X scope s H' C cl fp) tg1 iter1 σ H R) (g1 := fun v σ H Q => ∀ s H' C cl fp, uG (BlkC X scope s H' C cl fp) tg1 v σ H Q) (tt1 := fun σ H Q => Q true H) (te := fun σ H Q => ∀ s H' C cl fp, uE (BlkC X scope s H' C cl fp) elt σ H Q)
    hc hN pi ok hv (fun s H C cl fp => ⟨fun pins s' σ H' v u Q I r h => pg_u.run pins s' σ H' v u Q I r (h s H C cl fp)⟩) (fun s H C cl fp => pts_nil)
    (fun s H C cl fp => ⟨fun pins s' σ H' R I h => pi_u.run pins s' σ H' R I (h s H C cl fp)⟩) (fun s H C cl fp => ⟨fun pins s' σ H' v u Q I r h => pg_u.run pins s' σ H' v u Q I r (h s H C cl fp)⟩) (fun s H C cl fp => pts_nil)
    (fun s H C cl fp => ⟨fun pins s' σ H' Q I h => pe_u.run pins s' σ H' Q I (h s H C cl fp)⟩) hs hs1, fun H0 σ H Q st k => ?_⟩
  refine qi H0 σ H _ st fun J H1 s1 y D hD => ?_
  let res : Nat → List PyData := fun i => (l.take i).flatMap fun a => l1.map (ψ a)
  have lenR : ∀ i, i ≤ l.length → (res i).length = i * l1.length := fun i hi => by
    show ((l.take i).flatMap fun a => l1.map (ψ a)).length = _
    rw [List.length_flatMap]
    simp only [List.length_map]
    rw [List.map_const', List.sum_replicate_nat, List.length_take, Nat.min_eq_left hi]
  refine ⟨fun i m H' => i ≤ l.length ∧ m = l.length - i ∧ Same H1 H' ∧ ∃ acc, H' D = some (.lst acc) ∧ Reps X.K H' acc (res i), ⟨_, Nat.zero_le _, rfl, Same.newp hD, [], upd_same, .nil⟩, ?_⟩
  rintro i m H' ⟨hi, rfl, s2, acc, eD, rD⟩
  obtain ⟨y1, y2⟩ := y H' (.of s2)
  by_cases hlt : i < l.length
  · have hd : (l.map γ)[i]? = some (γ l[i]) := by rw [List.getElem?_map, List.getElem?_eq_getElem hlt]; rfl
    obtain ⟨go, yl⟩ := y1 i _ hd
    obtain ⟨G1, js, hjs, hno, tg0, it0, in0⟩ := hb l[i] (List.getElem_mem hlt)
    refine .inr ⟨go, fun H2 => i + 1 ≤ l.length ∧ Same H1 H2 ∧ ∃ acc, H2 D = some (.lst acc) ∧ Reps X.K H2 acc (res (i + 1)), fun H2 ⟨h1, h2⟩ => ⟨_, by omega, h1, rfl, h2⟩, fun x H2 hx sA HA CA clA fpA => ?_⟩
    obtain ⟨s3, rx⟩ := yl x H2 hx
    obtain ⟨g, pg, qg⟩ := tg0 sA HA CA clA fpA
    have stw : StR X.K H0 (wipeG G (own.map (·.2))) (wipe σ (own.map (·.2))) H2 := (st.step (s1.trans (s2.trans s3))).wipe _
    refine ⟨g, pg, qg H0 (wipe σ _) H2 x _ stw rx fun σ2 r2 off => ⟨(wipe_off off hjs).trans wipe_wipe, ?_⟩⟩
    simp only [if_true]
    intro sB HB CB clB fpB
    obtain ⟨w1, p1, q1⟩ := it0 sB HB CB clB fpB
    refine ⟨w1, p1, q1 H0 σ2 H2 _ r2 fun J1 H4 s4 z => ?_⟩
    have s14 : Same H1 H4 := (s2.trans s3).trans s4
    have q4 : StR X.K H0 G1 σ2 H4 := r2.step s4
    have nD : H D = none := Same.free s1 hD
    refine ⟨fun j k H5 => j ≤ l1.length ∧ k = l1.length - j ∧ Kp H4 H5 ∧ Same H1 H5 ∧ ∃ acc, H5 D = some (.lst acc) ∧ Reps X.K H5 acc (res i ++ (l1.take j).map (ψ l[i])), ⟨_, Nat.zero_le _, rfl, .refl _, s14, acc, s4 _ _ (s3 _ _ eD), by rw [List.take_zero, List.map_nil, List.append_nil]; exact (rD.same s3).same s4⟩, ?_⟩
    rintro j k H5 ⟨hj, rfl, s5, s6, acc5, eD5, rD5⟩
    obtain ⟨z1, z2⟩ := z H5 s5
    by_cases hlt1 : j < l1.length
    · have hd1 : (l1.map γ1)[j]? = some (γ1 l1[j]) := by rw [List.getElem?_map, List.getElem?_eq_getElem hlt1]; rfl
      obtain ⟨go1, yl1⟩ := z1 j _ hd1
      obtain ⟨G2, ks, hks, turn⟩ := in0 l1[j] (List.getElem_mem hlt1)
      refine .inr ⟨go1, fun H6 => j + 1 ≤ l1.length ∧ Kp H4 H6 ∧ Same H1 H6 ∧ ∃ acc, H6 D = some (.lst acc) ∧ Reps X.K H6 acc (res i ++ (l1.take (j + 1)).map (ψ l[i])), fun H6 ⟨h1, h2⟩ => ⟨_, by omega, h1, rfl, h2⟩, fun x1 H6 hx1 sC HC CC clC fpC => ?_⟩
      obtain ⟨s7, rx1⟩ := yl1 x1 H6 hx1
      obtain ⟨⟨g1, pg1, qg1⟩, _⟩ := turn sC HC CC clC fpC
      have k6 : Kp H4 H6 := s5.trans (.of s7)
      have t6 : Same H1 H6 := s6.trans s7
      have st6 : StR X.K H0 G1 σ2 H6 := q4.noown hno k6 ((st.same.trans s1).trans t6)
      refine ⟨g1, pg1, qg1 H0 (wipe σ2 vs1) H6 x1 _ (st6.wipe vs1) rx1 fun σ3 r3 off1 => ⟨(wipe_off off1 hks).trans wipe_wipe, ?_⟩⟩
      simp only [if_true]
      intro sD HD CD clD fpD
      obtain ⟨_, te, pe, qe⟩ := turn sD HD CD clD fpD
      have la : acc5.length < sizeLine := by
        rw [rD5.length, List.length_append, lenR i hi, List.length_map, List.length_take]
        have e1 : i * l1.length + j < l.length * l1.length := by
          have : (i + 1) * l1.length ≤ l.length * l1.length := Nat.mul_le_mul_right _ hlt
          rw [Nat.succ_mul] at this
          omega
        omega
      refine ⟨te, pe, qe H0 σ3 H6 _ r3 fun v H7 s8 rv => ⟨acc5, s8 _ _ (s7 _ _ eD5), la, hlt1, ?_, fun b u e => ?_, acc5 ++ [v], upd_same, ?_⟩⟩
      · exact (k6.trans (.of s8)).trans (.upd (s8 _ _ (s7 _ _ eD5)))
      · rw [upd_ne (ne_of_none e hD)]
        exact s8 _ _ (t6 _ _ e)
      · have kp : Kp H7 (upd H7 D (.lst (acc5 ++ [v]))) := .upd (s8 _ _ (s7 _ _ eD5))
        rw [List.take_succ_eq_append_getElem hlt1, List.map_append, ← List.append_assoc]
        exact (((rD5.same s7).same s8).append (.one rv)).kp kp
    · have e : j = l1.length := by omega
      subst e
      rw [List.length_map] at z2
      refine .inl ⟨z2, hlt, s6, acc5, eD5, ?_⟩
      rw [List.take_length] at rD5
      have er : res (i + 1) = res i ++ l1.map (ψ l[i]) := by
        show (l.take (i + 1)).flatMap _ = (l.take i).flatMap _ ++ _
        rw [List.take_succ_eq_append_getElem hlt, List.flatMap_append]
        simp
      rw [er]; exact rD5
  · have e : i = l.length := by omega
    subst e
    rw [List.length_map] at y2
    have er : res l.length = l.flatMap fun a => l1.map (ψ a) := by show (l.take l.length).flatMap _ = _; rw [List.take_length]
    rw [er] at rD
    exact .inl ⟨y2, k D acc H' (s1.trans s2) (Same.free s1 hD) eD rD⟩
end
/-! ### a block's names, looked at by running -/
def blkB (N : List Str) (sc scope : Scope) (own : List (Str × Nat)) : Bool :=
  decide (scope.kind = .function) && (scope.names.all (fun y => decide (scope.names.lookup y.1 = some y.2)) && (own.all (fun p => decide (N[p.2]? = some p.1)) &&
    (scope.names.all (fun y => !decide (y.2 = .free) || (decide (sc.names.lookup y.1 = some .cell) || decide (sc.names.lookup y.1 = some .free))) &&
      scope.names.all (fun y => !(decide (y.2 = .local) || decide (y.2 = .cell)) || (decide (y.1 ∈ own.map (·.1)) || decide (y.1 ∉ N))))))
theorem bk {N : List Str} {sc scope : Scope} {own : List (Str × Nat)} (h : blkB N sc scope own = true := by kernel_rfl) : BlkOk N sc scope own := by
  unfold blkB at h
  simp only [Bool.and_eq_true, List.all_eq_true, decide_eq_true_eq, Bool.or_eq_true, Bool.not_eq_true', decide_eq_false_iff_not, Bool.or_eq_false_iff] at h
  obtain ⟨h1, h2, h3, h4, h5⟩ := h
  refine ⟨h1, h2, h3, fun y hy e => (h4 y hy).resolve_left (fun z => z e), fun y hy e => (h5 y hy).resolve_left fun z => e.elim z.1 z.2⟩
end DL
end
section
namespace DL
open PySem PySem.Spec PyProof.Rows L2
theorem cr_sumT {X : Cx} (hc : X.calm = true) : CallR X (.builtin "sum") (fun vs H Q => ∃ (a : Addr) (ns : List Int), vs = [V.ref a] ∧ SqT X.K H a (ns.map V.int) ∧ Q (.int ns.sum) H) := by
  rintro pins s σ H vs us Q I r ⟨a, ns, rfl, hs, q⟩
  obtain ⟨its, rv, tp, hz⟩ := I.tuple hs
  rw [Vals.ref1 r]
  obtain ⟨xs, e⟩ := rv.ints.allInts.items
  have hm : numsOf (intItems xs).toList = ns := by rw [← e]; exact rv.ints.numsOf
  rw [nums_intItems] at hm
  rw [e] at tp
  refine PySem.W.ktm_sumG (I.ok.hd hc) tp fun h2 tk2 t2 k2 => ?_
  rw [preSum_eq, List.take_of_length_le (by simp), hm]
  exact ⟨.int _, H, I.kept k2, ⟨_, rfl⟩, q⟩
section
variable {X : Cx} {G : Ev} {e : Expr} {pos p : Pos}
theorem de_sumT {ns : List Int} (hc : X.calm = true) (hm : Bt X "sum") (h : DE X G e (.tuple (ns.map .int))) (hg : Gl X "sum" := by rfl) (hs : starEach [e] X.env = (false, eval e X.env) :: starEach [] X.env := by rfl) : DE X G (.Call (.Name "sum" p) [e] [] pos) (.int ns.sum) := by
  obtain ⟨te, q, k1⟩ := h
  refine ⟨_, pe_callB (cr_sumT hc) hg hm (by decide +kernel) (pa_cons q pa_nil hs) (by decide) (by decide) hs rfl, fun H0 σ H Q st k => k1 H0 σ H _ st fun v H1 s1 r1 => ?_⟩
  cases r1 with
  | tup e1 rs =>
    refine ⟨_, ns, rfl, ?_, k _ H1 s1 (.int _)⟩
    rw [← rs.ints]
    exact .of e1
end
end DL
end
section
/-! Sums, vectors, the group algebra over the rationals; core Lean alone. -/
namespace MA
/-! ### finite sums -/
def sm (n : Nat) (f : Nat → Rat) : Rat := match n with
  | 0 => 0
  | n + 1 => sm n f + f n
theorem sm_congr {n : Nat} {f g : Nat → Rat} (h : ∀ i, i < n → f i = g i) : sm n f = sm n g := by
  induction n with
  | zero => rfl
  | succ n ih => show sm n f + f n = sm n g + g n; rw [ih fun i hi => h i (by omega), h n (by omega)]
theorem sm_zero {n : Nat} {f : Nat → Rat} (h : ∀ i, i < n → f i = 0) : sm n f = 0 := by
  induction n with
  | zero => rfl
  | succ n ih => show sm n f + f n = 0; rw [ih fun i hi => h i (by omega), h n (by omega)]; grind
theorem sm_add (n : Nat) (f g : Nat → Rat) : sm n (fun i => f i + g i) = sm n f + sm n g := by
  induction n with
  | zero => show (0 : Rat) = 0 + 0; grind
  | succ n ih => show sm n (fun i => f i + g i) + (f n + g n) = sm n f + f n + (sm n g + g n); rw [ih]; grind
theorem sm_mul (n : Nat) (c : Rat) (f : Nat → Rat) : sm n (fun i => c * f i) = c * sm n f := by
  induction n with
  | zero => show (0 : Rat) = c * 0; grind
  | succ n ih => show sm n (fun i => c * f i) + c * f n = c * (sm n f + f n); rw [ih]; grind
theorem sm_mulr (n : Nat) (c : Rat) (f : Nat → Rat) : sm n (fun i => f i * c) = sm n f * c := by
  rw [show (fun i => f i * c) = fun i => c * f i from funext fun i => by grind, sm_mul]; grind
theorem sm_neg (n : Nat) (f : Nat → Rat) : sm n (fun i => - f i) = - sm n f := by
  rw [show (fun i => - f i) = fun i => (-1) * f i from funext fun i => by grind, sm_mul]; grind
theorem sm_sub (n : Nat) (f g : Nat → Rat) : sm n (fun i => f i - g i) = sm n f - sm n g := by
  rw [show (fun i => f i - g i) = fun i => f i + - g i from funext fun i => by grind, sm_add, sm_neg]; grind
theorem sm_comm (n m : Nat) (f : Nat → Nat → Rat) : sm n (fun i => sm m fun j => f i j) = sm m (fun j => sm n fun i => f i j) := by
  induction n with
  | zero => exact (sm_zero (n := m) (f := fun j => sm 0 fun i => f i j) fun j _ => rfl).symm
  | succ n ih =>
    show sm n (fun i => sm m fun j => f i j) + sm m (fun j => f n j) = sm m fun j => sm n (fun i => f i j) + f n j
    rw [ih, sm_add]
/-- one term -/
theorem sm_one {n : Nat} {f : Nat → Rat} {k : Nat} (hk : k < n) (h : ∀ i, i < n → i ≠ k → f i = 0) : sm n f = f k := by
  induction n with
  | zero => omega
  | succ n ih =>
    show sm n f + f n = f k
    by_cases e : k = n
    · subst e
      rw [sm_zero fun i hi => h i (by omega) (by omega)]; grind
    · rw [ih (by omega) fun i hi => h i (by omega), h n (by omega) (by omega)]; grind
theorem sm_sing {n : Nat} (k : Nat) (hk : k < n) (f : Nat → Rat) : sm n (fun i => if i = k then f i else 0) = f k := by
  rw [sm_one (k := k) hk fun i _ hne => if_neg hne, if_pos rfl]
theorem sm_ite_eq {n : Nat} (k : Nat) (hk : k < n) (f : Nat → Rat) : sm n (fun i => if k = i then f i else 0) = f k := by
  rw [sm_one (k := k) hk fun i _ hne => if_neg fun e => hne e.symm, if_pos rfl]
theorem sq_nonneg (a : Rat) : 0 ≤ a * a := by
  rcases (Rat.le_total : (0 : Rat) ≤ a ∨ a ≤ 0) with h | h
  · exact Rat.mul_nonneg h h
  · have := Rat.mul_nonneg (a := -a) (b := -a) (by grind) (by grind)
    grind
theorem sm_nonneg {n : Nat} {f : Nat → Rat} (h : ∀ i, i < n → 0 ≤ f i) : 0 ≤ sm n f := by
  induction n with
  | zero => exact Rat.le_refl
  | succ n ih => have a := ih fun i hi => h i (by omega); have b := h n (by omega); show 0 ≤ sm n f + f n; grind
theorem sm_sq_zero {n : Nat} {f : Nat → Rat} (h : sm n (fun i => f i * f i) = 0) : ∀ i, i < n → f i = 0 := by
  induction n with
  | zero => intro i hi; omega
  | succ n ih =>
    have a : 0 ≤ sm n (fun i => f i * f i) := sm_nonneg fun i _ => sq_nonneg _
    have b := sq_nonneg (f n)
    have e : sm n (fun i => f i * f i) + f n * f n = 0 := h
    have a0 : sm n (fun i => f i * f i) = 0 := by grind
    have b0 : f n * f n = 0 := by grind
    intro i hi
    by_cases q : i = n
    · subst q
      rcases Rat.mul_eq_zero.mp b0 with z | z <;> exact z
    · exact ih a0 i (by omega)
/-- a permutation of the summands -/
theorem sm_perm {n : Nat} {p q : Nat → Nat} (hp : ∀ i, i < n → p i < n) (hq : ∀ i, i < n → q i < n) (h1 : ∀ i, i < n → q (p i) = i) (h2 : ∀ i, i < n → p (q i) = i) (f : Nat → Rat) : sm n (fun i => f (p i)) = sm n f := by
  have e : ∀ i, i < n → f (p i) = sm n fun j => if j = p i then f j else 0 := fun i hi => (sm_sing (p i) (hp i hi) f).symm
  rw [sm_congr e, sm_comm]
  refine sm_congr fun j hj => ?_
  rw [sm_congr (g := fun i => if i = q j then f j else 0) fun i hi => ?_, sm_sing (q j) (hq j hj) fun _ => f j]
  by_cases z : j = p i
  · rw [if_pos z, if_pos (by rw [z, h1 i hi])]
  · rw [if_neg z, if_neg fun y => z (by rw [y, h2 j hj])]
/-! ### a finite group by its table, its algebra -/
structure Grp (n : Nat) (m : Nat → Nat → Nat) (iv : Nat → Nat) : Prop where
  pos : 0 < n
  cl : ∀ a b, a < n → b < n → m a b < n
  icl : ∀ a, a < n → iv a < n
  assoc : ∀ a b c, a < n → b < n → c < n → m (m a b) c = m a (m b c)
  onel : ∀ a, a < n → m 0 a = a
  oner : ∀ a, a < n → m a 0 = a
  invl : ∀ a, a < n → m (iv a) a = 0
  invr : ∀ a, a < n → m a (iv a) = 0
abbrev Vc := Nat → Rat
/-- nothing from n on -/
def Sup (n : Nat) (a : Vc) : Prop := ∀ i, n ≤ i → a i = 0
theorem Sup.ext {n : Nat} {a b : Vc} (ha : Sup n a) (hb : Sup n b) (h : ∀ i, i < n → a i = b i) : a = b := funext fun i => by
  by_cases hi : i < n
  · exact h i hi
  · rw [ha i (by omega), hb i (by omega)]
section
variable {n : Nat} {m : Nat → Nat → Nat} {iv : Nat → Nat}
def cv (n : Nat) (m : Nat → Nat → Nat) (iv : Nat → Nat) (a b : Vc) : Vc := fun h => if h < n then sm n (fun g => a g * b (m (iv g) h)) else 0
def st (n : Nat) (iv : Nat → Nat) (a : Vc) : Vc := fun h => if h < n then a (iv h) else 0
def one : Vc := fun h => if h = 0 then 1 else 0
def add (a b : Vc) : Vc := fun h => a h + b h
def sub (a b : Vc) : Vc := fun h => a h - b h
def scl (c : Rat) (a : Vc) : Vc := fun h => c * a h
theorem Sup.cv {a b : Vc} : Sup n (cv n m iv a b) := fun i hi => if_neg (by omega)
theorem Sup.st {a : Vc} : Sup n (st n iv a) := fun i hi => if_neg (by omega)
theorem Sup.one (G : Grp n m iv) : Sup n one := fun i hi => if_neg (by have := G.pos; omega)
theorem Sup.sub {a b : Vc} (ha : Sup n a) (hb : Sup n b) : Sup n (MA.sub a b) := fun i hi => by show a i - b i = 0; rw [ha i hi, hb i hi]; grind
theorem Sup.add {a b : Vc} (ha : Sup n a) (hb : Sup n b) : Sup n (MA.add a b) := fun i hi => by show a i + b i = 0; rw [ha i hi, hb i hi]; grind
theorem Sup.scl {a : Vc} {c : Rat} (ha : Sup n a) : Sup n (MA.scl c a) := fun i hi => by show c * a i = 0; rw [ha i hi]; grind
theorem cv_add (a b c : Vc) : cv n m iv a (add b c) = add (cv n m iv a b) (cv n m iv a c) := funext fun h => by
  show (if h < n then sm n (fun g => a g * (b (m (iv g) h) + c (m (iv g) h))) else 0) = (if h < n then _ else 0) + (if h < n then _ else 0)
  split
  · rw [← sm_add]; exact sm_congr fun i _ => by grind
  · grind
theorem add_cv (a b c : Vc) : cv n m iv (add a b) c = add (cv n m iv a c) (cv n m iv b c) := funext fun h => by
  show (if h < n then sm n (fun g => (a g + b g) * c (m (iv g) h)) else 0) = (if h < n then _ else 0) + (if h < n then _ else 0)
  split
  · rw [← sm_add]; exact sm_congr fun i _ => by grind
  · grind
theorem cv_sub (a b c : Vc) : cv n m iv a (sub b c) = sub (cv n m iv a b) (cv n m iv a c) := funext fun h => by
  show (if h < n then sm n (fun g => a g * (b (m (iv g) h) - c (m (iv g) h))) else 0) = (if h < n then _ else 0) - (if h < n then _ else 0)
  split
  · rw [← sm_sub]; exact sm_congr fun i _ => by grind
  · grind
theorem sub_cv (a b c : Vc) : cv n m iv (sub a b) c = sub (cv n m iv a c) (cv n m iv b c) := funext fun h => by
  show (if h < n then sm n (fun g => (a g - b g) * c (m (iv g) h)) else 0) = (if h < n then _ else 0) - (if h < n then _ else 0)
  split
  · rw [← sm_sub]; exact sm_congr fun i _ => by grind
  · grind
theorem scl_cv (x : Rat) (a b : Vc) : cv n m iv (scl x a) b = scl x (cv n m iv a b) := funext fun h => by
  show (if h < n then sm n (fun g => (x * a g) * b (m (iv g) h)) else 0) = x * (if h < n then _ else 0)
  split
  · rw [← sm_mul]; exact sm_congr fun i _ => by grind
  · grind
theorem cv_scl (x : Rat) (a b : Vc) : cv n m iv a (scl x b) = scl x (cv n m iv a b) := funext fun h => by
  show (if h < n then sm n (fun g => a g * (x * b (m (iv g) h))) else 0) = x * (if h < n then _ else 0)
  split
  · rw [← sm_mul]; exact sm_congr fun i _ => by grind
  · grind
theorem st_sub (a b : Vc) : st n iv (sub a b) = sub (st n iv a) (st n iv b) := funext fun h => by
  show (if h < n then a (iv h) - b (iv h) else 0) = (if h < n then _ else 0) - (if h < n then _ else 0)
  split <;> grind
theorem st_add (a b : Vc) : st n iv (add a b) = add (st n iv a) (st n iv b) := funext fun h => by
  show (if h < n then a (iv h) + b (iv h) else 0) = (if h < n then _ else 0) + (if h < n then _ else 0)
  split <;> grind
theorem st_scl (x : Rat) (a : Vc) : st n iv (scl x a) = scl x (st n iv a) := funext fun h => by
  show (if h < n then x * a (iv h) else 0) = x * (if h < n then _ else 0)
  split <;> grind
variable (G : Grp n m iv)
include G
theorem Grp.canl {a b c : Nat} (ha : a < n) (hb : b < n) (e : m a b = c) : b = m (iv a) c := by
  rw [← e, ← G.assoc _ _ _ (G.icl a ha) ha hb, G.invl a ha, G.onel b hb]
theorem Grp.ivmul {a b : Nat} (ha : a < n) (hb : b < n) : iv (m a b) = m (iv b) (iv a) := by
  have h1 := G.cl a b ha hb
  have e : m (m a b) (m (iv b) (iv a)) = 0 := by
    rw [G.assoc _ _ _ ha hb (G.cl _ _ (G.icl b hb) (G.icl a ha)), ← G.assoc b _ _ hb (G.icl b hb) (G.icl a ha), G.invr b hb, G.onel _ (G.icl a ha), G.invr a ha]
  have := G.canl h1 (G.cl _ _ (G.icl b hb) (G.icl a ha)) e
  rw [G.oner _ (G.icl _ h1)] at this
  exact this.symm
theorem Grp.iviv {a : Nat} (ha : a < n) : iv (iv a) = a := by
  have := G.canl (G.icl a ha) ha (G.invl a ha)
  rw [G.oner _ (G.icl _ (G.icl a ha))] at this
  exact this.symm
theorem Grp.iv0 : iv 0 = 0 := by
  have := G.invr 0 G.pos
  rwa [G.onel _ (G.icl 0 G.pos)] at this
/-- left translation permutes -/
theorem Grp.suml {k : Nat} (hk : k < n) (f : Vc) : sm n (fun j => f (m k j)) = sm n f :=
  sm_perm (p := fun j => m k j) (q := fun j => m (iv k) j) (fun i hi => G.cl k i hk hi) (fun i hi => G.cl _ i (G.icl k hk) hi)
    (fun i hi => by rw [← G.assoc _ _ _ (G.icl k hk) hk hi, G.invl k hk, G.onel i hi]) (fun i hi => by rw [← G.assoc _ _ _ hk (G.icl k hk) hi, G.invr k hk, G.onel i hi]) f
theorem Grp.sumiv (f : Vc) : sm n (fun j => f (iv j)) = sm n f :=
  sm_perm (p := iv) (q := iv) G.icl G.icl (fun i hi => G.iviv hi) (fun i hi => G.iviv hi) f
theorem cv_assoc (a b c : Vc) : cv n m iv (cv n m iv a b) c = cv n m iv a (cv n m iv b c) := by
  refine Sup.ext Sup.cv Sup.cv fun h hh => ?_
  show (if h < n then _ else _) = (if h < n then _ else _)
  rw [if_pos hh, if_pos hh]
  have e1 : ∀ g, g < n → cv n m iv a b g * c (m (iv g) h) = sm n fun k => a k * b (m (iv k) g) * c (m (iv g) h) := fun g hg => by
    show (if g < n then _ else _) * _ = _
    rw [if_pos hg, sm_mulr]
  rw [sm_congr e1, sm_comm]
  refine sm_congr fun k hk => ?_
  have hk' := G.icl k hk
  show _ = a k * (if m (iv k) h < n then _ else _)
  rw [if_pos (G.cl _ _ hk' hh), ← sm_mul]
  rw [← G.suml hk fun g => a k * b (m (iv k) g) * c (m (iv g) h)]
  refine sm_congr fun j hj => ?_
  show a k * b (m (iv k) (m k j)) * c (m (iv (m k j)) h) = a k * (b j * c (m (iv j) (m (iv k) h)))
  rw [← G.assoc _ _ _ hk' hk hj, G.invl k hk, G.onel j hj, G.ivmul hk hj, G.assoc _ _ _ (G.icl j hj) hk' hh]
  grind
theorem cv_one (a : Vc) (ha : Sup n a) : cv n m iv a one = a := by
  refine Sup.ext Sup.cv ha fun h hh => ?_
  show (if h < n then _ else _) = _
  rw [if_pos hh, sm_one (k := h) hh fun g hg ne => ?_]
  · show a h * (if m (iv h) h = 0 then 1 else 0) = a h
    rw [if_pos (G.invl h hh)]; grind
  · show a g * (if m (iv g) h = 0 then 1 else 0) = 0
    rw [if_neg fun e => ne ?_]
    · grind
    · have := G.canl (G.icl g hg) hh e
      rw [G.iviv hg, G.oner g hg] at this
      exact this.symm
theorem one_cv (a : Vc) (ha : Sup n a) : cv n m iv one a = a := by
  refine Sup.ext Sup.cv ha fun h hh => ?_
  show (if h < n then _ else _) = _
  rw [if_pos hh, sm_one (k := 0) G.pos fun g hg ne => ?_]
  · show (if (0 : Nat) = 0 then (1 : Rat) else 0) * a (m (iv 0) h) = a h
    rw [if_pos rfl, G.iv0, G.onel h hh]; grind
  · show (if g = 0 then (1 : Rat) else 0) * _ = 0
    rw [if_neg ne]; grind
theorem st_st (a : Vc) (ha : Sup n a) : st n iv (st n iv a) = a := by
  refine Sup.ext Sup.st ha fun h hh => ?_
  show (if h < n then (if iv h < n then a (iv (iv h)) else 0) else 0) = a h
  rw [if_pos hh, if_pos (G.icl h hh), G.iviv hh]
theorem st_cv (a b : Vc) : st n iv (cv n m iv a b) = cv n m iv (st n iv b) (st n iv a) := by
  refine Sup.ext Sup.st Sup.cv fun h hh => ?_
  show (if h < n then (if iv h < n then _ else _) else _) = (if h < n then _ else _)
  rw [if_pos hh, if_pos (G.icl h hh), if_pos hh]
  -- left: sum over g of a g * b (g^-1 h^-1); right: sum over k of b (k^-1) * a ((k^-1 h)^-1)
  rw [← G.suml (G.icl h hh) fun g => a g * b (m (iv g) (iv h))]
  refine sm_congr fun k hk => ?_
  show a (m (iv h) k) * b (m (iv (m (iv h) k)) (iv h)) = st n iv b k * st n iv a (m (iv k) h)
  show _ = (if k < n then b (iv k) else 0) * (if m (iv k) h < n then a (iv (m (iv k) h)) else 0)
  rw [if_pos hk, if_pos (G.cl _ _ (G.icl k hk) hh), G.ivmul (G.icl h hh) hk, G.iviv hh, G.assoc _ _ _ (G.icl k hk) hh (G.icl h hh), G.invr h hh, G.oner _ (G.icl k hk), G.ivmul (G.icl k hk) hh, G.iviv hk]
  grind
theorem st_one : st n iv one = one := by
  refine Sup.ext Sup.st (Sup.one G) fun h hh => ?_
  show (if h < n then (if iv h = 0 then (1 : Rat) else 0) else 0) = if h = 0 then 1 else 0
  rw [if_pos hh]
  by_cases e : h = 0
  · rw [if_pos e, e, if_pos G.iv0]
  · rw [if_neg e, if_neg fun z => e ?_]
    rw [← G.iviv hh, z, G.iv0]
/-- a a* = 0 only for a = 0 -/
theorem posdef (a : Vc) (ha : Sup n a) (h : cv n m iv a (st n iv a) = fun _ => 0) : a = fun _ => 0 := by
  have e := congrFun h 0
  have e1 : (if 0 < n then sm n (fun g => a g * st n iv a (m (iv g) 0)) else 0) = 0 := e
  rw [if_pos G.pos] at e1
  have e2 : sm n (fun g => a g * a g) = 0 := by
    rw [← e1]
    refine sm_congr fun g hg => ?_
    show _ = a g * (if m (iv g) 0 < n then a (iv (m (iv g) 0)) else 0)
    rw [G.oner _ (G.icl g hg), if_pos (G.icl g hg), G.iviv hg]
  exact Sup.ext ha (fun _ _ => rfl) (sm_sq_zero e2)
end
end MA
end
section
/-! Determinants by the first column, elimination, integrality and size; core Lean alone. -/
namespace MB
open MA
/-- x + k y -/
def lc (x : Vc) (k : Rat) (y : Vc) : Vc := fun j => x j + k * y j
def E (φ : Vc → Rat) : List Vc → (List Vc → Rat) → Rat
  | [], _ => 0
  | v :: vs, f => φ v * f vs - E φ vs (fun us => f (v :: us))
def D : List Nat → List Vc → Rat
  | [], [] => 1
  | [], _ :: _ => 0
  | c :: cs, vs => E (fun v => v c) vs (D cs)
def ML (f : List Vc → Rat) : Prop := ∀ pre x k y post, f (pre ++ lc x k y :: post) = f (pre ++ x :: post) + k * f (pre ++ y :: post)
def AA (f : List Vc → Rat) : Prop := ∀ pre v post, f (pre ++ v :: v :: post) = 0
theorem E_lin (φ : Vc → Rat) (k : Rat) : ∀ (vs : List Vc) (f g : List Vc → Rat), E φ vs (fun us => f us + k * g us) = E φ vs f + k * E φ vs g
  | [], f, g => by show (0 : Rat) = 0 + k * 0; grind
  | v :: vs, f, g => by
    show φ v * (f vs + k * g vs) - E φ vs (fun us => f (v :: us) + k * g (v :: us)) = φ v * f vs - E φ vs (fun us => f (v :: us)) + k * (φ v * g vs - E φ vs (fun us => g (v :: us)))
    rw [E_lin φ k vs (fun us => f (v :: us)) (fun us => g (v :: us))]; grind
theorem E_zero (φ : Vc → Rat) : ∀ (vs : List Vc) (f : List Vc → Rat), (∀ us, f us = 0) → E φ vs f = 0
  | [], f, h => rfl
  | v :: vs, f, h => by
    show φ v * f vs - E φ vs (fun us => f (v :: us)) = 0
    rw [E_zero φ vs _ fun us => h (v :: us), h vs]; grind
theorem E_phi (φ : Vc → Rat) : ∀ (vs : List Vc) (f : List Vc → Rat), (∀ v, v ∈ vs → φ v = 0) → E φ vs f = 0
  | [], f, h => rfl
  | v :: vs, f, h => by
    show φ v * f vs - E φ vs (fun us => f (v :: us)) = 0
    rw [E_phi φ vs _ fun u hu => h u (List.mem_cons_of_mem _ hu), h v List.mem_cons_self]; grind
theorem E_ML (φ : Vc → Rat) (hφ : ∀ x k y, φ (lc x k y) = φ x + k * φ y) : ∀ (pre : List Vc) (f : List Vc → Rat), ML f → ∀ x k y post, E φ (pre ++ lc x k y :: post) f = E φ (pre ++ x :: post) f + k * E φ (pre ++ y :: post) f
  | [], f, h, x, k, y, post => by
    show φ (lc x k y) * f post - E φ post (fun us => f (lc x k y :: us)) = φ x * f post - E φ post (fun us => f (x :: us)) + k * (φ y * f post - E φ post (fun us => f (y :: us)))
    rw [show (fun us => f (lc x k y :: us)) = fun us => f (x :: us) + k * f (y :: us) from funext fun us => h [] x k y us, E_lin, hφ]; grind
  | p :: pre, f, h, x, k, y, post => by
    show φ p * f (pre ++ lc x k y :: post) - E φ (pre ++ lc x k y :: post) (fun us => f (p :: us)) = φ p * f (pre ++ x :: post) - E φ (pre ++ x :: post) (fun us => f (p :: us)) + k * (φ p * f (pre ++ y :: post) - E φ (pre ++ y :: post) (fun us => f (p :: us)))
    rw [E_ML φ hφ pre (fun us => f (p :: us)) (fun pre x k y post => h (p :: pre) x k y post), h]; grind
theorem E_AA (φ : Vc → Rat) : ∀ (pre : List Vc) (f : List Vc → Rat), AA f → ∀ v post, E φ (pre ++ v :: v :: post) f = 0
  | [], f, h, v, post => by
    show φ v * f (v :: post) - (φ v * f (v :: post) - E φ post (fun us => f (v :: v :: us))) = 0
    have e : E φ post (fun us => f (v :: v :: us)) = 0 := E_zero φ post _ fun us => h [] v us
    rw [e]; grind
  | p :: pre, f, h, v, post => by
    show φ p * f (pre ++ v :: v :: post) - E φ (pre ++ v :: v :: post) (fun us => f (p :: us)) = 0
    rw [E_AA φ pre (fun us => f (p :: us)) (fun pre v post => h (p :: pre) v post), h]; grind
theorem D_ML : ∀ cs, ML (D cs)
  | [] => fun pre x k y post => by
    have z : ∀ w : Vc, D [] (pre ++ w :: post) = 0 := fun w => by cases pre <;> rfl
    rw [z, z, z]; grind
  | c :: cs => fun pre x k y post => E_ML (fun v => v c) (fun _ _ _ => rfl) pre (D cs) (D_ML cs) x k y post
theorem D_AA : ∀ cs, AA (D cs)
  | [] => fun pre v post => by cases pre <;> rfl
  | c :: cs => fun pre v post => E_AA (fun v => v c) pre (D cs) (D_AA cs) v post
section
variable {f : List Vc → Rat} (hm : ML f) (ha : AA f)
include hm ha
theorem swp (pre : List Vc) (x y : Vc) (post : List Vc) : f (pre ++ x :: y :: post) = - f (pre ++ y :: x :: post) := by
  have h := ha pre (lc x 1 y) post
  rw [hm pre x 1 y] at h
  have h1 := hm (pre ++ [x]) x 1 y post
  have h2 := hm (pre ++ [y]) x 1 y post
  rw [List.append_assoc, List.append_assoc, List.append_assoc] at h1 h2
  have h1' : f (pre ++ x :: lc x 1 y :: post) = f (pre ++ x :: x :: post) + 1 * f (pre ++ x :: y :: post) := h1
  have h2' : f (pre ++ y :: lc x 1 y :: post) = f (pre ++ y :: x :: post) + 1 * f (pre ++ y :: y :: post) := h2
  rw [h1', h2', ha pre x post, ha pre y post] at h
  grind
theorem alt (v : Vc) : ∀ (mid pre : List Vc) (post : List Vc), f (pre ++ v :: (mid ++ v :: post)) = 0
  | [], pre, post => ha pre v post
  | u :: mid, pre, post => by
    have e := swp hm ha pre v u (mid ++ v :: post)
    have i := alt v mid (pre ++ [u]) post
    rw [List.append_assoc] at i
    have i' : f (pre ++ u :: v :: (mid ++ v :: post)) = 0 := i
    show f (pre ++ v :: u :: (mid ++ v :: post)) = 0
    rw [e, i']; grind
theorem comb (v : Vc) (g : Vc → Vc) (k : Vc → Rat) (hg : ∀ w, g w = lc w (k w) v) : ∀ (ws pre : List Vc), f (v :: (pre ++ ws.map g)) = f (v :: (pre ++ ws))
  | [], pre => rfl
  | w :: ws, pre => by
    have i := comb v g k hg ws (pre ++ [g w])
    rw [List.append_assoc, List.append_assoc] at i
    have i' : f (v :: (pre ++ g w :: ws.map g)) = f (v :: (pre ++ g w :: ws)) := i
    show f (v :: (pre ++ g w :: ws.map g)) = f (v :: (pre ++ w :: ws))
    rw [i', hg w]
    have e := hm (v :: pre) w (k w) v ws
    have e' : f (v :: (pre ++ lc w (k w) v :: ws)) = f (v :: (pre ++ w :: ws)) + k w * f (v :: (pre ++ v :: ws)) := e
    have z := alt hm ha v pre [] ws
    have z' : f (v :: (pre ++ v :: ws)) = 0 := z
    rw [e', z']; grind
end
/-! ### one step of elimination -/
def el (v : Vc) (c : Nat) (w : Vc) : Vc := lc w (- (w c / v c)) v
theorem el_c {v w : Vc} {c : Nat} (h : v c ≠ 0) : el v c w c = 0 := by
  show w c + -(w c / v c) * v c = 0
  have : w c / v c * v c = w c := Rat.div_mul_cancel h
  grind
theorem D_el {c : Nat} {cs : List Nat} {v : Vc} {ws : List Vc} (h : v c ≠ 0) : D (c :: cs) (v :: ws) = v c * D cs (ws.map (el v c)) := by
  have e0 : D (c :: cs) (v :: ws.map (el v c)) = D (c :: cs) (v :: ws) := comb (D_ML (c :: cs)) (D_AA (c :: cs)) v (el v c) (fun w => -(w c / v c)) (fun w => rfl) ws []
  rw [← e0]
  show v c * D cs (ws.map (el v c)) - E (fun v => v c) (ws.map (el v c)) (fun us => D cs (v :: us)) = _
  rw [E_phi _ _ _ fun u hu => ?_]
  · grind
  · obtain ⟨w, _, rfl⟩ := List.mem_map.mp hu
    exact el_c h
/-! pivots, the last first -/
abbrev Ps := List (Vc × Nat)
def rd : Ps → Vc → Vc
  | [], w => w
  | p :: ps, w => el (rd ps p.1) p.2 (rd ps w)
def pv : Ps → Rat
  | [] => 1
  | p :: ps => pv ps * rd ps p.1 p.2
def em (v : Vc) (c : Nat) : Ps → Ps := List.map fun p => (el v c p.1, p.2)
theorem rd_snoc (v : Vc) (c : Nat) : ∀ (ps : Ps) (w : Vc), rd (ps ++ [(v, c)]) w = rd (em v c ps) (el v c w)
  | [], w => rfl
  | p :: ps, w => by
    show el (rd (ps ++ [(v, c)]) p.1) p.2 (rd (ps ++ [(v, c)]) w) = el (rd (em v c ps) (el v c p.1)) p.2 (rd (em v c ps) (el v c w))
    rw [rd_snoc v c ps, rd_snoc v c ps]
theorem pv_snoc (v : Vc) (c : Nat) : ∀ ps : Ps, pv (ps ++ [(v, c)]) = v c * pv (em v c ps)
  | [] => by show (1 : Rat) * v c = v c * 1; grind
  | p :: ps => by
    show pv (ps ++ [(v, c)]) * rd (ps ++ [(v, c)]) p.1 p.2 = v c * (pv (em v c ps) * rd (em v c ps) (el v c p.1) p.2)
    rw [rd_snoc, pv_snoc]; grind
theorem D_all : ∀ (k : Nat) (qs : Ps) (js : List Nat) (ws : List Vc), qs.length = k → pv qs.reverse ≠ 0 → D (qs.map (·.2) ++ js) (qs.map (·.1) ++ ws) = pv qs.reverse * D js (ws.map (rd qs.reverse))
  | 0, [], js, ws, _, _ => by
    show D js ws = 1 * D js (ws.map fun w => w)
    rw [List.map_id']; grind
  | k + 1, (v, c) :: qs, js, ws, hl, h => by
    rw [List.reverse_cons, pv_snoc] at h
    have h1 : v c ≠ 0 := fun e => h (by rw [e]; grind)
    have h2 : pv (em v c qs.reverse) ≠ 0 := fun e => h (by rw [e]; grind)
    show D (c :: (qs.map (·.2) ++ js)) (v :: (qs.map (·.1) ++ ws)) = _
    rw [D_el h1, List.map_append, List.reverse_cons, pv_snoc]
    have er : (em v c qs).reverse = em v c qs.reverse := List.map_reverse.symm
    have i := D_all k (em v c qs) js (ws.map (el v c)) (by rw [em, List.length_map]; simpa using hl) (by rw [er]; exact h2)
    rw [er] at i
    have e1 : (em v c qs).map (·.2) = qs.map (·.2) := by rw [em, List.map_map]; rfl
    have e2 : (em v c qs).map (·.1) = (qs.map (·.1)).map (el v c) := by rw [em, List.map_map, List.map_map]; rfl
    have e3 : ws.map (rd (qs.reverse ++ [(v, c)])) = (ws.map (el v c)).map (rd (em v c qs.reverse)) := by
      rw [List.map_map]; exact List.map_congr_left fun w _ => rd_snoc v c _ w
    rw [e1, e2] at i
    rw [i, e3]; grind
  | 0, _ :: _, _, _, h, _ => nomatch h
  | k + 1, [], _, _, h, _ => nomatch h
/-! ### whole and bounded -/
def ZB (r : Rat) (M : Nat) : Prop := ∃ z : Int, r = z ∧ z.natAbs ≤ M
theorem ZB.mono {r : Rat} {M N : Nat} (h : ZB r M) (l : M ≤ N) : ZB r N := let ⟨z, a, b⟩ := h; ⟨z, a, Nat.le_trans b l⟩
theorem ZB.mul {r s : Rat} {M N : Nat} (h : ZB r M) (g : ZB s N) : ZB (r * s) (M * N) := by
  obtain ⟨z, rfl, b⟩ := h
  obtain ⟨y, rfl, d⟩ := g
  exact ⟨z * y, by rw [Rat.intCast_mul], by rw [Int.natAbs_mul]; exact Nat.mul_le_mul b d⟩
theorem ZB.sub {r s : Rat} {M N : Nat} (h : ZB r M) (g : ZB s N) : ZB (r - s) (M + N) := by
  obtain ⟨z, rfl, b⟩ := h
  obtain ⟨y, rfl, d⟩ := g
  exact ⟨z - y, by rw [Rat.intCast_sub], by omega⟩
theorem E_ZB {φ : Vc → Rat} {B F : Nat} : ∀ (vs : List Vc) (f : List Vc → Rat), (∀ v, v ∈ vs → ZB (φ v) B) → (∀ us, (∀ u, u ∈ us → u ∈ vs) → us.length + 1 = vs.length → ZB (f us) F) → ZB (E φ vs f) (vs.length * (B * F))
  | [], f, h1, h2 => ⟨0, rfl, Nat.zero_le _⟩
  | v :: vs, f, h1, h2 => by
    have a := (h1 v List.mem_cons_self).mul (h2 vs (fun u hu => List.mem_cons_of_mem _ hu) rfl)
    have b := E_ZB vs (fun us => f (v :: us)) (fun u hu => h1 u (List.mem_cons_of_mem _ hu)) fun us hu hl => h2 (v :: us) (fun u hu' => by
      rcases List.mem_cons.mp hu' with e | e
      · rw [e]; exact List.mem_cons_self
      · exact List.mem_cons_of_mem _ (hu u e)) (by simp only [List.length_cons]; omega)
    have c := a.sub b
    refine ZB.mono c ?_
    rw [List.length_cons, Nat.succ_mul]; omega
theorem D_ZB {B L : Nat} : ∀ (cs : List Nat) (vs : List Vc), vs.length ≤ L → (∀ v, v ∈ vs → ∀ c, c ∈ cs → ZB (v c) B) → ZB (D cs vs) ((L * B) ^ cs.length)
  | [], [], _, _ => ⟨1, rfl, Nat.le_refl _⟩
  | [], _ :: _, _, _ => ⟨0, rfl, Nat.zero_le _⟩
  | c :: cs, vs, hl, h => by
    have e := E_ZB (φ := fun v => v c) (B := B) (F := (L * B) ^ cs.length) vs (D cs) (fun v hv => h v hv c List.mem_cons_self) fun us hu hl' => D_ZB cs us (by omega) fun u hu' c' hc' => h u (hu u hu') c' (List.mem_cons_of_mem _ hc')
    refine ZB.mono e ?_
    rw [List.length_cons, Nat.pow_succ]
    calc vs.length * (B * (L * B) ^ cs.length) ≤ L * (B * (L * B) ^ cs.length) := Nat.mul_le_mul_right _ hl
      _ = (L * B) ^ cs.length * (L * B) := by rw [← Nat.mul_assoc, Nat.mul_comm]
/-- rows whose entries are whole and at most B -/
def ZV (B : Nat) (v : Vc) : Prop := ∀ j, ZB (v j) B
theorem pv_ZB {B L : Nat} {ps : Ps} (h : pv ps ≠ 0) (hl : ps.length ≤ L) (hz : ∀ p, p ∈ ps → ZV B p.1) : ZB (pv ps) ((L * B) ^ ps.length) := by
  have e := D_all _ ps.reverse [] [] rfl (by rw [List.reverse_reverse]; exact h)
  rw [List.reverse_reverse, List.append_nil, List.append_nil] at e
  have z := D_ZB (B := B) (L := L) (ps.reverse.map (·.2)) (ps.reverse.map (·.1)) (by simpa using hl) fun v hv c _ => by
    obtain ⟨p, hp, rfl⟩ := List.mem_map.mp hv
    exact hz p (by simpa using hp) c
  rw [e] at z
  have e2 : D [] (List.map (rd ps) []) = 1 := rfl
  rw [e2, Rat.mul_one] at z
  simpa using z
theorem rd_ZB {B L : Nat} {ps : Ps} {w : Vc} (h : pv ps ≠ 0) (hl : ps.length + 1 ≤ L) (hz : ∀ p, p ∈ ps → ZV B p.1) (hw : ZV B w) (j : Nat) : ZB (pv ps * rd ps w j) ((L * B) ^ (ps.length + 1)) := by
  have e := D_all _ ps.reverse [j] [w] rfl (by rw [List.reverse_reverse]; exact h)
  rw [List.reverse_reverse] at e
  have z := D_ZB (B := B) (L := L) (ps.reverse.map (·.2) ++ [j]) (ps.reverse.map (·.1) ++ [w]) (by simpa using hl) fun v hv c _ => by
    rcases List.mem_append.mp hv with hv | hv
    · obtain ⟨p, hp, rfl⟩ := List.mem_map.mp hv
      exact hz p (by simpa using hp) c
    · rw [List.mem_singleton.mp hv]; exact hw c
  rw [e] at z
  have e2 : D [j] (List.map (rd ps) [w]) = rd ps w j := by
    show rd ps w j * 1 - 0 = _; grind
  rw [e2] at z
  simpa using z
end MB
end
section
/-! Spans, rank by traces; core Lean alone. -/
namespace MB
open MA
def zr : Vc := fun _ => 0
structure LinP (W : Vc → Prop) : Prop where
  zero : W zr
  lc : ∀ {x y : Vc} (k : Rat), W x → W y → W (lc x k y)
def LinT (T : Vc → Vc) : Prop := ∀ x k y, T (lc x k y) = lc (T x) k (T y)
theorem LinT.zr {T : Vc → Vc} (h : LinT T) : T MB.zr = MB.zr := by
  have e := h MB.zr (-1) MB.zr
  have z : lc MB.zr (-1) MB.zr = MB.zr := funext fun j => by show (0 : Rat) + -1 * 0 = 0; grind
  rw [z] at e
  rw [e]
  exact funext fun j => by show T MB.zr j + -1 * T MB.zr j = 0; grind
theorem rdiv_self {a : Rat} (h : a ≠ 0) : a / a = 1 := by rw [Rat.div_def]; exact Rat.mul_inv_cancel a h
theorem el_lin (v : Vc) (c : Nat) : LinT (el v c) := fun x k y => funext fun j => by
  show x j + k * y j + -((x c + k * y c) / v c) * v j = x j + -(x c / v c) * v j + k * (y j + -(y c / v c) * v j)
  have : (x c + k * y c) / v c = x c / v c + k * (y c / v c) := by
    rw [Rat.div_def, Rat.div_def, Rat.div_def]; grind
  rw [this]; grind
theorem rd_lin : ∀ ps : Ps, LinT (rd ps)
  | [], x, k, y => rfl
  | p :: ps, x, k, y => by
    show el _ _ (rd ps _) = lc (el _ _ (rd ps x)) k (el _ _ (rd ps y))
    rw [rd_lin ps, el_lin]
theorem el_zr (v : Vc) (c : Nat) : el v c zr = zr := (el_lin v c).zr
theorem el_self {v : Vc} {c : Nat} (h : v c ≠ 0) : el v c v = zr := funext fun j => by
  show v j + -(v c / v c) * v j = 0
  have : v c / v c = 1 := rdiv_self h
  rw [this]; grind
theorem pv_cons {p : Vc × Nat} {ps : Ps} (h : pv (p :: ps) ≠ 0) : pv ps ≠ 0 ∧ rd ps p.1 p.2 ≠ 0 :=
  ⟨fun e => h (by show pv ps * _ = 0; rw [e]; grind), fun e => h (by show pv ps * rd ps p.1 p.2 = 0; rw [e]; grind)⟩
theorem rd_kill : ∀ {ps : Ps}, pv ps ≠ 0 → ∀ p, p ∈ ps → rd ps p.1 = zr
  | p :: ps, h, q, hq => by
    obtain ⟨h1, h2⟩ := pv_cons h
    rcases List.mem_cons.mp hq with e | e
    · rw [e]; exact el_self h2
    · show el _ _ (rd ps q.1) = zr
      rw [rd_kill h1 q e, el_zr]
theorem rd_col : ∀ {ps : Ps}, pv ps ≠ 0 → ∀ (w : Vc) p, p ∈ ps → rd ps w p.2 = 0
  | p :: ps, h, w, q, hq => by
    obtain ⟨h1, h2⟩ := pv_cons h
    rcases List.mem_cons.mp hq with e | e
    · rw [e]; exact el_c h2
    · show rd ps w q.2 + _ * rd ps p.1 q.2 = 0
      rw [rd_col h1 w q e, rd_col h1 p.1 q e]; grind
theorem rd_id : ∀ {ps : Ps} {w : Vc}, (∀ p, p ∈ ps → w p.2 = 0) → rd ps w = w
  | [], w, h => rfl
  | p :: ps, w, h => by
    show el _ _ (rd ps w) = w
    rw [rd_id fun q hq => h q (List.mem_cons_of_mem _ hq)]
    refine funext fun j => ?_
    show w j + -(w p.2 / _) * _ = w j
    rw [h p List.mem_cons_self, Rat.div_def]; grind
theorem rd_rd {ps : Ps} (h : pv ps ≠ 0) (w : Vc) : rd ps (rd ps w) = rd ps w := rd_id fun p hp => rd_col h w p hp
theorem LinP.neg {W : Vc → Prop} (L : LinP W) {x y : Vc} {k : Rat} (h : W (MB.lc x k y)) (hy : W y) : W x := by
  have := L.lc (-k) h hy
  have e : MB.lc (MB.lc x k y) (-k) y = x := funext fun j => by show x j + k * y j + -k * y j = x j; grind
  rwa [e] at this
theorem rd_in {W : Vc → Prop} (L : LinP W) : ∀ {ps : Ps}, (∀ p, p ∈ ps → W p.1) → ∀ {x : Vc}, W x → W (rd ps x)
  | [], _, x, hx => hx
  | p :: ps, h, x, hx => L.lc _ (rd_in L (fun q hq => h q (List.mem_cons_of_mem _ hq)) hx) (rd_in L (fun q hq => h q (List.mem_cons_of_mem _ hq)) (h p List.mem_cons_self))
theorem in_rd {W : Vc → Prop} (L : LinP W) : ∀ {ps : Ps}, (∀ p, p ∈ ps → W p.1) → ∀ {x : Vc}, W (rd ps x) → W x
  | [], _, x, hx => hx
  | p :: ps, h, x, hx => in_rd L (fun q hq => h q (List.mem_cons_of_mem _ hq)) (L.neg hx (rd_in L (fun q hq => h q (List.mem_cons_of_mem _ hq)) (h p List.mem_cons_self)))
theorem sp_of {W : Vc → Prop} (L : LinP W) {ps : Ps} (h : ∀ p, p ∈ ps → W p.1) {x : Vc} (hx : rd ps x = zr) : W x := in_rd L h (by rw [hx]; exact L.zero)
theorem linP_rd (ps : Ps) : LinP fun x => rd ps x = zr := ⟨(rd_lin ps).zr, fun {x y} k hx hy => by rw [rd_lin, hx, hy]; exact funext fun j => by show (0 : Rat) + k * 0 = 0; grind⟩
theorem linP_sup (n : Nat) : LinP (Sup n) := ⟨fun _ _ => rfl, fun {x y} k hx hy i hi => by show x i + k * y i = 0; rw [hx i hi, hy i hi]; grind⟩
theorem linP_fix {T : Vc → Vc} (h : LinT T) : LinP fun x => T x = x := ⟨h.zr, fun {x y} k hx hy => by rw [h, hx, hy]⟩
def sd (g : Nat) : Vc := fun j => if j = g then 1 else 0
def LinF (φ : Vc → Rat) : Prop := ∀ x k y, φ (lc x k y) = φ x + k * φ y
theorem LinF.zr {φ : Vc → Rat} (h : LinF φ) : φ MB.zr = 0 := by
  have e := h MB.zr (-1) MB.zr
  have z : lc MB.zr (-1) MB.zr = MB.zr := funext fun j => by show (0 : Rat) + -1 * 0 = 0; grind
  rw [z] at e
  grind
theorem LinF.tr {φ : Vc → Rat} (h : LinF φ) (x : Vc) : ∀ k : Nat, φ (fun j => if j < k then x j else 0) = sm k fun g => x g * φ (sd g)
  | 0 => by
    have : (fun j => if j < 0 then x j else 0) = MB.zr := funext fun j => if_neg (by omega)
    rw [this, h.zr]; rfl
  | k + 1 => by
    have : (fun j => if j < k + 1 then x j else 0) = lc (fun j => if j < k then x j else 0) (x k) (sd k) := funext fun j => by
      show _ = (if j < k then x j else 0) + x k * (if j = k then 1 else 0)
      by_cases h1 : j < k
      · rw [if_pos (by omega), if_pos h1, if_neg (by omega)]; grind
      · by_cases h2 : j = k
        · rw [h2, if_pos (by omega), if_neg (by omega), if_pos rfl]; grind
        · rw [if_neg (by omega), if_neg h1, if_neg h2]; grind
    rw [this, h, h.tr x k]; rfl
theorem LinF.exp {φ : Vc → Rat} (h : LinF φ) {n : Nat} {x : Vc} (hx : Sup n x) : φ x = sm n fun g => x g * φ (sd g) := by
  rw [← h.tr x n]
  congr 1
  exact funext fun j => by
    by_cases hj : j < n
    · rw [if_pos hj]
    · rw [if_neg hj, hx j (by omega)]
theorem trace_aux {n : Nat} {T : Vc → Vc} (hT : LinT T) : ∀ {ps : Ps}, pv ps ≠ 0 → (∀ p, p ∈ ps → Sup n p.1) → (∀ p, p ∈ ps → T p.1 = p.1) → sm n (fun g => T (sd g) g - rd ps (T (sd g)) g) = (ps.length : Nat)
  | [], h, hS, h2 => by
    rw [sm_zero fun g _ => ?_]
    · rfl
    · show T (sd g) g - T (sd g) g = 0; grind
  | p :: ps, h, hS, h2 => by
    obtain ⟨h1, h3⟩ := pv_cons h
    have i := trace_aux hT h1 (fun q hq => hS q (List.mem_cons_of_mem _ hq)) (fun q hq => h2 q (List.mem_cons_of_mem _ hq))
    have eS : Sup n (rd ps p.1) := rd_in (linP_sup n) (fun q hq => hS q (List.mem_cons_of_mem _ hq)) (hS p List.mem_cons_self)
    have eT : T (rd ps p.1) = rd ps p.1 := rd_in (linP_fix hT) (fun q hq => h2 q (List.mem_cons_of_mem _ hq)) (h2 p List.mem_cons_self)
    have e1 : ∀ g, g < n → T (sd g) g - rd (p :: ps) (T (sd g)) g = (T (sd g) g - rd ps (T (sd g)) g) + rd ps p.1 g * (rd ps (T (sd g)) p.2 / rd ps p.1 p.2) := fun g _ => by
      show T (sd g) g - (rd ps (T (sd g)) g + -(rd ps (T (sd g)) p.2 / rd ps p.1 p.2) * rd ps p.1 g) = _
      grind
    have φl : LinF fun x => rd ps (T x) p.2 / rd ps p.1 p.2 := fun x k y => by
      show rd ps (T (lc x k y)) p.2 / _ = rd ps (T x) p.2 / _ + k * (rd ps (T y) p.2 / _)
      rw [hT, rd_lin]
      show (rd ps (T x) p.2 + k * rd ps (T y) p.2) / _ = _
      rw [Rat.div_def, Rat.div_def, Rat.div_def]; grind
    have e2 := φl.exp eS
    have e3 : rd ps (T (rd ps p.1)) p.2 / rd ps p.1 p.2 = 1 := by rw [eT, rd_rd h1]; exact rdiv_self h3
    rw [sm_congr e1, sm_add, i, ← e2]
    show _ + rd ps (T (rd ps p.1)) p.2 / rd ps p.1 p.2 = _
    rw [e3, List.length_cons]
    have : ((ps.length + 1 : Nat) : Rat) = (ps.length : Nat) + 1 := by
      simp
    rw [this]
theorem trace {n : Nat} {T : Vc → Vc} {ps : Ps} (hT : LinT T) (h : pv ps ≠ 0) (hS : ∀ p, p ∈ ps → Sup n p.1) (h1 : ∀ x, rd ps (T x) = zr) (h2 : ∀ p, p ∈ ps → T p.1 = p.1) : sm n (fun g => T (sd g) g) = (ps.length : Nat) := by
  rw [← trace_aux hT h hS h2]
  refine sm_congr fun g _ => ?_
  rw [h1]; show _ = _ - (0 : Rat); grind
theorem uniq {n : Nat} {ps ps' : Ps} (h : pv ps ≠ 0) (h' : pv ps' ≠ 0) (hS : ∀ p, p ∈ ps → Sup n p.1) (hS' : ∀ p, p ∈ ps' → Sup n p.1) (hin : ∀ p, p ∈ ps → rd ps' p.1 = zr) (hin' : ∀ p, p ∈ ps' → rd ps p.1 = zr) : ps.length = ps'.length := by
  have hT : LinT fun x => lc x (-1) (rd ps' x) := fun x k y => by
    show lc (lc x k y) (-1) (rd ps' (lc x k y)) = lc (lc x (-1) (rd ps' x)) k (lc y (-1) (rd ps' y))
    rw [rd_lin]
    exact funext fun j => by show x j + k * y j + -1 * (rd ps' x j + k * rd ps' y j) = x j + -1 * rd ps' x j + k * (y j + -1 * rd ps' y j); grind
  have hz : ∀ x, lc x (-1) zr = x := fun x => funext fun j => by show x j + -1 * 0 = x j; grind
  have k1 : ∀ x, rd ps' (lc x (-1) (rd ps' x)) = zr := fun x => by
    rw [rd_lin, rd_rd h']
    exact funext fun j => by show rd ps' x j + -1 * rd ps' x j = 0; grind
  have t' := trace hT h' hS' k1 fun p hp => by show lc p.1 (-1) (rd ps' p.1) = p.1; rw [rd_kill h' p hp, hz]
  have t := trace hT h hS (fun x => sp_of (linP_rd ps) hin' (k1 x)) fun p hp => by show lc p.1 (-1) (rd ps' p.1) = p.1; rw [hin p hp, hz]
  rw [t'] at t
  exact (by exact_mod_cast t.symm : ps.length = ps'.length)
/-- V spans a room of r dimensions -/
def Rk (n : Nat) (V : Vc → Prop) (r : Nat) : Prop := ∃ ps : Ps, pv ps ≠ 0 ∧ (∀ p, p ∈ ps → Sup n p.1 ∧ V p.1) ∧ (∀ v, V v → rd ps v = zr) ∧ ps.length = r
def Spn (V : Vc → Prop) (x : Vc) : Prop := ∀ W, LinP W → (∀ v, V v → W v) → W x
theorem Rk.uniq {n : Nat} {V V' : Vc → Prop} {r r' : Nat} (h : Rk n V r) (h' : Rk n V' r') (h1 : ∀ v, V v → Spn V' v) (h2 : ∀ v, V' v → Spn V v) : r = r' := by
  obtain ⟨ps, a, b, c, rfl⟩ := h
  obtain ⟨ps', a', b', c', rfl⟩ := h'
  exact MB.uniq a a' (fun p hp => (b p hp).1) (fun p hp => (b' p hp).1) (fun p hp => h1 _ (b p hp).2 _ (linP_rd ps') c') (fun p hp => h2 _ (b' p hp).2 _ (linP_rd ps) c)
theorem Rk.more {n : Nat} {V : Vc → Prop} {B : Vc} {r r' : Nat} (h : Rk n V r) (h' : Rk n (fun v => V v ∨ v = B) r') (hB : Sup n B) : r' = r ↔ Spn V B := by
  constructor
  · intro e
    obtain ⟨ps, a, b, c, rfl⟩ := h
    intro W L hW
    refine Classical.byContradiction fun no => ?_
    have nz : rd ps B ≠ zr := fun z => no (sp_of L (fun p hp => hW _ (b p hp).2) z)
    have ⟨t, ht⟩ : ∃ t, rd ps B t ≠ 0 := Classical.byContradiction fun z => nz (funext fun j => Classical.byContradiction fun y => z ⟨j, y⟩)
    have big : Rk n (fun v => V v ∨ v = B) (ps.length + 1) := by
      refine ⟨(B, t) :: ps, ?_, ?_, ?_, rfl⟩
      · show pv ps * rd ps B t ≠ 0
        exact fun z => (Rat.mul_eq_zero.mp z).elim a ht
      · intro p hp
        rcases List.mem_cons.mp hp with e | e
        · rw [e]; exact ⟨hB, .inr rfl⟩
        · exact ⟨(b p e).1, .inl (b p e).2⟩
      · rintro v (hv | rfl)
        · show el _ _ (rd ps v) = zr
          rw [c v hv, el_zr]
        · exact el_self ht
    have := big.uniq h' (fun v hv W _ hW => hW v hv) (fun v hv W _ hW => hW v hv)
    omega
  · intro s
    refine h'.uniq h (fun v hv => ?_) fun v hv W _ hW => hW v (.inl hv)
    rcases hv with hv | rfl
    · exact fun W _ hW => hW v hv
    · exact s
end MB
end
section
/-! The algebra: recall, units, witness; core Lean alone. -/
namespace MD
open MA MB
section
variable {n : Nat} {m : Nat → Nat → Nat} {iv : Nat → Nat} (G : Grp n m iv)
/-- r is the inverse of s that Moore and Penrose tell of -/
structure MP (n : Nat) (m : Nat → Nat → Nat) (iv : Nat → Nat) (s r : Vc) : Prop where
  sup : Sup n r
  a : cv n m iv (cv n m iv s r) s = s
  b : cv n m iv (cv n m iv r s) r = r
  c : st n iv (cv n m iv s r) = cv n m iv s r
  d : st n iv (cv n m iv r s) = cv n m iv r s
include G
theorem mp_of {s q X : Vc} (hs : Sup n s) (hX : Sup n X) (hq : q = cv n m iv s (st n iv s)) (h : cv n m iv X (cv n m iv q q) = st n iv s) : MP n m iv s (cv n m iv X q) := by
  have qs : st n iv q = q := by rw [hq, st_cv G, st_st G s hs]
  have sq : Sup n q := by rw [hq]; exact .cv
  -- R s* = s*
  have R1 : cv n m iv (cv n m iv (cv n m iv X q) s) (st n iv s) = st n iv s := by
    rw [cv_assoc G, ← hq, cv_assoc G, h]
  generalize hW : cv n m iv X q = W at R1
  have sW : Sup n W := by rw [← hW]; exact .cv
  have R2 : cv n m iv s (st n iv (cv n m iv W s)) = s := by
    have := congrArg (st n iv) R1
    rwa [st_cv G, st_st G s hs] at this
  have R3 : st n iv (cv n m iv W s) = cv n m iv W s := by
    have e : cv n m iv (cv n m iv W s) (st n iv (cv n m iv W s)) = cv n m iv W s := by rw [cv_assoc G, R2]
    have f := congrArg (st n iv) e
    rw [st_cv G, st_st G _ Sup.cv, e] at f
    exact f.symm
  have P1 : cv n m iv (cv n m iv s W) q = q := by
    rw [← hW, cv_assoc G, cv_assoc G, h, ← hq]
  have P2 : cv n m iv q (st n iv (cv n m iv s W)) = q := by
    have := congrArg (st n iv) P1
    rwa [st_cv G, qs] at this
  have P3 : st n iv (cv n m iv s W) = cv n m iv s W := by
    have e : cv n m iv (cv n m iv s W) (st n iv (cv n m iv s W)) = cv n m iv s W := by
      have e2 : cv n m iv W (st n iv (cv n m iv s W)) = W := by
        conv => lhs; arg 4; rw [← hW]
        rw [cv_assoc G, P2, hW]
      rw [cv_assoc G, e2]
    have f := congrArg (st n iv) e
    rw [st_cv G, st_st G _ Sup.cv, e] at f
    exact f.symm
  refine ⟨sW, ?_, ?_, P3, R3⟩
  · rw [cv_assoc G, ← R3, R2]
  · rw [cv_assoc G]
    rw [P3] at P2
    have e2 : cv n m iv W (cv n m iv s W) = W := by
      conv => lhs; arg 4; rw [← hW]
      rw [cv_assoc G, P2, hW]
    exact e2
theorem MP.uniq {s r r' : Vc} (h : MP n m iv s r) (h' : MP n m iv s r') : r = r' := by
  have P : cv n m iv s r = cv n m iv s r' := by
    have e : cv n m iv (cv n m iv s r') (cv n m iv s r) = cv n m iv s r := by rw [← cv_assoc G, h'.a]
    have f := congrArg (st n iv) e
    rw [st_cv G, h.c, h'.c, ← cv_assoc G, h.a] at f
    exact f.symm
  have R : cv n m iv r s = cv n m iv r' s := by
    have e : cv n m iv (cv n m iv r s) (cv n m iv r' s) = cv n m iv r s := by rw [cv_assoc G, ← cv_assoc G s r' s, h'.a]
    have f := congrArg (st n iv) e
    rw [st_cv G, h.d, h'.d, cv_assoc G, ← cv_assoc G s r s, h.a] at f
    exact f.symm
  rw [← h.b, cv_assoc G, P, ← cv_assoc G, R, h'.b]
theorem MP.star {s r : Vc} (hs : Sup n s) (h : MP n m iv s r) : MP n m iv (st n iv s) (st n iv r) := by
  refine ⟨.st, ?_, ?_, ?_, ?_⟩
  · rw [← st_cv G, ← st_cv G, ← cv_assoc G, h.a]
  · rw [← st_cv G, ← st_cv G, ← cv_assoc G, h.b]
  · rw [← st_cv G, st_st G _ .cv, h.d]
  · rw [← st_cv G, st_st G _ .cv, h.c]
theorem MP.scale {s r : Vc} {k : Rat} (hk : k ≠ 0) (h : MP n m iv s r) : MP n m iv (scl k s) (scl k⁻¹ r) := by
  have kk : k * k⁻¹ = 1 := Rat.mul_inv_cancel k hk
  have ss : ∀ (x y : Rat) (v : Vc), scl x (scl y v) = scl (x * y) v := fun x y v => funext fun i => by show x * (y * v i) = x * y * v i; grind
  have s1 : ∀ v : Vc, scl 1 v = v := fun v => funext fun i => by show 1 * v i = v i; grind
  have e1 : cv n m iv (scl k s) (scl k⁻¹ r) = cv n m iv s r := by rw [scl_cv, cv_scl, ss, kk, s1]
  have e2 : cv n m iv (scl k⁻¹ r) (scl k s) = cv n m iv r s := by rw [scl_cv, cv_scl, ss, show k⁻¹ * k = 1 by grind, s1]
  refine ⟨h.sup.scl, ?_, ?_, ?_, ?_⟩
  · rw [e1, cv_scl, h.a]
  · rw [e2, cv_scl, h.b]
  · rw [e1, h.c]
  · rw [e2, h.d]
/-- the unit of a left ideal -/
structure LU (n : Nat) (m : Nat → Nat → Nat) (iv : Nat → Nat) (s l : Vc) : Prop where
  sup : Sup n l
  a : cv n m iv s l = s
  z : ∃ y, Sup n y ∧ l = cv n m iv y s
  c : st n iv l = l
theorem LU.idem {s l : Vc} (h : LU n m iv s l) : cv n m iv l l = l := by
  obtain ⟨y, _, e⟩ := h.z
  conv => lhs; arg 4; rw [e]
  rw [cv_assoc G, h.a, ← e]
theorem LU.uniq {s l l' : Vc} (h : LU n m iv s l) (h' : LU n m iv s l') : l = l' := by
  obtain ⟨y, _, e⟩ := h.z
  obtain ⟨y', _, e'⟩ := h'.z
  have e1 : cv n m iv l l' = l := by conv => lhs; arg 4; rw [e]
                                     rw [cv_assoc G, h'.a, ← e]
  have e2 : cv n m iv l' l = l' := by conv => lhs; arg 4; rw [e']
                                      rw [cv_assoc G, h.a, ← e']
  have f := congrArg (st n iv) e1
  rw [st_cv G, h.c, h'.c, e2] at f
  exact f.symm
theorem lu_of {s Z : Vc} (hs : Sup n s) (hZ : Sup n Z) (h : cv n m iv Z (cv n m iv s (st n iv s)) = st n iv s) : LU n m iv s (cv n m iv Z s) := by
  have R2 : cv n m iv s (st n iv (cv n m iv Z s)) = s := by
    have e : cv n m iv (cv n m iv Z s) (st n iv s) = st n iv s := by rw [cv_assoc G, h]
    have := congrArg (st n iv) e
    rwa [st_cv G, st_st G s hs] at this
  have R3 : st n iv (cv n m iv Z s) = cv n m iv Z s := by
    have e : cv n m iv (cv n m iv Z s) (st n iv (cv n m iv Z s)) = cv n m iv Z s := by rw [cv_assoc G, R2]
    have f := congrArg (st n iv) e
    rw [st_cv G, st_st G _ Sup.cv, e] at f
    exact f.symm
  exact ⟨.cv, by rw [← R3]; exact R2, ⟨Z, hZ, rfl⟩, R3⟩
theorem MP.lu {s r : Vc} (h : MP n m iv s r) : LU n m iv s (cv n m iv r s) := ⟨.cv, by rw [← cv_assoc G, h.a], ⟨r, h.sup, rfl⟩, h.d⟩
theorem LU.scale {s l : Vc} {k : Rat} (hk : k ≠ 0) (h : LU n m iv s l) : LU n m iv (scl k s) l := by
  obtain ⟨y, hy, e⟩ := h.z
  refine ⟨h.sup, by rw [scl_cv, h.a], ⟨scl k⁻¹ y, hy.scl, ?_⟩, h.c⟩
  rw [scl_cv, cv_scl, ← e]
  exact funext fun i => by
    show l i = k⁻¹ * (k * l i)
    have kk : k * k⁻¹ = 1 := Rat.mul_inv_cancel k hk
    grind
/-- b is made of a from the left -/
def Mof (n : Nat) (m : Nat → Nat → Nat) (iv : Nat → Nat) (a b : Vc) : Prop := ∃ y, Sup n y ∧ b = cv n m iv y a
theorem LU.mof {a b l : Vc} (h : LU n m iv a l) : Mof n m iv a b ↔ cv n m iv b l = b := by
  constructor
  · rintro ⟨y, _, rfl⟩
    rw [cv_assoc G, h.a]
  · intro e
    obtain ⟨y, _, f⟩ := h.z
    exact ⟨cv n m iv b y, .cv, by rw [cv_assoc G, ← f, e]⟩
theorem Mof.trans {a b c : Vc} (h : Mof n m iv a b) (g : Mof n m iv b c) : Mof n m iv a c := by
  obtain ⟨y, hy, rfl⟩ := h
  obtain ⟨z, hz, rfl⟩ := g
  exact ⟨cv n m iv z y, .cv, (cv_assoc G z y a).symm⟩
theorem LU.eq_iff {a b l k : Vc} (ha : Sup n a) (hb : Sup n b) (h : LU n m iv a l) (g : LU n m iv b k) : l = k ↔ Mof n m iv a b ∧ Mof n m iv b a := by
  constructor
  · rintro rfl
    exact ⟨(h.mof G).mpr g.a, (g.mof G).mpr h.a⟩
  · rintro ⟨p, q⟩
    refine h.uniq G ⟨g.sup, (g.mof G).mp q, ?_, g.c⟩
    obtain ⟨y, hy, e⟩ := g.z
    obtain ⟨z, hz, f⟩ := p
    exact ⟨cv n m iv y z, .cv, by rw [cv_assoc G, ← f, ← e]⟩
/-- eveners -/
theorem ev_iff {a b l k : Vc} (h : LU n m iv a l) (g : LU n m iv b k) : cv n m iv (sub one k) (sub one l) = sub one l ↔ Mof n m iv a b := by
  have e : cv n m iv (sub one k) (sub one l) = sub (sub one l) (sub k (cv n m iv k l)) := by
    rw [cv_sub, sub_cv, sub_cv, cv_one G one (Sup.one G), cv_one G k g.sup, one_cv G l h.sup]
    exact funext fun i => by show one i - k i - (l i - cv n m iv k l i) = one i - l i - (k i - cv n m iv k l i); grind
  rw [e]
  have e2 : sub (sub one l) (sub k (cv n m iv k l)) = sub one l ↔ cv n m iv k l = k := by
    constructor
    · intro z
      refine funext fun i => ?_
      have := congrFun z i
      have t : sub (sub one l) (sub k (cv n m iv k l)) i = sub one l i - (k i - cv n m iv k l i) := rfl
      rw [t] at this
      grind
    · intro z
      rw [z]
      exact funext fun i => by show sub one l i - (k i - k i) = sub one l i; grind
  rw [e2]
  constructor
  · intro z
    obtain ⟨y, hy, f⟩ := h.z
    refine ⟨cv n m iv (cv n m iv b k) y, .cv, ?_⟩
    rw [cv_assoc G, ← f, cv_assoc G, z, g.a]
  · intro p
    obtain ⟨z, hz, f⟩ := p
    obtain ⟨y, hy, e⟩ := g.z
    rw [e, f, cv_assoc G, cv_assoc G, h.a]
/-! ### the left ideal and its rank -/
/-- the rows g * a -/
def Lf (n : Nat) (m : Nat → Nat → Nat) (iv : Nat → Nat) (a v : Vc) : Prop := ∃ g, g < n ∧ v = cv n m iv (sd g) a
theorem cvl_lin (a : Vc) : LinT fun x => cv n m iv x a := fun x k y => by
  show cv n m iv (lc x k y) a = lc (cv n m iv x a) k (cv n m iv y a)
  have e : lc x k y = add x (scl k y) := rfl
  rw [e, add_cv, scl_cv]; rfl
theorem lf_span {a b : Vc} (ha : Sup n a) : Spn (Lf n m iv a) b ↔ Mof n m iv a b := by
  constructor
  · intro s
    refine s _ ⟨⟨zr, fun _ _ => rfl, ?_⟩, ?_⟩ ?_
    · have := (cvl_lin G a).zr
      exact this.symm
    · rintro x y k ⟨u, hu, rfl⟩ ⟨v, hv, rfl⟩
      exact ⟨lc u k v, (linP_sup n).lc k hu hv, (cvl_lin G a u k v).symm⟩
    · rintro v ⟨g, hg, rfl⟩
      exact ⟨sd g, fun i hi => if_neg (by omega), rfl⟩
  · rintro ⟨y, hy, rfl⟩ W L hW
    -- truncations of y
    have key : ∀ k, k ≤ n → W (cv n m iv (fun j => if j < k then y j else 0) a) := by
      intro k
      induction k with
      | zero =>
        intro _
        have e : (fun j => if j < 0 then y j else 0) = zr := funext fun j => if_neg (by omega)
        have z : cv n m iv zr a = zr := (cvl_lin G a).zr
        rw [e, z]
        exact L.zero
      | succ k ih =>
        intro hk
        have e : (fun j => if j < k + 1 then y j else 0) = lc (fun j => if j < k then y j else 0) (y k) (sd k) := funext fun j => by
          show _ = (if j < k then y j else 0) + y k * (if j = k then 1 else 0)
          by_cases h1 : j < k
          · rw [if_pos (by omega), if_pos h1, if_neg (by omega)]; grind
          · by_cases h2 : j = k
            · rw [h2, if_pos (by omega), if_neg (by omega), if_pos rfl]; grind
            · rw [if_neg (by omega), if_neg h1, if_neg h2]; grind
        have e2 : cv n m iv (lc (fun j => if j < k then y j else 0) (y k) (sd k)) a = lc (cv n m iv (fun j => if j < k then y j else 0) a) (y k) (cv n m iv (sd k) a) := cvl_lin G a _ _ _
        rw [e, e2]
        exact L.lc _ (ih (by omega)) (hW _ ⟨k, by omega, rfl⟩)
    have := key n (Nat.le_refl n)
    have e : (fun j => if j < n then y j else 0) = y := funext fun j => by
      by_cases h : j < n
      · rw [if_pos h]
      · rw [if_neg h, hy j (by omega)]
    rwa [e] at this
theorem rank_unit {a l : Vc} {r : Nat} (ha : Sup n a) (h : LU n m iv a l) (k : Rk n (Lf n m iv a) r) : (n : Rat) * l 0 = (r : Nat) := by
  obtain ⟨ps, h1, h2, h3, rfl⟩ := k
  have t := trace (n := n) (T := fun x => cv n m iv x l) (cvl_lin G l) h1 (fun p hp => (h2 p hp).1) (fun x => ?_) fun p hp => ?_
  · rw [← t]
    have e : ∀ g, g < n → cv n m iv (sd g) l g = l 0 := fun g hg => by
      show (if g < n then _ else _) = _
      rw [if_pos hg, sm_one (k := g) hg fun i hi ne => ?_]
      · show (if g = g then (1 : Rat) else 0) * l (m (iv g) g) = l 0
        rw [if_pos rfl, G.invl g hg]; grind
      · show (if i = g then (1 : Rat) else 0) * _ = 0
        rw [if_neg ne]; grind
    rw [sm_congr e]
    have : ∀ k : Nat, (k : Rat) * l 0 = sm k fun _ => l 0 := fun k => by
      induction k with
      | zero => show (0 : Rat) * l 0 = 0; grind
      | succ k ih =>
        show ((k + 1 : Nat) : Rat) * l 0 = (sm k fun _ => l 0) + l 0
        rw [← ih]
        have : ((k + 1 : Nat) : Rat) = (k : Rat) + 1 := by simp
        rw [this]; grind
    exact this n
  · -- x l lies in the left ideal of a
    have s : Spn (Lf n m iv a) (cv n m iv x l) := (lf_span G ha).mpr (by
      obtain ⟨y, hy, e⟩ := h.z
      exact ⟨cv n m iv x y, .cv, by rw [cv_assoc G, ← e]⟩)
    exact s _ (linP_rd ps) h3
  · obtain ⟨_, g, hg, e⟩ := h2 p hp
    show cv n m iv p.1 l = p.1
    rw [e, cv_assoc G, h.a]
/-- the same number on the other side -/
theorem tr_comm (a b : Vc) : cv n m iv a b 0 = cv n m iv b a 0 := by
  show (if 0 < n then _ else _) = (if 0 < n then _ else _)
  rw [if_pos G.pos, if_pos G.pos, ← G.sumiv fun g => b g * a (m (iv g) 0)]
  refine sm_congr fun g hg => ?_
  rw [G.oner _ (G.icl g hg), G.oner _ (G.icl _ (G.icl g hg)), G.iviv hg]; grind
/-! ### solving: the alternative -/
/-- y a* at g is the sum of y over the row g * a -/
theorem dot_row {y a : Vc} {g : Nat} (hg : g < n) : sm n (fun c => y c * cv n m iv (sd g) a c) = cv n m iv y (st n iv a) g := by
  show _ = if g < n then _ else _
  rw [if_pos hg]
  refine sm_congr fun c hc => ?_
  have e1 : cv n m iv (sd g) a c = a (m (iv g) c) := by
    show (if c < n then _ else _) = _
    rw [if_pos hc, sm_one (k := g) hg fun i hi ne => ?_]
    · show (if g = g then (1 : Rat) else 0) * _ = _
      rw [if_pos rfl]; grind
    · show (if i = g then (1 : Rat) else 0) * _ = 0
      rw [if_neg ne]; grind
  have e2 : st n iv a (m (iv c) g) = a (m (iv g) c) := by
    show (if m (iv c) g < n then _ else _) = _
    rw [if_pos (G.cl _ _ (G.icl c hc) hg), G.ivmul (G.icl c hc) hg, G.iviv hc]
  rw [e1, e2]
theorem yzero {s y : Vc} (hs : Sup n s) (h : cv n m iv y (cv n m iv s (st n iv s)) = zr) : cv n m iv y s = zr := by
  refine posdef G _ .cv ?_
  rw [st_cv G, cv_assoc G, ← cv_assoc G s, ← cv_assoc G y, h]
  exact funext fun i => by
    show (if i < n then sm n (fun g => zr g * _) else 0) = 0
    split
    · exact sm_zero fun g _ => by show (0 : Rat) * _ = 0; grind
    · rfl
theorem yzero2 {s y q : Vc} (hs : Sup n s) (hq : q = cv n m iv s (st n iv s)) (h : cv n m iv y (cv n m iv q q) = zr) : cv n m iv y s = zr := by
  have qs : st n iv q = q := by rw [hq, st_cv G, st_st G s hs]
  have : cv n m iv y q = zr := yzero G (s := q) (by rw [hq]; exact .cv) (by rw [qs]; exact h)
  exact yzero G hs (by rw [← hq]; exact this)
end
end MD
end
section
set_option maxHeartbeats 1000000
namespace EL
open PySem PySem.Spec PyProof.Rows L2 DL
/-- the module's name g stands for the def at row i, written x -/
def FF (K : PySem.W.Frag) (mg : Str → Option Value) (g x : Str) (i : Nat) : Prop := ∃ f fd, mg g = some (.ref f) ∧ Fun K x x (top i) f fd
/-- the module's name x keeps the promise R -/
def Cb (hot : Bool) (P : Program) (w : World) (K : PySem.W.Frag) (mg : Str → Option Value) (base : Heap) (k : Nat) (x : Str) (n : Nat) (R : List PyData → PyData → Prop) : Prop :=
  ∃ f fd ps, mg x = some (.ref f) ∧ FnB hot P w K mg base k f fd ps (spD K n R)
theorem Cb.cal {hot hot' : Bool} {X : Cx} {k j n : Nat} {x : Str} {R : List PyData → PyData → Prop} (h : Cb hot X.prog X.w X.K X.mg X.base k x n R) (r : RmX hot' j X) (hk : k ≤ j := by omega) (hh : hot' = true → hot = true := by intro h; first | rfl | exact h | cases h) : Cal X x n R := by
  obtain ⟨f, fd, ps, hm, F⟩ := h
  exact ⟨hot, k, f, fd, ps, hm, F, (r.to hh).mono hk⟩
theorem cb_calm {P : Program} {w : World} {K : PySem.W.Frag} {mg : Str → Option Value} {base : Heap} {g x : Str} {i k n : Nat} {N ps : List Str} {R : List PyData → PyData → Prop} (F : FF K mg g x i) (S : FnScope N ps (defScope (top i))) (hn : ps.length = n)
    (hb : ∀ (kV doc pm : Value) (an : Option Addr) (cdv ct : Value) (us : List Value), us.length = ps.length → bindArgs (PySem.W.fnOf x x (defArgs (top i)) (defBody (top i)) (defScope (top i)) .none kV doc pm an cdv ct) ⟨us, []⟩ = pure (ps.zip us))
    (body : ∀ (f : Addr) (cdv : Value) (A : Around) (outer : List Env) (s : Shared) (H : Hp) (ds : List PyData) (r : PyData), RmX false k (cxB P w K mg base N x (defScope (top i)) f cdv A outer s H true []) → R ds r → ds.length = n →
      Ends1 (cxB P w K mg base N x (defScope (top i)) f cdv A outer s H true []) (startG N ds) (defBody (top i)) r) : Cb false P w K mg base (k + 1) g n R := by
  obtain ⟨f, fd, hm, F⟩ := F
  exact ⟨f, fd, ps, hm, def_calm F S (F.binds hb) hn fun cdv A outer s H ds r => body f cdv A outer s H ds r⟩
theorem cb_both {P : Program} {w : World} {K : PySem.W.Frag} {mg : Str → Option Value} {base : Heap} {g x : Str} {i k n : Nat} {N ps : List Str} {R : List PyData → PyData → Prop} (F : FF K mg g x i) (S : FnScope N ps (defScope (top i))) (hn : ps.length = n)
    (hb : ∀ (kV doc pm : Value) (an : Option Addr) (cdv ct : Value) (us : List Value), us.length = ps.length → bindArgs (PySem.W.fnOf x x (defArgs (top i)) (defBody (top i)) (defScope (top i)) .none kV doc pm an cdv ct) ⟨us, []⟩ = pure (ps.zip us))
    (body : ∀ (f : Addr) (cdv : Value) (A : Around) (outer : List Env) (s : Shared) (H : Hp) (b : Bool) (pn : List (Addr × Obj)) (ds : List PyData) (r : PyData), Mild (cxB P w K mg base N x (defScope (top i)) f cdv A outer s H b pn) → RmX true k (cxB P w K mg base N x (defScope (top i)) f cdv A outer s H b pn) → R ds r → ds.length = n →
      Ends1 (cxB P w K mg base N x (defScope (top i)) f cdv A outer s H b pn) (startG N ds) (defBody (top i)) r) : Cb true P w K mg base (k + 1) g n R := by
  obtain ⟨f, fd, hm, F⟩ := F
  exact ⟨f, fd, ps, hm, def_both F S (F.binds hb) hn fun cdv A outer s H b pn ds r => body f cdv A outer s H b pn ds r⟩
/-- the builtins' names are free -/
structure Bi (mg : Str → Option Value) : Prop where
  len : mg "len" = none
  range : mg "range" = none
  isi : mg "isinstance" = none
  int : mg "int" = none
  bool : mg "bool" = none
  tuple : mg "tuple" = none
  str : mg "str" = none
  abs : mg "abs" = none
  list : mg "list" = none
  enum : mg "enumerate" = none
  zip : mg "zip" = none
  rev : mg "reversed" = none
  sum : mg "sum" = none
  all : mg "all" = none
  any : mg "any" = none
  gcd : mg "gcd" = some (.builtin "math.gcd")
theorem _root_.DL.Less.nil : Less [] [] := ⟨rfl, fun i g h => by simp at h⟩
theorem _root_.DL.Less.keep {g : Sl} {G G' : Ev} (h : Less G G') : Less (g :: G) (g :: G') := ⟨by simp [h.1], fun i q e => by
  cases i with
  | zero => exact .inr e
  | succ i => exact h.2 i q e⟩
theorem _root_.DL.Less.drop {g : Sl} {G G' : Ev} (h : Less G G') : Less (g :: G) (.no :: G') := ⟨by simp [h.1], fun i q e => by
  cases i with
  | zero => simp at e; exact .inl e.symm
  | succ i => exact h.2 i q e⟩
theorem _root_.DL.Less.rfl {G : Ev} : Less G G := ⟨Eq.refl _, fun _ _ h => .inr h⟩
section
variable {X : Cx} {c : Bool} {tg iter : Expr} {body : List Stmt} {pos : Pos}
theorem cmF (h : X.calm = true := by rfl) : Md false X := .inl h
theorem cmT (h : X.calm = true := by rfl) : Md true X := h
theorem dfor_fold {S α : Type} (env : S → Ev) (f : S → α → S) (Iv : S → Prop) (γ : α → PyData) : ∀ (l : List α) (s0 : S), Iv s0 →
    (∀ s a, a ∈ l → Iv s → Iv (f s a) ∧ ∃ G1 js G2, DG X tg (γ a) (env s) G1 js ∧ DSs X G1 body (.nx G2) ∧ Less G2 (env (f s a))) → DFor X tg body (l.map γ) (env s0) (.nx (env (l.foldl f s0)))
  | [], s0, h0, h => .nil
  | a :: l, s0, h0, h => by
    obtain ⟨h1, G1, js, G2, g, b, ls⟩ := h s0 a List.mem_cons_self h0
    exact .next g (b.less ls) (dfor_fold env f Iv γ l (f s0 a) h1 fun s a' ha => h s a' (List.mem_cons_of_mem _ ha))
theorem fold_inv {S α : Type} (f : S → α → S) (Iv : S → Prop) : ∀ (l : List α) (s0 : S), Iv s0 → (∀ s a, a ∈ l → Iv s → Iv (f s a)) → Iv (l.foldl f s0)
  | [], s0, h0, h => h0
  | a :: l, s0, h0, h => fold_inv f Iv l (f s0 a) (h s0 a List.mem_cons_self h0) fun s b hb => h s b (List.mem_cons_of_mem _ hb)
theorem ds_forF {S α : Type} (env : S → Ev) (f : S → α → S) (Iv : S → Prop) (s0 : S) (l : List α) (γ : α → PyData) (hc : Md c X) (hp : PassesOwn (model X.prog X.w) X.A X.env X.xe) (hi : DI c X tg iter (env s0) (l.map γ)) (h0 : Iv s0)
    (h : ∀ s a, a ∈ l → Iv s → Iv (f s a) ∧ ∃ G1 js G2, DG X tg (γ a) (env s) G1 js ∧ DSs X G1 body (.nx G2) ∧ Less G2 (env (f s a))) (hs : ∀ x, foldedSetIterable iter X.env x = pure x := by intro _; rfl) : DS X (env s0) (.For tg iter body [] pos) (.nx (env (l.foldl f s0))) :=
  ds_for hc hp hi (dfor_fold env f Iv γ l s0 h0 h) hs
end
/-! ### sizes -/
theorem mulB {i j : Int} {k : Nat} (h1 : i.natAbs < 2 ^ k) (h2 : j.natAbs < 2 ^ k) (hk : k ≤ 67000000) : IntMulOk i j := IntMulOk.of_le (intBits_le_iff.mpr h1) (intBits_le_iff.mpr h2) (by omega)
theorem cdv {i j : Int} (h0 : j ≠ 0) (h : j.natAbs < 2 ^ 9000) : CDv i j := ⟨h0, (Nat.log2_lt (by omega)).mpr h⟩
theorem cdvS {i : Int} {j : Int} (h0 : 0 < j) (h : j < 1000000) : CDv i j := cdv (by omega) (Nat.lt_of_lt_of_le (by omega : j.natAbs < 2 ^ 20) (Nat.pow_le_pow_right (by omega) (by omega)))
/-! ### isinstance, by kinds -/
section
variable {X : Cx} {G : Ev} {e : Expr} {pos p p2 : Pos}
theorem dtc {p q : Bool} (h : DT X G e p) (z : p = q := by rfl) : DT X G e q := z ▸ h
theorem dec {p q : PyData} (h : DE X G e p) (z : p = q := by rfl) : DE X G e q := z ▸ h
theorem de_isII {i : Int} (B : Bi X.mg) (h : DE X G e (.int i)) (hg : Gl X "isinstance" := by rfl) (hgT : Gl X "int" := by rfl)
    (hs : starEach [e, .Name "int" p2] X.env = (false, eval e X.env) :: starEach [.Name "int" p2] X.env := by rfl) (hs2 : starEach [.Name "int" p2] X.env = (false, eval (.Name "int" p2) X.env) :: starEach [] X.env := by rfl) (hpl : (backTo pos (starEach [.Name "int" p2] X.env)).any (·.1) = false := by rfl) :
    DE X G (.Call (.Name "isinstance" p) [e, .Name "int" p2] [] pos) (.bool true) := de_isi B.isi B.int h (fun _ z => by cases z) bb_int kb_ii hg hgT (by decide) (by decide) hs hs2 hpl
theorem de_isIB {i : Int} (B : Bi X.mg) (h : DE X G e (.int i)) (hg : Gl X "isinstance" := by rfl) (hgT : Gl X "bool" := by rfl)
    (hs : starEach [e, .Name "bool" p2] X.env = (false, eval e X.env) :: starEach [.Name "bool" p2] X.env := by rfl) (hs2 : starEach [.Name "bool" p2] X.env = (false, eval (.Name "bool" p2) X.env) :: starEach [] X.env := by rfl) (hpl : (backTo pos (starEach [.Name "bool" p2] X.env)).any (·.1) = false := by rfl) :
    DE X G (.Call (.Name "isinstance" p) [e, .Name "bool" p2] [] pos) (.bool false) := de_isi B.isi B.bool h (fun _ z => by cases z) bb_bool kb_ib hg hgT (by decide) (by decide) hs hs2 hpl
theorem de_isBB {i : Bool} (B : Bi X.mg) (h : DE X G e (.bool i)) (hg : Gl X "isinstance" := by rfl) (hgT : Gl X "bool" := by rfl)
    (hs : starEach [e, .Name "bool" p2] X.env = (false, eval e X.env) :: starEach [.Name "bool" p2] X.env := by rfl) (hs2 : starEach [.Name "bool" p2] X.env = (false, eval (.Name "bool" p2) X.env) :: starEach [] X.env := by rfl) (hpl : (backTo pos (starEach [.Name "bool" p2] X.env)).any (·.1) = false := by rfl) :
    DE X G (.Call (.Name "isinstance" p) [e, .Name "bool" p2] [] pos) (.bool true) := de_isi B.isi B.bool h (fun _ z => by cases z) bb_bool kb_bb hg hgT (by decide) (by decide) hs hs2 hpl
theorem de_isTT {ds : List PyData} (B : Bi X.mg) (h : DE X G e (.tuple ds)) (hg : Gl X "isinstance" := by rfl) (hgT : Gl X "tuple" := by rfl)
    (hs : starEach [e, .Name "tuple" p2] X.env = (false, eval e X.env) :: starEach [.Name "tuple" p2] X.env := by rfl) (hs2 : starEach [.Name "tuple" p2] X.env = (false, eval (.Name "tuple" p2) X.env) :: starEach [] X.env := by rfl) (hpl : (backTo pos (starEach [.Name "tuple" p2] X.env)).any (·.1) = false := by rfl) :
    DE X G (.Call (.Name "isinstance" p) [e, .Name "tuple" p2] [] pos) (.bool true) := de_isi B.isi B.tuple h (fun _ z => by cases z) bb_tuple kb_tt hg hgT (by decide) (by decide) hs hs2 hpl
theorem de_isSS {x : Str} (B : Bi X.mg) (h : DE X G e (.str x)) (hg : Gl X "isinstance" := by rfl) (hgT : Gl X "str" := by rfl)
    (hs : starEach [e, .Name "str" p2] X.env = (false, eval e X.env) :: starEach [.Name "str" p2] X.env := by rfl) (hs2 : starEach [.Name "str" p2] X.env = (false, eval (.Name "str" p2) X.env) :: starEach [] X.env := by rfl) (hpl : (backTo pos (starEach [.Name "str" p2] X.env)).any (·.1) = false := by rfl) :
    DE X G (.Call (.Name "isinstance" p) [e, .Name "str" p2] [] pos) (.bool true) := de_isi B.isi B.str h (fun _ z => by cases z) bb_str kb_ss hg hgT (by decide) (by decide) hs hs2 hpl
end
/-! ### lists of numbers -/
theorem atI_nat {α : Type} {ds : List α} {i : Nat} {d : α} (h : ds[i]? = some d) : atI ds (i : Int) = some d := by
  have hl := (List.getElem?_eq_some_iff.mp h).1
  unfold atI ixN
  rw [if_pos (by omega), if_pos (by omega)]
  show ds[(i : Int).toNat]? = _
  rw [Int.toNat_natCast, h]
theorem ixN_nat {n i : Nat} (h : i < n) : ixN n (i : Int) = some i := by
  unfold ixN
  rw [if_pos (by omega), if_pos (by omega), Int.toNat_natCast]
def ofF {α : Type} (n : Nat) (f : Nat → α) : List α := (List.range n).map f
theorem ofF_length {α : Type} {n : Nat} {f : Nat → α} : (ofF n f).length = n := by unfold ofF; simp
theorem ofF_get {α : Type} {n i : Nat} {f : Nat → α} (h : i < n) : (ofF n f)[i]? = some (f i) := by unfold ofF; simp [h]
theorem ofF_congr {α : Type} {n : Nat} {f g : Nat → α} (h : ∀ i, i < n → f i = g i) : ofF n f = ofF n g := List.map_congr_left fun i hi => h i (List.mem_range.mp hi)
theorem ofF_map {α β : Type} {n : Nat} {f : Nat → α} (g : α → β) : (ofF n f).map g = ofF n fun i => g (f i) := by unfold ofF; rw [List.map_map]; rfl
theorem ofF_set {α : Type} {n p : Nat} {f : Nat → α} {v : α} : (ofF n f).set p v = ofF n fun i => if i = p then v else f i := by
  refine List.ext_getElem? fun i => ?_
  by_cases hi : i < n
  · rw [ofF_get hi, List.getElem?_set]
    by_cases e : p = i
    · subst e; rw [if_pos rfl, if_pos (by rw [ofF_length]; exact hi), if_pos rfl]
    · rw [if_neg e, ofF_get hi, if_neg (fun z => e z.symm)]
  · rw [List.getElem?_eq_none (by rw [List.length_set, ofF_length]; omega), List.getElem?_eq_none (by rw [ofF_length]; omega)]
theorem ofF_getD {α : Type} {l : List α} {d : α} : l = ofF l.length fun i => l.getD i d := by
  refine List.ext_getElem? fun i => ?_
  by_cases hi : i < l.length
  · rw [ofF_get hi, List.getD_eq_getElem?_getD, List.getElem?_eq_getElem hi]; rfl
  · rw [List.getElem?_eq_none (by omega), List.getElem?_eq_none (by rw [ofF_length]; omega)]
def il (l : List Int) : List PyData := l.map .int
theorem il_get {l : List Int} {i : Nat} {v : Int} (h : l[i]? = some v) : (il l)[i]? = some (.int v) := by unfold il; rw [List.getElem?_map, h]; rfl
theorem il_at {l : List Int} {i : Nat} {v : Int} (h : l[i]? = some v) : atI (il l) (i : Int) = some (.int v) := atI_nat (il_get h)
theorem il_length {l : List Int} : (il l).length = l.length := by unfold il; simp
theorem il_set {l : List Int} {i : Nat} {v : Int} : (il l).set i (.int v) = il (l.set i v) := by unfold il; rw [List.map_set]
/-- the greatest common divisor along a list -/
def gcdL (g : Int) (l : List Int) : Int := l.foldl (fun g x => ((Nat.gcd g.natAbs x.natAbs : Nat) : Int)) g
theorem gcdL_nn {g : Int} (h : 0 ≤ g) : ∀ {l : List Int}, 0 ≤ gcdL g l
  | [] => h
  | x :: l => gcdL_nn (l := l) (Int.natCast_nonneg _)
theorem gcdL_dvd : ∀ {l : List Int} {g : Int}, (gcdL g l ∣ g) ∧ ∀ x, x ∈ l → gcdL g l ∣ x
  | [], g => ⟨Int.dvd_refl _, fun x h => by simp at h⟩
  | y :: l, g => by
    obtain ⟨h1, h2⟩ := gcdL_dvd (l := l) (g := ((Nat.gcd g.natAbs y.natAbs : Nat) : Int))
    refine ⟨Int.dvd_trans h1 ?_, fun x hx => ?_⟩
    · exact Int.natAbs_dvd_natAbs.mp (by rw [Int.natAbs_natCast]; exact Nat.gcd_dvd_left _ _)
    · rcases List.mem_cons.mp hx with e | e
      · rw [e]; exact Int.dvd_trans h1 (Int.natAbs_dvd_natAbs.mp (by rw [Int.natAbs_natCast]; exact Nat.gcd_dvd_right _ _))
      · exact h2 x e
theorem gcdL_max : ∀ {l : List Int} {g d : Int}, d ∣ g → (∀ x, x ∈ l → d ∣ x) → d ∣ gcdL g l
  | [], g, d, h, _ => h
  | y :: l, g, d, h, hl => gcdL_max (l := l) (Int.natAbs_dvd_natAbs.mp (by rw [Int.natAbs_natCast]; exact Nat.dvd_gcd (Int.natAbs_dvd_natAbs.mpr h) (Int.natAbs_dvd_natAbs.mpr (hl y List.mem_cons_self)))) fun x hx => hl x (List.mem_cons_of_mem _ hx)
theorem gcdL_ne {g : Int} {l : List Int} (h : g ≠ 0) : gcdL g l ≠ 0 := fun e => by
  have := (gcdL_dvd (l := l) (g := g)).1
  rw [e] at this
  exact h (Int.zero_dvd.mp this)
theorem gcdL_le {g : Int} {l : List Int} (h : g ≠ 0) : (gcdL g l).natAbs ≤ g.natAbs := Nat.le_of_dvd (by omega) (Int.natAbs_dvd_natAbs.mpr (gcdL_dvd (l := l) (g := g)).1)
/-! ### the loops of a def's body -/
def forB : Stmt → List Stmt
  | .For _ _ b .. => b
  | _ => []
def forT : Stmt → Expr
  | .For t .. => t
  | _ => .Constant .none 0 ⟨0, 0, 0, 0⟩
def fB (i j : Nat) : List Stmt := forB ((defBody (top i)).getD j (.Pass ⟨0, 0, 0, 0⟩))
def fT (i j : Nat) : Expr := forT ((defBody (top i)).getD j (.Pass ⟨0, 0, 0, 0⟩))
def ifTest : List Stmt → Expr
  | .If t .. :: _ => t
  | _ => .Constant .none 0 ⟨0, 0, 0, 0⟩
end EL
end
section
set_option maxHeartbeats 1000000
namespace EL
open PySem PySem.Spec PyProof.Rows L2 DL
/-! ### clocks -/
structure Ck where
  b : Nat
  mv : List (Nat × Nat)
deriving DecidableEq
def mvD (p : Nat × Nat) : PyData := .tuple [iN p.1, iN p.2]
def ckD (c : Ck) : PyData := .tuple [iN c.b, .tuple (c.mv.map mvD)]
def tn (c : Ck) : Nat := c.mv.foldl (fun a p => a * p.1) 1
def nn (c : Ck) : Nat := c.b * tn c
def clocks : List Ck := [⟨3, [(2, 2)]⟩, ⟨5, [(2, 4)]⟩, ⟨7, [(2, 6)]⟩, ⟨3, [(2, 1)]⟩, ⟨7, [(3, 2)]⟩, ⟨6, []⟩, ⟨1, [(2, 1), (3, 1)]⟩, ⟨2, [(3, 1)]⟩, ⟨1, []⟩, ⟨2, [(5, 1)]⟩, ⟨10, []⟩, ⟨2, []⟩]
def CK (c : Ck) : Prop := c ∈ clocks
theorem CK.all {c : Ck} (h : CK c) (p : Ck → Bool) (hp : clocks.all p = true := by decide +kernel) : p c = true := List.all_eq_true.mp hp c h
section
variable {P : Program} {w : World} {K : PySem.W.Frag} {mg : Str → Option Value} {base : Heap} (B : Bi mg)
/-! ### usable, whole, is_pair -/
theorem sc9 : FnScope ["good", "word"] ["good", "word"] (defScope (top 9)) := ⟨rfl, rfl, rfl, by decide +kernel, rfl, by decide +kernel, by decide +kernel⟩
def R9 : List PyData → PyData → Prop := fun ds r => ∃ z : Str, ds = [.bool true, .str z] ∧ r = .none
theorem w9 (F : FF K mg "usable" "usable" 9) : Cb false P w K mg base 1 "usable" 2 R9 := by
  refine cb_calm F sc9 rfl (fun _ _ _ _ _ _ us hl => match us, hl with | [_, _], _ => rfl) fun f cdv A outer s H ds r rm hR hn => ?_
  obtain ⟨z, rfl, rfl⟩ := hR
  exact .inr ⟨rfl, _, dss_one (ds_ifF (dtc (dt_not (DE.dt (de_v 0)))) dss_nil)⟩
theorem sc10 : FnScope ["thing"] ["thing"] (defScope (top 10)) := ⟨rfl, rfl, rfl, by decide +kernel, rfl, by decide +kernel, by decide +kernel⟩
def Rint1 (g : Int → PyData) : List PyData → PyData → Prop := fun ds r => ∃ i : Int, ds = [.int i] ∧ r = g i
include B in
theorem w10 (F : FF K mg "whole" "whole" 10) : Cb false P w K mg base 1 "whole" 1 (Rint1 fun _ => .bool true) := by
  refine cb_calm F sc10 rfl (fun _ _ _ _ _ _ us hl => match us, hl with | [_], _ => rfl) fun f cdv A outer s H ds r rm hR hn => ?_
  obtain ⟨i, rfl, rfl⟩ := hR
  refine .inl (dss_one (ds_ret ?_))
  exact de_andT (de_isII B (de_v 0)) (de_one (dec (de_not (de_isIB B (de_v 0)))))
theorem sc11 : FnScope ["thing"] ["thing"] (defScope (top 11)) := ⟨rfl, rfl, rfl, by decide +kernel, rfl, by decide +kernel, by decide +kernel⟩
def R11 : List PyData → PyData → Prop := fun ds r => ∃ a b, ds = [.tuple [a, b]] ∧ r = .bool true
include B in
theorem w11 (F : FF K mg "is_pair" "is_pair" 11) : Cb false P w K mg base 1 "is_pair" 1 R11 := by
  refine cb_calm F sc11 rfl (fun _ _ _ _ _ _ us hl => match us, hl with | [_], _ => rfl) fun f cdv A outer s H ds r rm hR hn => ?_
  obtain ⟨a, b, rfl, rfl⟩ := hR
  refine .inl (dss_one (ds_ret ?_))
  exact de_andT (de_isTT B (de_v 0)) (de_one (dec (de_eq (de_lenT B.len (de_v 0)) de_int)))
/-! ### lowest -/
def sg (b g : Int) : Int := if b < 0 then -g else g
theorem sc12 : FnScope ["top", "bottom", "common"] ["top", "bottom"] (defScope (top 12)) := ⟨rfl, rfl, rfl, by decide +kernel, rfl, by decide +kernel, by decide +kernel⟩
def R12 : List PyData → PyData → Prop := fun ds r => ∃ a b : Int, ds = [.int a, .int b] ∧ b ≠ 0 ∧ b.natAbs < 2 ^ 9000 ∧ r = .tuple [.int (a.fdiv (sg b (Nat.gcd a.natAbs b.natAbs))), .int (b.fdiv (sg b (Nat.gcd a.natAbs b.natAbs)))]
theorem sg_ne {b g : Int} (h : g ≠ 0) : sg b g ≠ 0 := by unfold sg; split <;> omega
theorem sg_abs {b g : Int} : (sg b g).natAbs = g.natAbs := by unfold sg; split <;> omega
theorem cdvg {i a b : Int} (hb : b ≠ 0) (h : b.natAbs < 2 ^ 9000) : CDv i (sg b (Nat.gcd a.natAbs b.natAbs)) := by
  have p : 0 < Nat.gcd a.natAbs b.natAbs := Nat.gcd_pos_of_pos_right _ (by omega)
  refine cdv (sg_ne (by omega)) ?_
  rw [sg_abs, Int.natAbs_natCast]
  exact Nat.lt_of_le_of_lt (Nat.le_of_dvd (by omega) (Nat.gcd_dvd_right _ _)) h
include B in
theorem w12 (F : FF K mg "lowest" "lowest" 12) : Cb false P w K mg base 1 "lowest" 2 R12 := by
  refine cb_calm F sc12 rfl (fun _ _ _ _ _ _ us hl => match us, hl with | [_, _], _ => rfl) fun f cdv A outer s H ds r rm hR hn => ?_
  obtain ⟨a, b, rfl, hb, h1, rfl⟩ := hR
  refine .inl ?_
  refine dss_cons (ds_set 2 sc12.nd (de_gcd B.gcd (de_v 0) (de_v 1))) ?_
  refine dss_cons (G1 := [.dat (.int a), .dat (.int b), .dat (.int (sg b (Nat.gcd a.natAbs b.natAbs)))]) ?_ ?_
  · refine ds_if (dt_lt (de_v 1) de_int) (fun t => ?_) fun t => ?_
    · unfold sg
      rw [if_pos (of_decide_eq_true t)]
      exact dss_one (ds_set 2 sc12.nd (de_neg (de_v 2)))
    · unfold sg
      rw [if_neg (of_decide_eq_false t)]
      exact dss_nil
  · exact dss_one (ds_ret (de_tup2 (de_div (de_v 0) (de_v 2) (cdvg hb h1)) (de_div (de_v 1) (de_v 2) (cdvg hb h1))))
/-! ### turns_in -/
theorem sc13 : FnScope ["clock", "turns", "mover", "_"] ["clock"] (defScope (top 13)) := ⟨rfl, rfl, rfl, by decide +kernel, rfl, by decide +kernel, by decide +kernel⟩
def R13 : List PyData → PyData → Prop := fun ds r => ∃ c, CK c ∧ ds = [ckD c] ∧ r = iN (tn c)
theorem mulS {i j : Int} (h : -(2 ^ 64) < i ∧ i < 2 ^ 64) : IntMulOk i j := CMul.ok (.inl h)
theorem mulS2 {i j : Int} (h : -(2 ^ 64) < j ∧ j < 2 ^ 64) : IntMulOk i j := CMul.ok (.inr h)
theorem CK.mv {c : Ck} (h : CK c) {p : Nat × Nat} (hp : p ∈ c.mv) : 1 ≤ p.1 ∧ p.1 ≤ 5 ∧ 1 ≤ p.2 ∧ p.2 ≤ 6 := by
  have := h.all fun c => c.mv.all fun p => decide (1 ≤ p.1 ∧ p.1 ≤ 5 ∧ 1 ≤ p.2 ∧ p.2 ≤ 6)
  exact of_decide_eq_true (List.all_eq_true.mp this p hp)
theorem CK.bd {c : Ck} (h : CK c) : 1 ≤ c.b ∧ c.b ≤ 10 ∧ 1 ≤ tn c ∧ tn c ≤ 6 ∧ 1 ≤ nn c ∧ nn c ≤ 21 := of_decide_eq_true (h.all fun c => decide (1 ≤ c.b ∧ c.b ≤ 10 ∧ 1 ≤ tn c ∧ tn c ≤ 6 ∧ 1 ≤ nn c ∧ nn c ≤ 21))
include B in
theorem w13 (F : FF K mg "turns_in" "turns_in" 13) : Cb false P w K mg base 1 "turns_in" 1 R13 := by
  refine cb_calm F sc13 rfl (fun _ _ _ _ _ _ us hl => match us, hl with | [_], _ => rfl) fun f cdv A outer s H ds r rm hR hn => ?_
  obtain ⟨c, hc, rfl, rfl⟩ := hR
  refine .inl ?_
  refine dss_cons (ds_set 1 sc13.nd de_int) ?_
  refine dss_cons (ds_forF (fun s : Nat => [.dat (ckD c), .dat (iN s), .no, .no]) (fun a p => a * p.1) (fun _ => True) 1 c.mv mvD cmF PassesOwn.never (di_tup (de_ixT (de_v 0) de_int rfl)) trivial fun s p hp _ => ⟨trivial, ?_⟩) (dss_one (ds_ret (de_v 1)))
  have hb := hc.mv hp
  exact ⟨_, _, _, dg_tup2 (.inl rfl) (dg_name 2 sc13.nd) (dg_name 3 sc13.nd), dss_one (ds_set 1 sc13.nd ((de_mul (de_v 1) (de_v 2) (mulS2 (by omega))).cast (by rw [← Int.natCast_mul]))), .keep (.keep (.drop (.drop .nil)))⟩
end
end EL
end
section
set_option maxHeartbeats 1000000
namespace EL
open PySem PySem.Spec PyProof.Rows L2 DL
theorem bn9 (kV doc pm : Value) (an : Option Addr) (cdv ct : Value) (us : List Value) (hl : us.length = (["good", "word"] : List Str).length) : bindArgs (PySem.W.fnOf "usable" "usable" (defArgs (top 9)) (defBody (top 9)) (defScope (top 9)) .none kV doc pm an cdv ct) ⟨us, []⟩ = pure ((["good", "word"] : List Str).zip us) := match us, hl with | [_, _], _ => rfl
theorem bn10 (kV doc pm : Value) (an : Option Addr) (cdv ct : Value) (us : List Value) (hl : us.length = (["thing"] : List Str).length) : bindArgs (PySem.W.fnOf "whole" "whole" (defArgs (top 10)) (defBody (top 10)) (defScope (top 10)) .none kV doc pm an cdv ct) ⟨us, []⟩ = pure ((["thing"] : List Str).zip us) := match us, hl with | [_], _ => rfl
theorem bn11 (kV doc pm : Value) (an : Option Addr) (cdv ct : Value) (us : List Value) (hl : us.length = (["thing"] : List Str).length) : bindArgs (PySem.W.fnOf "is_pair" "is_pair" (defArgs (top 11)) (defBody (top 11)) (defScope (top 11)) .none kV doc pm an cdv ct) ⟨us, []⟩ = pure ((["thing"] : List Str).zip us) := match us, hl with | [_], _ => rfl
theorem bn12 (kV doc pm : Value) (an : Option Addr) (cdv ct : Value) (us : List Value) (hl : us.length = (["top", "bottom"] : List Str).length) : bindArgs (PySem.W.fnOf "lowest" "lowest" (defArgs (top 12)) (defBody (top 12)) (defScope (top 12)) .none kV doc pm an cdv ct) ⟨us, []⟩ = pure ((["top", "bottom"] : List Str).zip us) := match us, hl with | [_, _], _ => rfl
theorem bn13 (kV doc pm : Value) (an : Option Addr) (cdv ct : Value) (us : List Value) (hl : us.length = (["clock"] : List Str).length) : bindArgs (PySem.W.fnOf "turns_in" "turns_in" (defArgs (top 13)) (defBody (top 13)) (defScope (top 13)) .none kV doc pm an cdv ct) ⟨us, []⟩ = pure ((["clock"] : List Str).zip us) := match us, hl with | [_], _ => rfl
theorem sc14 : FnScope ["clock", "turn", "beats", "movers", "told", "mover", "root", "_"] ["clock", "turn"] (defScope (top 14)) := ⟨rfl, rfl, rfl, by decide +kernel, rfl, by decide +kernel, by decide +kernel⟩
theorem bn14 (kV doc pm : Value) (an : Option Addr) (cdv ct : Value) (us : List Value) (hl : us.length = (["clock", "turn"] : List Str).length) : bindArgs (PySem.W.fnOf "factor_of" "factor_of" (defArgs (top 14)) (defBody (top 14)) (defScope (top 14)) .none kV doc pm an cdv ct) ⟨us, []⟩ = pure ((["clock", "turn"] : List Str).zip us) := match us, hl with | [_, _], _ => rfl
theorem sc15 : FnScope ["clock", "turn", "shift"] ["clock"] (defScope (top 15)) := ⟨rfl, rfl, rfl, by decide +kernel, rfl, by decide +kernel, by decide +kernel⟩
theorem bn15 (kV doc pm : Value) (an : Option Addr) (cdv ct : Value) (us : List Value) (hl : us.length = (["clock"] : List Str).length) : bindArgs (PySem.W.fnOf "moves_in" "moves_in" (defArgs (top 15)) (defBody (top 15)) (defScope (top 15)) .none kV doc pm an cdv ct) ⟨us, []⟩ = pure ((["clock"] : List Str).zip us) := match us, hl with | [_], _ => rfl
theorem sc16 : FnScope ["clock", "move", "shift", "turn"] ["clock", "move"] (defScope (top 16)) := ⟨rfl, rfl, rfl, by decide +kernel, rfl, by decide +kernel, by decide +kernel⟩
theorem bn16 (kV doc pm : Value) (an : Option Addr) (cdv ct : Value) (us : List Value) (hl : us.length = (["clock", "move"] : List Str).length) : bindArgs (PySem.W.fnOf "back_from" "back_from" (defArgs (top 16)) (defBody (top 16)) (defScope (top 16)) .none kV doc pm an cdv ct) ⟨us, []⟩ = pure ((["clock", "move"] : List Str).zip us) := match us, hl with | [_, _], _ => rfl
theorem sc18 : FnScope ["thing"] ["thing"] (defScope (top 18)) := ⟨rfl, rfl, rfl, by decide +kernel, rfl, by decide +kernel, by decide +kernel⟩
theorem bn18 (kV doc pm : Value) (an : Option Addr) (cdv ct : Value) (us : List Value) (hl : us.length = (["thing"] : List Str).length) : bindArgs (PySem.W.fnOf "is_integer" "is_integer" (defArgs (top 18)) (defBody (top 18)) (defScope (top 18)) .none kV doc pm an cdv ct) ⟨us, []⟩ = pure ((["thing"] : List Str).zip us) := match us, hl with | [_], _ => rfl
theorem sc19 : FnScope ["thing"] ["thing"] (defScope (top 19)) := ⟨rfl, rfl, rfl, by decide +kernel, rfl, by decide +kernel, by decide +kernel⟩
theorem bn19 (kV doc pm : Value) (an : Option Addr) (cdv ct : Value) (us : List Value) (hl : us.length = (["thing"] : List Str).length) : bindArgs (PySem.W.fnOf "is_number" "is_number" (defArgs (top 19)) (defBody (top 19)) (defScope (top 19)) .none kV doc pm an cdv ct) ⟨us, []⟩ = pure ((["thing"] : List Str).zip us) := match us, hl with | [_], _ => rfl
theorem sc20 : FnScope ["thing", "top", "bottom"] ["thing"] (defScope (top 20)) := ⟨rfl, rfl, rfl, by decide +kernel, rfl, by decide +kernel, by decide +kernel⟩
theorem bn20 (kV doc pm : Value) (an : Option Addr) (cdv ct : Value) (us : List Value) (hl : us.length = (["thing"] : List Str).length) : bindArgs (PySem.W.fnOf "is_quotient" "is_quotient" (defArgs (top 20)) (defBody (top 20)) (defScope (top 20)) .none kV doc pm an cdv ct) ⟨us, []⟩ = pure ((["thing"] : List Str).zip us) := match us, hl with | [_], _ => rfl
theorem sc21 : FnScope ["clock", "thing", "shift", "turn"] ["clock", "thing"] (defScope (top 21)) := ⟨rfl, rfl, rfl, by decide +kernel, rfl, by decide +kernel, by decide +kernel⟩
theorem bn21 (kV doc pm : Value) (an : Option Addr) (cdv ct : Value) (us : List Value) (hl : us.length = (["clock", "thing"] : List Str).length) : bindArgs (PySem.W.fnOf "is_move" "is_move" (defArgs (top 21)) (defBody (top 21)) (defScope (top 21)) .none kV doc pm an cdv ct) ⟨us, []⟩ = pure ((["clock", "thing"] : List Str).zip us) := match us, hl with | [_, _], _ => rfl
theorem sc23 : FnScope ["clock"] ["clock"] (defScope (top 23)) := ⟨rfl, rfl, rfl, by decide +kernel, rfl, by decide +kernel, by decide +kernel⟩
theorem bn23 (kV doc pm : Value) (an : Option Addr) (cdv ct : Value) (us : List Value) (hl : us.length = (["clock"] : List Str).length) : bindArgs (PySem.W.fnOf "moves_many" "moves_many" (defArgs (top 23)) (defBody (top 23)) (defScope (top 23)) .none kV doc pm an cdv ct) ⟨us, []⟩ = pure ((["clock"] : List Str).zip us) := match us, hl with | [_], _ => rfl
theorem sc24 : FnScope ["clock"] ["clock"] (defScope (top 24)) := ⟨rfl, rfl, rfl, by decide +kernel, rfl, by decide +kernel, by decide +kernel⟩
theorem bn24 (kV doc pm : Value) (an : Option Addr) (cdv ct : Value) (us : List Value) (hl : us.length = (["clock"] : List Str).length) : bindArgs (PySem.W.fnOf "turns_many" "turns_many" (defArgs (top 24)) (defBody (top 24)) (defScope (top 24)) .none kV doc pm an cdv ct) ⟨us, []⟩ = pure ((["clock"] : List Str).zip us) := match us, hl with | [_], _ => rfl
theorem sc26 : FnScope ["clock", "thing", "bottom", "weights", "shared", "weight"] ["clock", "thing"] (defScope (top 26)) := ⟨rfl, rfl, rfl, by decide +kernel, rfl, by decide +kernel, by decide +kernel⟩
theorem bn26 (kV doc pm : Value) (an : Option Addr) (cdv ct : Value) (us : List Value) (hl : us.length = (["clock", "thing"] : List Str).length) : bindArgs (PySem.W.fnOf "is_deal" "is_deal" (defArgs (top 26)) (defBody (top 26)) (defScope (top 26)) .none kV doc pm an cdv ct) ⟨us, []⟩ = pure ((["clock", "thing"] : List Str).zip us) := match us, hl with | [_, _], _ => rfl
theorem sc28 : FnScope ["clock", "thing", "word"] ["clock", "thing", "word"] (defScope (top 28)) := ⟨rfl, rfl, rfl, by decide +kernel, rfl, by decide +kernel, by decide +kernel⟩
theorem bn28 (kV doc pm : Value) (an : Option Addr) (cdv ct : Value) (us : List Value) (hl : us.length = (["clock", "thing", "word"] : List Str).length) : bindArgs (PySem.W.fnOf "want_deal" "want_deal" (defArgs (top 28)) (defBody (top 28)) (defScope (top 28)) .none kV doc pm an cdv ct) ⟨us, []⟩ = pure ((["clock", "thing", "word"] : List Str).zip us) := match us, hl with | [_, _, _], _ => rfl
theorem sc29 : FnScope ["clock", "one", "other"] ["clock", "one", "other"] (defScope (top 29)) := ⟨rfl, rfl, rfl, by decide +kernel, rfl, by decide +kernel, by decide +kernel⟩
theorem bn29 (kV doc pm : Value) (an : Option Addr) (cdv ct : Value) (us : List Value) (hl : us.length = (["clock", "one", "other"] : List Str).length) : bindArgs (PySem.W.fnOf "want_two" "want_two" (defArgs (top 29)) (defBody (top 29)) (defScope (top 29)) .none kV doc pm an cdv ct) ⟨us, []⟩ = pure ((["clock", "one", "other"] : List Str).zip us) := match us, hl with | [_, _, _], _ => rfl
theorem sc30 : FnScope ["thing"] ["thing"] (defScope (top 30)) := ⟨rfl, rfl, rfl, by decide +kernel, rfl, by decide +kernel, by decide +kernel⟩
theorem bn30 (kV doc pm : Value) (an : Option Addr) (cdv ct : Value) (us : List Value) (hl : us.length = (["thing"] : List Str).length) : bindArgs (PySem.W.fnOf "want_quotient" "want_quotient" (defArgs (top 30)) (defBody (top 30)) (defScope (top 30)) .none kV doc pm an cdv ct) ⟨us, []⟩ = pure ((["thing"] : List Str).zip us) := match us, hl with | [_], _ => rfl
theorem sc32 : FnScope ["clock", "turn"] ["clock", "turn"] (defScope (top 32)) := ⟨rfl, rfl, rfl, by decide +kernel, rfl, by decide +kernel, by decide +kernel⟩
theorem bn32 (kV doc pm : Value) (an : Option Addr) (cdv ct : Value) (us : List Value) (hl : us.length = (["clock", "turn"] : List Str).length) : bindArgs (PySem.W.fnOf "factor_at" "factor_at" (defArgs (top 32)) (defBody (top 32)) (defScope (top 32)) .none kV doc pm an cdv ct) ⟨us, []⟩ = pure ((["clock", "turn"] : List Str).zip us) := match us, hl with | [_, _], _ => rfl
theorem sc33 : FnScope ["clock", "move"] ["clock", "move"] (defScope (top 33)) := ⟨rfl, rfl, rfl, by decide +kernel, rfl, by decide +kernel, by decide +kernel⟩
theorem bn33 (kV doc pm : Value) (an : Option Addr) (cdv ct : Value) (us : List Value) (hl : us.length = (["clock", "move"] : List Str).length) : bindArgs (PySem.W.fnOf "back_of" "back_of" (defArgs (top 33)) (defBody (top 33)) (defScope (top 33)) .none kV doc pm an cdv ct) ⟨us, []⟩ = pure ((["clock", "move"] : List Str).zip us) := match us, hl with | [_, _], _ => rfl
theorem sc34 : FnScope ["clock", "move"] ["clock", "move"] (defScope (top 34)) := ⟨rfl, rfl, rfl, by decide +kernel, rfl, by decide +kernel, by decide +kernel⟩
theorem bn34 (kV doc pm : Value) (an : Option Addr) (cdv ct : Value) (us : List Value) (hl : us.length = (["clock", "move"] : List Str).length) : bindArgs (PySem.W.fnOf "number_of" "number_of" (defArgs (top 34)) (defBody (top 34)) (defScope (top 34)) .none kV doc pm an cdv ct) ⟨us, []⟩ = pure ((["clock", "move"] : List Str).zip us) := match us, hl with | [_, _], _ => rfl
theorem sc35 : FnScope ["clock"] ["clock"] (defScope (top 35)) := ⟨rfl, rfl, rfl, by decide +kernel, rfl, by decide +kernel, by decide +kernel⟩
theorem bn35 (kV doc pm : Value) (an : Option Addr) (cdv ct : Value) (us : List Value) (hl : us.length = (["clock"] : List Str).length) : bindArgs (PySem.W.fnOf "all_moves" "all_moves" (defArgs (top 35)) (defBody (top 35)) (defScope (top 35)) .none kV doc pm an cdv ct) ⟨us, []⟩ = pure ((["clock"] : List Str).zip us) := match us, hl with | [_], _ => rfl
theorem sc37 : FnScope ["clock", "bottom", "weights", "shared", "weight"] ["clock", "bottom", "weights"] (defScope (top 37)) := ⟨rfl, rfl, rfl, by decide +kernel, rfl, by decide +kernel, by decide +kernel⟩
theorem bn37 (kV doc pm : Value) (an : Option Addr) (cdv ct : Value) (us : List Value) (hl : us.length = (["clock", "bottom", "weights"] : List Str).length) : bindArgs (PySem.W.fnOf "settled" "settled" (defArgs (top 37)) (defBody (top 37)) (defScope (top 37)) .none kV doc pm an cdv ct) ⟨us, []⟩ = pure ((["clock", "bottom", "weights"] : List Str).zip us) := match us, hl with | [_, _, _], _ => rfl
theorem sc38 : FnScope ["clock", "number"] ["clock"] (defScope (top 38)) := ⟨rfl, rfl, rfl, by decide +kernel, rfl, by decide +kernel, by decide +kernel⟩
theorem bn38 (kV doc pm : Value) (an : Option Addr) (cdv ct : Value) (us : List Value) (hl : us.length = (["clock"] : List Str).length) : bindArgs (PySem.W.fnOf "idle_deal" "idle_deal" (defArgs (top 38)) (defBody (top 38)) (defScope (top 38)) .none kV doc pm an cdv ct) ⟨us, []⟩ = pure ((["clock"] : List Str).zip us) := match us, hl with | [_], _ => rfl
theorem sc39 : FnScope ["clock", "quotient", "many", "_"] ["clock", "quotient"] (defScope (top 39)) := ⟨rfl, rfl, rfl, by decide +kernel, rfl, by decide +kernel, by decide +kernel⟩
theorem bn39 (kV doc pm : Value) (an : Option Addr) (cdv ct : Value) (us : List Value) (hl : us.length = (["clock", "quotient"] : List Str).length) : bindArgs (PySem.W.fnOf "even_deal" "even_deal" (defArgs (top 39)) (defBody (top 39)) (defScope (top 39)) .none kV doc pm an cdv ct) ⟨us, []⟩ = pure ((["clock", "quotient"] : List Str).zip us) := match us, hl with | [_, _], _ => rfl
theorem sc41 : FnScope ["clock", "one", "other", "beats", "turns", "factors", "turn", "seconds", "number", "weight", "sums", "_", "shift", "later", "more", "also", "place"] ["clock", "one", "other"] (defScope (top 41)) := ⟨rfl, rfl, rfl, by decide +kernel, rfl, by decide +kernel, by decide +kernel⟩
theorem bn41 (kV doc pm : Value) (an : Option Addr) (cdv ct : Value) (us : List Value) (hl : us.length = (["clock", "one", "other"] : List Str).length) : bindArgs (PySem.W.fnOf "dealt" "dealt" (defArgs (top 41)) (defBody (top 41)) (defScope (top 41)) .none kV doc pm an cdv ct) ⟨us, []⟩ = pure ((["clock", "one", "other"] : List Str).zip us) := match us, hl with | [_, _, _], _ => rfl
theorem sc43 : FnScope ["clock", "one", "other", "low", "high", "weights", "first", "second"] ["clock", "one", "other"] (defScope (top 43)) := ⟨rfl, rfl, rfl, by decide +kernel, rfl, by decide +kernel, by decide +kernel⟩
theorem bn43 (kV doc pm : Value) (an : Option Addr) (cdv ct : Value) (us : List Value) (hl : us.length = (["clock", "one", "other"] : List Str).length) : bindArgs (PySem.W.fnOf "taken" "taken" (defArgs (top 43)) (defBody (top 43)) (defScope (top 43)) .none kV doc pm an cdv ct) ⟨us, []⟩ = pure ((["clock", "one", "other"] : List Str).zip us) := match us, hl with | [_, _, _], _ => rfl
theorem sc44 : FnScope ["clock", "deal", "quotient", "weights", "weight"] ["clock", "deal", "quotient"] (defScope (top 44)) := ⟨rfl, rfl, rfl, by decide +kernel, rfl, by decide +kernel, by decide +kernel⟩
theorem bn44 (kV doc pm : Value) (an : Option Addr) (cdv ct : Value) (us : List Value) (hl : us.length = (["clock", "deal", "quotient"] : List Str).length) : bindArgs (PySem.W.fnOf "scaled" "scaled" (defArgs (top 44)) (defBody (top 44)) (defScope (top 44)) .none kV doc pm an cdv ct) ⟨us, []⟩ = pure ((["clock", "deal", "quotient"] : List Str).zip us) := match us, hl with | [_, _, _], _ => rfl
theorem sc46 : FnScope ["clock", "deal", "backs", "move", "number"] ["clock", "deal"] (defScope (top 46)) := ⟨rfl, rfl, rfl, by decide +kernel, rfl, by decide +kernel, by decide +kernel⟩
theorem bn46 (kV doc pm : Value) (an : Option Addr) (cdv ct : Value) (us : List Value) (hl : us.length = (["clock", "deal"] : List Str).length) : bindArgs (PySem.W.fnOf "mirrored" "mirrored" (defArgs (top 46)) (defBody (top 46)) (defScope (top 46)) .none kV doc pm an cdv ct) ⟨us, []⟩ = pure ((["clock", "deal"] : List Str).zip us) := match us, hl with | [_, _], _ => rfl
theorem sc48 : FnScope ["one", "other"] ["one", "other"] (defScope (top 48)) := ⟨rfl, rfl, rfl, by decide +kernel, rfl, by decide +kernel, by decide +kernel⟩
theorem bn48 (kV doc pm : Value) (an : Option Addr) (cdv ct : Value) (us : List Value) (hl : us.length = (["one", "other"] : List Str).length) : bindArgs (PySem.W.fnOf "common_of" "common_of" (defArgs (top 48)) (defBody (top 48)) (defScope (top 48)) .none kV doc pm an cdv ct) ⟨us, []⟩ = pure ((["one", "other"] : List Str).zip us) := match us, hl with | [_, _], _ => rfl
theorem sc50 : FnScope ["thing", "entry"] ["thing"] (defScope (top 50)) := ⟨rfl, rfl, rfl, by decide +kernel, rfl, by decide +kernel, by decide +kernel⟩
theorem bn50 (kV doc pm : Value) (an : Option Addr) (cdv ct : Value) (us : List Value) (hl : us.length = (["thing"] : List Str).length) : bindArgs (PySem.W.fnOf "_is_row" "_is_row" (defArgs (top 50)) (defBody (top 50)) (defScope (top 50)) .none kV doc pm an cdv ct) ⟨us, []⟩ = pure ((["thing"] : List Str).zip us) := match us, hl with | [_], _ => rfl
theorem sc51 : FnScope ["thing", "row"] ["thing"] (defScope (top 51)) := ⟨rfl, rfl, rfl, by decide +kernel, rfl, by decide +kernel, by decide +kernel⟩
theorem bn51 (kV doc pm : Value) (an : Option Addr) (cdv ct : Value) (us : List Value) (hl : us.length = (["thing"] : List Str).length) : bindArgs (PySem.W.fnOf "_want_rows" "_want_rows" (defArgs (top 51)) (defBody (top 51)) (defScope (top 51)) .none kV doc pm an cdv ct) ⟨us, []⟩ = pure ((["thing"] : List Str).zip us) := match us, hl with | [_], _ => rfl
theorem sc52 : FnScope ["row", "shared", "entry"] ["row"] (defScope (top 52)) := ⟨rfl, rfl, rfl, by decide +kernel, rfl, by decide +kernel, by decide +kernel⟩
theorem bn52 (kV doc pm : Value) (an : Option Addr) (cdv ct : Value) (us : List Value) (hl : us.length = (["row"] : List Str).length) : bindArgs (PySem.W.fnOf "_lowest" "_lowest" (defArgs (top 52)) (defBody (top 52)) (defScope (top 52)) .none kV doc pm an cdv ct) ⟨us, []⟩ = pure ((["row"] : List Str).zip us) := match us, hl with | [_], _ => rfl
theorem sc53 : FnScope ["row", "step", "column", "shared", "up", "down", "entry", "other"] ["row", "step", "column"] (defScope (top 53)) := ⟨rfl, rfl, rfl, by decide +kernel, rfl, by decide +kernel, by decide +kernel⟩
theorem bn53 (kV doc pm : Value) (an : Option Addr) (cdv ct : Value) (us : List Value) (hl : us.length = (["row", "step", "column"] : List Str).length) : bindArgs (PySem.W.fnOf "_cleared" "_cleared" (defArgs (top 53)) (defBody (top 53)) (defScope (top 53)) .none kV doc pm an cdv ct) ⟨us, []⟩ = pure ((["row", "step", "column"] : List Str).zip us) := match us, hl with | [_, _, _], _ => rfl
theorem sc54 : FnScope ["rows", "column", "least", "place", "row"] ["rows", "column"] (defScope (top 54)) := ⟨rfl, rfl, rfl, by decide +kernel, rfl, by decide +kernel, by decide +kernel⟩
theorem bn54 (kV doc pm : Value) (an : Option Addr) (cdv ct : Value) (us : List Value) (hl : us.length = (["rows", "column"] : List Str).length) : bindArgs (PySem.W.fnOf "_least_place" "_least_place" (defArgs (top 54)) (defBody (top 54)) (defScope (top 54)) .none kV doc pm an cdv ct) ⟨us, []⟩ = pure ((["rows", "column"] : List Str).zip us) := match us, hl with | [_, _], _ => rfl
theorem sc55 : FnScope ["rows", "wide", "steps", "left", "row", "column", "least", "step", "place"] ["rows", "wide"] (defScope (top 55)) := ⟨rfl, rfl, rfl, by decide +kernel, rfl, by decide +kernel, by decide +kernel⟩
theorem bn55 (kV doc pm : Value) (an : Option Addr) (cdv ct : Value) (us : List Value) (hl : us.length = (["rows", "wide"] : List Str).length) : bindArgs (PySem.W.fnOf "_stepped" "_stepped" (defArgs (top 55)) (defBody (top 55)) (defScope (top 55)) .none kV doc pm an cdv ct) ⟨us, []⟩ = pure ((["rows", "wide"] : List Str).zip us) := match us, hl with | [_, _], _ => rfl
theorem sc56 : FnScope ["steps", "many", "bottom", "tops", "_", "column", "line", "ahead", "later", "wanted", "shared", "grown", "place", "top"] ["steps", "many"] (defScope (top 56)) := ⟨rfl, rfl, rfl, by decide +kernel, rfl, by decide +kernel, by decide +kernel⟩
theorem bn56 (kV doc pm : Value) (an : Option Addr) (cdv ct : Value) (us : List Value) (hl : us.length = (["steps", "many"] : List Str).length) : bindArgs (PySem.W.fnOf "_solved" "_solved" (defArgs (top 56)) (defBody (top 56)) (defScope (top 56)) .none kV doc pm an cdv ct) ⟨us, []⟩ = pure ((["steps", "many"] : List Str).zip us) := match us, hl with | [_, _], _ => rfl
theorem sc57 : FnScope ["rows", "row", "many", "lines", "other", "column", "entry", "steps", "bottom", "tops", "shared", "top"] ["rows", "row"] (defScope (top 57)) := ⟨rfl, rfl, rfl, by decide +kernel, rfl, by decide +kernel, by decide +kernel⟩
theorem bn57 (kV doc pm : Value) (an : Option Addr) (cdv ct : Value) (us : List Value) (hl : us.length = (["rows", "row"] : List Str).length) : bindArgs (PySem.W.fnOf "combined" "combined" (defArgs (top 57)) (defBody (top 57)) (defScope (top 57)) .none kV doc pm an cdv ct) ⟨us, []⟩ = pure ((["rows", "row"] : List Str).zip us) := match us, hl with | [_, _], _ => rfl
theorem sc59 : FnScope ["beats", "factors", "number", "weights", "turns", "shift", "turn", "row", "later", "factor", "start", "beat"] ["beats", "factors", "number", "weights"] (defScope (top 59)) := ⟨rfl, rfl, rfl, by decide +kernel, rfl, by decide +kernel, by decide +kernel⟩
theorem bn59 (kV doc pm : Value) (an : Option Addr) (cdv ct : Value) (us : List Value) (hl : us.length = (["beats", "factors", "number", "weights"] : List Str).length) : bindArgs (PySem.W.fnOf "shifted_row" "shifted_row" (defArgs (top 59)) (defBody (top 59)) (defScope (top 59)) .none kV doc pm an cdv ct) ⟨us, []⟩ = pure ((["beats", "factors", "number", "weights"] : List Str).zip us) := match us, hl with | [_, _, _, _], _ => rfl
theorem sc60 : FnScope ["clock", "weights", "beats", "turns", "factors", "turn", "number"] ["clock", "weights"] (defScope (top 60)) := ⟨rfl, rfl, rfl, by decide +kernel, rfl, by decide +kernel, by decide +kernel⟩
theorem bn60 (kV doc pm : Value) (an : Option Addr) (cdv ct : Value) (us : List Value) (hl : us.length = (["clock", "weights"] : List Str).length) : bindArgs (PySem.W.fnOf "shifted_rows" "shifted_rows" (defArgs (top 60)) (defBody (top 60)) (defScope (top 60)) .none kV doc pm an cdv ct) ⟨us, []⟩ = pure ((["clock", "weights"] : List Str).zip us) := match us, hl with | [_, _], _ => rfl
theorem sc61 : FnScope ["clock", "deal", "wanted", "found", "bottom", "tops", "top"] ["clock", "deal", "wanted"] (defScope (top 61)) := ⟨rfl, rfl, rfl, by decide +kernel, rfl, by decide +kernel, by decide +kernel⟩
theorem bn61 (kV doc pm : Value) (an : Option Addr) (cdv ct : Value) (us : List Value) (hl : us.length = (["clock", "deal", "wanted"] : List Str).length) : bindArgs (PySem.W.fnOf "solved" "solved" (defArgs (top 61)) (defBody (top 61)) (defScope (top 61)) .none kV doc pm an cdv ct) ⟨us, []⟩ = pure ((["clock", "deal", "wanted"] : List Str).zip us) := match us, hl with | [_, _, _], _ => rfl
theorem sc62 : FnScope ["deal", "share", "weight"] ["deal"] (defScope (top 62)) := ⟨rfl, rfl, rfl, by decide +kernel, rfl, by decide +kernel, by decide +kernel⟩
theorem bn62 (kV doc pm : Value) (an : Option Addr) (cdv ct : Value) (us : List Value) (hl : us.length = (["deal"] : List Str).length) : bindArgs (PySem.W.fnOf "weights_share" "weights_share" (defArgs (top 62)) (defBody (top 62)) (defScope (top 62)) .none kV doc pm an cdv ct) ⟨us, []⟩ = pure ((["deal"] : List Str).zip us) := match us, hl with | [_], _ => rfl
theorem sc63 : FnScope ["deal", "share", "weight"] ["deal"] (defScope (top 63)) := ⟨rfl, rfl, rfl, by decide +kernel, rfl, by decide +kernel, by decide +kernel⟩
theorem bn63 (kV doc pm : Value) (an : Option Addr) (cdv ct : Value) (us : List Value) (hl : us.length = (["deal"] : List Str).length) : bindArgs (PySem.W.fnOf "small_deal" "small_deal" (defArgs (top 63)) (defBody (top 63)) (defScope (top 63)) .none kV doc pm an cdv ct) ⟨us, []⟩ = pure ((["deal"] : List Str).zip us) := match us, hl with | [_], _ => rfl
theorem sc64 : FnScope ["clock", "deal", "small", "mirror", "square", "found"] ["clock", "deal"] (defScope (top 64)) := ⟨rfl, rfl, rfl, by decide +kernel, rfl, by decide +kernel, by decide +kernel⟩
theorem bn64 (kV doc pm : Value) (an : Option Addr) (cdv ct : Value) (us : List Value) (hl : us.length = (["clock", "deal"] : List Str).length) : bindArgs (PySem.W.fnOf "recall_made" "recall_made" (defArgs (top 64)) (defBody (top 64)) (defScope (top 64)) .none kV doc pm an cdv ct) ⟨us, []⟩ = pure ((["clock", "deal"] : List Str).zip us) := match us, hl with | [_, _], _ => rfl
theorem sc65 : FnScope ["clock", "deal", "small", "mirror"] ["clock", "deal"] (defScope (top 65)) := ⟨rfl, rfl, rfl, by decide +kernel, rfl, by decide +kernel, by decide +kernel⟩
theorem bn65 (kV doc pm : Value) (an : Option Addr) (cdv ct : Value) (us : List Value) (hl : us.length = (["clock", "deal"] : List Str).length) : bindArgs (PySem.W.fnOf "left_unit" "left_unit" (defArgs (top 65)) (defBody (top 65)) (defScope (top 65)) .none kV doc pm an cdv ct) ⟨us, []⟩ = pure ((["clock", "deal"] : List Str).zip us) := match us, hl with | [_, _], _ => rfl
theorem sc66 : FnScope ["clock", "deal"] ["clock", "deal"] (defScope (top 66)) := ⟨rfl, rfl, rfl, by decide +kernel, rfl, by decide +kernel, by decide +kernel⟩
theorem bn66 (kV doc pm : Value) (an : Option Addr) (cdv ct : Value) (us : List Value) (hl : us.length = (["clock", "deal"] : List Str).length) : bindArgs (PySem.W.fnOf "right_unit" "right_unit" (defArgs (top 66)) (defBody (top 66)) (defScope (top 66)) .none kV doc pm an cdv ct) ⟨us, []⟩ = pure ((["clock", "deal"] : List Str).zip us) := match us, hl with | [_, _], _ => rfl
theorem sc68 : FnScope ["clock", "thing", "name"] ["clock", "thing", "name"] (defScope (top 68)) := ⟨rfl, rfl, rfl, by decide +kernel, rfl, by decide +kernel, by decide +kernel⟩
theorem bn68 (kV doc pm : Value) (an : Option Addr) (cdv ct : Value) (us : List Value) (hl : us.length = (["clock", "thing", "name"] : List Str).length) : bindArgs (PySem.W.fnOf "need_deal" "need_deal" (defArgs (top 68)) (defBody (top 68)) (defScope (top 68)) .none kV doc pm an cdv ct) ⟨us, []⟩ = pure ((["clock", "thing", "name"] : List Str).zip us) := match us, hl with | [_, _, _], _ => rfl
theorem sc70 : FnScope ["clock", "one", "other"] ["clock", "one", "other"] (defScope (top 70)) := ⟨rfl, rfl, rfl, by decide +kernel, rfl, by decide +kernel, by decide +kernel⟩
theorem bn70 (kV doc pm : Value) (an : Option Addr) (cdv ct : Value) (us : List Value) (hl : us.length = (["clock", "one", "other"] : List Str).length) : bindArgs (PySem.W.fnOf "need_deals" "need_deals" (defArgs (top 70)) (defBody (top 70)) (defScope (top 70)) .none kV doc pm an cdv ct) ⟨us, []⟩ = pure ((["clock", "one", "other"] : List Str).zip us) := match us, hl with | [_, _, _], _ => rfl
theorem sc71 : FnScope ["thing"] ["thing"] (defScope (top 71)) := ⟨rfl, rfl, rfl, by decide +kernel, rfl, by decide +kernel, by decide +kernel⟩
theorem bn71 (kV doc pm : Value) (an : Option Addr) (cdv ct : Value) (us : List Value) (hl : us.length = (["thing"] : List Str).length) : bindArgs (PySem.W.fnOf "need_side" "need_side" (defArgs (top 71)) (defBody (top 71)) (defScope (top 71)) .none kV doc pm an cdv ct) ⟨us, []⟩ = pure ((["thing"] : List Str).zip us) := match us, hl with | [_], _ => rfl
theorem sc73 : FnScope ["clock", "one", "other"] ["clock", "one", "other"] (defScope (top 73)) := ⟨rfl, rfl, rfl, by decide +kernel, rfl, by decide +kernel, by decide +kernel⟩
theorem bn73 (kV doc pm : Value) (an : Option Addr) (cdv ct : Value) (us : List Value) (hl : us.length = (["clock", "one", "other"] : List Str).length) : bindArgs (PySem.W.fnOf "is_made_left" "is_made_left" (defArgs (top 73)) (defBody (top 73)) (defScope (top 73)) .none kV doc pm an cdv ct) ⟨us, []⟩ = pure ((["clock", "one", "other"] : List Str).zip us) := match us, hl with | [_, _, _], _ => rfl
theorem sc74 : FnScope ["clock", "one", "other"] ["clock", "one", "other"] (defScope (top 74)) := ⟨rfl, rfl, rfl, by decide +kernel, rfl, by decide +kernel, by decide +kernel⟩
theorem bn74 (kV doc pm : Value) (an : Option Addr) (cdv ct : Value) (us : List Value) (hl : us.length = (["clock", "one", "other"] : List Str).length) : bindArgs (PySem.W.fnOf "is_made_right" "is_made_right" (defArgs (top 74)) (defBody (top 74)) (defScope (top 74)) .none kV doc pm an cdv ct) ⟨us, []⟩ = pure ((["clock", "one", "other"] : List Str).zip us) := match us, hl with | [_, _, _], _ => rfl
theorem sc75 : FnScope ["clock", "one", "other", "recall", "left"] ["clock", "one", "other"] (defScope (top 75)) := ⟨rfl, rfl, rfl, by decide +kernel, rfl, by decide +kernel, by decide +kernel⟩
theorem bn75 (kV doc pm : Value) (an : Option Addr) (cdv ct : Value) (us : List Value) (hl : us.length = (["clock", "one", "other"] : List Str).length) : bindArgs (PySem.W.fnOf "made_left" "made_left" (defArgs (top 75)) (defBody (top 75)) (defScope (top 75)) .none kV doc pm an cdv ct) ⟨us, []⟩ = pure ((["clock", "one", "other"] : List Str).zip us) := match us, hl with | [_, _, _], _ => rfl
theorem sc76 : FnScope ["clock", "one", "other", "recall", "right"] ["clock", "one", "other"] (defScope (top 76)) := ⟨rfl, rfl, rfl, by decide +kernel, rfl, by decide +kernel, by decide +kernel⟩
theorem bn76 (kV doc pm : Value) (an : Option Addr) (cdv ct : Value) (us : List Value) (hl : us.length = (["clock", "one", "other"] : List Str).length) : bindArgs (PySem.W.fnOf "made_right" "made_right" (defArgs (top 76)) (defBody (top 76)) (defScope (top 76)) .none kV doc pm an cdv ct) ⟨us, []⟩ = pure ((["clock", "one", "other"] : List Str).zip us) := match us, hl with | [_, _, _], _ => rfl
theorem sc78 : FnScope ["top", "bottom"] ["top", "bottom"] (defScope (top 78)) := ⟨rfl, rfl, rfl, by decide +kernel, rfl, by decide +kernel, by decide +kernel⟩
theorem bn78 (kV doc pm : Value) (an : Option Addr) (cdv ct : Value) (us : List Value) (hl : us.length = (["top", "bottom"] : List Str).length) : bindArgs (PySem.W.fnOf "quotient_of" "quotient_of" (defArgs (top 78)) (defBody (top 78)) (defScope (top 78)) .none kV doc pm an cdv ct) ⟨us, []⟩ = pure ((["top", "bottom"] : List Str).zip us) := match us, hl with | [_, _], _ => rfl
theorem sc80 : FnScope ["clock", "deal"] ["clock", "deal"] (defScope (top 80)) := ⟨rfl, rfl, rfl, by decide +kernel, rfl, by decide +kernel, by decide +kernel⟩
theorem bn80 (kV doc pm : Value) (an : Option Addr) (cdv ct : Value) (us : List Value) (hl : us.length = (["clock", "deal"] : List Str).length) : bindArgs (PySem.W.fnOf "total_of" "total_of" (defArgs (top 80)) (defBody (top 80)) (defScope (top 80)) .none kV doc pm an cdv ct) ⟨us, []⟩ = pure ((["clock", "deal"] : List Str).zip us) := match us, hl with | [_, _], _ => rfl
theorem sc82 : FnScope ["clock", "name", "thing"] ["clock", "name", "thing"] (defScope (top 82)) := ⟨rfl, rfl, rfl, by decide +kernel, rfl, by decide +kernel, by decide +kernel⟩
theorem bn82 (kV doc pm : Value) (an : Option Addr) (cdv ct : Value) (us : List Value) (hl : us.length = (["clock", "name", "thing"] : List Str).length) : bindArgs (PySem.W.fnOf "need_deal" "need_deal" (defArgs (top 82)) (defBody (top 82)) (defScope (top 82)) .none kV doc pm an cdv ct) ⟨us, []⟩ = pure ((["clock", "name", "thing"] : List Str).zip us) := match us, hl with | [_, _, _], _ => rfl
theorem sc84 : FnScope ["clock", "deal"] ["clock", "deal"] (defScope (top 84)) := ⟨rfl, rfl, rfl, by decide +kernel, rfl, by decide +kernel, by decide +kernel⟩
theorem bn84 (kV doc pm : Value) (an : Option Addr) (cdv ct : Value) (us : List Value) (hl : us.length = (["clock", "deal"] : List Str).length) : bindArgs (PySem.W.fnOf "without_even" "without_even" (defArgs (top 84)) (defBody (top 84)) (defScope (top 84)) .none kV doc pm an cdv ct) ⟨us, []⟩ = pure ((["clock", "deal"] : List Str).zip us) := match us, hl with | [_, _], _ => rfl
theorem sc86 : FnScope ["clock", "deal"] ["clock", "deal"] (defScope (top 86)) := ⟨rfl, rfl, rfl, by decide +kernel, rfl, by decide +kernel, by decide +kernel⟩
theorem bn86 (kV doc pm : Value) (an : Option Addr) (cdv ct : Value) (us : List Value) (hl : us.length = (["clock", "deal"] : List Str).length) : bindArgs (PySem.W.fnOf "left_side" "left_side" (defArgs (top 86)) (defBody (top 86)) (defScope (top 86)) .none kV doc pm an cdv ct) ⟨us, []⟩ = pure ((["clock", "deal"] : List Str).zip us) := match us, hl with | [_, _], _ => rfl
theorem sc87 : FnScope ["clock", "deal"] ["clock", "deal"] (defScope (top 87)) := ⟨rfl, rfl, rfl, by decide +kernel, rfl, by decide +kernel, by decide +kernel⟩
theorem bn87 (kV doc pm : Value) (an : Option Addr) (cdv ct : Value) (us : List Value) (hl : us.length = (["clock", "deal"] : List Str).length) : bindArgs (PySem.W.fnOf "right_side" "right_side" (defArgs (top 87)) (defBody (top 87)) (defScope (top 87)) .none kV doc pm an cdv ct) ⟨us, []⟩ = pure ((["clock", "deal"] : List Str).zip us) := match us, hl with | [_, _], _ => rfl
theorem sc89 : FnScope ["clock", "deal", "rest"] ["clock", "deal"] (defScope (top 89)) := ⟨rfl, rfl, rfl, by decide +kernel, rfl, by decide +kernel, by decide +kernel⟩
theorem bn89 (kV doc pm : Value) (an : Option Addr) (cdv ct : Value) (us : List Value) (hl : us.length = (["clock", "deal"] : List Str).length) : bindArgs (PySem.W.fnOf "evener_right" "evener_right" (defArgs (top 89)) (defBody (top 89)) (defScope (top 89)) .none kV doc pm an cdv ct) ⟨us, []⟩ = pure ((["clock", "deal"] : List Str).zip us) := match us, hl with | [_, _], _ => rfl
theorem sc91 : FnScope ["clock", "side", "one", "other"] ["clock", "side", "one", "other"] (defScope (top 91)) := ⟨rfl, rfl, rfl, by decide +kernel, rfl, by decide +kernel, by decide +kernel⟩
theorem bn91 (kV doc pm : Value) (an : Option Addr) (cdv ct : Value) (us : List Value) (hl : us.length = (["clock", "side", "one", "other"] : List Str).length) : bindArgs (PySem.W.fnOf "beside" "beside" (defArgs (top 91)) (defBody (top 91)) (defScope (top 91)) .none kV doc pm an cdv ct) ⟨us, []⟩ = pure ((["clock", "side", "one", "other"] : List Str).zip us) := match us, hl with | [_, _, _, _], _ => rfl
theorem sc92 : FnScope ["clock", "side", "one", "other", "recall", "unit"] ["clock", "side", "one", "other"] (defScope (top 92)) := ⟨rfl, rfl, rfl, by decide +kernel, rfl, by decide +kernel, by decide +kernel⟩
theorem bn92 (kV doc pm : Value) (an : Option Addr) (cdv ct : Value) (us : List Value) (hl : us.length = (["clock", "side", "one", "other"] : List Str).length) : bindArgs (PySem.W.fnOf "made_paper" "made_paper" (defArgs (top 92)) (defBody (top 92)) (defScope (top 92)) .none kV doc pm an cdv ct) ⟨us, []⟩ = pure ((["clock", "side", "one", "other"] : List Str).zip us) := match us, hl with | [_, _, _, _], _ => rfl
theorem sc93 : FnScope ["deal", "weight"] ["deal"] (defScope (top 93)) := ⟨rfl, rfl, rfl, by decide +kernel, rfl, by decide +kernel, by decide +kernel⟩
theorem bn93 (kV doc pm : Value) (an : Option Addr) (cdv ct : Value) (us : List Value) (hl : us.length = (["deal"] : List Str).length) : bindArgs (PySem.W.fnOf "is_zero" "is_zero" (defArgs (top 93)) (defBody (top 93)) (defScope (top 93)) .none kV doc pm an cdv ct) ⟨us, []⟩ = pure ((["deal"] : List Str).zip us) := match us, hl with | [_], _ => rfl
theorem sc94 : FnScope ["clock", "thing"] ["clock", "thing"] (defScope (top 94)) := ⟨rfl, rfl, rfl, by decide +kernel, rfl, by decide +kernel, by decide +kernel⟩
theorem bn94 (kV doc pm : Value) (an : Option Addr) (cdv ct : Value) (us : List Value) (hl : us.length = (["clock", "thing"] : List Str).length) : bindArgs (PySem.W.fnOf "is_paper" "is_paper" (defArgs (top 94)) (defBody (top 94)) (defScope (top 94)) .none kV doc pm an cdv ct) ⟨us, []⟩ = pure ((["clock", "thing"] : List Str).zip us) := match us, hl with | [_, _], _ => rfl
theorem sc95 : FnScope ["clock", "side", "one", "other", "thing", "word", "shown"] ["clock", "side", "one", "other", "thing"] (defScope (top 95)) := ⟨rfl, rfl, rfl, by decide +kernel, rfl, by decide +kernel, by decide +kernel⟩
theorem bn95 (kV doc pm : Value) (an : Option Addr) (cdv ct : Value) (us : List Value) (hl : us.length = (["clock", "side", "one", "other", "thing"] : List Str).length) : bindArgs (PySem.W.fnOf "lets_made" "lets_made" (defArgs (top 95)) (defBody (top 95)) (defScope (top 95)) .none kV doc pm an cdv ct) ⟨us, []⟩ = pure ((["clock", "side", "one", "other", "thing"] : List Str).zip us) := match us, hl with | [_, _, _, _, _], _ => rfl
theorem sc97 : FnScope ["_law_script", "_law_k"] ["_law_script", "_law_k"] (defScope (top 97)) := ⟨rfl, rfl, rfl, by decide +kernel, rfl, by decide +kernel, by decide +kernel⟩
theorem bn97 (kV doc pm : Value) (an : Option Addr) (cdv ct : Value) (us : List Value) (hl : us.length = (["_law_script", "_law_k"] : List Str).length) : bindArgs (PySem.W.fnOf "_law_cell" "_law_cell" (defArgs (top 97)) (defBody (top 97)) (defScope (top 97)) .none kV doc pm an cdv ct) ⟨us, []⟩ = pure ((["_law_script", "_law_k"] : List Str).zip us) := match us, hl with | [_, _], _ => rfl
theorem sc98 : FnScope ["_law_cell_here", "_law_many", "_law_size", "_law_rest", "_law_great", "_law_state", "_law_row_here", "_law_k"] ["_law_cell_here", "_law_many", "_law_size"] (defScope (top 98)) := ⟨rfl, rfl, rfl, by decide +kernel, rfl, by decide +kernel, by decide +kernel⟩
theorem bn98 (kV doc pm : Value) (an : Option Addr) (cdv ct : Value) (us : List Value) (hl : us.length = (["_law_cell_here", "_law_many", "_law_size"] : List Str).length) : bindArgs (PySem.W.fnOf "_law_row" "_law_row" (defArgs (top 98)) (defBody (top 98)) (defScope (top 98)) .none kV doc pm an cdv ct) ⟨us, []⟩ = pure ((["_law_cell_here", "_law_many", "_law_size"] : List Str).zip us) := match us, hl with | [_, _, _], _ => rfl
theorem sc99 : FnScope ["_law_draw", "_law_clocks"] ["_law_draw"] (defScope (top 99)) := ⟨rfl, rfl, rfl, by decide +kernel, rfl, by decide +kernel, by decide +kernel⟩
theorem bn99 (kV doc pm : Value) (an : Option Addr) (cdv ct : Value) (us : List Value) (hl : us.length = (["_law_draw"] : List Str).length) : bindArgs (PySem.W.fnOf "_law_clock" "_law_clock" (defArgs (top 99)) (defBody (top 99)) (defScope (top 99)) .none kV doc pm an cdv ct) ⟨us, []⟩ = pure ((["_law_draw"] : List Str).zip us) := match us, hl with | [_], _ => rfl
theorem sc100 : FnScope ["_law_thing"] ["_law_thing"] (defScope (top 100)) := ⟨rfl, rfl, rfl, by decide +kernel, rfl, by decide +kernel, by decide +kernel⟩
theorem bn100 (kV doc pm : Value) (an : Option Addr) (cdv ct : Value) (us : List Value) (hl : us.length = (["_law_thing"] : List Str).length) : bindArgs (PySem.W.fnOf "_law_whole" "_law_whole" (defArgs (top 100)) (defBody (top 100)) (defScope (top 100)) .none kV doc pm an cdv ct) ⟨us, []⟩ = pure ((["_law_thing"] : List Str).zip us) := match us, hl with | [_], _ => rfl
theorem sc101 : FnScope ["_law_one", "_law_other"] ["_law_one", "_law_other"] (defScope (top 101)) := ⟨rfl, rfl, rfl, by decide +kernel, rfl, by decide +kernel, by decide +kernel⟩
theorem bn101 (kV doc pm : Value) (an : Option Addr) (cdv ct : Value) (us : List Value) (hl : us.length = (["_law_one", "_law_other"] : List Str).length) : bindArgs (PySem.W.fnOf "_law_share" "_law_share" (defArgs (top 101)) (defBody (top 101)) (defScope (top 101)) .none kV doc pm an cdv ct) ⟨us, []⟩ = pure ((["_law_one", "_law_other"] : List Str).zip us) := match us, hl with | [_, _], _ => rfl
theorem sc102 : FnScope ["_law_many", "_law_thing", "_law_share_here", "_law_worth"] ["_law_many", "_law_thing"] (defScope (top 102)) := ⟨rfl, rfl, rfl, by decide +kernel, rfl, by decide +kernel, by decide +kernel⟩
theorem bn102 (kV doc pm : Value) (an : Option Addr) (cdv ct : Value) (us : List Value) (hl : us.length = (["_law_many", "_law_thing"] : List Str).length) : bindArgs (PySem.W.fnOf "_law_is_deal" "_law_is_deal" (defArgs (top 102)) (defBody (top 102)) (defScope (top 102)) .none kV doc pm an cdv ct) ⟨us, []⟩ = pure ((["_law_many", "_law_thing"] : List Str).zip us) := match us, hl with | [_, _], _ => rfl
theorem sc103 : FnScope ["_law_low", "_law_tops", "_law_share_here", "_law_worth"] ["_law_low", "_law_tops"] (defScope (top 103)) := ⟨rfl, rfl, rfl, by decide +kernel, rfl, by decide +kernel, by decide +kernel⟩
theorem bn103 (kV doc pm : Value) (an : Option Addr) (cdv ct : Value) (us : List Value) (hl : us.length = (["_law_low", "_law_tops"] : List Str).length) : bindArgs (PySem.W.fnOf "_law_settled" "_law_settled" (defArgs (top 103)) (defBody (top 103)) (defScope (top 103)) .none kV doc pm an cdv ct) ⟨us, []⟩ = pure ((["_law_low", "_law_tops"] : List Str).zip us) := match us, hl with | [_, _], _ => rfl
theorem sc104 : FnScope ["_law_clock_here", "_law_many", "_law_root", "_law_pair", "_law_row_here", "_law_t"] ["_law_clock_here"] (defScope (top 104)) := ⟨rfl, rfl, rfl, by decide +kernel, rfl, by decide +kernel, by decide +kernel⟩
theorem bn104 (kV doc pm : Value) (an : Option Addr) (cdv ct : Value) (us : List Value) (hl : us.length = (["_law_clock_here"] : List Str).length) : bindArgs (PySem.W.fnOf "_law_factors" "_law_factors" (defArgs (top 104)) (defBody (top 104)) (defScope (top 104)) .none kV doc pm an cdv ct) ⟨us, []⟩ = pure ((["_law_clock_here"] : List Str).zip us) := match us, hl with | [_], _ => rfl
theorem sc105 : FnScope ["_law_beats", "_law_factors_here", "_law_turns", "_law_table_here", "_law_t", "_law_x", "_law_row_here", "_law_u", "_law_base", "_law_y"] ["_law_beats", "_law_factors_here"] (defScope (top 105)) := ⟨rfl, rfl, rfl, by decide +kernel, rfl, by decide +kernel, by decide +kernel⟩
theorem bn105 (kV doc pm : Value) (an : Option Addr) (cdv ct : Value) (us : List Value) (hl : us.length = (["_law_beats", "_law_factors_here"] : List Str).length) : bindArgs (PySem.W.fnOf "_law_table" "_law_table" (defArgs (top 105)) (defBody (top 105)) (defScope (top 105)) .none kV doc pm an cdv ct) ⟨us, []⟩ = pure ((["_law_beats", "_law_factors_here"] : List Str).zip us) := match us, hl with | [_, _], _ => rfl
theorem sc106 : FnScope ["_law_table_here", "_law_one", "_law_other", "_law_out", "_law_k", "_law_g"] ["_law_table_here", "_law_one", "_law_other"] (defScope (top 106)) := ⟨rfl, rfl, rfl, by decide +kernel, rfl, by decide +kernel, by decide +kernel⟩
theorem bn106 (kV doc pm : Value) (an : Option Addr) (cdv ct : Value) (us : List Value) (hl : us.length = (["_law_table_here", "_law_one", "_law_other"] : List Str).length) : bindArgs (PySem.W.fnOf "_law_dealt" "_law_dealt" (defArgs (top 106)) (defBody (top 106)) (defScope (top 106)) .none kV doc pm an cdv ct) ⟨us, []⟩ = pure ((["_law_table_here", "_law_one", "_law_other"] : List Str).zip us) := match us, hl with | [_, _, _], _ => rfl
theorem sc107 : FnScope ["_law_clock_here", "_law_factors_here", "_law_row_here", "_law_beats", "_law_turns", "_law_lows", "_law_k", "_law_highs", "_law_a", "_law_f", "_law_span", "_law_rest", "_law_q", "_law_pair"] ["_law_clock_here", "_law_factors_here", "_law_row_here"] (defScope (top 107)) := ⟨rfl, rfl, rfl, by decide +kernel, rfl, by decide +kernel, by decide +kernel⟩
theorem bn107 (kV doc pm : Value) (an : Option Addr) (cdv ct : Value) (us : List Value) (hl : us.length = (["_law_clock_here", "_law_factors_here", "_law_row_here"] : List Str).length) : bindArgs (PySem.W.fnOf "_law_part" "_law_part" (defArgs (top 107)) (defBody (top 107)) (defScope (top 107)) .none kV doc pm an cdv ct) ⟨us, []⟩ = pure ((["_law_clock_here", "_law_factors_here", "_law_row_here"] : List Str).zip us) := match us, hl with | [_, _, _], _ => rfl
theorem sc108 : FnScope ["_law_clock_here", "_law_part_here", "_law_factors_here", "_law_step", "_law_wide", "_law_on", "_law_t", "_law_x"] ["_law_clock_here", "_law_part_here", "_law_factors_here"] (defScope (top 108)) := ⟨rfl, rfl, rfl, by decide +kernel, rfl, by decide +kernel, by decide +kernel⟩
theorem bn108 (kV doc pm : Value) (an : Option Addr) (cdv ct : Value) (us : List Value) (hl : us.length = (["_law_clock_here", "_law_part_here", "_law_factors_here"] : List Str).length) : bindArgs (PySem.W.fnOf "_law_members" "_law_members" (defArgs (top 108)) (defBody (top 108)) (defScope (top 108)) .none kV doc pm an cdv ct) ⟨us, []⟩ = pure ((["_law_clock_here", "_law_part_here", "_law_factors_here"] : List Str).zip us) := match us, hl with | [_, _, _], _ => rfl
theorem sc109 : FnScope ["_law_cell_here", "_law_clock_here", "_law_factors_here", "_law_table_here", "_law_many", "_law_row_here", "_law_on", "_law_off", "_law_k", "_law_menu", "_law_base", "_law_form", "_law_other"] ["_law_cell_here", "_law_clock_here", "_law_factors_here", "_law_table_here"] (defScope (top 109)) := ⟨rfl, rfl, rfl, by decide +kernel, rfl, by decide +kernel, by decide +kernel⟩
theorem bn109 (kV doc pm : Value) (an : Option Addr) (cdv ct : Value) (us : List Value) (hl : us.length = (["_law_cell_here", "_law_clock_here", "_law_factors_here", "_law_table_here"] : List Str).length) : bindArgs (PySem.W.fnOf "_law_weights" "_law_weights" (defArgs (top 109)) (defBody (top 109)) (defScope (top 109)) .none kV doc pm an cdv ct) ⟨us, []⟩ = pure ((["_law_cell_here", "_law_clock_here", "_law_factors_here", "_law_table_here"] : List Str).zip us) := match us, hl with | [_, _, _, _], _ => rfl
theorem sc110 : FnScope ["_law_rows", "_law_rank_here", "_law_before", "_law_c", "_law_at", "_law_i", "_law_held", "_law_lead", "_law_row_here", "_law_j"] ["_law_rows"] (defScope (top 110)) := ⟨rfl, rfl, rfl, by decide +kernel, rfl, by decide +kernel, by decide +kernel⟩
theorem bn110 (kV doc pm : Value) (an : Option Addr) (cdv ct : Value) (us : List Value) (hl : us.length = (["_law_rows"] : List Str).length) : bindArgs (PySem.W.fnOf "_law_rank" "_law_rank" (defArgs (top 110)) (defBody (top 110)) (defScope (top 110)) .none kV doc pm an cdv ct) ⟨us, []⟩ = pure ((["_law_rows"] : List Str).zip us) := match us, hl with | [_], _ => rfl
theorem sc111 : FnScope ["_law_table_here", "_law_tops", "_law_rows", "_law_places", "_law_row_here", "_law_k"] ["_law_table_here", "_law_tops"] (defScope (top 111)) := ⟨rfl, rfl, rfl, by decide +kernel, rfl, by decide +kernel, by decide +kernel⟩
theorem bn111 (kV doc pm : Value) (an : Option Addr) (cdv ct : Value) (us : List Value) (hl : us.length = (["_law_table_here", "_law_tops"] : List Str).length) : bindArgs (PySem.W.fnOf "_law_lefts" "_law_lefts" (defArgs (top 111)) (defBody (top 111)) (defScope (top 111)) .none kV doc pm an cdv ct) ⟨us, []⟩ = pure ((["_law_table_here", "_law_tops"] : List Str).zip us) := match us, hl with | [_, _], _ => rfl
theorem sc112 : FnScope ["_law_table_here", "_law_one", "_law_other", "_law_due", "_law_tops", "_law_low", "_law_k"] ["_law_table_here", "_law_one", "_law_other", "_law_due"] (defScope (top 112)) := ⟨rfl, rfl, rfl, by decide +kernel, rfl, by decide +kernel, by decide +kernel⟩
theorem bn112 (kV doc pm : Value) (an : Option Addr) (cdv ct : Value) (us : List Value) (hl : us.length = (["_law_table_here", "_law_one", "_law_other", "_law_due"] : List Str).length) : bindArgs (PySem.W.fnOf "_law_is" "_law_is" (defArgs (top 112)) (defBody (top 112)) (defScope (top 112)) .none kV doc pm an cdv ct) ⟨us, []⟩ = pure ((["_law_table_here", "_law_one", "_law_other", "_law_due"] : List Str).zip us) := match us, hl with | [_, _, _, _], _ => rfl
theorem sc113 : FnScope ["_law_table_here", "_law_deal", "_law_backs", "_law_row_here", "_law_k"] ["_law_table_here", "_law_deal"] (defScope (top 113)) := ⟨rfl, rfl, rfl, by decide +kernel, rfl, by decide +kernel, by decide +kernel⟩
theorem bn113 (kV doc pm : Value) (an : Option Addr) (cdv ct : Value) (us : List Value) (hl : us.length = (["_law_table_here", "_law_deal"] : List Str).length) : bindArgs (PySem.W.fnOf "_law_mirror" "_law_mirror" (defArgs (top 113)) (defBody (top 113)) (defScope (top 113)) .none kV doc pm an cdv ct) ⟨us, []⟩ = pure ((["_law_table_here", "_law_deal"] : List Str).zip us) := match us, hl with | [_, _], _ => rfl
theorem sc114 : FnScope ["_law_table_here", "_law_row_here", "_law_out", "_law_k"] ["_law_table_here", "_law_row_here"] (defScope (top 114)) := ⟨rfl, rfl, rfl, by decide +kernel, rfl, by decide +kernel, by decide +kernel⟩
theorem bn114 (kV doc pm : Value) (an : Option Addr) (cdv ct : Value) (us : List Value) (hl : us.length = (["_law_table_here", "_law_row_here"] : List Str).length) : bindArgs (PySem.W.fnOf "_law_three" "_law_three" (defArgs (top 114)) (defBody (top 114)) (defScope (top 114)) .none kV doc pm an cdv ct) ⟨us, []⟩ = pure ((["_law_table_here", "_law_row_here"] : List Str).zip us) := match us, hl with | [_, _], _ => rfl
theorem sc115 : FnScope ["_law_one", "_law_other", "_law_k"] ["_law_one", "_law_other"] (defScope (top 115)) := ⟨rfl, rfl, rfl, by decide +kernel, rfl, by decide +kernel, by decide +kernel⟩
theorem bn115 (kV doc pm : Value) (an : Option Addr) (cdv ct : Value) (us : List Value) (hl : us.length = (["_law_one", "_law_other"] : List Str).length) : bindArgs (PySem.W.fnOf "_law_added" "_law_added" (defArgs (top 115)) (defBody (top 115)) (defScope (top 115)) .none kV doc pm an cdv ct) ⟨us, []⟩ = pure ((["_law_one", "_law_other"] : List Str).zip us) := match us, hl with | [_, _], _ => rfl
theorem sc116 : FnScope ["_law_script", "_law_clock_here", "_law_factors_here", "_law_table_here", "_law_row_here", "_law_one", "_law_drawn", "_law_make", "_law_other", "_law_last", "_law_k"] ["_law_script", "_law_clock_here", "_law_factors_here", "_law_table_here", "_law_row_here"] (defScope (top 116)) := ⟨rfl, rfl, rfl, by decide +kernel, rfl, by decide +kernel, by decide +kernel⟩
theorem bn116 (kV doc pm : Value) (an : Option Addr) (cdv ct : Value) (us : List Value) (hl : us.length = (["_law_script", "_law_clock_here", "_law_factors_here", "_law_table_here", "_law_row_here"] : List Str).length) : bindArgs (PySem.W.fnOf "_law_world" "_law_world" (defArgs (top 116)) (defBody (top 116)) (defScope (top 116)) .none kV doc pm an cdv ct) ⟨us, []⟩ = pure ((["_law_script", "_law_clock_here", "_law_factors_here", "_law_table_here", "_law_row_here"] : List Str).zip us) := match us, hl with | [_, _, _, _, _], _ => rfl
theorem sc117 : FnScope ["_law_table_here", "_law_one", "_law_other", "_law_rows"] ["_law_table_here", "_law_one", "_law_other"] (defScope (top 117)) := ⟨rfl, rfl, rfl, by decide +kernel, rfl, by decide +kernel, by decide +kernel⟩
theorem bn117 (kV doc pm : Value) (an : Option Addr) (cdv ct : Value) (us : List Value) (hl : us.length = (["_law_table_here", "_law_one", "_law_other"] : List Str).length) : bindArgs (PySem.W.fnOf "_law_made" "_law_made" (defArgs (top 117)) (defBody (top 117)) (defScope (top 117)) .none kV doc pm an cdv ct) ⟨us, []⟩ = pure ((["_law_table_here", "_law_one", "_law_other"] : List Str).zip us) := match us, hl with | [_, _, _], _ => rfl
theorem sc118 : FnScope ["_law_table_here", "_law_one", "_law_witness_here", "_law_tops", "_law_worth", "_law_side"] ["_law_table_here", "_law_one", "_law_witness_here"] (defScope (top 118)) := ⟨rfl, rfl, rfl, by decide +kernel, rfl, by decide +kernel, by decide +kernel⟩
theorem bn118 (kV doc pm : Value) (an : Option Addr) (cdv ct : Value) (us : List Value) (hl : us.length = (["_law_table_here", "_law_one", "_law_witness_here"] : List Str).length) : bindArgs (PySem.W.fnOf "_law_witness" "_law_witness" (defArgs (top 118)) (defBody (top 118)) (defScope (top 118)) .none kV doc pm an cdv ct) ⟨us, []⟩ = pure ((["_law_table_here", "_law_one", "_law_witness_here"] : List Str).zip us) := match us, hl with | [_, _, _], _ => rfl
theorem sc119 : FnScope ["_law_clock_here", "_law_table_here", "_law_one", "_law_other", "_law_due", "_law_told", "e"] ["_law_clock_here", "_law_table_here", "_law_one", "_law_other", "_law_due"] (defScope (top 119)) := ⟨rfl, rfl, rfl, by decide +kernel, rfl, by decide +kernel, by decide +kernel⟩
theorem bn119 (kV doc pm : Value) (an : Option Addr) (cdv ct : Value) (us : List Value) (hl : us.length = (["_law_clock_here", "_law_table_here", "_law_one", "_law_other", "_law_due"] : List Str).length) : bindArgs (PySem.W.fnOf "_law_ask" "_law_ask" (defArgs (top 119)) (defBody (top 119)) (defScope (top 119)) .none kV doc pm an cdv ct) ⟨us, []⟩ = pure ((["_law_clock_here", "_law_table_here", "_law_one", "_law_other", "_law_due"] : List Str).zip us) := match us, hl with | [_, _, _, _, _], _ => rfl
theorem sc120 : FnScope ["_law_deal", "_law_worth"] ["_law_deal"] (defScope (top 120)) := ⟨rfl, rfl, rfl, by decide +kernel, rfl, by decide +kernel, by decide +kernel⟩
theorem bn120 (kV doc pm : Value) (an : Option Addr) (cdv ct : Value) (us : List Value) (hl : us.length = (["_law_deal"] : List Str).length) : bindArgs (PySem.W.fnOf "_law_less" "_law_less" (defArgs (top 120)) (defBody (top 120)) (defScope (top 120)) .none kV doc pm an cdv ct) ⟨us, []⟩ = pure ((["_law_deal"] : List Str).zip us) := match us, hl with | [_], _ => rfl
theorem sc121 : FnScope ["_law_clock_here", "_law_table_here", "_law_one", "_law_other", "_law_first", "_law_last"] ["_law_clock_here", "_law_table_here", "_law_one", "_law_other"] (defScope (top 121)) := ⟨rfl, rfl, rfl, by decide +kernel, rfl, by decide +kernel, by decide +kernel⟩
theorem bn121 (kV doc pm : Value) (an : Option Addr) (cdv ct : Value) (us : List Value) (hl : us.length = (["_law_clock_here", "_law_table_here", "_law_one", "_law_other"] : List Str).length) : bindArgs (PySem.W.fnOf "_law_eveners" "_law_eveners" (defArgs (top 121)) (defBody (top 121)) (defScope (top 121)) .none kV doc pm an cdv ct) ⟨us, []⟩ = pure ((["_law_clock_here", "_law_table_here", "_law_one", "_law_other"] : List Str).zip us) := match us, hl with | [_, _, _, _], _ => rfl
theorem sc122 : FnScope ["_law_clock_here", "_law_table_here", "_law_one", "_law_other", "_law_told", "_law_first", "_law_last", "_law_heard", "_law_paper", "_law_back"] ["_law_clock_here", "_law_table_here", "_law_one", "_law_other", "_law_told"] (defScope (top 122)) := ⟨rfl, rfl, rfl, by decide +kernel, rfl, by decide +kernel, by decide +kernel⟩
theorem bn122 (kV doc pm : Value) (an : Option Addr) (cdv ct : Value) (us : List Value) (hl : us.length = (["_law_clock_here", "_law_table_here", "_law_one", "_law_other", "_law_told"] : List Str).length) : bindArgs (PySem.W.fnOf "_law_turned" "_law_turned" (defArgs (top 122)) (defBody (top 122)) (defScope (top 122)) .none kV doc pm an cdv ct) ⟨us, []⟩ = pure ((["_law_clock_here", "_law_table_here", "_law_one", "_law_other", "_law_told"] : List Str).zip us) := match us, hl with | [_, _, _, _, _], _ => rfl
theorem sc123 : FnScope ["_law_clock_here", "_law_table_here", "_law_deals", "_law_dues", "_law_told", "_law_sides_here", "_law_right", "_law_k"] ["_law_clock_here", "_law_table_here", "_law_deals", "_law_dues", "_law_told"] (defScope (top 123)) := ⟨rfl, rfl, rfl, by decide +kernel, rfl, by decide +kernel, by decide +kernel⟩
theorem bn123 (kV doc pm : Value) (an : Option Addr) (cdv ct : Value) (us : List Value) (hl : us.length = (["_law_clock_here", "_law_table_here", "_law_deals", "_law_dues", "_law_told"] : List Str).length) : bindArgs (PySem.W.fnOf "_law_sides" "_law_sides" (defArgs (top 123)) (defBody (top 123)) (defScope (top 123)) .none kV doc pm an cdv ct) ⟨us, []⟩ = pure ((["_law_clock_here", "_law_table_here", "_law_deals", "_law_dues", "_law_told"] : List Str).zip us) := match us, hl with | [_, _, _, _, _], _ => rfl
theorem sc124 : FnScope ["_law_script", "_law_row_here", "_law_clock_here", "_law_factors_here", "_law_table_here", "_law_deals", "_law_pairs", "_law_dues", "_law_pair", "_law_told", "_law_k", "_law_heard", "_law_at", "_law_one", "_law_other"] ["_law_script"] (defScope (top 124)) := ⟨rfl, rfl, rfl, by decide +kernel, rfl, by decide +kernel, by decide +kernel⟩
theorem bn124 (kV doc pm : Value) (an : Option Addr) (cdv ct : Value) (us : List Value) (hl : us.length = (["_law_script"] : List Str).length) : bindArgs (PySem.W.fnOf "law" "law" (defArgs (top 124)) (defBody (top 124)) (defScope (top 124)) .none kV doc pm an cdv ct) ⟨us, []⟩ = pure ((["_law_script"] : List Str).zip us) := match us, hl with | [_], _ => rfl
end EL
end
section
set_option maxHeartbeats 1000000
namespace EL
open PySem PySem.Spec PyProof.Rows L2 DL
section
variable {P : Program} {w : World} {K : PySem.W.Frag} {mg : Str → Option Value} {base : Heap} (B : Bi mg)
/-! ### factor_of -/
def facI (c : Ck) (t : Int) : Int := c.mv.foldl (fun a p => (List.range (t % p.1).toNat).foldl (fun a _ => a * p.2 % c.b) a) ((1 : Int) % c.b)
def R14 : List PyData → PyData → Prop := fun ds r => ∃ c, ∃ t : Int, CK c ∧ ds = [ckD c, .int t] ∧ r = .int (facI c t)
include B in
theorem w14 (F : FF K mg "factor_of" "factor_of" 14) : Cb false P w K mg base 1 "factor_of" 2 R14 := by
  refine cb_calm F sc14 rfl bn14 fun f cdv A outer s H ds r rm hR hn => ?_
  obtain ⟨c, t, hc, rfl, rfl⟩ := hR
  have cb := hc.bd
  refine .inl ?_
  refine dss_cons (ds_asg (de_v 0) (dg_tup2 (.inl rfl) (dg_name 2 sc14.nd) (dg_name 3 sc14.nd))) ?_
  refine dss_cons (ds_set 4 sc14.nd (de_modP de_int (de_v 2) (by omega))) ?_
  refine dss_cons (ds_forF (fun s : Int => [.dat (ckD c), .dat (.int t), .dat (iN c.b), .dat (.tuple (c.mv.map mvD)), .dat (.int s), .no, .no, .no]) (fun a p => (List.range (t % p.1).toNat).foldl (fun a _ => a * p.2 % c.b) a) (fun _ => True) _ c.mv mvD cmF PassesOwn.never (di_tup (de_v 3)) trivial fun s p hp _ => ⟨trivial, ?_⟩) (dss_one (ds_ret (de_v 4)))
  have hb := hc.mv hp
  refine ⟨_, _, _, dg_tup2 (.inl rfl) (dg_name 5 sc14.nd) (dg_name 6 sc14.nd), dss_one (ds_forF (fun s : Int => [.dat (ckD c), .dat (.int t), .dat (iN c.b), .dat (.tuple (c.mv.map mvD)), .dat (.int s), .dat (iN p.1), .dat (iN p.2), .no]) (fun a _ => a * p.2 % c.b) (fun _ => True) s (List.range (t % p.1).toNat) iN cmF PassesOwn.never (di_range B.range (t % p.1).toNat (dec (de_modP (de_v 1) (de_v 5) (by omega)) ?_) ?_) trivial fun s q hq _ => ⟨trivial, ?_⟩), .keep (.keep (.keep (.keep (.keep (.drop (.drop (.drop .nil)))))))⟩
  · rw [Int.toNat_of_nonneg (Int.emod_nonneg _ (by omega))]
  · have := Int.emod_lt_of_pos t (b := (p.1 : Int)) (by omega)
    omega
  · exact ⟨_, _, _, dg_name 7 sc14.nd, dss_one (ds_set 4 sc14.nd (de_modP (de_mul (de_v 4) (de_v 6) (mulS2 (by omega))) (de_v 2) (by omega))), .keep (.keep (.keep (.keep (.keep (.keep (.keep (.drop .nil)))))))⟩
/-! ### back_from -/
def backF (c : Ck) (s t : Int) : PyData := .tuple [.int (-facI c (-t) * s % c.b), .int (-t % tn c)]
def R16 : List PyData → PyData → Prop := fun ds r => ∃ c, ∃ s t : Int, CK c ∧ (0 ≤ s ∧ s < 100) ∧ ds = [ckD c, .tuple [.int s, .int t]] ∧ r = backF c s t
include B in
theorem w16 (F : FF K mg "back_from" "back_from" 16) (h14 : Cb false P w K mg base 1 "factor_of" 2 R14) (h13 : Cb false P w K mg base 1 "turns_in" 1 R13) : Cb false P w K mg base 2 "back_from" 2 R16 := by
  refine cb_calm F sc16 rfl bn16 fun f cdv A outer s H ds r rm hR hn => ?_
  obtain ⟨c, s, t, hc, hs, rfl, rfl⟩ := hR
  have cb := hc.bd
  refine .inl ?_
  refine dss_cons (ds_asg (de_v 1) (dg_tup2 (.inl rfl) (dg_name 2 sc16.nd) (dg_name 3 sc16.nd))) (dss_one (ds_ret (de_tup2 (d1 := .int (-facI c (-t) * s % c.b)) (d2 := .int (-t % tn c)) ?_ ?_)))
  · exact de_modP (de_mul (de_neg (de_call (h14.cal rm) (da_2 (de_v 0) (de_neg (de_v 3))) ⟨c, -t, hc, rfl, rfl⟩)) (de_v 2) (mulS2 (by omega))) (de_ixT (de_v 0) de_int rfl) (by omega)
  · exact de_modP (de_neg (de_v 3)) (de_call (h13.cal rm) (da_1 (de_v 0)) ⟨c, hc, rfl, rfl⟩) (by omega)
/-! ### kinds -/
theorem w18 (F : FF K mg "is_integer" "is_integer" 18) (h10 : Cb false P w K mg base 1 "whole" 1 (Rint1 fun _ => .bool true)) : Cb false P w K mg base 2 "is_integer" 1 (Rint1 fun _ => .bool true) := by
  refine cb_calm F sc18 rfl bn18 fun f cdv A outer s H ds r rm hR hn => ?_
  obtain ⟨i, rfl, rfl⟩ := hR
  exact .inl (dss_one (ds_ret (de_call (h10.cal rm) (da_1 (de_v 0)) ⟨i, rfl, rfl⟩)))
theorem w19 (F : FF K mg "is_number" "is_number" 19) (h10 : Cb false P w K mg base 1 "whole" 1 (Rint1 fun _ => .bool true)) : Cb false P w K mg base 2 "is_number" 1 (Rint1 fun i => .bool (decide (0 ≤ i))) := by
  refine cb_calm F sc19 rfl bn19 fun f cdv A outer s H ds r rm hR hn => ?_
  obtain ⟨i, rfl, rfl⟩ := hR
  exact .inl (dss_one (ds_ret (de_andT (de_call (h10.cal rm) (da_1 (de_v 0)) ⟨i, rfl, rfl⟩) (de_one (de_ge (de_v 0) de_int)))))
def R20 : List PyData → PyData → Prop := fun ds r => ∃ a b : Int, ds = [.tuple [.int a, .int b]] ∧ 1 ≤ b ∧ Nat.gcd a.natAbs b.natAbs = 1 ∧ r = .bool true
include B in
theorem w20 (F : FF K mg "is_quotient" "is_quotient" 20) (h10 : Cb false P w K mg base 1 "whole" 1 (Rint1 fun _ => .bool true)) (h11 : Cb false P w K mg base 1 "is_pair" 1 R11) : Cb false P w K mg base 2 "is_quotient" 1 R20 := by
  refine cb_calm F sc20 rfl bn20 fun f cdv A outer s H ds r rm hR hn => ?_
  obtain ⟨a, b, rfl, hb, hg, rfl⟩ := hR
  refine .inl ?_
  refine dss_cons (ds_ifF (dtc (dt_not (DE.dt (de_call (r := .bool true) (h11.cal rm) (da_1 (de_v 0)) ⟨_, _, rfl, rfl⟩)))) dss_nil) ?_
  refine dss_cons (ds_asg (de_v 0) (dg_tup2 (.inl rfl) (dg_name 1 sc20.nd) (dg_name 2 sc20.nd))) (dss_one (ds_ret ?_))
  refine de_andT (de_call (h10.cal rm) (da_1 (de_v 1)) ⟨_, rfl, rfl⟩) (de_andT (de_call (h10.cal rm) (da_1 (de_v 2)) ⟨_, rfl, rfl⟩) (de_andT (dec (de_ge (de_v 2) de_int) ?_) (de_one (dec (de_eq (de_gcd B.gcd (de_v 1) (de_v 2)) de_int) ?_))))
  · rw [decide_eq_true hb]
  · rw [hg]; rfl
def R21 : List PyData → PyData → Prop := fun ds r => ∃ c, ∃ s t : Nat, CK c ∧ s < c.b ∧ t < tn c ∧ ds = [ckD c, .tuple [iN s, iN t]] ∧ r = .bool true
theorem w21 (F : FF K mg "is_move" "is_move" 21) (h11 : Cb false P w K mg base 1 "is_pair" 1 R11) (h19 : Cb false P w K mg base 2 "is_number" 1 (Rint1 fun i => .bool (decide (0 ≤ i)))) (h13 : Cb false P w K mg base 1 "turns_in" 1 R13) : Cb false P w K mg base 3 "is_move" 2 R21 := by
  refine cb_calm F sc21 rfl bn21 fun f cdv A outer s H ds r rm hR hn => ?_
  obtain ⟨c, s, t, hc, hs, ht, rfl, rfl⟩ := hR
  refine .inl ?_
  refine dss_cons (ds_ifF (dtc (dt_not (DE.dt (de_call (r := .bool true) (h11.cal rm) (da_1 (de_v 1)) ⟨_, _, rfl, rfl⟩)))) dss_nil) ?_
  refine dss_cons (ds_asg (de_v 1) (dg_tup2 (.inl rfl) (dg_name 2 sc21.nd) (dg_name 3 sc21.nd))) (dss_one (ds_ret ?_))
  refine de_andT (dec (de_call (h19.cal rm) (da_1 (de_v 2)) ⟨_, rfl, rfl⟩) ?_) (de_andT (dec (de_lt (de_v 2) (de_ixT (de_v 0) de_int rfl)) ?_) (de_andT (dec (de_call (h19.cal rm) (da_1 (de_v 3)) ⟨_, rfl, rfl⟩) ?_) (de_one (dec (de_lt (de_v 3) (de_call (h13.cal rm) (da_1 (de_v 0)) ⟨c, hc, rfl, rfl⟩)) ?_))))
  · exact congrArg PyData.bool (decide_eq_true (Int.natCast_nonneg s))
  · exact congrArg PyData.bool (decide_eq_true (Int.ofNat_lt.mpr hs))
  · exact congrArg PyData.bool (decide_eq_true (Int.natCast_nonneg t))
  · exact congrArg PyData.bool (decide_eq_true (Int.ofNat_lt.mpr ht))
def Rck (g : Ck → PyData) : List PyData → PyData → Prop := fun ds r => ∃ c, CK c ∧ ds = [ckD c] ∧ r = g c
theorem w23 (F : FF K mg "moves_many" "moves_many" 23) (h13 : Cb false P w K mg base 1 "turns_in" 1 R13) : Cb false P w K mg base 2 "moves_many" 1 (Rck fun c => iN (nn c)) := by
  refine cb_calm F sc23 rfl bn23 fun f cdv A outer s H ds r rm hR hn => ?_
  obtain ⟨c, hc, rfl, rfl⟩ := hR
  have cb := hc.bd
  refine .inl (dss_one (ds_ret (dec (de_mul (de_ixT (de_v 0) de_int rfl) (de_call (h13.cal rm) (da_1 (de_v 0)) ⟨c, hc, rfl, rfl⟩) (mulS (by omega))) ?_)))
  exact congrArg PyData.int (Int.natCast_mul _ _).symm
theorem w24 (F : FF K mg "turns_many" "turns_many" 24) (h13 : Cb false P w K mg base 1 "turns_in" 1 R13) : Cb false P w K mg base 2 "turns_many" 1 (Rck fun c => iN (tn c)) := by
  refine cb_calm F sc24 rfl bn24 fun f cdv A outer s H ds r rm hR hn => ?_
  obtain ⟨c, hc, rfl, rfl⟩ := hR
  exact .inl (dss_one (ds_ret (de_call (h13.cal rm) (da_1 (de_v 0)) ⟨c, hc, rfl, rfl⟩)))
/-! ### deals -/
abbrev DD := Int × List Int
def dlD (d : DD) : PyData := .tuple [.int d.1, .tuple (il d.2)]
structure Can (n : Nat) (d : DD) : Prop where
  len : d.2.length = n
  pos : 1 ≤ d.1
  gcd : gcdL d.1 d.2 = 1
def R26 : List PyData → PyData → Prop := fun ds r => ∃ c d, CK c ∧ Can (nn c) d ∧ ds = [ckD c, dlD d] ∧ r = .bool true
include B in
theorem w26 (F : FF K mg "is_deal" "is_deal" 26) (h18 : Cb false P w K mg base 2 "is_integer" 1 (Rint1 fun _ => .bool true)) (h23 : Cb false P w K mg base 2 "moves_many" 1 (Rck fun c => iN (nn c))) : Cb false P w K mg base 3 "is_deal" 2 R26 := by
  refine cb_calm F sc26 rfl bn26 fun f cdv A outer s H ds r rm hR hn => ?_
  obtain ⟨c, d, hc, hd, rfl, rfl⟩ := hR
  obtain ⟨b, l⟩ := d
  have hl : l.length = nn c := hd.len
  have hb : 1 ≤ b := hd.pos
  refine .inl ?_
  refine dss_cons (ds_ifF (dtc (DW.dt (dw_orF (dtc (dt_not (DE.dt (de_isTT B (de_v 1))))) (dw_or1 (dtc (dt_ne (de_lenT B.len (de_v 1)) de_int)))))) dss_nil) ?_
  refine dss_cons (ds_asg (de_v 1) (dg_tup2 (.inl rfl) (dg_name 2 sc26.nd) (dg_name 3 sc26.nd))) ?_
  refine dss_cons (ds_ifF (dtc (DW.dt (dw_orF (dtc (dt_not (DE.dt (de_call (r := .bool true) (h18.cal rm) (da_1 (de_v 2)) ⟨_, rfl, rfl⟩)))) (dw_or1 (x := false) (dtc (dt_lt (de_v 2) de_int) (decide_eq_false (by omega))))))) dss_nil) ?_
  refine dss_cons (ds_ifF (dtc (DW.dt (dw_orF (dtc (dt_not (DE.dt (de_isTT B (de_v 3))))) (dw_or1 (x := false) (dtc (dt_ne (de_lenT B.len (de_v 3)) (de_call (h23.cal rm) (da_1 (de_v 0)) ⟨c, hc, rfl, rfl⟩)) ?_))))) dss_nil) ?_
  · rw [il_length, hl, decide_eq_true rfl]; rfl
  refine dss_cons (ds_set 4 sc26.nd (de_v 2)) ?_
  refine dss_cons (ds_forF (fun s : Int => [.dat (ckD c), .dat (dlD (b, l)), .dat (.int b), .dat (.tuple (il l)), .dat (.int s), .no]) (fun g x => ((Nat.gcd g.natAbs x.natAbs : Nat) : Int)) (fun _ => True) b l PyData.int cmF PassesOwn.never (di_tup (de_v 3)) trivial fun s x hx _ => ⟨trivial, ?_⟩) (dss_one (ds_ret (dec (de_eq (de_v 4) de_int) ?_)))
  · exact ⟨_, _, _, dg_name 5 sc26.nd, dss_cons (ds_ifF (dtc (dt_not (DE.dt (de_call (r := .bool true) (h18.cal rm) (da_1 (de_v 5)) ⟨_, rfl, rfl⟩)))) dss_nil) (dss_one (ds_set 4 sc26.nd (de_gcd B.gcd (de_v 4) (de_v 5)))), .keep (.keep (.keep (.keep (.keep (.drop .nil)))))⟩
  · exact congrArg PyData.bool (decide_eq_true hd.gcd)
def R28 : List PyData → PyData → Prop := fun ds r => ∃ c d, ∃ z : Str, CK c ∧ Can (nn c) d ∧ ds = [ckD c, dlD d, .str z] ∧ r = .none
theorem w28 (F : FF K mg "want_deal" "want_deal" 28) (h26 : Cb false P w K mg base 3 "is_deal" 2 R26) : Cb false P w K mg base 4 "want_deal" 3 R28 := by
  refine cb_calm F sc28 rfl bn28 fun f cdv A outer s H ds r rm hR hn => ?_
  obtain ⟨c, d, z, hc, hd, rfl, rfl⟩ := hR
  exact .inr ⟨rfl, _, dss_one (ds_ifF (dtc (dt_not (DE.dt (de_call (r := .bool true) (h26.cal rm) (da_2 (de_v 0) (de_v 1)) ⟨c, d, hc, hd, rfl, rfl⟩)))) dss_nil)⟩
theorem w68 (F : FF K mg "need_deal_e_wants" "need_deal" 68) (h26 : Cb false P w K mg base 3 "is_deal" 2 R26) : Cb false P w K mg base 4 "need_deal_e_wants" 3 R28 := by
  refine cb_calm F sc68 rfl bn68 fun f cdv A outer s H ds r rm hR hn => ?_
  obtain ⟨c, d, z, hc, hd, rfl, rfl⟩ := hR
  exact .inr ⟨rfl, _, dss_one (ds_ifF (dtc (dt_not (DE.dt (de_call (r := .bool true) (h26.cal rm) (da_2 (de_v 0) (de_v 1)) ⟨c, d, hc, hd, rfl, rfl⟩)))) dss_nil)⟩
def R82 : List PyData → PyData → Prop := fun ds r => ∃ c d, ∃ z : Str, CK c ∧ Can (nn c) d ∧ ds = [ckD c, .str z, dlD d] ∧ r = .none
theorem w82 (F : FF K mg "need_deal_f_told" "need_deal" 82) (h26 : Cb false P w K mg base 3 "is_deal" 2 R26) : Cb false P w K mg base 4 "need_deal_f_told" 3 R82 := by
  refine cb_calm F sc82 rfl bn82 fun f cdv A outer s H ds r rm hR hn => ?_
  obtain ⟨c, d, z, hc, hd, rfl, rfl⟩ := hR
  exact .inr ⟨rfl, _, dss_one (ds_ifF (dtc (dt_not (DE.dt (de_call (r := .bool true) (h26.cal rm) (da_2 (de_v 0) (de_v 2)) ⟨c, d, hc, hd, rfl, rfl⟩)))) dss_nil)⟩
def da_3 {X : Cx} {G : Ev} {a b e : Expr} {d1 d2 d3 : PyData} (h : DE X G a d1) (h2 : DE X G b d2) (h3 : DE X G e d3) (hs : starEach [a, b, e] X.env = (false, eval a X.env) :: starEach [b, e] X.env := by rfl) (hs2 : starEach [b, e] X.env = (false, eval b X.env) :: starEach [e] X.env := by rfl) (hs3 : starEach [e] X.env = (false, eval e X.env) :: starEach [] X.env := by rfl) : DA X G [a, b, e] [d1, d2, d3] := da_cons h (da_cons h2 (da_cons h3 da_nil hs3) hs2) hs
def R29 : List PyData → PyData → Prop := fun ds r => ∃ c d d', CK c ∧ Can (nn c) d ∧ Can (nn c) d' ∧ ds = [ckD c, dlD d, dlD d'] ∧ r = .none
theorem w29 (F : FF K mg "want_two" "want_two" 29) (h28 : Cb false P w K mg base 4 "want_deal" 3 R28) : Cb false P w K mg base 5 "want_two" 3 R29 := by
  refine cb_calm F sc29 rfl bn29 fun f cdv A outer s H ds r rm hR hn => ?_
  obtain ⟨c, d, d', hc, hd, hd', rfl, rfl⟩ := hR
  exact .inr ⟨rfl, _, dss_cons (ds_expr (de_call (h28.cal rm) (da_3 (de_v 0) (de_v 1) de_str) ⟨c, d, _, hc, hd, rfl, rfl⟩)) (dss_one (ds_expr (de_call (h28.cal rm) (da_3 (de_v 0) (de_v 2) de_str) ⟨c, d', _, hc, hd', rfl, rfl⟩)))⟩
theorem w70 (F : FF K mg "need_deals" "need_deals" 70) (h68 : Cb false P w K mg base 4 "need_deal_e_wants" 3 R28) : Cb false P w K mg base 5 "need_deals" 3 R29 := by
  refine cb_calm F sc70 rfl bn70 fun f cdv A outer s H ds r rm hR hn => ?_
  obtain ⟨c, d, d', hc, hd, hd', rfl, rfl⟩ := hR
  exact .inr ⟨rfl, _, dss_cons (ds_expr (de_call (h68.cal rm) (da_3 (de_v 0) (de_v 1) de_str) ⟨c, d, _, hc, hd, rfl, rfl⟩)) (dss_one (ds_expr (de_call (h68.cal rm) (da_3 (de_v 0) (de_v 2) de_str) ⟨c, d', _, hc, hd', rfl, rfl⟩)))⟩
def R30 : List PyData → PyData → Prop := fun ds r => ∃ a b : Int, ds = [.tuple [.int a, .int b]] ∧ 1 ≤ b ∧ Nat.gcd a.natAbs b.natAbs = 1 ∧ r = .none
theorem w30 (F : FF K mg "want_quotient" "want_quotient" 30) (h20 : Cb false P w K mg base 2 "is_quotient" 1 R20) : Cb false P w K mg base 3 "want_quotient" 1 R30 := by
  refine cb_calm F sc30 rfl bn30 fun f cdv A outer s H ds r rm hR hn => ?_
  obtain ⟨a, b, rfl, hb, hg, rfl⟩ := hR
  exact .inr ⟨rfl, _, dss_one (ds_ifF (dtc (dt_not (DE.dt (de_call (r := .bool true) (h20.cal rm) (da_1 (de_v 0)) ⟨a, b, rfl, hb, hg, rfl⟩)))) dss_nil)⟩
/-! ### moving -/
def R32 : List PyData → PyData → Prop := fun ds r => ∃ c, ∃ t : Nat, CK c ∧ t < tn c ∧ ds = [ckD c, iN t] ∧ r = .int (facI c t)
theorem w32 (F : FF K mg "factor_at" "factor_at" 32) (h9 : Cb false P w K mg base 1 "usable" 2 R9) (h19 : Cb false P w K mg base 2 "is_number" 1 (Rint1 fun i => .bool (decide (0 ≤ i)))) (h13 : Cb false P w K mg base 1 "turns_in" 1 R13) (h14 : Cb false P w K mg base 1 "factor_of" 2 R14) : Cb false P w K mg base 3 "factor_at" 2 R32 := by
  refine cb_calm F sc32 rfl bn32 fun f cdv A outer s H ds r rm hR hn => ?_
  obtain ⟨c, t, hc, ht, rfl, rfl⟩ := hR
  refine .inl ?_
  refine dss_cons (ds_expr (de_call (h9.cal rm) (da_2 (de_andT (dec (de_call (h19.cal rm) (da_1 (de_v 1)) ⟨_, rfl, rfl⟩) ?_) (de_one (dec (de_lt (de_v 1) (de_call (h13.cal rm) (da_1 (de_v 0)) ⟨c, hc, rfl, rfl⟩)) ?_))) de_str) ⟨_, rfl, rfl⟩)) (dss_one (ds_ret (de_call (h14.cal rm) (da_2 (de_v 0) (de_v 1)) ⟨c, t, hc, rfl, rfl⟩)))
  · exact congrArg PyData.bool (decide_eq_true (Int.natCast_nonneg t))
  · exact congrArg PyData.bool (decide_eq_true (Int.ofNat_lt.mpr ht))
def R33 : List PyData → PyData → Prop := fun ds r => ∃ c, ∃ s t : Nat, CK c ∧ s < c.b ∧ t < tn c ∧ ds = [ckD c, .tuple [iN s, iN t]] ∧ r = backF c s t
theorem w33 (F : FF K mg "back_of" "back_of" 33) (h9 : Cb false P w K mg base 1 "usable" 2 R9) (h21 : Cb false P w K mg base 3 "is_move" 2 R21) (h16 : Cb false P w K mg base 2 "back_from" 2 R16) : Cb false P w K mg base 4 "back_of" 2 R33 := by
  refine cb_calm F sc33 rfl bn33 fun f cdv A outer s H ds r rm hR hn => ?_
  obtain ⟨c, s, t, hc, hs, ht, rfl, rfl⟩ := hR
  have cb := hc.bd
  exact .inl (dss_cons (ds_expr (de_call (h9.cal rm) (da_2 (de_call (h21.cal rm) (da_2 (de_v 0) (de_v 1)) ⟨c, s, t, hc, hs, ht, rfl, rfl⟩) de_str) ⟨_, rfl, rfl⟩)) (dss_one (ds_ret (de_call (h16.cal rm) (da_2 (de_v 0) (de_v 1)) ⟨c, s, t, hc, ⟨by omega, by omega⟩, rfl, rfl⟩))))
def R34 : List PyData → PyData → Prop := fun ds r => ∃ c, ∃ s t : Nat, CK c ∧ s < c.b ∧ t < tn c ∧ ds = [ckD c, .tuple [iN s, iN t]] ∧ r = iN (t * c.b + s)
theorem w34 (F : FF K mg "number_of" "number_of" 34) (h9 : Cb false P w K mg base 1 "usable" 2 R9) (h21 : Cb false P w K mg base 3 "is_move" 2 R21) : Cb false P w K mg base 4 "number_of" 2 R34 := by
  refine cb_calm F sc34 rfl bn34 fun f cdv A outer s H ds r rm hR hn => ?_
  obtain ⟨c, s, t, hc, hs, ht, rfl, rfl⟩ := hR
  have cb := hc.bd
  refine .inl (dss_cons (ds_expr (de_call (h9.cal rm) (da_2 (de_call (h21.cal rm) (da_2 (de_v 0) (de_v 1)) ⟨c, s, t, hc, hs, ht, rfl, rfl⟩) de_str) ⟨_, rfl, rfl⟩)) (dss_one (ds_ret (dec (de_add (de_mul (de_ixT (de_v 1) de_int rfl) (de_ixT (de_v 0) de_int rfl) (mulS2 (by omega))) (de_ixT (de_v 1) de_int rfl)) ?_))))
  exact congrArg PyData.int (by rw [← Int.natCast_mul, ← Int.natCast_add])
end
end EL
end
section
set_option maxHeartbeats 1000000
set_option exponentiation.threshold 10
namespace EL
open PySem PySem.Spec PyProof.Rows L2 DL
section
variable {P : Program} {w : World} {K : PySem.W.Frag} {mg : Str → Option Value} {base : Heap} (B : Bi mg)
/-! ### moves_in -/
def movesF (c : Ck) : List PyData := (List.range (tn c)).flatMap fun t => (List.range c.b).map fun s => .tuple [iN s, iN t]
include B in
theorem w15 (F : FF K mg "moves_in" "moves_in" 15) (h13 : Cb false P w K mg base 1 "turns_in" 1 R13) : Cb false P w K mg base 2 "moves_in" 1 (Rck fun c => .list (movesF c)) := by
  refine cb_calm F sc15 rfl bn15 fun f cdv A outer s H ds r rm hR hn => ?_
  obtain ⟨c, hc, rfl, rfl⟩ := hR
  have cb := hc.bd
  refine .inl (dss_one (ds_ret (DN.de (dn_lc2 (own := [("turn", 1), ("shift", 2)]) (vs1 := [2]) (List.range (tn c)) (List.range c.b) iN iN (fun t s => .tuple [iN s, iN t]) rfl sc15.nd ?_ bk (by decide) (dip_range B.range (tn c) (de_call (h13.cal rm) (da_1 (de_v 0)) ⟨c, hc, rfl, rfl⟩) (by omega)) fun t ht => ?_))))
  · rw [List.length_range, List.length_range]
    refine Nat.lt_of_le_of_lt (Nat.mul_le_mul (show tn c ≤ 6 by omega) (show c.b ≤ 10 by omega)) ?_
    decide
  · refine ⟨[.dat (ckD c), .dat (iN t), .no], [1], by decide, fun i ds => ?_, fun s H C cl fp => dg_name 1 sc15.nd, fun s H C cl fp => dip_range B.range c.b (de_ixT (de_v 0) de_int rfl) (by omega), fun b hb => ⟨_, _, fun j hj => hj, fun s H C cl fp => ⟨dg_name 2 sc15.nd, de_tup2 (de_v 2) (de_v 1)⟩⟩⟩
    match i with
    | 0 => exact fun h => by cases h
    | 1 => exact fun h => by cases h
    | 2 => exact fun h => by cases h
    | n + 3 => exact fun h => by cases h
theorem w35 (hB : mg "tuple" = none) (F : FF K mg "all_moves" "all_moves" 35) (h15 : Cb false P w K mg base 2 "moves_in" 1 (Rck fun c => .list (movesF c))) : Cb false P w K mg base 3 "all_moves" 1 (Rck fun c => .tuple (movesF c)) := by
  refine cb_calm F sc35 rfl bn35 fun f cdv A outer s H ds r rm hR hn => ?_
  obtain ⟨c, hc, rfl, rfl⟩ := hR
  exact .inl (dss_one (ds_ret (de_tupL hB (DE.dr (de_call (h15.cal rm) (da_1 (de_v 0)) ⟨c, hc, rfl, rfl⟩)))))
/-! ### settled -/
def settleF (d : DD) : DD := (d.1.fdiv (sg d.1 (gcdL d.1.natAbs d.2)), d.2.map fun x => x.fdiv (sg d.1 (gcdL d.1.natAbs d.2)))
def R37 : List PyData → PyData → Prop := fun ds r => ∃ c, ∃ b : Int, ∃ l : List Int, CK c ∧ l.length = nn c ∧ b ≠ 0 ∧ b.natAbs < 2 ^ 9000 ∧ ds = [ckD c, .int b, .tuple (il l)] ∧ r = dlD (settleF (b, l))
theorem sml {n : Nat} (h : n ≤ 1000) : n < sizeLine := by rw [sizeLine_eq]; omega
theorem cdvs {i b : Int} {l : List Int} (hb : b ≠ 0) (h : b.natAbs < 2 ^ 9000) : CDv i (sg b (gcdL b.natAbs l)) := by
  refine cdv (sg_ne (gcdL_ne (by omega))) ?_
  rw [sg_abs]
  exact Nat.lt_of_le_of_lt (gcdL_le (by omega)) (by rwa [Int.natAbs_natCast])
include B in
theorem w37 (F : FF K mg "settled" "settled" 37) (h18 : Cb false P w K mg base 2 "is_integer" 1 (Rint1 fun _ => .bool true)) (h23 : Cb false P w K mg base 2 "moves_many" 1 (Rck fun c => iN (nn c))) : Cb false P w K mg base 3 "settled" 3 R37 := by
  refine cb_calm F sc37 rfl bn37 fun f cdv A outer s H ds r rm hR hn => ?_
  obtain ⟨c, b, l, hc, hl, hb, hz, rfl, rfl⟩ := hR
  have cb := hc.bd
  refine .inl ?_
  refine dss_cons (ds_ifF (dtc (DW.dt (dw_orF (dtc (dt_not (DE.dt (de_call (r := .bool true) (h18.cal rm) (da_1 (de_v 1)) ⟨_, rfl, rfl⟩)))) (dw_or1 (x := false) (dtc (dt_eq (de_v 1) de_int) (decide_eq_false hb)))))) dss_nil) ?_
  refine dss_cons (ds_ifF (dtc (DW.dt (dw_orF (dtc (dt_not (DE.dt (de_isTT B (de_v 2))))) (dw_or1 (x := false) (dtc (dt_ne (de_lenT B.len (de_v 2)) (de_call (h23.cal rm) (da_1 (de_v 0)) ⟨c, hc, rfl, rfl⟩)) ?_))))) dss_nil) ?_
  · rw [il_length, hl, decide_eq_true rfl]; rfl
  refine dss_cons (ds_set 3 sc37.nd (de_abs B.abs (de_v 1))) ?_
  refine dss_cons (ds_forF (fun s : Int => [.dat (ckD c), .dat (.int b), .dat (.tuple (il l)), .dat (.int s), .no]) (fun g x => ((Nat.gcd g.natAbs x.natAbs : Nat) : Int)) (fun _ => True) b.natAbs l PyData.int cmF PassesOwn.never (di_tup (de_v 2)) trivial fun s x hx _ => ⟨trivial, ?_⟩) ?_
  · exact ⟨_, _, _, dg_name 4 sc37.nd, dss_cons (ds_ifF (dtc (dt_not (DE.dt (de_call (r := .bool true) (h18.cal rm) (da_1 (de_v 4)) ⟨_, rfl, rfl⟩)))) dss_nil) (dss_one (ds_set 3 sc37.nd (de_gcd B.gcd (de_v 3) (de_v 4)))), .keep (.keep (.keep (.keep (.drop .nil))))⟩
  refine dss_cons (G1 := [.dat (ckD c), .dat (.int b), .dat (.tuple (il l)), .dat (.int (sg b (gcdL b.natAbs l))), .no]) ?_ ?_
  · refine ds_if (dt_lt (de_v 1) de_int) (fun t => ?_) fun t => ?_
    · unfold sg
      rw [if_pos (of_decide_eq_true t)]
      exact dss_one (ds_set 3 sc37.nd (de_neg (de_v 3)))
    · unfold sg
      rw [if_neg (of_decide_eq_false t)]
      exact dss_nil
  · refine dss_one (ds_ret (de_tup2 (de_div (de_v 1) (de_v 3) (cdvs hb hz)) (dec (de_tupL B.tuple (DN.dr (dn_lc (own := [("weight", 4)]) l PyData.int (fun x => .int (x.fdiv (sg b (gcdL b.natAbs l)))) cmF sc37.nd (sml (by omega)) bk (di_tup (de_v 2)) fun x hx => ⟨_, _, fun j hj => hj, fun s H C cl fp => ⟨dg_name 4 sc37.nd, de_div (de_v 4) (de_v 3) (cdvs hb hz)⟩⟩))) ?_)))
    show PyData.tuple _ = .tuple (il (l.map _))
    unfold il
    rw [List.map_map]; rfl
/-! ### idle, even -/
def idF (n : Nat) : DD := (1, ofF n fun i => if i = 0 then 1 else 0)
include B in
theorem w38 (F : FF K mg "idle_deal" "idle_deal" 38) (h23 : Cb false P w K mg base 2 "moves_many" 1 (Rck fun c => iN (nn c))) : Cb false P w K mg base 3 "idle_deal" 1 (Rck fun c => dlD (idF (nn c))) := by
  refine cb_calm F sc38 rfl bn38 fun f cdv A outer s H ds r rm hR hn => ?_
  obtain ⟨c, hc, rfl, rfl⟩ := hR
  have cb := hc.bd
  refine .inl (dss_one (ds_ret (de_tup2 de_int (dec (de_tupL B.tuple (DN.dr (dn_lc (own := [("number", 1)]) (List.range (nn c)) iN (fun i => .int (if i = 0 then 1 else 0)) cmF sc38.nd (sml (by rw [List.length_range]; omega)) bk (di_range B.range (nn c) (de_call (h23.cal rm) (da_1 (de_v 0)) ⟨c, hc, rfl, rfl⟩) (by omega)) fun x hx => ⟨_, _, fun j hj => hj, fun s H C cl fp => ⟨dg_name 1 sc38.nd, de_if (dt_eq (de_v 1) de_int) (fun t => ?_) fun t => ?_⟩⟩))) ?_))))
  · have e : x = 0 := by have := of_decide_eq_true t; omega
    rw [if_pos e]; exact de_int
  · have e : x ≠ 0 := by have := of_decide_eq_false t; omega
    rw [if_neg e]; exact de_int
  · show PyData.tuple _ = .tuple (il (ofF _ _))
    unfold il ofF
    rw [List.map_map]; rfl
def R39 : List PyData → PyData → Prop := fun ds r => ∃ c, ∃ p q : Int, CK c ∧ 1 ≤ q ∧ Nat.gcd p.natAbs q.natAbs = 1 ∧ q.natAbs < 2 ^ 8000 ∧ ds = [ckD c, .tuple [.int p, .int q]] ∧ r = dlD (settleF (q * nn c, ofF (nn c) fun _ => p))
theorem pw8 {q : Int} {n : Nat} (h : q.natAbs < 2 ^ 8000) (hn : n ≤ 21) : (q * n).natAbs < 2 ^ 9000 := by
  rw [Int.natAbs_mul, Int.natAbs_natCast]
  have e : (2 : Nat) ^ 9000 = 2 ^ 8000 * 2 ^ 1000 := by rw [← Nat.pow_add]
  rw [e]
  have : 21 < 2 ^ 1000 := Nat.lt_of_lt_of_le (by decide : 21 < 2 ^ 5) (Nat.pow_le_pow_right (by omega) (by omega))
  exact Nat.lt_of_le_of_lt (Nat.mul_le_mul_left _ (show n ≤ 2 ^ 1000 by omega)) (Nat.mul_lt_mul_of_pos_right h (by omega))
include B in
theorem w39 (F : FF K mg "even_deal" "even_deal" 39) (h30 : Cb false P w K mg base 3 "want_quotient" 1 R30) (h23 : Cb false P w K mg base 2 "moves_many" 1 (Rck fun c => iN (nn c))) (h37 : Cb false P w K mg base 3 "settled" 3 R37) : Cb false P w K mg base 4 "even_deal" 2 R39 := by
  refine cb_calm F sc39 rfl bn39 fun f cdv A outer s H ds r rm hR hn => ?_
  obtain ⟨c, p, q, hc, hq, hg, hz, rfl, rfl⟩ := hR
  have cb := hc.bd
  refine .inl ?_
  refine dss_cons (ds_expr (de_call (h30.cal rm) (da_1 (de_v 1)) ⟨p, q, rfl, hq, hg, rfl⟩)) ?_
  refine dss_cons (ds_set 2 sc39.nd (de_call (h23.cal rm) (da_1 (de_v 0)) ⟨c, hc, rfl, rfl⟩)) (dss_one (ds_ret (de_call (h37.cal rm) (da_3 (de_v 0) (de_mul (de_ixT (de_v 1) de_int rfl) (de_v 2) (mulS2 (by omega))) (dec (de_tupL B.tuple (DN.dr (dn_lc (own := [("_", 3)]) (List.range (nn c)) iN (fun i => .int p) cmF sc39.nd (sml (by rw [List.length_range]; omega)) bk (di_range B.range (nn c) (de_v 2) (by omega)) fun x hx => ⟨_, _, fun j hj => hj, fun s H C cl fp => ⟨dg_name 3 sc39.nd, de_ixT (de_v 1) de_int rfl⟩⟩))) ?_)) ⟨c, q * nn c, ofF (nn c) fun _ => p, hc, ofF_length, ?_, pw8 hz (by omega), rfl, rfl⟩)))
  · show PyData.tuple _ = .tuple (il (ofF _ _))
    unfold il ofF
    rw [List.map_map]; rfl
  · have : (0 : Int) < q * nn c := Int.mul_pos (by omega) (by omega)
    omega
/-! ### taken, scaled, common_of -/
theorem w48 (hB : mg "gcd" = some (.builtin "math.gcd")) (F : FF K mg "common_of" "common_of" 48) (h9 : Cb false P w K mg base 1 "usable" 2 R9) (h10 : Cb false P w K mg base 1 "whole" 1 (Rint1 fun _ => .bool true)) :
    Cb false P w K mg base 2 "common_of" 2 (fun ds r => ∃ a b : Int, ds = [.int a, .int b] ∧ r = .int (Nat.gcd a.natAbs b.natAbs : Nat)) := by
  refine cb_calm F sc48 rfl bn48 fun f cdv A outer s H ds r rm hR hn => ?_
  obtain ⟨a, b, rfl, rfl⟩ := hR
  exact .inl (dss_cons (ds_expr (de_call (h9.cal rm) (da_2 (de_call (h10.cal rm) (da_1 (de_v 0)) ⟨_, rfl, rfl⟩) de_str) ⟨_, rfl, rfl⟩)) (dss_cons (ds_expr (de_call (h9.cal rm) (da_2 (de_call (h10.cal rm) (da_1 (de_v 1)) ⟨_, rfl, rfl⟩) de_str) ⟨_, rfl, rfl⟩)) (dss_one (ds_ret (de_gcd hB (de_v 0) (de_v 1))))))
def R43 : List PyData → PyData → Prop := fun ds r => ∃ c, ∃ d e : DD, CK c ∧ Can (nn c) d ∧ Can (nn c) e ∧ d.1.natAbs < 2 ^ 4000 ∧ e.1.natAbs < 2 ^ 4000 ∧ (∀ x, x ∈ d.2 → x.natAbs < 2 ^ 9000) ∧ (∀ x, x ∈ e.2 → x.natAbs < 2 ^ 9000) ∧
  ds = [ckD c, dlD d, dlD e] ∧ r = dlD (settleF (d.1 * e.1, (d.2.zip e.2).map fun q => q.1 * e.1 - q.2 * d.1))
theorem lt9 {a b : Nat} (h1 : a < 2 ^ 4000) (h2 : b < 2 ^ 4000) : a * b < 2 ^ 9000 := by
  have e : (2 : Nat) ^ 9000 = 2 ^ 4000 * 2 ^ 5000 := by rw [← Nat.pow_add]
  rw [e]
  have h3 : b ≤ 2 ^ 5000 := Nat.le_trans (Nat.le_of_lt h2) (Nat.pow_le_pow_right (by omega) (by omega))
  have h4 : (0 : Nat) < 2 ^ 5000 := Nat.two_pow_pos _
  exact Nat.lt_of_le_of_lt (Nat.mul_le_mul_left _ h3) (Nat.mul_lt_mul_of_pos_right h1 h4)
theorem lt49 {a : Nat} (h : a < 2 ^ 4000) : a < 2 ^ 9000 := Nat.lt_of_lt_of_le h (Nat.pow_le_pow_right (by omega) (by omega))
theorem zip_il {l m : List Int} : zp (il l) (il m) = (l.zip m).map fun q => .tuple [.int q.1, .int q.2] := by
  unfold zp il
  rw [List.zip_map, List.map_map]; rfl
include B in
theorem w43 (F : FF K mg "taken" "taken" 43) (h29 : Cb false P w K mg base 5 "want_two" 3 R29) (h37 : Cb false P w K mg base 3 "settled" 3 R37) : Cb false P w K mg base 6 "taken" 3 R43 := by
  refine cb_calm F sc43 rfl bn43 fun f cdv A outer s H ds r rm hR hn => ?_
  obtain ⟨c, d, e, hc, hd, he, hz1, hz2, hw1, hw2, rfl, rfl⟩ := hR
  obtain ⟨b1, l1⟩ := d
  obtain ⟨b2, l2⟩ := e
  have cb := hc.bd
  have e1 : l1.length = nn c := hd.len
  have e2 : l2.length = nn c := he.len
  have p1 : 1 ≤ b1 := hd.pos
  have p2 : 1 ≤ b2 := he.pos
  refine .inl ?_
  refine dss_cons (ds_expr (de_call (h29.cal rm) (da_3 (de_v 0) (de_v 1) (de_v 2)) ⟨c, (b1, l1), (b2, l2), hc, hd, he, rfl, rfl⟩)) ?_
  refine dss_cons (ds_asg (de_tup2 (de_ixT (de_v 1) de_int rfl) (de_ixT (de_v 2) de_int rfl)) (dg_tup2 (.inl rfl) (dg_name 3 sc43.nd) (dg_name 4 sc43.nd))) ?_
  refine dss_cons (ds_lc (own := [("first", 6), ("second", 7)]) 5 (l1.zip l2) (fun q => .tuple [.int q.1, .int q.2]) (fun q => .int (q.1 * b2 - q.2 * b1)) cmT sc43.nd (sml (by rw [List.length_zip]; omega)) bk ?_ fun q hq => ⟨_, _, fun j hj => hj, fun s H C cl fp => ⟨dg_tup2 (.inl rfl) (dg_name 6 sc43.nd) (dg_name 7 sc43.nd), de_sub (de_mul (de_v 6) (de_v 4) ?_) (de_mul (de_v 7) (de_v 3) ?_)⟩⟩) ?_
  · rw [← zip_il]
    exact di_zpT B.zip (de_ixT (de_v 1) de_int rfl) (de_ixT (de_v 2) de_int rfl) (by rw [il_length, il_length, e1, e2])
  · exact mulB (k := 9000) (hw1 _ (List.of_mem_zip hq).1) (lt49 hz2) (by omega)
  · exact mulB (k := 9000) (hw2 _ (List.of_mem_zip hq).2) (lt49 hz1) (by omega)
  · refine dss_one (ds_ret (de_call (h37.cal rm) (da_3 (de_v 0) (de_mul (de_v 3) (de_v 4) (mulB (k := 9000) (lt49 hz1) (lt49 hz2) (by omega))) (dec (de_tupL B.tuple (dr_v 5)) ?_)) ⟨c, b1 * b2, (l1.zip l2).map fun q => q.1 * b2 - q.2 * b1, hc, ?_, ?_, ?_, rfl, rfl⟩))
    · unfold il; rw [List.map_map]; rfl
    · rw [List.length_map, List.length_zip]; omega
    · have : 0 < b1 * b2 := Int.mul_pos (by omega) (by omega)
      omega
    · rw [Int.natAbs_mul]; exact lt9 hz1 hz2
def R44 : List PyData → PyData → Prop := fun ds r => ∃ c, ∃ d : DD, ∃ p q : Int, CK c ∧ Can (nn c) d ∧ 1 ≤ q ∧ Nat.gcd p.natAbs q.natAbs = 1 ∧ d.1.natAbs < 2 ^ 4000 ∧ q.natAbs < 2 ^ 4000 ∧ p.natAbs < 2 ^ 9000 ∧ (∀ x, x ∈ d.2 → x.natAbs < 2 ^ 9000) ∧
  ds = [ckD c, dlD d, .tuple [.int p, .int q]] ∧ r = dlD (settleF (d.1 * q, d.2.map fun x => x * p))
include B in
theorem w44 (F : FF K mg "scaled" "scaled" 44) (h28 : Cb false P w K mg base 4 "want_deal" 3 R28) (h30 : Cb false P w K mg base 3 "want_quotient" 1 R30) (h37 : Cb false P w K mg base 3 "settled" 3 R37) : Cb false P w K mg base 5 "scaled" 3 R44 := by
  refine cb_calm F sc44 rfl bn44 fun f cdv A outer s H ds r rm hR hn => ?_
  obtain ⟨c, d, p, q, hc, hd, hq, hg, hz1, hz2, hz3, hw, rfl, rfl⟩ := hR
  obtain ⟨b1, l1⟩ := d
  have cb := hc.bd
  have e1 : l1.length = nn c := hd.len
  have p1 : 1 ≤ b1 := hd.pos
  refine .inl ?_
  refine dss_cons (ds_expr (de_call (h28.cal rm) (da_3 (de_v 0) (de_v 1) de_str) ⟨c, (b1, l1), _, hc, hd, rfl, rfl⟩)) ?_
  refine dss_cons (ds_expr (de_call (h30.cal rm) (da_1 (de_v 2)) ⟨p, q, rfl, hq, hg, rfl⟩)) ?_
  refine dss_cons (ds_lc (own := [("weight", 4)]) 3 l1 PyData.int (fun x => .int (x * p)) cmF sc44.nd (sml (by omega)) bk (di_tup (de_ixT (de_v 1) de_int rfl)) fun x hx => ⟨_, _, fun j hj => hj, fun s H C cl fp => ⟨dg_name 4 sc44.nd, de_mul (de_v 4) (de_ixT (de_v 2) de_int rfl) (mulB (k := 9000) (hw _ hx) hz3 (by omega))⟩⟩) ?_
  refine dss_one (ds_ret (de_call (h37.cal rm) (da_3 (de_v 0) (de_mul (de_ixT (de_v 1) de_int rfl) (de_ixT (de_v 2) de_int rfl) (mulB (k := 9000) (lt49 hz1) (lt49 hz2) (by omega))) (dec (de_tupL B.tuple (dr_v 3)) ?_)) ⟨c, b1 * q, l1.map fun x => x * p, hc, by rw [List.length_map]; exact e1, ?_, ?_, rfl, rfl⟩))
  · unfold il; rw [List.map_map]; rfl
  · have : 0 < b1 * q := Int.mul_pos (by omega) (by omega)
    omega
  · rw [Int.natAbs_mul]; exact lt9 hz1 hz2
end
end EL
end
section
set_option maxHeartbeats 1000000
namespace EL
open PySem PySem.Spec PyProof.Rows L2 DL
/-! ### the moves as a group -/
def facN (c : Ck) (t : Nat) : Nat := (facI c t).toNat
def mN (c : Ck) (g k : Nat) : Nat := (g / c.b + k / c.b) % tn c * c.b + (facN c (k / c.b) * (g % c.b) + k % c.b) % c.b
def bkN (c : Ck) (p : Nat × Nat) : Nat := (-(p.2 : Int) % tn c).toNat * c.b + (-facI c (-(p.2 : Int)) * p.1 % c.b).toNat
def ivN (c : Ck) (g : Nat) : Nat := bkN c (g % c.b, g / c.b)
theorem CK.fac {c : Ck} (h : CK c) {t : Nat} (ht : t < tn c) : facI c t = facN c t := by
  have z := h.all fun c => (List.range (tn c)).all fun t => decide (0 ≤ facI c t)
  have := of_decide_eq_true (List.all_eq_true.mp z t (List.mem_range.mpr ht))
  unfold facN
  omega
theorem CK.mlt {c : Ck} (h : CK c) (g k : Nat) : mN c g k < nn c := by
  have cb := h.bd
  unfold mN nn
  have h1 : (g / c.b + k / c.b) % tn c < tn c := Nat.mod_lt _ (by omega)
  have h2 : (facN c (k / c.b) * (g % c.b) + k % c.b) % c.b < c.b := Nat.mod_lt _ (by omega)
  have h3 : ((g / c.b + k / c.b) % tn c + 1) * c.b ≤ tn c * c.b := Nat.mul_le_mul_right _ h1
  rw [Nat.succ_mul] at h3
  rw [Nat.mul_comm c.b]
  omega
theorem CK.bklt {c : Ck} (h : CK c) (p : Nat × Nat) : bkN c p < nn c := by
  have cb := h.bd
  unfold bkN nn
  have h1 := Int.emod_lt_of_pos (-(p.2 : Int)) (b := (tn c : Int)) (by omega)
  have h2 := Int.emod_lt_of_pos (-facI c (-(p.2 : Int)) * p.1) (b := (c.b : Int)) (by omega)
  have h3 : ((-(p.2 : Int) % tn c).toNat + 1) * c.b ≤ tn c * c.b := Nat.mul_le_mul_right _ (by omega)
  rw [Nat.succ_mul] at h3
  rw [Nat.mul_comm c.b]
  omega
def movesL (c : Ck) : List (Nat × Nat) := (List.range (tn c)).flatMap fun t => (List.range c.b).map fun s => (s, t)
theorem movesF_eq (c : Ck) : movesF c = (movesL c).map fun p => .tuple [iN p.1, iN p.2] := by
  unfold movesF movesL
  rw [List.map_flatMap]
  simp only [List.map_map]; rfl
theorem CK.moves {c : Ck} (h : CK c) : movesL c = ofF (nn c) fun g => (g % c.b, g / c.b) := of_decide_eq_true (h.all fun c => decide (movesL c = ofF (nn c) fun g => (g % c.b, g / c.b)))
theorem mem_moves {c : Ck} {p : Nat × Nat} (h : p ∈ movesL c) : p.1 < c.b ∧ p.2 < tn c := by
  unfold movesL at h
  obtain ⟨t, ht, hp⟩ := List.mem_flatMap.mp h
  obtain ⟨s, hs, rfl⟩ := List.mem_map.mp hp
  exact ⟨List.mem_range.mp hs, List.mem_range.mp ht⟩
def mirF (c : Ck) (d : DD) : DD := (d.1, ofF (nn c) fun g => d.2.getD (ivN c g) 0)
theorem getD_get {l : List Int} {i : Nat} (h : i < l.length) : l[i]? = some (l.getD i 0) := by
  rw [List.getD_eq_getElem?_getD, List.getElem?_eq_getElem h]; rfl
theorem en_il {l : List Int} : en (il l) = l.zipIdx.map fun q => .tuple [iN q.2, .int q.1] := by
  unfold en il
  rw [List.zipIdx_map, List.map_map]; rfl
section
variable {P : Program} {w : World} {K : PySem.W.Frag} {mg : Str → Option Value} {base : Heap} (B : Bi mg)
def R46 : List PyData → PyData → Prop := fun ds r => ∃ c d, CK c ∧ Can (nn c) d ∧ ds = [ckD c, dlD d] ∧ r = dlD (mirF c d)
include B in
theorem w46 (F : FF K mg "mirrored" "mirrored" 46) (h28 : Cb false P w K mg base 4 "want_deal" 3 R28) (h34 : Cb false P w K mg base 4 "number_of" 2 R34) (h33 : Cb false P w K mg base 4 "back_of" 2 R33) (h35 : Cb false P w K mg base 3 "all_moves" 1 (Rck fun c => .tuple (movesF c))) : Cb false P w K mg base 5 "mirrored" 2 R46 := by
  refine cb_calm F sc46 rfl bn46 fun f cdv A outer s H ds r rm hR hn => ?_
  obtain ⟨c, d, hc, hd, rfl, rfl⟩ := hR
  obtain ⟨b, l⟩ := d
  have cb := hc.bd
  have e1 : l.length = nn c := hd.len
  have el : (movesL c).length = nn c := by rw [hc.moves, ofF_length]
  refine .inl ?_
  refine dss_cons (ds_expr (de_call (h28.cal rm) (da_3 (de_v 0) (de_v 1) de_str) ⟨c, (b, l), _, hc, hd, rfl, rfl⟩)) ?_
  refine dss_cons (ds_lc (own := [("move", 3)]) 2 (movesL c) (fun p => .tuple [iN p.1, iN p.2]) (fun p => iN (bkN c p)) cmF sc46.nd (sml (by omega)) bk (di_tup (dec (de_call (h35.cal rm) (da_1 (de_v 0)) ⟨c, hc, rfl, rfl⟩) (congrArg PyData.tuple (movesF_eq c)))) fun p hp => ⟨_, _, fun j hj => hj, fun s H C cl fp => ⟨dg_name 3 sc46.nd, ?_⟩⟩) ?_
  · obtain ⟨hp1, hp2⟩ := mem_moves hp
    have h1 := Int.emod_lt_of_pos (-(p.2 : Int)) (b := (tn c : Int)) (by omega)
    have h2 := Int.emod_lt_of_pos (-facI c (-(p.2 : Int)) * p.1) (b := (c.b : Int)) (by omega)
    have h3 := Int.emod_nonneg (-(p.2 : Int)) (b := (tn c : Int)) (by omega)
    have h4 := Int.emod_nonneg (-facI c (-(p.2 : Int)) * p.1) (b := (c.b : Int)) (by omega)
    refine de_call (Cal.blk (h34.cal rm) _ _ _ _ _) (da_2 (de_v 0) (dec (de_call (Cal.blk (h33.cal rm) _ _ _ _ _) (da_2 (de_v 0) (de_v 3)) ⟨c, p.1, p.2, hc, hp1, hp2, rfl, rfl⟩) (q := .tuple [iN (-facI c (-(p.2 : Int)) * p.1 % c.b).toNat, iN (-(p.2 : Int) % tn c).toNat]) ?_)) ⟨c, _, _, hc, by omega, by omega, rfl, rfl⟩
    show PyData.tuple [.int _, .int _] = .tuple [.int _, .int _]
    rw [Int.toNat_of_nonneg h3, Int.toNat_of_nonneg h4]
  refine dss_frz 2 rfl (dss_one (ds_ret (de_tup2 (de_ixT (de_v 1) de_int rfl) (dec (de_tupL B.tuple (DN.dr (dn_lc (own := [("number", 4)]) (movesL c) (fun p => iN (bkN c p)) (fun p => .int (l.getD (bkN c p) 0)) cmF sc46.nd (sml (by omega)) bk (di_list (de_v 2)) fun p hp => ⟨_, _, fun j hj => hj, fun s H C cl fp => ⟨dg_name 4 sc46.nd, de_ixT (de_ixT (de_v 1) de_int rfl) (de_v 4) (il_at (getD_get (by rw [e1]; exact hc.bklt p)))⟩⟩))) ?_))))
  rw [hc.moves]
  show PyData.tuple _ = .tuple (il (ofF _ _))
  unfold il
  rw [ofF_map, ofF_map]; rfl
/-! ### dealt -/
/-- one summand -/
def putF (c : Ck) (g : Nat) (x : Int) (F : Nat → Int) (q : Int × Nat) : Nat → Int := fun h => if h = mN c g q.2 then F h + x * q.1 else F h
def secs (l : List Int) : List (Int × Nat) := l.zipIdx.filter fun q => !decide (q.1 = 0)
def rowF (c : Ck) (l2 : List Int) (F : Nat → Int) (q : Int × Nat) : Nat → Int := if q.1 = 0 then F else (secs l2).foldl (putF c q.2 q.1) F
def dealF (c : Ck) (l1 l2 : List Int) : Nat → Int := l1.zipIdx.foldl (rowF c l2) fun _ => 0
def W9 (l : List Int) : Prop := ∀ x, x ∈ l → x.natAbs < 2 ^ 9000
def R41 : List PyData → PyData → Prop := fun ds r => ∃ c, ∃ d e : DD, CK c ∧ Can (nn c) d ∧ Can (nn c) e ∧ d.1.natAbs < 2 ^ 4000 ∧ e.1.natAbs < 2 ^ 4000 ∧ W9 d.2 ∧ W9 e.2 ∧
  ds = [ckD c, dlD d, dlD e] ∧ r = dlD (settleF (d.1 * e.1, ofF (nn c) (dealF c d.2 e.2)))
theorem mem_zipIdx {l : List Int} {q : Int × Nat} (h : q ∈ l.zipIdx) : q.2 < l.length ∧ q.1 ∈ l := by
  obtain ⟨x, i⟩ := q
  have := List.mem_zipIdx h
  obtain ⟨h1, h2, h3⟩ := this
  have hi : i < l.length := by omega
  refine ⟨hi, ?_⟩
  have e : x = l[i] := by simpa using h3
  rw [e]; exact List.getElem_mem hi
include B in
theorem w41 (F : FF K mg "dealt" "dealt" 41) (h29 : Cb false P w K mg base 5 "want_two" 3 R29) (h24 : Cb false P w K mg base 2 "turns_many" 1 (Rck fun c => iN (tn c))) (h32 : Cb false P w K mg base 3 "factor_at" 2 R32) (h37 : Cb false P w K mg base 3 "settled" 3 R37) : Cb false P w K mg base 6 "dealt" 3 R41 := by
  refine cb_calm F sc41 rfl bn41 fun f cdv A outer s H ds r rm hR hn => ?_
  obtain ⟨c, d, e, hc, hd, he, hz1, hz2, hw1, hw2, rfl, rfl⟩ := hR
  obtain ⟨b1, l1⟩ := d
  obtain ⟨b2, l2⟩ := e
  have cb := hc.bd
  have e1 : l1.length = nn c := hd.len
  have e2 : l2.length = nn c := he.len
  have p1 : 1 ≤ b1 := hd.pos
  have p2 : 1 ≤ b2 := he.pos
  refine .inl ?_
  refine dss_cons (ds_expr (de_call (h29.cal rm) (da_3 (de_v 0) (de_v 1) (de_v 2)) ⟨c, (b1, l1), (b2, l2), hc, hd, he, rfl, rfl⟩)) ?_
  refine dss_cons (ds_set 3 sc41.nd (de_ixT (de_v 0) de_int rfl)) ?_
  refine dss_cons (ds_set 4 sc41.nd (de_call (h24.cal rm) (da_1 (de_v 0)) ⟨c, hc, rfl, rfl⟩)) ?_
  refine dss_cons (ds_lc (own := [("turn", 6)]) 5 (List.range (tn c)) iN (fun t => .int (facI c t)) cmF sc41.nd (sml (by rw [List.length_range]; omega)) bk (di_range B.range (tn c) (de_v 4) (by omega)) fun t ht => ⟨_, _, fun j hj => hj, fun s H C cl fp => ⟨dg_name 6 sc41.nd, de_call (Cal.blk (h32.cal rm) _ _ _ _ _) (da_2 (de_v 0) (de_v 6)) ⟨c, t, hc, List.mem_range.mp ht, rfl, rfl⟩⟩⟩) ?_
  refine dss_cons (ds_lcF (own := [("number", 8), ("weight", 9)]) 7 l2.zipIdx (fun q => .tuple [iN q.2, .int q.1]) (fun q => .tuple [iN (q.2 / c.b), iN (q.2 % c.b), .int q.1]) (fun q => !decide (q.1 = 0)) cmT sc41.nd (sml (by rw [List.length_zipIdx]; omega)) bk ?_ fun q hq => ⟨_, _, fun j hj => hj, fun s H C cl fp => ⟨dg_tup2 (.inl rfl) (dg_name 8 sc41.nd) (dg_name 9 sc41.nd), dts_one (dt_ne (de_v 9) de_int), fun _ => de_tup (da_3 (dec (de_div (de_v 8) (de_v 3) (cdvS (by omega) (by omega))) ?_) (dec (de_modP (de_v 8) (de_v 3) (by omega)) ?_) (de_v 9)) sz3⟩⟩) ?_
  · rw [← en_il]
    exact di_enT B.enum (de_ixT (de_v 2) de_int rfl)
  · exact congrArg PyData.int (Int.ofNat_fdiv _ _).symm
  · exact congrArg PyData.int (Int.natCast_emod _ _).symm
  refine dss_cons (ds_lc (own := [("_", 11)]) 10 (List.range (nn c)) iN (fun t => .int 0) cmF sc41.nd (sml (by rw [List.length_range]; omega)) bk (di_range B.range (nn c) (dec (de_mul (de_v 3) (de_v 4) (mulS (by omega))) (congrArg PyData.int (Int.natCast_mul _ _).symm)) (by omega)) fun t ht => ⟨_, _, fun j hj => hj, fun s H C cl fp => ⟨dg_name 11 sc41.nd, de_int⟩⟩) ?_
  refine dss_frz 5 rfl (dss_frz 7 rfl ?_)
  have e0 : (List.range (nn c)).map (fun _ => PyData.int 0) = il (ofF (nn c) fun _ => 0) := by unfold il ofF; rw [List.map_map]; rfl
  rw [e0]
  refine dss_cons (ds_forF (fun F : Nat → Int => [.dat (ckD c), .dat (dlD (b1, l1)), .dat (dlD (b2, l2)), .dat (iN c.b), .dat (iN (tn c)), .dat (.list ((List.range (tn c)).map fun t : Nat => .int (facI c t))), .no, .dat (.list ((secs l2).map fun q => .tuple [iN (q.2 / c.b), iN (q.2 % c.b), .int q.1])), .no, .no, .own (il (ofF (nn c) F)), .no, .no, .no, .no, .no, .no]) (rowF c l2) (fun _ => True) (fun _ => 0) l1.zipIdx (fun q => .tuple [iN q.2, .int q.1]) cmT PassesOwn.never ?_ trivial fun F q hq _ => ⟨trivial, ?_⟩) ?_
  · rw [← en_il]
    exact di_enT B.enum (de_ixT (de_v 1) de_int rfl)
  · obtain ⟨hq1, hq2⟩ := mem_zipIdx hq
    refine ⟨_, _, [.dat (ckD c), .dat (dlD (b1, l1)), .dat (dlD (b2, l2)), .dat (iN c.b), .dat (iN (tn c)), .dat (.list ((List.range (tn c)).map fun t : Nat => .int (facI c t))), .no, .dat (.list ((secs l2).map fun q => .tuple [iN (q.2 / c.b), iN (q.2 % c.b), .int q.1])), .dat (iN q.2), .dat (.int q.1), .own (il (ofF (nn c) (rowF c l2 F q))), .no, .no, .no, .no, .no, .no], dg_tup2 (.inl rfl) (dg_name 8 sc41.nd) (dg_name 9 sc41.nd), dss_one (ds_if (dt_ne (de_v 9) de_int) (fun t => ?_) fun t => ?_), .keep (.keep (.keep (.keep (.keep (.keep (.keep (.keep (.drop (.drop (.keep (.keep (.keep (.keep (.keep (.keep (.keep .nil))))))))))))))))⟩
    · have tq : q.1 ≠ 0 := by simpa using t
      have er : rowF c l2 F q = (secs l2).foldl (putF c q.2 q.1) F := if_neg tq
      rw [er]
      refine dss_cons (ds_set 6 sc41.nd (dec (de_div (de_v 8) (de_v 3) (cdvS (by omega) (by omega))) (congrArg PyData.int (Int.ofNat_fdiv _ _).symm))) ?_
      refine dss_cons (ds_set 12 sc41.nd (dec (de_modP (de_v 8) (de_v 3) (by omega)) (congrArg PyData.int (Int.natCast_emod _ _).symm))) ?_
      refine DSs.less (G1 := [.dat (ckD c), .dat (dlD (b1, l1)), .dat (dlD (b2, l2)), .dat (iN c.b), .dat (iN (tn c)), .dat (.list ((List.range (tn c)).map fun t : Nat => .int (facI c t))), .dat (iN (q.2 / c.b)), .dat (.list ((secs l2).map fun q => .tuple [iN (q.2 / c.b), iN (q.2 % c.b), .int q.1])), .dat (iN q.2), .dat (.int q.1), .own (il (ofF (nn c) ((secs l2).foldl (putF c q.2 q.1) F))), .no, .dat (iN (q.2 % c.b)), .no, .no, .no, .no]) (dss_one (ds_forF (fun F : Nat → Int => [.dat (ckD c), .dat (dlD (b1, l1)), .dat (dlD (b2, l2)), .dat (iN c.b), .dat (iN (tn c)), .dat (.list ((List.range (tn c)).map fun t : Nat => .int (facI c t))), .dat (iN (q.2 / c.b)), .dat (.list ((secs l2).map fun q => .tuple [iN (q.2 / c.b), iN (q.2 % c.b), .int q.1])), .dat (iN q.2), .dat (.int q.1), .own (il (ofF (nn c) F)), .no, .dat (iN (q.2 % c.b)), .no, .no, .no, .no]) (putF c q.2 q.1) (fun _ => True) F (secs l2) (fun q => .tuple [iN (q.2 / c.b), iN (q.2 % c.b), .int q.1]) cmF PassesOwn.never (di_list (de_v 7)) trivial fun F2 y hy _ => ⟨trivial, ?_⟩)) (.keep (.keep (.keep (.keep (.keep (.keep (.drop (.keep (.keep (.keep (.keep (.keep (.drop (.keep (.keep (.keep (.keep .nil)))))))))))))))))
      have hy' : y ∈ l2.zipIdx := (List.mem_filter.mp hy).1
      obtain ⟨hy1, hy2⟩ := mem_zipIdx hy'
      have hyt : y.2 / c.b < tn c := by
        rw [Nat.div_lt_iff_lt_mul (by omega)]
        have : nn c = tn c * c.b := Nat.mul_comm _ _
        omega
      have fe := hc.fac hyt
      have hmb : q.2 % c.b < c.b := Nat.mod_lt _ (by omega)
      refine ⟨_, _, _, dg_tup (.inl rfl) (dgs_cons (dg_name 13 sc41.nd) (dgs_cons (dg_name 14 sc41.nd) (dgs_cons (dg_name 15 sc41.nd) dgs_nil))), dss_cons (ds_set 16 sc41.nd (d := iN (mN c q.2 y.2)) (dec (de_add (de_mul (de_modP (de_add (de_v 6) (de_v 13)) (de_v 4) (by omega)) (de_v 3) (mulS2 (by omega))) (de_modP (de_add (de_mul (de_ixL (DE.dr (de_v 5)) (de_v 13) (d := .int (facI c (y.2 / c.b : Nat))) ?_) (de_v 12) (mulS2 (by omega))) (de_v 14)) (de_v 3) (by omega))) ?_)) (dss_one (ds_put 10 (m := mN c q.2 y.2) rfl (de_add (de_ixL (dr_v 10) (de_v 16) (d := .int (F2 (mN c q.2 y.2))) ?_) (de_mul (de_v 9) (de_v 15) (mulB (k := 9000) (hw1 _ hq2) (hw2 _ hy2) (by omega)))) (de_v 16) ?_)), ?_⟩
      · exact atI_nat (by rw [List.getElem?_map, List.getElem?_range hyt]; rfl)
      · rw [fe]
        refine congrArg PyData.int ?_
        unfold mN
        simp only [Int.natCast_add, Int.natCast_mul, Int.natCast_emod]
      · exact il_at (ofF_get (hc.mlt _ _))
      · rw [il_length, ofF_length]; exact ixN_nat (hc.mlt _ _)
      · rw [il_set, ofF_set]
        have e3 : (fun i => if i = mN c q.2 y.2 then F2 (mN c q.2 y.2) + q.1 * y.1 else F2 i) = putF c q.2 q.1 F2 y := funext fun i => by
          unfold putF
          by_cases hi : i = mN c q.2 y.2
          · rw [if_pos hi, if_pos hi, hi]
          · rw [if_neg hi, if_neg hi]
        rw [e3]
        exact .keep (.keep (.keep (.keep (.keep (.keep (.keep (.keep (.keep (.keep (.keep (.keep (.keep (.drop (.drop (.drop (.drop .nil))))))))))))))))
    · have tq : q.1 = 0 := by simpa using t
      have er : rowF c l2 F q = F := if_pos tq
      rw [er]
      exact dss_nil
  refine dss_one (ds_ret (de_call (h37.cal rm) (da_3 (de_v 0) (de_mul (de_ixT (de_v 1) de_int rfl) (de_ixT (de_v 2) de_int rfl) (mulB (k := 9000) (lt49 hz1) (lt49 hz2) (by omega))) (de_tupL B.tuple (dr_v 10))) ⟨c, b1 * b2, ofF (nn c) (dealF c l1 l2), hc, ofF_length, ?_, ?_, rfl, rfl⟩))
  · have : 0 < b1 * b2 := Int.mul_pos (by omega) (by omega)
    omega
  · rw [Int.natAbs_mul]; exact lt9 hz1 hz2
end
end EL
end
section
set_option maxHeartbeats 1000000
namespace EL
open PySem PySem.Spec PyProof.Rows L2 DL
/-! ### the mirrors of the elimination -/
abbrev Row := List Int
def lowF (l : Row) : Row := if gcdL 0 l = 0 then l else l.map fun x => x.fdiv (gcdL 0 l)
def gt (l : Row) (i : Nat) : Int := l.getD i 0
def clrF (c : Nat) (s r : Row) : Row := if gt r c = 0 then r else
  let g : Int := (Nat.gcd (gt r c).natAbs (gt s c).natAbs : Nat)
  lowF ((r.zip s).map fun q => (gt s c).fdiv g * q.1 - (gt r c).fdiv g * q.2)
def leaB (rows : List Row) (c : Nat) (x : Row) : Option Nat → Bool
  | none => true
  | some i => decide ((gt x c).natAbs < (gt (rows.getD i []) c).natAbs)
def leaF (rows : List Row) (c : Nat) (o : Option Nat) (q : Row × Nat) : Option Nat := if ((!decide (gt q.1 c = 0)) && leaB rows c q.1 o) = true then some q.2 else o
def leastF (rows : List Row) (c : Nat) : Option Nat := rows.zipIdx.foldl (leaF rows c) none
abbrev StS := List (Nat × Row) × List Row
def stpF (z : StS) (c : Nat) : StS := match leastF z.2 c with
  | none => z
  | some i => (z.1 ++ [(c, z.2.getD i [])], (z.2.zipIdx.filter fun q => !decide (q.2 = i)).map fun q => clrF c (z.2.getD i []) q.1)
def stepsF (rows : List Row) (k : Nat) : StS := (List.range k).foldl stpF ([], rows.map lowF)
def optD : Option Nat → PyData
  | none => .none
  | some i => iN i
def rwD (l : Row) : PyData := .list (il l)
def B4 (l : Row) : Prop := ∀ x, x ∈ l → x.natAbs < 2 ^ 4000
theorem B4.gt {l : Row} (h : B4 l) (i : Nat) : (gt l i).natAbs < 2 ^ 4000 := by
  unfold EL.gt
  rw [List.getD_eq_getElem?_getD]
  cases e : l[i]? with
  | none => exact Nat.two_pow_pos _
  | some x => exact h x (List.mem_of_getElem? e)
theorem gt_at {l : Row} {i : Nat} (h : i < l.length) : atI (il l) (i : Int) = some (.int (gt l i)) := il_at (getD_get h)
theorem lowF_length (l : Row) : (lowF l).length = l.length := by unfold lowF; split <;> simp
theorem clrF_length {c : Nat} {s r : Row} (h : r.length = s.length) : (clrF c s r).length = r.length := by
  unfold clrF
  split
  · rfl
  · show (lowF _).length = _
    rw [lowF_length, List.length_map, List.length_zip]; omega
section
variable {P : Program} {w : World} {K : PySem.W.Frag} {mg : Str → Option Value} {base : Heap} (B : Bi mg)
def R50 : List PyData → PyData → Prop := fun ds r => ∃ l : Row, l.length ≤ 100 ∧ ds = [.tuple (il l)] ∧ r = .bool true
include B in
theorem w50 (F : FF K mg "_is_row" "_is_row" 50) (h18 : Cb false P w K mg base 2 "is_integer" 1 (Rint1 fun _ => .bool true)) : Cb false P w K mg base 3 "_is_row" 1 R50 := by
  refine cb_calm F sc50 rfl bn50 fun f cdv A outer s H ds r rm hR hn => ?_
  obtain ⟨l, hl, rfl, rfl⟩ := hR
  refine .inl (dss_one (ds_ret (de_andT (de_isTT B (de_v 0)) (de_one (dec (de_all (ns := l.map fun _ => true) rfl B.all (DN.dr (dec2 (dn_lc (own := [("entry", 1)]) l PyData.int (fun _ => .bool true) cmF sc50.nd (sml (by omega)) bk (di_tup (de_v 0)) fun x hx => ⟨_, _, fun j hj => hj, fun s H C cl fp => ⟨dg_name 1 sc50.nd, de_call (Cal.blk (h18.cal rm) _ _ _ _ _) (da_1 (de_v 1)) ⟨_, rfl, rfl⟩⟩⟩) ?_))) ?_)))))
  · rw [List.map_map]; rfl
  · rw [List.all_map]
    exact congrArg PyData.bool (List.all_eq_true.mpr fun _ _ => rfl)
where
  dec2 {X : Cx} {G : Ev} {e : Expr} {ds es : List PyData} (h : DN X G e ds) (q : ds = es) : DN X G e es := q ▸ h
def trD (rows : List Row) : PyData := .tuple (rows.map fun r => .tuple (il r))
def R51 : List PyData → PyData → Prop := fun ds r => ∃ (rows : List Row) (n : Nat), n ≤ 100 ∧ (∀ q, q ∈ rows → q.length = n) ∧ ds = [trD rows] ∧ r = .none
include B in
theorem w51 (F : FF K mg "_want_rows" "_want_rows" 51) (h50 : Cb false P w K mg base 3 "_is_row" 1 R50) : Cb false P w K mg base 4 "_want_rows" 1 R51 := by
  refine cb_calm F sc51 rfl bn51 fun f cdv A outer s H ds r rm hR hn => ?_
  obtain ⟨rows, n, hn1, hl, rfl, rfl⟩ := hR
  refine .inr ⟨rfl, [.dat (trD rows), .no], ?_⟩
  refine dss_cons (ds_ifF (dtc (dt_not (DE.dt (de_isTT B (de_v 0))))) dss_nil) ?_
  refine dss_one (ds_forF (fun _ : Unit => [.dat (trD rows), .no]) (fun u _ => u) (fun _ => True) () rows (fun r => .tuple (il r)) cmF PassesOwn.never (di_tup (de_v 0)) trivial fun u q hq _ => ⟨trivial, ?_⟩)
  refine ⟨_, _, _, dg_name 1 sc51.nd, dss_one (ds_ifF (dtc (DW.dt (dw_orF (dtc (dt_not (DE.dt (de_call (r := .bool true) (h50.cal rm) (da_1 (de_v 1)) ⟨q, by rw [hl q hq]; exact hn1, rfl, rfl⟩)))) (dw_or1 (x := false) (dtc (dt_ne (de_lenT B.len (de_v 1)) (de_lenT B.len (de_ixT (d := .tuple (il (rows.headD []))) (de_v 0) de_int ?_))) ?_))))) dss_nil), .keep (.drop .nil)⟩
  · cases rows with
    | nil => simp at hq
    | cons a t => exact atI_nat (i := 0) rfl
  · have e : (rows.headD []).length = n := by
      cases rows with
      | nil => simp at hq
      | cons a t => exact hl a List.mem_cons_self
    rw [il_length, il_length, hl q hq, e, decide_eq_true rfl]; rfl
/-! ### _lowest -/
def R52 : List PyData → PyData → Prop := fun ds r => ∃ l : Row, l.length ≤ 100 ∧ W9 l ∧ ds = [rwD l] ∧ r = rwD (lowF l)
theorem gcdL0_lt {l : Row} (h : W9 l) (hz : gcdL 0 l ≠ 0) : (gcdL 0 l).natAbs < 2 ^ 9000 := by
  have : ∃ x, x ∈ l ∧ x ≠ 0 := by
    refine Classical.byContradiction fun no => hz ?_
    have : (0 : Int) ∣ gcdL 0 l := gcdL_max (Int.dvd_refl _) fun x hx => by
      have : x = 0 := Classical.byContradiction fun q => no ⟨x, hx, q⟩
      rw [this]; exact Int.dvd_refl _
    exact Int.zero_dvd.mp this
  obtain ⟨x, hx, hne⟩ := this
  exact Nat.lt_of_le_of_lt (Nat.le_of_dvd (by omega) (Int.natAbs_dvd_natAbs.mpr ((gcdL_dvd (g := 0)).2 x hx))) (h x hx)
theorem lowF_one {l : Row} (h : gcdL 0 l = 1) : lowF l = l := by
  unfold lowF
  rw [if_neg (by rw [h]; decide), h]
  conv => rhs; rw [← List.map_id l]
  exact List.map_congr_left fun x _ => Int.fdiv_one x
include B in
theorem w52 (F : FF K mg "_lowest" "_lowest" 52) : Cb false P w K mg base 1 "_lowest" 1 R52 := by
  refine cb_calm F sc52 rfl bn52 fun f cd A outer s H ds r rm hR hn => ?_
  obtain ⟨l, hl, hw, rfl, rfl⟩ := hR
  refine .inl ?_
  refine dss_cons (ds_set 1 sc52.nd de_int) ?_
  by_cases h1 : gcdL 0 l = 1
  · rw [lowF_one h1]
    refine dss_ret (ds_for cmF PassesOwn.never (di_list (de_v 0)) ?_)
    have go : ∀ (k : Row) (g : Int), g ≠ 1 → gcdL g k = 1 → ∀ y, DFor (cxB P w K mg base ["row", "shared", "entry"] "_lowest" (defScope (top 52)) f cd A outer s H true []) (fT 52 1) (fB 52 1) (il k) [.dat (rwD l), .dat (.int g), y] (.ret (rwD l)) := by
      intro k
      induction k with
      | nil => intro g hg h; exact absurd h hg
      | cons x k ih =>
        intro g hg h y
        by_cases e : (Nat.gcd g.natAbs x.natAbs : Nat) = 1
        · exact .ret (dg_name 2 sc52.nd) (dss_cons (ds_set 1 sc52.nd (de_gcd B.gcd (de_v 1) (de_v 2))) (dss_one (ds_ifT (dtc (dt_eq (de_v 1) de_int) (decide_eq_true (by rw [e]; rfl))) (dss_one (ds_ret (DN.de (dn_listL B.list (DE.dr (de_v 0)))))))))
        · exact .next (dg_name 2 sc52.nd) (dss_cons (ds_set 1 sc52.nd (de_gcd B.gcd (de_v 1) (de_v 2))) (dss_one (ds_ifF (dtc (dt_eq (de_v 1) de_int) (decide_eq_false (fun z => e (Int.ofNat_inj.mp z)))) dss_nil))) (ih ((Nat.gcd g.natAbs x.natAbs : Nat) : Int) (fun z => e (Int.ofNat_inj.mp z)) h _)
    exact go l 0 (by decide) h1 _
  · refine dss_cons (G1 := [.dat (rwD l), .dat (.int (gcdL 0 l)), .no]) (ds_for cmF PassesOwn.never (di_list (de_v 0)) ?_) ?_
    · have go : ∀ (k : Row) (g : Int), gcdL g k ≠ 1 → g ≠ 1 → DFor (cxB P w K mg base ["row", "shared", "entry"] "_lowest" (defScope (top 52)) f cd A outer s H true []) (fT 52 1) (fB 52 1) (il k) [.dat (rwD l), .dat (.int g), .no] (.nx [.dat (rwD l), .dat (.int (gcdL g k)), .no]) := by
        intro k
        induction k with
        | nil => intro g hg _; exact .nil
        | cons x k ih =>
          intro g hg hg1
          have e : ((Nat.gcd g.natAbs x.natAbs : Nat) : Int) ≠ 1 := fun z => hg (by
            show gcdL ((Nat.gcd g.natAbs x.natAbs : Nat) : Int) k = 1
            rw [z]
            have p := gcdL_nn (g := 1) (by decide) (l := k)
            have d := Int.le_of_dvd (by decide) (gcdL_dvd (g := 1) (l := k)).1
            have n := gcdL_ne (g := 1) (l := k) (by decide)
            omega)
          exact .next (G2 := [.dat (rwD l), .dat (.int (Nat.gcd g.natAbs x.natAbs : Nat)), .no]) (dg_name 2 sc52.nd) (DSs.less (dss_cons (ds_set 1 sc52.nd (de_gcd B.gcd (de_v 1) (de_v 2))) (dss_one (ds_ifF (dtc (dt_eq (de_v 1) de_int) (decide_eq_false e)) dss_nil))) (.keep (.keep (.drop .nil)))) (ih _ hg e)
      exact go l 0 h1 (by decide)
    · by_cases h0 : gcdL 0 l = 0
      · have e : lowF l = l := if_pos h0
        rw [e]
        exact dss_ret (ds_ifT (dtc (dt_eq (de_v 1) de_int) (decide_eq_true h0)) (dss_one (ds_ret (DN.de (dn_listL B.list (DE.dr (de_v 0)))))))
      · have e : lowF l = l.map fun x => x.fdiv (gcdL 0 l) := if_neg h0
        rw [e]
        refine dss_cons (ds_ifF (dtc (dt_eq (de_v 1) de_int) (decide_eq_false h0)) dss_nil) (dss_one (ds_ret (dec (DN.de (dn_lc (own := [("entry", 2)]) l PyData.int (fun x => .int (x.fdiv (gcdL 0 l))) cmF sc52.nd (sml (by omega)) bk (di_list (de_v 0)) fun x hx => ⟨_, _, fun j hj => hj, fun s H C cl fp => ⟨dg_name 2 sc52.nd, de_div (de_v 2) (de_v 1) (cdv h0 (gcdL0_lt hw h0))⟩⟩)) ?_)))
        unfold rwD il
        rw [List.map_map]; rfl
/-! ### _cleared -/
def R53 : List PyData → PyData → Prop := fun ds r => ∃ (q s : Row) (c : Nat), q.length ≤ 100 ∧ q.length = s.length ∧ c < s.length ∧ gt s c ≠ 0 ∧ B4 q ∧ B4 s ∧ ds = [rwD q, rwD s, iN c] ∧ r = rwD (clrF c s q)
theorem p9 {a b c d : Int} (h1 : a.natAbs < 2 ^ 4000) (h2 : b.natAbs < 2 ^ 4000) (h3 : c.natAbs < 2 ^ 4000) (h4 : d.natAbs < 2 ^ 4000) : (a * b - c * d).natAbs < 2 ^ 9000 := by
  have e : ∀ {x y : Int}, x.natAbs < 2 ^ 4000 → y.natAbs < 2 ^ 4000 → (x * y).natAbs < 2 ^ 8000 := fun {x y} hx hy => by
    rw [Int.natAbs_mul]
    have e : (2 : Nat) ^ 8000 = 2 ^ 4000 * 2 ^ 4000 := by rw [← Nat.pow_add]
    rw [e]
    exact Nat.lt_of_le_of_lt (Nat.mul_le_mul_left _ (Nat.le_of_lt hy)) (Nat.mul_lt_mul_of_pos_right hx (Nat.two_pow_pos _))
  have e1 := e h1 h2
  have e2 := e h3 h4
  have e3 : (2 : Nat) ^ 8001 = 2 ^ 8000 * 2 := rfl
  have : (a * b - c * d).natAbs < 2 ^ 8001 := by rw [e3]; omega
  exact Nat.lt_of_lt_of_le this (Nat.pow_le_pow_right (by omega) (by omega))
theorem fd4 {a b : Int} (h : a.natAbs < 2 ^ 4000) : (a.fdiv b).natAbs < 2 ^ 4000 := Nat.lt_of_le_of_lt (natAbs_fdiv_le a b) h
include B in
theorem w53 (F : FF K mg "_cleared" "_cleared" 53) (h52 : Cb false P w K mg base 1 "_lowest" 1 R52) : Cb false P w K mg base 2 "_cleared" 3 R53 := by
  refine cb_calm F sc53 rfl bn53 fun f cd A outer s H ds r rm hR hn => ?_
  obtain ⟨q, s1, c, hl1, hl2, hc, hs, hq4, hs4, rfl, rfl⟩ := hR
  refine .inl ?_
  have iq : atI (il q) (c : Int) = some (.int (gt q c)) := gt_at (by omega)
  have is1 : atI (il s1) (c : Int) = some (.int (gt s1 c)) := gt_at hc
  by_cases h0 : gt q c = 0
  · have e : clrF c s1 q = q := if_pos h0
    rw [e]
    exact dss_ret (ds_ifT (dtc (dt_eq (de_ixL (DE.dr (de_v 0)) (de_v 2) iq) de_int) (decide_eq_true h0)) (dss_one (ds_ret (de_v 0))))
  · have e : clrF c s1 q = _ := if_neg h0
    rw [e]
    refine dss_cons (ds_ifF (dtc (dt_eq (de_ixL (DE.dr (de_v 0)) (de_v 2) iq) de_int) (decide_eq_false h0)) dss_nil) ?_
    have gp : 0 < Nat.gcd (gt q c).natAbs (gt s1 c).natAbs := Nat.gcd_pos_of_pos_right _ (by omega)
    have cg : ∀ i : Int, CDv i (Nat.gcd (gt q c).natAbs (gt s1 c).natAbs : Nat) := fun i => cdv (by omega) (by rw [Int.natAbs_natCast]; exact Nat.lt_of_le_of_lt (Nat.le_of_dvd (by omega) (Nat.gcd_dvd_right _ _)) (lt49 (hs4.gt c)))
    refine dss_cons (ds_set 3 sc53.nd (de_gcd B.gcd (de_ixL (DE.dr (de_v 0)) (de_v 2) iq) (de_ixL (DE.dr (de_v 1)) (de_v 2) is1))) ?_
    refine dss_cons (ds_set 4 sc53.nd (de_div (de_ixL (DE.dr (de_v 1)) (de_v 2) is1) (de_v 3) (cg _))) ?_
    refine dss_cons (ds_set 5 sc53.nd (de_div (de_ixL (DE.dr (de_v 0)) (de_v 2) iq) (de_v 3) (cg _))) ?_
    have zm : ∀ y, y ∈ q.zip s1 → y.1.natAbs < 2 ^ 4000 ∧ y.2.natAbs < 2 ^ 4000 := fun y hy => ⟨hq4 _ (List.of_mem_zip hy).1, hs4 _ (List.of_mem_zip hy).2⟩
    refine dss_one (ds_ret (de_call (h52.cal rm) (da_1 (dec (DN.de (dn_lc (own := [("entry", 6), ("other", 7)]) (q.zip s1) (fun y => .tuple [.int y.1, .int y.2]) (fun y => .int ((gt s1 c).fdiv (Nat.gcd (gt q c).natAbs (gt s1 c).natAbs : Nat) * y.1 - (gt q c).fdiv (Nat.gcd (gt q c).natAbs (gt s1 c).natAbs : Nat) * y.2)) cmT sc53.nd (sml (by rw [List.length_zip]; omega)) bk ?_ fun y hy => ⟨_, _, fun j hj => hj, fun s H C cl fp => ⟨dg_tup2 (.inl rfl) (dg_name 6 sc53.nd) (dg_name 7 sc53.nd), de_sub (de_mul (de_v 4) (de_v 6) ?_) (de_mul (de_v 5) (de_v 7) ?_)⟩⟩)) ?_)) ⟨_, ?_, ?_, rfl, rfl⟩))
    · rw [← zip_il]
      exact di_zpL B.zip (de_v 0) (de_v 1) (by rw [il_length, il_length, hl2])
    · exact mulB (k := 4000) (fd4 (hs4.gt c)) (zm y hy).1 (by omega)
    · exact mulB (k := 4000) (fd4 (hq4.gt c)) (zm y hy).2 (by omega)
    · unfold rwD il; rw [List.map_map]; rfl
    · rw [List.length_map, List.length_zip]; omega
    · intro x hx
      obtain ⟨y, hy, rfl⟩ := List.mem_map.mp hx
      exact p9 (fd4 (hs4.gt c)) (zm y hy).1 (fd4 (hq4.gt c)) (zm y hy).2
end
end EL
end
section
set_option maxHeartbeats 1000000
namespace EL
open PySem PySem.Spec PyProof.Rows L2 DL
def rlD (rows : List Row) : PyData := .list (rows.map rwD)
def stD (q : Nat × Row) : PyData := .tuple [iN q.1, rwD q.2]
theorem rl_at {rows : List Row} {i : Nat} (h : i < rows.length) : atI (rows.map rwD) (i : Int) = some (rwD (rows.getD i [])) := atI_nat (by rw [List.getElem?_map, List.getD_eq_getElem?_getD, List.getElem?_eq_getElem h]; rfl)
theorem getD_mem {α : Type} {l : List α} {i : Nat} {d : α} (h : i < l.length) : l.getD i d ∈ l := by
  rw [List.getD_eq_getElem?_getD, List.getElem?_eq_getElem h]; exact List.getElem_mem h
theorem leaF_lt {rows all : List Row} {c : Nat} {o : Option Nat} {q : Row × Nat} (h : ∀ i, o = some i → i < all.length) (hq : q ∈ all.zipIdx) : ∀ i, leaF rows c o q = some i → i < all.length := by
  intro i hi
  unfold leaF at hi
  split at hi
  · have := (List.mem_zipIdx (x := q.1) (i := q.2) hq).2.1
    have e : q.2 = i := Option.some.inj hi
    omega
  · exact h i hi
theorem leastF_lt {rows : List Row} {c i : Nat} (h : leastF rows c = some i) : i < rows.length :=
  fold_inv (leaF rows c) (fun o => ∀ i, o = some i → i < rows.length) rows.zipIdx none (fun i h => nomatch h) (fun s a ha hs => leaF_lt hs ha) i h
theorem en_map {α : Type} {l : List α} {f : α → PyData} : en (l.map f) = l.zipIdx.map fun q => .tuple [iN q.2, f q.1] := by
  unfold en
  rw [List.zipIdx_map, List.map_map]; rfl
section
variable {P : Program} {w : World} {K : PySem.W.Frag} {mg : Str → Option Value} {base : Heap} (B : Bi mg)
def R54 : List PyData → PyData → Prop := fun ds r => ∃ (rows : List Row) (c : Nat), rows.length ≤ 100 ∧ (∀ q, q ∈ rows → c < q.length) ∧ ds = [rlD rows, iN c] ∧ r = optD (leastF rows c)
include B in
theorem w54 (F : FF K mg "_least_place" "_least_place" 54) : Cb false P w K mg base 1 "_least_place" 2 R54 := by
  refine cb_calm F sc54 rfl bn54 fun f cd A outer s H ds r rm hR hn => ?_
  obtain ⟨rows, c, hl, hc, rfl, rfl⟩ := hR
  refine .inl ?_
  refine dss_cons (ds_set 2 sc54.nd de_non) ?_
  refine dss_cons (ds_forF (fun o : Option Nat => [.dat (rlD rows), .dat (iN c), .dat (optD o), .no, .no]) (leaF rows c) (fun o => ∀ i, o = some i → i < rows.length) none rows.zipIdx (fun q => .tuple [iN q.2, rwD q.1]) cmT PassesOwn.never ?_ (fun i h => nomatch h) fun o q hq ho => ⟨leaF_lt ho hq, ?_⟩) (dss_one (ds_ret (de_v 2)))
  · rw [← en_map]
    exact di_enL B.enum (de_v 0)
  · obtain ⟨x, k⟩ := q
    obtain ⟨_, hk, hx⟩ := List.mem_zipIdx hq
    have hm : x ∈ rows := by
      have e : x = rows[k] := by simpa using hx
      rw [e]; exact List.getElem_mem _
    have ix : atI (il x) (c : Int) = some (.int (gt x c)) := gt_at (hc x hm)
    refine ⟨_, _, [.dat (rlD rows), .dat (iN c), .dat (optD (leaF rows c o (x, k))), .dat (iN k), .dat (rwD x)], dg_tup2 (.inl rfl) (dg_name 3 sc54.nd) (dg_name 4 sc54.nd), dss_one ?_, .keep (.keep (.keep (.drop (.drop .nil))))⟩
    have t : DT (cxB P w K mg base ["rows", "column", "least", "place", "row"] "_least_place" (defScope (top 54)) f cd A outer s H true []) [.dat (rlD rows), .dat (iN c), .dat (optD o), .dat (iN k), .dat (rwD x)] (ifTest (fB 54 1)) ((!decide (gt x c = 0)) && leaB rows c x o) := by
      refine DW.dt (dw_and (dt_ne (de_ixL (DE.dr (de_v 4)) (de_v 1) ix) de_int) fun _ => dw_and1 (DW.dt ?_))
      cases o with
      | none => exact dw_orT (dtc (dt_isN (de_v 2)))
      | some i =>
        have hi := ho i rfl
        refine dw_orF (dtc (dt_isN (de_v 2))) (dw_or1 (dtc (dt_lt (de_abs B.abs (de_ixL (DE.dr (de_v 4)) (de_v 1) ix)) (de_abs B.abs (de_ixL (DE.dr (de_ixL (DE.dr (de_v 0)) (de_v 2) (rl_at hi))) (de_v 1) (gt_at (hc _ (getD_mem hi)))))) ?_))
        exact decide_eq_decide.mpr Int.ofNat_lt
    unfold leaF
    refine ds_if t (fun h => ?_) fun h => ?_
    · rw [if_pos h]
      exact dss_one (ds_set 2 sc54.nd (de_v 3))
    · rw [if_neg (by rw [h]; exact Bool.false_ne_true)]
      exact dss_nil
/-! ### _stepped -/
theorem stepsF_succ (rows : List Row) (k : Nat) : stepsF rows (k + 1) = stpF (stepsF rows k) k := by
  unfold stepsF
  rw [List.range_succ, List.foldl_append]; rfl
theorem stpF_len {z : StS} {c n : Nat} (h : ∀ q, q ∈ z.2 → q.length = n) : (∀ q, q ∈ (stpF z c).2 → q.length = n) ∧ (stpF z c).2.length ≤ z.2.length ∧ (stpF z c).1.length ≤ z.1.length + 1 := by
  unfold stpF
  cases e : leastF z.2 c with
  | none => exact ⟨h, Nat.le_refl _, Nat.le_succ _⟩
  | some i =>
    have hi := leastF_lt e
    refine ⟨fun q hq => ?_, ?_, ?_⟩
    · obtain ⟨y, hy, rfl⟩ := List.mem_map.mp hq
      have hy' := (List.mem_filter.mp hy).1
      obtain ⟨x, k⟩ := y
      obtain ⟨_, hk, hx⟩ := List.mem_zipIdx hy'
      have hm : x ∈ z.2 := by
        have e : x = z.2[k] := by simpa using hx
        rw [e]; exact List.getElem_mem _
      show (clrF c (z.2.getD i []) x).length = n
      rw [clrF_length (by rw [h _ hm, h _ (getD_mem hi)]), h _ hm]
    · show (List.map _ _).length ≤ _
      rw [List.length_map]
      exact Nat.le_trans (List.length_filter_le _ _) (by rw [List.length_zipIdx]; exact Nat.le_refl _)
    · show (_ ++ [_]).length ≤ _
      rw [List.length_append]; exact Nat.le_refl _
theorem stepsF_len {rows : List Row} {n : Nat} (h : ∀ q, q ∈ rows → q.length = n) : ∀ k, (∀ q, q ∈ (stepsF rows k).2 → q.length = n) ∧ (stepsF rows k).2.length ≤ rows.length ∧ (stepsF rows k).1.length ≤ k
  | 0 => ⟨fun q hq => by
      obtain ⟨y, hy, rfl⟩ := List.mem_map.mp (show q ∈ rows.map lowF from hq)
      rw [lowF_length, h y hy], by show (rows.map lowF).length ≤ _; rw [List.length_map]; exact Nat.le_refl _, Nat.le_refl _⟩
  | k + 1 => by
    obtain ⟨h1, h2, h3⟩ := stepsF_len h k
    rw [stepsF_succ]
    obtain ⟨g1, g2, g3⟩ := stpF_len (c := k) h1
    exact ⟨g1, by omega, by omega⟩
def StepOk (rows : List Row) (wide : Nat) : Prop := ∀ k, k ≤ wide → ∀ q, q ∈ (stepsF rows k).2 → B4 q
def R55 : List PyData → PyData → Prop := fun ds r => ∃ (rows : List Row) (wide : Nat), rows.length ≤ 100 ∧ wide ≤ 100 ∧ (∀ q, q ∈ rows → q.length = wide) ∧ (∀ q, q ∈ rows → W9 q) ∧ StepOk rows wide ∧ ds = [rlD rows, iN wide] ∧ r = .list ((stepsF rows wide).1.map stD)
theorem leastF_nz {rows : List Row} {c i : Nat} (h : leastF rows c = some i) : gt (rows.getD i []) c ≠ 0 := by
  have := fold_inv (leaF rows c) (fun o => ∀ i, o = some i → gt (rows.getD i []) c ≠ 0) rows.zipIdx none (fun i h => nomatch h) (fun s a ha hs i hi => by
    unfold leaF at hi
    split at hi
    · rename_i hcnd
      have e : a.2 = i := Option.some.inj hi
      obtain ⟨x, k⟩ := a
      obtain ⟨_, hk, hx⟩ := List.mem_zipIdx ha
      have ex : rows.getD k [] = x := by
        rw [List.getD_eq_getElem?_getD, List.getElem?_eq_getElem (by omega)]
        simpa using hx.symm
      subst e
      show gt (rows.getD k []) c ≠ 0
      rw [ex]
      have := (Bool.and_eq_true_iff.mp hcnd).1
      simpa using this
    · exact hs i hi)
  exact this i h
include B in
theorem w55 (F : FF K mg "_stepped" "_stepped" 55) (h52 : Cb false P w K mg base 1 "_lowest" 1 R52) (h53 : Cb false P w K mg base 2 "_cleared" 3 R53) (h54 : Cb false P w K mg base 1 "_least_place" 2 R54) : Cb false P w K mg base 3 "_stepped" 2 R55 := by
  refine cb_calm F sc55 rfl bn55 fun f cd A outer s H ds r rm hR hn => ?_
  obtain ⟨rows, wide, hl, hwd, hlen, hw, ok, rfl, rfl⟩ := hR
  refine .inl ?_
  refine dss_cons (ds_setN 2 sc55.nd dn_nil) ?_
  refine dss_cons (ds_lc (own := [("row", 4)]) 3 rows rwD (fun q => rwD (lowF q)) cmF sc55.nd (sml (by omega)) bk (di_list (de_v 0)) fun q hq => ⟨_, _, fun j hj => hj, fun s H C cl fp => ⟨dg_name 4 sc55.nd, de_call (Cal.blk (h52.cal rm) _ _ _ _ _) (da_1 (de_v 4)) ⟨q, by rw [hlen q hq]; exact hwd, hw q hq, rfl, rfl⟩⟩⟩) ?_
  refine dss_frz 3 rfl ?_
  have e0 : PyData.list (rows.map fun q => rwD (lowF q)) = rlD (rows.map lowF) := by unfold rlD; rw [List.map_map]; rfl
  rw [e0]
  refine dss_cons (G1 := [.dat (rlD rows), .dat (iN wide), .own ((stepsF rows wide).1.map stD), .dat (rlD (stepsF rows wide).2), .no, .no, .no, .no, .no]) (ds_for cmF PassesOwn.never (di_range B.range wide (de_v 1) (by omega)) ?_) (dss_frz 2 rfl (dss_one (ds_ret (de_v 2))))
  have key := dfor_inv (X := cxB P w K mg base ["rows", "wide", "steps", "left", "row", "column", "least", "step", "place"] "_stepped" (defScope (top 55)) f cd A outer s H true []) (tg := fT 55 2) (body := fB 55 2) (List.range wide) iN (fun k => [.dat (rlD rows), .dat (iN wide), .own ((stepsF rows k).1.map stD), .dat (rlD (stepsF rows k).2), .no, .no, .no, .no, .no]) fun k a hk => ?_
  · rw [List.length_range] at key
    exact key
  · obtain ⟨rfl, hlt⟩ := range_get hk
    obtain ⟨g1, g2, g3⟩ := stepsF_len hlen a
    refine ⟨_, _, dg_name 5 sc55.nd, ?_⟩
    rw [stepsF_succ]
    refine dss_cons (ds_set 6 sc55.nd (de_call (h54.cal rm) (da_2 (de_v 3) (de_v 5)) ⟨(stepsF rows a).2, a, by omega, fun q hq => by rw [g1 q hq]; exact hlt, rfl, rfl⟩)) ?_
    unfold stpF
    cases e : leastF (stepsF rows a).2 a with
    | none =>
      refine DSs.less (dss_one (ds_ifF (dtc (dt_notN (de_v 6))) dss_nil)) ?_
      exact .keep (.keep (.keep (.keep (.keep (.drop (.drop (.keep (.keep .nil))))))))
    | some i =>
      have hi := leastF_lt e
      have hz := leastF_nz e
      have b1 := ok a (by omega)
      refine DSs.less (dss_one (ds_ifT (dtc (dt_notN (de_v 6))) (dss_cons (ds_set 7 sc55.nd (de_ixL (DE.dr (de_v 3)) (de_v 6) (rl_at hi))) (dss_cons (ds_app 2 rfl (de_tup2 (de_v 5) (de_v 7)) ?_) (dss_cons (ds_lcF (own := [("place", 8), ("row", 4)]) 3 (stepsF rows a).2.zipIdx (fun q => .tuple [iN q.2, rwD q.1]) (fun q => rwD (clrF a ((stepsF rows a).2.getD i []) q.1)) (fun q => !decide (q.2 = i)) cmT sc55.nd (sml (by rw [List.length_zipIdx]; omega)) bk ?_ fun q hq => ⟨_, _, fun j hj => hj, fun s H C cl fp => ⟨dg_tup2 (.inl rfl) (dg_name 8 sc55.nd) (dg_name 4 sc55.nd), dts_one (dtc (dt_ne (de_v 8) (de_v 6)) ?_), fun _ => de_call (Cal.blk (h53.cal rm) _ _ _ _ _) (da_3 (de_v 4) (de_v 7) (de_v 5)) ?_⟩⟩) (dss_frz 3 rfl dss_nil)))))) ?_
      · rw [List.length_map]; exact sml (by omega)
      · rw [← en_map]
        exact di_enL B.enum (de_v 3)
      · refine congrArg (!·) (decide_eq_decide.mpr ?_)
        exact Int.ofNat_inj
      · obtain ⟨x, k⟩ := q
        obtain ⟨_, hk, hx⟩ := List.mem_zipIdx hq
        have hm : x ∈ (stepsF rows a).2 := by
          have e : x = (stepsF rows a).2[k] := by simpa using hx
          rw [e]; exact List.getElem_mem _
        have l1 := g1 _ hm
        have l2 := g1 _ (getD_mem hi (d := []))
        exact ⟨x, _, a, by omega, by omega, by omega, hz, b1 _ hm, b1 _ (getD_mem hi), rfl, rfl⟩
      · have e3 : (stepsF rows a).1.map stD ++ [PyData.tuple [iN a, rwD ((stepsF rows a).2.getD i [])]] = ((stepsF rows a).1 ++ [(a, (stepsF rows a).2.getD i [])]).map stD := by rw [List.map_append]; rfl
        have e4 : ∀ l : List (Row × Nat), PyData.list (l.map fun q => rwD (clrF a ((stepsF rows a).2.getD i []) q.1)) = rlD (l.map fun q => clrF a ((stepsF rows a).2.getD i []) q.1) := fun l => by unfold rlD; rw [List.map_map]; rfl
        show Less [_, _, .own _, .dat (PyData.list _), _, _, _, _, _] [_, _, .own _, _, _, _, _, _, _]
        rw [e3, e4]
        exact .keep (.keep (.keep (.keep (.drop (.drop (.drop (.drop (.drop .nil))))))))
end
end EL
end
section
set_option maxHeartbeats 1000000
namespace EL
open PySem PySem.Spec PyProof.Rows L2 DL
/-! ### _solved -/
abbrev SlS := Int × Row
def ahF (many : Nat) (q : Nat × Row) (t : Row) : Int := (ofF (many - (q.1 + 1)) fun i => gt q.2 (q.1 + 1 + i) * gt t (q.1 + 1 + i)).sum
def wtF (many : Nat) (z : SlS) (q : Nat × Row) : Int := gt q.2 many * z.1 - ahF many q z.2
def shF (many : Nat) (z : SlS) (q : Nat × Row) : Int := sg (gt q.2 q.1) (Nat.gcd (wtF many z q).natAbs (gt q.2 q.1).natAbs : Nat)
def solS (many : Nat) (z : SlS) (q : Nat × Row) : SlS :=
  (z.1 * (gt q.2 q.1).fdiv (shF many z q), z.2.zipIdx.map fun y => if y.2 = q.1 then (wtF many z q).fdiv (shF many z q) else y.1 * (gt q.2 q.1).fdiv (shF many z q))
def solF (sts : List (Nat × Row)) (many k : Nat) : SlS := (sts.reverse.take k).foldl (solS many) (1, ofF many fun _ => 0)
def BM (l : Row) : Prop := ∀ x, x ∈ l → x.natAbs < 2 ^ 1000000
theorem BM.gt {l : Row} (h : BM l) (i : Nat) : (gt l i).natAbs < 2 ^ 1000000 := by
  unfold EL.gt
  rw [List.getD_eq_getElem?_getD]
  cases e : l[i]? with
  | none => exact Nat.two_pow_pos _
  | some x => exact h x (List.mem_of_getElem? e)
def StsOk (sts : List (Nat × Row)) (many : Nat) : Prop := ∀ q, q ∈ sts → q.1 < many ∧ q.2.length = many + 1 ∧ gt q.2 q.1 ≠ 0 ∧ B4 q.2
def SolOk (sts : List (Nat × Row)) (many : Nat) : Prop := ∀ k, k ≤ sts.length → (solF sts many k).1.natAbs < 2 ^ 1000000 ∧ BM (solF sts many k).2
theorem b4m {x : Int} (h : x.natAbs < 2 ^ 4000) : x.natAbs < 2 ^ 1000000 := Nat.lt_of_lt_of_le h (Nat.pow_le_pow_right (by omega) (by omega))
theorem solF_succ {sts : List (Nat × Row)} {many k : Nat} {q : Nat × Row} (h : sts.reverse[k]? = some q) : solF sts many (k + 1) = solS many (solF sts many k) q := by
  unfold solF
  rw [List.take_succ, h, List.foldl_append]; rfl
theorem solF_len {sts : List (Nat × Row)} {many : Nat} : ∀ k, (solF sts many k).2.length = many
  | 0 => ofF_length
  | k + 1 => by
    cases h : sts.reverse[k]? with
    | none =>
      have e : solF sts many (k + 1) = solF sts many k := by
        unfold solF
        rw [List.take_succ, h]; simp
      rw [e]; exact solF_len k
    | some q =>
      rw [solF_succ h]
      show (List.map _ _).length = _
      rw [List.length_map, List.length_zipIdx, solF_len k]
section
variable {P : Program} {w : World} {K : PySem.W.Frag} {mg : Str → Option Value} {base : Heap} (B : Bi mg)
def R56 : List PyData → PyData → Prop := fun ds r => ∃ (sts : List (Nat × Row)) (many : Nat), sts.length ≤ 100 ∧ many ≤ 100 ∧ StsOk sts many ∧ SolOk sts many ∧ ds = [.list (sts.map stD), iN many] ∧ r = .tuple [.int (solF sts many sts.length).1, rwD (solF sts many sts.length).2]
include B in
theorem w56 (F : FF K mg "_solved" "_solved" 56) : Cb false P w K mg base 1 "_solved" 2 R56 := by
  refine cb_calm F sc56 rfl bn56 fun f cd A outer s H ds r rm hR hn => ?_
  obtain ⟨sts, many, hl, hm, ok, so, rfl, rfl⟩ := hR
  refine .inl ?_
  refine dss_cons (ds_set 2 sc56.nd de_int) ?_
  refine dss_cons (ds_setN 3 sc56.nd (dn_lc (own := [("_", 4)]) (List.range many) iN (fun _ => .int 0) cmF sc56.nd (sml (by rw [List.length_range]; omega)) bk (di_range B.range many (de_v 1) (by omega)) fun q hq => ⟨_, _, fun j hj => hj, fun s H C cl fp => ⟨dg_name 4 sc56.nd, de_int⟩⟩)) ?_
  refine dss_frz 3 rfl ?_
  have e0 : PyData.list ((List.range many).map fun _ => PyData.int 0) = rwD (solF sts many 0).2 := by
    show _ = PyData.list (il (ofF many fun _ => 0))
    unfold il; rw [ofF_map]; rfl
  rw [e0]
  refine dss_cons (G1 := [.dat (.list (sts.map stD)), .dat (iN many), .dat (.int (solF sts many sts.length).1), .dat (rwD (solF sts many sts.length).2), .no, .no, .no, .no, .no, .no, .no, .no, .no, .no]) (ds_for cmT PassesOwn.never (di_rev B.rev (DN.de (dn_listL B.list (DE.dr (de_v 0))))) ?_) (dss_one (ds_ret (de_tup2 (de_v 2) (de_v 3))))
  have key := dfor_inv (X := cxB P w K mg base ["steps", "many", "bottom", "tops", "_", "column", "line", "ahead", "later", "wanted", "shared", "grown", "place", "top"] "_solved" (defScope (top 56)) f cd A outer s H true []) (tg := fT 56 2) (body := fB 56 2) sts.reverse stD (fun k => [.dat (.list (sts.map stD)), .dat (iN many), .dat (.int (solF sts many k).1), .dat (rwD (solF sts many k).2), .no, .no, .no, .no, .no, .no, .no, .no, .no, .no]) fun k q hk => ?_
  · rw [List.length_reverse, List.map_reverse] at key
    exact key
  · have hkl : k < sts.length := by have := (List.getElem?_eq_some_iff.mp hk).1; simpa using this
    have hq : q ∈ sts := List.mem_reverse.mp (List.mem_of_getElem? hk)
    obtain ⟨c, line⟩ := q
    obtain ⟨h1, h2, h3, h4⟩ := ok _ hq
    obtain ⟨s1, s2⟩ := so k (by omega)
    have l2 := solF_len (sts := sts) (many := many) k
    rw [solF_succ hk]
    generalize hz : solF sts many k = z at s1 s2 l2
    obtain ⟨b, t⟩ := z
    have h1' : c < many := h1
    have h2' : line.length = many + 1 := h2
    have h3' : gt line c ≠ 0 := h3
    have h4' : B4 line := h4
    have s1' : b.natAbs < 2 ^ 1000000 := s1
    have s2' : BM t := s2
    have l2' : t.length = many := l2
    refine ⟨_, _, dg_tup2 (.inl rfl) (dg_name 5 sc56.nd) (dg_name 6 sc56.nd), ?_⟩
    have ic : atI (il line) (c : Int) = some (.int (gt line c)) := gt_at (by omega)
    have im : atI (il line) (many : Int) = some (.int (gt line many)) := gt_at (by omega)
    refine dss_cons (ds_set 7 sc56.nd (d := .int (ahF many (c, line) t)) (dec (de_sum (ns := ofF (many - (c + 1)) fun i => gt line (c + 1 + i) * gt t (c + 1 + i)) rfl B.sum (DN.dr (w50.dec2 (dn_lc (own := [("later", 8)]) (List.range (many - (c + 1))) (fun i => iN (c + 1 + i)) (fun i => .int (gt line (c + 1 + i) * gt t (c + 1 + i))) cmF sc56.nd (sml (by rw [List.length_range]; omega)) bk (di_range2 B.range (c + 1) many (dec (de_add (de_v 5) de_int) ?_) (de_v 1) (by omega) (by omega)) fun i hi => ⟨_, _, fun j hj => hj, fun s H C cl fp => ⟨dg_name 8 sc56.nd, de_mul (de_ixL (DE.dr (de_v 6)) (de_v 8) ?_) (de_ixL (DE.dr (de_v 3)) (de_v 8) ?_) (mulB (k := 1000000) (b4m (h4'.gt _)) (s2'.gt _) (by omega))⟩⟩) ?_))) ?_)) ?_
    · exact congrArg PyData.int (Int.natCast_add c 1).symm
    · have := List.mem_range.mp hi
      exact gt_at (by omega)
    · have := List.mem_range.mp hi
      exact gt_at (by omega)
    · rw [ofF_map]; rfl
    · rfl
    refine dss_cons (ds_set 9 sc56.nd (d := .int (wtF many (b, t) (c, line))) (de_sub (de_mul (de_ixL (DE.dr (de_v 6)) (de_v 1) im) (de_v 2) (mulB (k := 1000000) (b4m (h4'.gt _)) s1' (by omega))) (de_v 7))) ?_
    refine dss_cons (ds_set 10 sc56.nd (de_gcd B.gcd (de_v 9) (de_ixL (DE.dr (de_v 6)) (de_v 5) ic))) ?_
    refine dss_cons (G1 := [.dat (.list (sts.map stD)), .dat (iN many), .dat (.int b), .dat (rwD t), .no, .dat (iN c), .dat (rwD line), .dat (.int (ahF many (c, line) t)), .no, .dat (.int (wtF many (b, t) (c, line))), .dat (.int (shF many (b, t) (c, line))), .no, .no, .no]) ?_ ?_
    · refine ds_if (dt_lt (de_ixL (DE.dr (de_v 6)) (de_v 5) ic) de_int) (fun tt => ?_) fun tt => ?_
      · have e : shF many (b, t) (c, line) = -((Nat.gcd (wtF many (b, t) (c, line)).natAbs (gt line c).natAbs : Nat) : Int) := if_pos (of_decide_eq_true tt)
        rw [e]
        exact dss_one (ds_set 10 sc56.nd (de_neg (de_v 10)))
      · have e : shF many (b, t) (c, line) = ((Nat.gcd (wtF many (b, t) (c, line)).natAbs (gt line c).natAbs : Nat) : Int) := if_neg (of_decide_eq_false tt)
        rw [e]
        exact dss_nil
    have cs : ∀ i : Int, CDv i (shF many (b, t) (c, line)) := fun i => cdvg h3' (lt49 (h4'.gt _))
    refine dss_cons (ds_set 11 sc56.nd (de_div (de_ixL (DE.dr (de_v 6)) (de_v 5) ic) (de_v 10) (cs _))) ?_
    refine dss_cons (ds_set 2 sc56.nd (de_mul (de_v 2) (de_v 11) (mulB (k := 1000000) s1' (b4m (fd4 (h4'.gt _))) (by omega)))) ?_
    refine dss_cons (ds_setN 3 sc56.nd (dn_lc (own := [("place", 12), ("top", 13)]) t.zipIdx (fun y => .tuple [iN y.2, .int y.1]) (fun y => .int (if y.2 = c then (wtF many (b, t) (c, line)).fdiv (shF many (b, t) (c, line)) else y.1 * (gt line c).fdiv (shF many (b, t) (c, line)))) cmT sc56.nd (sml (by rw [List.length_zipIdx]; omega)) bk ?_ fun y hy => ⟨_, _, fun j hj => hj, fun s H C cl fp => ⟨dg_tup2 (.inl rfl) (dg_name 12 sc56.nd) (dg_name 13 sc56.nd), de_if (dt_ne (de_v 12) (de_v 5)) (fun tt => ?_) fun tt => ?_⟩⟩)) ?_
    · rw [← en_il]
      exact di_enL B.enum (de_v 3)
    · have e : y.2 ≠ c := by
        have : (!decide ((y.2 : Int) = c)) = true := tt
        intro z
        rw [z] at this; simp at this
      rw [if_neg e]
      exact de_mul (de_v 13) (de_v 11) (mulB (k := 1000000) (s2' _ (mem_zipIdx hy).2) (b4m (fd4 (h4'.gt _))) (by omega))
    · have e : y.2 = c := by
        have : (!decide ((y.2 : Int) = c)) = false := tt
        have := of_decide_eq_true (Bool.not_eq_false' .. |>.mp this)
        omega
      rw [if_pos e]
      exact de_div (de_v 9) (de_v 10) (cs _)
    refine dss_frz 3 rfl (DSs.less dss_nil ?_)
    have e5 : ∀ g : Int × Nat → Int, PyData.list (t.zipIdx.map fun y => .int (g y)) = rwD (t.zipIdx.map g) := fun g => by unfold rwD il; rw [List.map_map]; rfl
    show Less [_, _, _, .dat (PyData.list _), _, _, _, _, _, _, _, _, _, _] _
    rw [e5]
    exact .keep (.keep (.keep (.keep (.drop (.drop (.drop (.drop (.drop (.drop (.drop (.drop (.drop (.drop .nil)))))))))))))
/-! ### combined -/
def linesF (rows : List Row) (row : Row) : List Row := row.zipIdx.map fun q => (rows.map fun o => gt o q.2) ++ [q.1]
structure CombOk (rows : List Row) (row : Row) (sts : List (Nat × Row)) (z : SlS) : Prop where
  len : rows.length = row.length
  big : row.length ≤ 99
  each : ∀ q, q ∈ rows → q.length = row.length
  w9 : ∀ q, q ∈ linesF rows row → W9 q
  step : StepOk (linesF rows row) (row.length + 1)
  est : sts = (stepsF (linesF rows row) (row.length + 1)).1
  ok : StsOk sts row.length
  sok : SolOk sts row.length
  sol : z = solF sts row.length sts.length
  pos : z.1 ≠ 0
  bnd : z.1.natAbs < 2 ^ 9000
def combR (z : SlS) : SlS := (z.1.fdiv (gcdL z.1 z.2), z.2.map fun x => x.fdiv (gcdL z.1 z.2))
def R57 : List PyData → PyData → Prop := fun ds r => ∃ (rows : List Row) (row : Row) (sts : List (Nat × Row)) (z : SlS), CombOk rows row sts z ∧ 1 ≤ row.length ∧ ds = [trD rows, .tuple (il row)] ∧ r = .tuple [.int (combR z).1, .tuple (il (combR z).2)]
theorem tr_at {rows : List Row} {i : Nat} (h : i < rows.length) : atI (rows.map fun r => PyData.tuple (il r)) (i : Int) = some (.tuple (il (rows.getD i []))) := atI_nat (by rw [List.getElem?_map, List.getD_eq_getElem?_getD, List.getElem?_eq_getElem h]; rfl)
theorem at_last {α : Type} {l : List α} {d : α} (h : l ≠ []) : atI l (-1) = some (l.getD (l.length - 1) d) := by
  have hl : 0 < l.length := List.length_pos_iff.mpr h
  unfold atI ixN
  rw [if_neg (by omega), if_pos (by omega)]
  show l[(-1 + (l.length : Int)).toNat]? = _
  have e : (-1 + (l.length : Int)).toNat = l.length - 1 := by omega
  rw [e, List.getD_eq_getElem?_getD, List.getElem?_eq_getElem (by omega)]; rfl
include B in
theorem w57 (F : FF K mg "combined" "combined" 57) (h50 : Cb false P w K mg base 3 "_is_row" 1 R50) (h51 : Cb false P w K mg base 4 "_want_rows" 1 R51) (h55 : Cb false P w K mg base 3 "_stepped" 2 R55) (h56 : Cb false P w K mg base 1 "_solved" 2 R56) : Cb false P w K mg base 5 "combined" 2 R57 := by
  refine cb_calm F sc57 rfl bn57 fun f cd A outer s H ds r rm hR hn => ?_
  obtain ⟨rows, row, sts, z, ok, hr1, rfl, rfl⟩ := hR
  have hl := ok.len
  have hb := ok.big
  have hr0 : 0 < rows.length := by omega
  refine .inl ?_
  refine dss_cons (ds_expr (de_call (h51.cal rm) (da_1 (de_v 0)) ⟨rows, row.length, by omega, ok.each, rfl, rfl⟩)) ?_
  have e00 : (rows.getD 0 []).length = row.length := ok.each _ (getD_mem hr0)
  refine dss_cons (ds_ifF (dtc (DW.dt (dw_orF (dtc (dt_not (DE.dt (de_call (r := .bool true) (h50.cal rm) (da_1 (de_v 1)) ⟨row, by omega, rfl, rfl⟩)))) (dw_or1 (DW.dt (x := false) (dw_andT (dtc (dt_gt (de_lenT B.len (de_v 0)) de_int) ?_) (dw_and1 (dtc (dt_ne (de_lenT B.len (de_v 1)) (de_lenT B.len (de_ixT (de_v 0) de_int (tr_at hr0)))) ?_))))))) rfl) dss_nil) ?_
  · rw [List.length_map]; exact decide_eq_true (by omega)
  · rw [il_length, il_length, e00, decide_eq_true rfl]; rfl
  refine dss_cons (ds_set 2 sc57.nd (dec (de_lenT B.len (de_v 0)) (q := iN row.length) (by rw [List.length_map, hl]))) ?_
  refine dss_cons (ds_lc (own := [("column", 5), ("entry", 6), ("other", 4)]) 3 row.zipIdx (fun q => .tuple [iN q.2, .int q.1]) (fun q => rwD ((rows.map fun o => gt o q.2) ++ [q.1])) cmT sc57.nd (sml (by rw [List.length_zipIdx]; omega)) bk ?_ fun q hq => ⟨_, _, ?_, fun s H C cl fp => ⟨dg_tup2 (.inl rfl) (dg_name 5 sc57.nd) (dg_name 6 sc57.nd), dec (DN.de (dn_cat (DN.dc (dn_lc (own := [("other", 4)]) rows (fun r => .tuple (il r)) (fun o => .int (gt o q.2)) cmF sc57.nd (sml (by omega)) bk (di_tup (de_v 0)) fun o ho => ⟨_, _, fun j hj => hj, fun s H C cl fp => ⟨dg_name 4 sc57.nd, de_ixT (de_v 4) (de_v 5) ?_⟩⟩)) (DN.dc (dn_lst (da_1 (de_v 6)) (szk (by simp only [List.length_cons, List.length_nil]; omega)))) ?_)) ?_⟩⟩) ?_
  · rw [← en_il]
    exact di_enT B.enum (de_v 1)
  · intro j hj
    have : j = 5 ∨ j = 6 := by simpa using hj
    rcases this with e | e <;> rw [e] <;> decide
  · have h1 := (mem_zipIdx hq).1
    have h2 := ok.each o ho
    exact gt_at (by omega)
  · rw [List.length_map]
    exact szk (by simp only [List.length_cons, List.length_nil]; omega)
  · unfold rwD il
    rw [List.map_append, List.map_map]; rfl
  refine dss_frz 3 rfl ?_
  have e0 : PyData.list (row.zipIdx.map fun q => rwD ((rows.map fun o => gt o q.2) ++ [q.1])) = rlD (linesF rows row) := by unfold rlD linesF; rw [List.map_map]; rfl
  rw [e0]
  have eln : (linesF rows row).length = row.length := by unfold linesF; rw [List.length_map, List.length_zipIdx]
  have ell : ∀ q, q ∈ linesF rows row → q.length = row.length + 1 := fun q hq => by
    obtain ⟨y, hy, rfl⟩ := List.mem_map.mp hq
    rw [List.length_append, List.length_map, hl]; rfl
  refine dss_cons (ds_set 7 sc57.nd (de_call (h55.cal rm) (da_2 (de_v 3) (dec (de_add (de_v 2) de_int) (congrArg PyData.int (Int.natCast_add row.length 1).symm))) ⟨linesF rows row, row.length + 1, by omega, by omega, ell, ok.w9, ok.step, rfl, rfl⟩)) ?_
  rw [← ok.est]
  have slen : sts.length ≤ 100 := by
    have := (stepsF_len ell (row.length + 1)).2.2
    rw [ok.est]; omega
  refine dss_cons (ds_ifF (DW.dt (x := false) ?_) dss_nil) ?_
  · by_cases hs : sts = []
    · exact dw_andF (dtc (dt_gt (de_lenL B.len (DE.dr (de_v 7))) de_int) (by rw [hs]; rfl))
    · refine dw_andT (dtc (dt_gt (de_lenL B.len (DE.dr (de_v 7))) de_int) ?_) (dw_and1 (dtc (dt_eq (de_ixT (ds := [iN (sts.getD (sts.length - 1) (0, [])).1, rwD (sts.getD (sts.length - 1) (0, [])).2]) (de_ixL (DE.dr (de_v 7)) (de_neg de_int) ?_) de_int rfl) (de_v 2)) ?_))
      · rw [List.length_map]
        have := List.length_pos_iff.mpr hs
        exact decide_eq_true (by omega)
      · have e := at_last (l := sts.map stD) (d := .none) (by simpa using hs)
        rw [List.length_map] at e
        have e2 : (sts.map stD).getD (sts.length - 1) .none = stD (sts.getD (sts.length - 1) (0, [])) := by
          have hp := List.length_pos_iff.mpr hs
          rw [List.getD_eq_getElem?_getD, List.getD_eq_getElem?_getD, List.getElem?_map, List.getElem?_eq_getElem (by omega)]; rfl
        rw [e2] at e
        exact e
      · have hp := List.length_pos_iff.mpr hs
        have := (ok.ok _ (getD_mem (l := sts) (i := sts.length - 1) (d := (0, [])) (by omega))).1
        exact decide_eq_false (by omega)
  refine dss_cons (ds_asg (de_call (h56.cal rm) (da_2 (de_v 7) (de_v 2)) ⟨sts, row.length, slen, by omega, ok.ok, ok.sok, rfl, rfl⟩) (dg_tup2 (.inl rfl) (dg_name 8 sc57.nd) (dg_name 9 sc57.nd))) ?_
  rw [← ok.sol]
  refine dss_cons (ds_set 10 sc57.nd (de_v 8)) ?_
  refine dss_cons (ds_forF (fun g : Int => [.dat (trD rows), .dat (.tuple (il row)), .dat (iN row.length), .dat (rlD (linesF rows row)), .no, .no, .no, .dat (.list (sts.map stD)), .dat (.int z.1), .dat (rwD z.2), .dat (.int g), .no]) (fun (g x : Int) => ((Nat.gcd g.natAbs x.natAbs : Nat) : Int)) (fun _ => True) z.1 z.2 PyData.int cmF PassesOwn.never (di_list (de_v 9)) trivial fun g x hx _ => ⟨trivial, _, _, _, dg_name 11 sc57.nd, dss_one (ds_set 10 sc57.nd (de_gcd B.gcd (de_v 10) (de_v 11))), .keep (.keep (.keep (.keep (.keep (.keep (.keep (.keep (.keep (.keep (.keep (.drop .nil)))))))))))⟩) ?_
  have cg : ∀ i : Int, CDv i (gcdL z.1 z.2) := fun i => EL.cdv (gcdL_ne ok.pos) (Nat.lt_of_le_of_lt (gcdL_le ok.pos) ok.bnd)
  have zl : z.2.length = row.length := by rw [ok.sol]; exact solF_len _
  refine dss_one (ds_ret (de_tup2 (de_div (de_v 8) (de_v 10) (cg _)) (dec (de_tupL B.tuple (DN.dr (dn_lc (own := [("top", 11)]) z.2 PyData.int (fun x => .int (x.fdiv (gcdL z.1 z.2))) cmF sc57.nd (sml (by omega)) bk (di_list (de_v 9)) fun x hx => ⟨_, _, fun j hj => hj, fun s H C cl fp => ⟨dg_name 11 sc57.nd, de_div (de_v 11) (de_v 10) (cg _)⟩⟩))) ?_)))
  show PyData.tuple _ = .tuple (il (z.2.map _))
  unfold il
  rw [List.map_map]; rfl
end
end EL
end
section
set_option maxHeartbeats 1000000
namespace EL
open PySem PySem.Spec PyProof.Rows L2 DL
/-! ### shifted rows -/
def facD (c : Ck) : PyData := .list (il (ofF (tn c) fun t => facI c (t : Int)))
def ptF (c : Ck) (l : Row) (g u : Nat) (F : Nat → Int) (y : Nat) : Nat → Int := fun h => if h = mN c g (u * c.b + y) then gt l (u * c.b + y) else F h
def shoF (c : Ck) (l : Row) (g : Nat) : Nat → Int := (List.range (tn c)).foldl (fun F u => (List.range c.b).foldl (ptF c l g u) F) fun _ => 0
theorem en_fac {c : Ck} : en (il (ofF (tn c) fun t => facI c (t : Int))) = (List.range (tn c)).map fun u : Nat => .tuple [iN u, .int (facI c u)] := by
  refine List.ext_getElem? fun i => ?_
  by_cases hi : i < tn c
  · rw [en_il, List.getElem?_map, List.getElem?_map, List.getElem?_zipIdx, ofF_get hi, List.getElem?_range hi]
    simp
  · rw [List.getElem?_eq_none (by rw [en_length, il_length, ofF_length]; omega), List.getElem?_eq_none (by simp; omega)]
section
variable {P : Program} {w : World} {K : PySem.W.Frag} {mg : Str → Option Value} {base : Heap} (B : Bi mg)
def R59 : List PyData → PyData → Prop := fun ds r => ∃ (c : Ck) (g : Nat) (l : Row), CK c ∧ g < nn c ∧ l.length = nn c ∧ ds = [iN c.b, facD c, iN g, .tuple (il l)] ∧ r = .tuple (il (ofF (nn c) (shoF c l g)))
include B in
theorem w59 (F : FF K mg "shifted_row" "shifted_row" 59) : Cb false P w K mg base 1 "shifted_row" 4 R59 := by
  refine cb_calm F sc59 rfl bn59 fun f cd A outer s H ds r rm hR hn => ?_
  obtain ⟨c, g, l, hc, hg, hl, rfl, rfl⟩ := hR
  have cb := hc.bd
  have en : nn c = tn c * c.b := Nat.mul_comm _ _
  refine .inl ?_
  refine dss_cons (ds_set 4 sc59.nd (dec (de_lenL B.len (DE.dr (de_v 1))) (q := iN (tn c)) (by rw [il_length, ofF_length]))) ?_
  refine dss_cons (ds_par 5 6 (.inl rfl) sc59.nd (dec (de_modP (de_v 2) (de_v 0) (by omega)) (congrArg PyData.int (Int.natCast_emod _ _).symm)) (dec (de_div (de_v 2) (de_v 0) (cdvS (by omega) (by omega))) (congrArg PyData.int (Int.ofNat_fdiv _ _).symm))) ?_
  refine dss_cons (ds_setN 7 sc59.nd (dn_rep (dn_lst (da_1 de_int) (szk (by simp only [List.length_cons, List.length_nil]; omega))) (de_mul (de_v 0) (de_v 4) (mulS (by omega))) (by have := Int.mul_nonneg (Int.natCast_nonneg c.b) (Int.natCast_nonneg (tn c)); exact this) ?_ ?_)) ?_
  · have : (c.b : Int) * (tn c : Int) = (nn c : Nat) := (Int.natCast_mul _ _).symm
    rw [this]; omega
  · have : (c.b : Int) * (tn c : Int) = (nn c : Nat) := (Int.natCast_mul _ _).symm
    rw [this, Int.toNat_natCast]
    exact szk (by simp only [List.length_cons, List.length_nil]; omega)
  have e0 : (List.replicate ((c.b : Int) * (tn c : Int)).toNat [PyData.int 0]).flatten = il (ofF (nn c) fun _ => 0) := by
    have : (c.b : Int) * (tn c : Int) = (nn c : Nat) := (Int.natCast_mul _ _).symm
    rw [this, Int.toNat_natCast]
    refine List.ext_getElem? fun i => ?_
    have e1 : (List.replicate (nn c) [PyData.int 0]).flatten = List.replicate (nn c) (PyData.int 0) := by
      induction nn c with
      | zero => rfl
      | succ k ih => rw [List.replicate_succ, List.flatten_cons, ih, List.replicate_succ]; rfl
    rw [e1]
    by_cases hi : i < nn c
    · rw [List.getElem?_replicate, if_pos hi]
      exact (il_get (ofF_get (f := fun _ => (0 : Int)) hi)).symm
    · rw [List.getElem?_eq_none (by simp; omega), List.getElem?_eq_none (by rw [il_length, ofF_length]; omega)]
  rw [e0]
  refine dss_cons (ds_forF (fun F : Nat → Int => [.dat (iN c.b), .dat (facD c), .dat (iN g), .dat (.tuple (il l)), .dat (iN (tn c)), .dat (iN (g % c.b)), .dat (iN (g / c.b)), .own (il (ofF (nn c) F)), .no, .no, .no, .no]) (fun F u => (List.range c.b).foldl (ptF c l g u) F) (fun _ => True) (fun _ => 0) (List.range (tn c)) (fun u : Nat => .tuple [iN u, .int (facI c u)]) cmT PassesOwn.never ?_ trivial fun F u hu _ => ⟨trivial, ?_⟩) (dss_one (ds_ret (de_tupL B.tuple (dr_v 7))))
  · rw [← en_fac]
    exact di_enL B.enum (de_v 1)
  · have hu' := List.mem_range.mp hu
    have fe := hc.fac hu'
    refine ⟨_, _, [.dat (iN c.b), .dat (facD c), .dat (iN g), .dat (.tuple (il l)), .dat (iN (tn c)), .dat (iN (g % c.b)), .dat (iN (g / c.b)), .own (il (ofF (nn c) ((List.range c.b).foldl (ptF c l g u) F))), .dat (iN u), .dat (.int (facI c u)), .dat (iN ((g / c.b + u) % tn c * c.b)), .no], dg_tup2 (.inl rfl) (dg_name 8 sc59.nd) (dg_name 9 sc59.nd), dss_cons (ds_set 10 sc59.nd (d := iN ((g / c.b + u) % tn c * c.b)) (dec (de_mul (de_modP (de_add (de_v 6) (de_v 8)) (de_v 4) (by omega)) (de_v 0) (mulS2 (by omega))) ?_)) (dss_one (ds_forF (fun F : Nat → Int => [.dat (iN c.b), .dat (facD c), .dat (iN g), .dat (.tuple (il l)), .dat (iN (tn c)), .dat (iN (g % c.b)), .dat (iN (g / c.b)), .own (il (ofF (nn c) F)), .dat (iN u), .dat (.int (facI c u)), .dat (iN ((g / c.b + u) % tn c * c.b)), .no]) (ptF c l g u) (fun _ => True) F (List.range c.b) iN cmF PassesOwn.never (di_range B.range c.b (de_v 0) (by omega)) trivial fun F2 y hy _ => ⟨trivial, ?_⟩)), .keep (.keep (.keep (.keep (.keep (.keep (.keep (.keep (.drop (.drop (.drop (.keep .nil)))))))))))⟩
    · refine congrArg PyData.int ?_
      simp only [Int.natCast_add, Int.natCast_mul, Int.natCast_emod]
    · have hy' := List.mem_range.mp hy
      have hk : u * c.b + y < nn c := by
        have : (u + 1) * c.b ≤ tn c * c.b := Nat.mul_le_mul_right _ hu'
        rw [Nat.succ_mul] at this
        omega
      have d1 : (u * c.b + y) / c.b = u := by rw [Nat.mul_comm, Nat.mul_add_div (by omega), Nat.div_eq_of_lt hy']; rfl
      have d2 : (u * c.b + y) % c.b = y := by rw [Nat.mul_comm, Nat.mul_add_mod, Nat.mod_eq_of_lt hy']
      have hmb : g % c.b < c.b := Nat.mod_lt _ (by omega)
      refine ⟨_, _, _, dg_name 11 sc59.nd, dss_one (ds_put 7 (m := mN c g (u * c.b + y)) rfl (de_ixT (d := .int (gt l (u * c.b + y))) (de_v 3) (dec (de_add (de_mul (de_v 8) (de_v 0) (mulS2 (by omega))) (de_v 11)) (q := iN (u * c.b + y)) ?_) (il_at (getD_get (by omega)))) (dec (de_add (de_v 10) (de_modP (de_add (de_mul (de_v 9) (de_v 5) (mulS2 (by omega))) (de_v 11)) (de_v 0) (by omega))) (q := iN (mN c g (u * c.b + y))) ?_) ?_), ?_⟩
      · refine congrArg PyData.int ?_
        simp only [Int.natCast_add, Int.natCast_mul]
      · rw [fe]
        refine congrArg PyData.int ?_
        unfold mN
        rw [d1, d2]
        simp only [Int.natCast_add, Int.natCast_mul, Int.natCast_emod]
      · rw [il_length, ofF_length]; exact ixN_nat (hc.mlt _ _)
      · rw [il_set, ofF_set]
        exact .keep (.keep (.keep (.keep (.keep (.keep (.keep (.keep (.keep (.keep (.keep (.drop .nil)))))))))))
def shRows (c : Ck) (l : Row) : List Row := ofF (nn c) fun g => ofF (nn c) (shoF c l g)
def R60 : List PyData → PyData → Prop := fun ds r => ∃ (c : Ck) (l : Row), CK c ∧ l.length = nn c ∧ ds = [ckD c, .tuple (il l)] ∧ r = trD (shRows c l)
include B in
theorem w60 (F : FF K mg "shifted_rows" "shifted_rows" 60) (h24 : Cb false P w K mg base 2 "turns_many" 1 (Rck fun c => iN (tn c))) (h32 : Cb false P w K mg base 3 "factor_at" 2 R32) (h59 : Cb false P w K mg base 1 "shifted_row" 4 R59) : Cb false P w K mg base 4 "shifted_rows" 2 R60 := by
  refine cb_calm F sc60 rfl bn60 fun f cd A outer s H ds r rm hR hn => ?_
  obtain ⟨c, l, hc, hl, rfl, rfl⟩ := hR
  have cb := hc.bd
  refine .inl ?_
  refine dss_cons (ds_asg (de_tup2 (de_ixT (de_v 0) de_int rfl) (de_call (h24.cal rm) (da_1 (de_v 0)) ⟨c, hc, rfl, rfl⟩)) (dg_tup2 (.inl rfl) (dg_name 2 sc60.nd) (dg_name 3 sc60.nd))) ?_
  refine dss_cons (ds_setN 4 sc60.nd (dn_lc (own := [("turn", 5)]) (List.range (tn c)) iN (fun t => .int (facI c t)) cmF sc60.nd (sml (by rw [List.length_range]; omega)) bk (di_range B.range (tn c) (de_v 3) (by omega)) fun t ht => ⟨_, _, fun j hj => hj, fun s H C cl fp => ⟨dg_name 5 sc60.nd, de_call (Cal.blk (h32.cal rm) _ _ _ _ _) (da_2 (de_v 0) (de_v 5)) ⟨c, t, hc, List.mem_range.mp ht, rfl, rfl⟩⟩⟩)) ?_
  refine dss_frz 4 rfl ?_
  have e0 : PyData.list ((List.range (tn c)).map fun t : Nat => .int (facI c t)) = facD c := by unfold facD il; rw [ofF_map]; rfl
  rw [e0]
  refine dss_one (ds_ret (dec (de_tupL B.tuple (DN.dr (dn_lc (own := [("number", 6)]) (List.range (nn c)) iN (fun g => .tuple (il (ofF (nn c) (shoF c l g)))) cmF sc60.nd (sml (by rw [List.length_range]; omega)) bk (di_range B.range (nn c) (dec (de_mul (de_v 2) (de_v 3) (mulS (by omega))) (congrArg PyData.int (Int.natCast_mul _ _).symm)) (by omega)) fun g hg => ⟨_, _, fun j hj => hj, fun s H C cl fp => ⟨dg_name 6 sc60.nd, de_call (Cal.blk (h59.cal rm) _ _ _ _ _) (da_4 (de_v 2) (de_v 4) (de_v 6) (de_v 1)) ⟨c, g, l, hc, List.mem_range.mp hg, hl, rfl, rfl⟩⟩⟩))) ?_))
  show PyData.tuple _ = .tuple ((ofF _ _).map _)
  rw [ofF_map]; rfl
where
  da_4 {X : Cx} {G : Ev} {a b e f : Expr} {d1 d2 d3 d4 : PyData} (h : DE X G a d1) (h2 : DE X G b d2) (h3 : DE X G e d3) (h4 : DE X G f d4) (hs : starEach [a, b, e, f] X.env = (false, eval a X.env) :: starEach [b, e, f] X.env := by rfl) (hs2 : starEach [b, e, f] X.env = (false, eval b X.env) :: starEach [e, f] X.env := by rfl) (hs3 : starEach [e, f] X.env = (false, eval e X.env) :: starEach [f] X.env := by rfl) (hs4 : starEach [f] X.env = (false, eval f X.env) :: starEach [] X.env := by rfl) : DA X G [a, b, e, f] [d1, d2, d3, d4] := da_cons h (da_cons h2 (da_cons h3 (da_cons h4 da_nil hs4) hs3) hs2) hs
/-! ### solved -/
def R61 : List PyData → PyData → Prop := fun ds r => ∃ (c : Ck) (d e : DD) (sts : List (Nat × Row)) (z : SlS), CK c ∧ Can (nn c) d ∧ Can (nn c) e ∧ CombOk (shRows c d.2) e.2 sts z ∧ (combR z).1.natAbs < 2 ^ 4000 ∧ (combR z).1 ≠ 0 ∧ W9 (combR z).2 ∧ e.1.natAbs < 2 ^ 4000 ∧ d.1.natAbs < 2 ^ 4000 ∧
  ds = [ckD c, dlD d, dlD e] ∧ r = dlD (settleF ((combR z).1 * e.1, (combR z).2.map fun x => x * d.1))
include B in
theorem w61 (F : FF K mg "solved" "solved" 61) (h60 : Cb false P w K mg base 4 "shifted_rows" 2 R60) (h57 : Cb false P w K mg base 5 "combined" 2 R57) (h37 : Cb false P w K mg base 3 "settled" 3 R37) : Cb false P w K mg base 6 "solved" 3 R61 := by
  refine cb_calm F sc61 rfl bn61 fun f cd A outer s H ds r rm hR hn => ?_
  obtain ⟨c, d, e, sts, z, hc, hd, he, ok, z1, z0, z9, e4, d4, rfl, rfl⟩ := hR
  have cb := hc.bd
  have hl : d.2.length = nn c := hd.len
  have hle : e.2.length = nn c := he.len
  have hpe : 1 ≤ e.1 := he.pos
  have zl : (combR z).2.length = nn c := by
    show (List.map _ _).length = _
    rw [List.length_map, ok.sol, solF_len, hle]
  refine .inl ?_
  refine dss_cons (ds_set 3 sc61.nd (de_call (h57.cal rm) (da_2 (de_call (h60.cal rm) (da_2 (de_v 0) (de_ixT (de_v 1) de_int rfl)) ⟨c, d.2, hc, hl, rfl, rfl⟩) (de_ixT (de_v 2) de_int rfl)) ⟨shRows c d.2, e.2, sts, z, ok, by omega, rfl, rfl⟩)) ?_
  refine dss_cons (ds_ifF (dtc (dt_isN (de_v 3))) dss_nil) ?_
  refine dss_cons (ds_asg (de_v 3) (dg_tup2 (.inl rfl) (dg_name 4 sc61.nd) (dg_name 5 sc61.nd))) ?_
  refine dss_one (ds_ret (de_call (h37.cal rm) (da_3 (de_v 0) (de_mul (de_v 4) (de_ixT (de_v 2) de_int rfl) (mulB (k := 4000) z1 e4 (by omega))) (dec (de_tupL B.tuple (DN.dr (dn_lc (own := [("top", 6)]) (combR z).2 PyData.int (fun x => .int (x * d.1)) cmF sc61.nd (sml (by omega)) bk (di_tup (de_v 5)) fun x hx => ⟨_, _, fun j hj => hj, fun s H C cl fp => ⟨dg_name 6 sc61.nd, de_mul (de_v 6) (de_ixT (de_v 1) de_int rfl) (mulB (k := 9000) (z9 x hx) (lt49 d4) (by omega))⟩⟩))) ?_)) ⟨c, (combR z).1 * e.1, (combR z).2.map fun x => x * d.1, hc, by rw [List.length_map]; exact zl, Int.mul_ne_zero z0 (by omega), ?_, rfl, rfl⟩))
  · unfold il; rw [List.map_map]; rfl
  · rw [Int.natAbs_mul]; exact lt9 z1 e4
/-! ### shares -/
def shareF (l : Row) : Int := if gcdL 0 l = 0 then 1 else gcdL 0 l
def smallF (d : DD) : DD := (1, d.2.map fun x => x.fdiv (shareF d.2))
def R62 : List PyData → PyData → Prop := fun ds r => ∃ d : DD, ds = [dlD d] ∧ r = .int (shareF d.2)
theorem w62 (F : FF K mg "weights_share" "weights_share" 62) (h48 : Cb false P w K mg base 2 "common_of" 2 (fun ds r => ∃ a b : Int, ds = [.int a, .int b] ∧ r = .int (Nat.gcd a.natAbs b.natAbs : Nat))) : Cb false P w K mg base 3 "weights_share" 1 R62 := by
  refine cb_calm F sc62 rfl bn62 fun f cd A outer s H ds r rm hR hn => ?_
  obtain ⟨d, rfl, rfl⟩ := hR
  refine .inl ?_
  refine dss_cons (ds_set 1 sc62.nd de_int) ?_
  refine dss_cons (ds_forF (fun g : Int => [.dat (dlD d), .dat (.int g), .no]) (fun (g x : Int) => ((Nat.gcd g.natAbs x.natAbs : Nat) : Int)) (fun _ => True) 0 d.2 PyData.int cmF PassesOwn.never (di_tup (de_ixT (de_v 0) de_int rfl)) trivial fun g x hx _ => ⟨trivial, _, _, _, dg_name 2 sc62.nd, dss_one (ds_set 1 sc62.nd (de_call (h48.cal rm) (da_2 (de_v 1) (de_v 2)) ⟨_, _, rfl, rfl⟩)), .keep (.keep (.drop .nil))⟩) ?_
  unfold shareF
  by_cases h0 : gcdL 0 d.2 = 0
  · rw [if_pos h0]
    exact dss_ret (ds_ifT (dtc (dt_eq (de_v 1) de_int) (decide_eq_true h0)) (dss_one (ds_ret de_int)))
  · rw [if_neg h0]
    exact dss_cons (ds_ifF (dtc (dt_eq (de_v 1) de_int) (decide_eq_false h0)) dss_nil) (dss_one (ds_ret (de_v 1)))
def R63 : List PyData → PyData → Prop := fun ds r => ∃ d : DD, d.2.length ≤ 100 ∧ W9 d.2 ∧ ds = [dlD d] ∧ r = dlD (smallF d)
theorem shareF_ne (l : Row) : shareF l ≠ 0 := by
  unfold shareF
  split
  · decide
  · assumption
theorem shareF_lt {l : Row} (h : W9 l) : (shareF l).natAbs < 2 ^ 9000 := by
  unfold shareF
  split
  · exact Nat.one_lt_two_pow (by omega)
  · rename_i hz
    exact gcdL0_lt h hz
include B in
theorem w63 (F : FF K mg "small_deal" "small_deal" 63) (h62 : Cb false P w K mg base 3 "weights_share" 1 R62) : Cb false P w K mg base 4 "small_deal" 1 R63 := by
  refine cb_calm F sc63 rfl bn63 fun f cd A outer s H ds r rm hR hn => ?_
  obtain ⟨d, hl, h9, rfl, rfl⟩ := hR
  refine .inl ?_
  refine dss_cons (ds_set 1 sc63.nd (de_call (h62.cal rm) (da_1 (de_v 0)) ⟨d, rfl, rfl⟩)) (dss_one (ds_ret (de_tup2 de_int (dec (de_tupL B.tuple (DN.dr (dn_lc (own := [("weight", 2)]) d.2 PyData.int (fun x => .int (x.fdiv (shareF d.2))) cmF sc63.nd (sml (by omega)) bk (di_tup (de_ixT (de_v 0) de_int rfl)) fun x hx => ⟨_, _, fun j hj => hj, fun s H C cl fp => ⟨dg_name 2 sc63.nd, de_div (de_v 2) (de_v 1) (EL.cdv (shareF_ne _) (shareF_lt h9))⟩⟩))) ?_))))
  show PyData.tuple _ = .tuple (il (d.2.map _))
  unfold il
  rw [List.map_map]; rfl
end
end EL
end
section
set_option maxHeartbeats 1000000
/-! Deals as vectors. -/
namespace EL
open MA MB MD
def rv (l : Row) : Vc := fun i => ((gt l i : Int) : Rat)
def vl (d : DD) : Vc := fun i => ((gt d.2 i : Int) : Rat) / ((d.1 : Int) : Rat)
theorem gt_ge {l : Row} {i : Nat} (h : l.length ≤ i) : gt l i = 0 := by
  unfold gt
  rw [List.getD_eq_getElem?_getD, List.getElem?_eq_none h]; rfl
theorem gt_ofF {n i : Nat} {f : Nat → Int} : gt (ofF n f) i = if i < n then f i else 0 := by
  by_cases h : i < n
  · rw [if_pos h]
    unfold gt
    rw [List.getD_eq_getElem?_getD, ofF_get h]; rfl
  · rw [if_neg h, gt_ge (by rw [ofF_length]; omega)]
theorem gt_map {l : Row} {i : Nat} {f : Int → Int} (h : f 0 = 0) : gt (l.map f) i = f (gt l i) := by
  unfold gt
  rw [List.getD_eq_getElem?_getD, List.getD_eq_getElem?_getD, List.getElem?_map]
  cases l[i]? with
  | none => exact h.symm
  | some x => rfl
theorem gt_mem {l : Row} {i : Nat} (h : i < l.length) : gt l i ∈ l := getD_mem h
theorem mem_gt {l : Row} {x : Int} (h : x ∈ l) : ∃ i, i < l.length ∧ gt l i = x := by
  obtain ⟨i, hi, e⟩ := List.mem_iff_getElem.mp h
  refine ⟨i, hi, ?_⟩
  unfold gt
  rw [List.getD_eq_getElem?_getD, List.getElem?_eq_getElem hi, ← e]; rfl
theorem row_ext {l m : Row} (h : l.length = m.length) (e : ∀ i, gt l i = gt m i) : l = m := by
  refine List.ext_getElem h fun i h1 h2 => ?_
  have := e i
  unfold gt at this
  rw [List.getD_eq_getElem?_getD, List.getD_eq_getElem?_getD, List.getElem?_eq_getElem h1, List.getElem?_eq_getElem h2] at this
  exact this
theorem rv_sup {l : Row} {n : Nat} (h : l.length = n) : Sup n (rv l) := fun i hi => by
  show ((gt l i : Int) : Rat) = 0
  rw [gt_ge (by omega)]; rfl
theorem Can.sup {n : Nat} {d : DD} (h : Can n d) : Sup n (vl d) := fun i hi => by
  show ((gt d.2 i : Int) : Rat) / _ = 0
  rw [gt_ge (by rw [h.len]; exact hi), Rat.div_def]
  show (0 : Rat) * _ = 0
  grind
theorem cne {i : Int} (h : i ≠ 0) : ((i : Int) : Rat) ≠ 0 := fun e => h (by exact Rat.intCast_eq_zero_iff.mp e)
theorem cinj {i j : Int} (h : ((i : Int) : Rat) = ((j : Int) : Rat)) : i = j := Rat.intCast_inj.mp h
theorem div_eq {a b c : Rat} (hb : b ≠ 0) : a / b = c ↔ a = c * b := by
  constructor
  · intro h; rw [← h, Rat.div_mul_cancel hb]
  · intro h; rw [h, Rat.mul_div_cancel hb]
/-- a common factor goes out -/
theorem gcdL_mul {k : Int} (hk : 0 ≤ k) : ∀ (l : List Int) (g : Int), gcdL (k * g) (l.map fun x => k * x) = k * gcdL g l
  | [], g => rfl
  | x :: l, g => by
    show gcdL ((Nat.gcd (k * g).natAbs (k * x).natAbs : Nat) : Int) (l.map fun x => k * x) = k * gcdL ((Nat.gcd g.natAbs x.natAbs : Nat) : Int) l
    rw [← gcdL_mul hk l]
    congr 1
    rw [Int.natAbs_mul, Int.natAbs_mul, Nat.gcd_mul_left, Int.natCast_mul, Int.natAbs_of_nonneg hk]
theorem gcdL_one {g : Int} {l : List Int} (h0 : 0 ≤ g) (hd : ∀ x : Int, 0 ≤ x → x ∣ g → (∀ y, y ∈ l → x ∣ y) → x = 1) : gcdL g l = 1 :=
  hd _ (gcdL_nn h0) (gcdL_dvd (l := l) (g := g)).1 (gcdL_dvd (l := l) (g := g)).2
theorem one_of_dvd {x : Int} (h0 : 0 ≤ x) (h : x ∣ 1) : x = 1 := by
  have := Int.le_of_dvd (by decide) h
  have n : x ≠ 0 := fun e => by rw [e] at h; exact absurd (Int.zero_dvd.mp h) (by decide)
  omega
/-- b divides D when b divides D times what has no common factor -/
theorem dvd_of_gcd {b D : Int} {l : List Int} (hg : gcdL b l = 1) (h : ∀ x, x ∈ l → b ∣ D * x) : b ∣ D := by
  have e : ∀ k : Int, 0 ≤ k → (∀ x, x ∈ l → b ∣ k * x) → b ∣ k := fun k hk hx => by
    have := gcdL_max (g := k * b) (l := l.map fun x => k * x) (d := b) (Int.dvd_mul_left _ _) (fun x hx' => by
      obtain ⟨y, hy, rfl⟩ := List.mem_map.mp hx'
      exact hx y hy)
    rw [gcdL_mul hk, hg, Int.mul_one] at this
    exact this
  rcases Int.le_total 0 D with h0 | h0
  · exact e D h0 h
  · have := e (-D) (by omega) fun x hx => by rw [Int.neg_mul]; exact Int.dvd_neg.mpr (h x hx)
    exact Int.dvd_neg.mp this
theorem can_uniq {n : Nat} {d e : DD} (hd : Can n d) (he : Can n e) (h : vl d = vl e) : d = e := by
  obtain ⟨b, l⟩ := d
  obtain ⟨b', l'⟩ := e
  have p := hd.pos
  have p' := he.pos
  have hb : b ≠ 0 := by have : 1 ≤ b := p; omega
  have hb' : b' ≠ 0 := by have : 1 ≤ b' := p'; omega
  have q : ∀ i, gt l i * b' = gt l' i * b := fun i => by
    have z := congrFun h i
    have z' : ((gt l i : Int) : Rat) / b = ((gt l' i : Int) : Rat) / b' := z
    rw [div_eq (cne hb), Rat.div_def] at z'
    refine cinj ?_
    rw [Rat.intCast_mul, Rat.intCast_mul, z']
    have := Rat.inv_mul_cancel _ (cne hb')
    grind
  have d1 : b ∣ b' := dvd_of_gcd hd.gcd fun x hx => by
    obtain ⟨i, _, rfl⟩ := mem_gt hx
    exact ⟨gt l' i, by rw [Int.mul_comm b', q, Int.mul_comm]⟩
  have d2 : b' ∣ b := dvd_of_gcd he.gcd fun x hx => by
    obtain ⟨i, _, rfl⟩ := mem_gt hx
    exact ⟨gt l i, by rw [Int.mul_comm b, ← q, Int.mul_comm]⟩
  have eb : b = b' := Int.le_antisymm (Int.le_of_dvd (by have : 1 ≤ b' := p'; omega) d1) (Int.le_of_dvd (by have : 1 ≤ b := p; omega) d2)
  subst eb
  have el : l = l' := row_ext (hd.len.trans he.len.symm) fun i => Int.eq_of_mul_eq_mul_right hb (q i)
  rw [el]
theorem fdiv_exact {a s : Int} (h : s ∣ a) : a.fdiv s * s = a := Int.fdiv_mul_cancel h
theorem settle_can {n : Nat} {b : Int} {l : Row} (hb : b ≠ 0) (hl : l.length = n) : Can n (settleF (b, l)) ∧ vl (settleF (b, l)) = fun i => ((gt l i : Int) : Rat) / (b : Int) := by
  have g0 : gcdL (b.natAbs : Int) l ≠ 0 := gcdL_ne (by omega)
  have gn : 0 ≤ gcdL (b.natAbs : Int) l := gcdL_nn (Int.natCast_nonneg _)
  obtain ⟨dv1, dv2⟩ := gcdL_dvd (l := l) (g := (b.natAbs : Int))
  generalize hg : gcdL (b.natAbs : Int) l = g at g0 gn dv1 dv2
  have s0 : sg b g ≠ 0 := sg_ne g0
  have ds : ∀ {a : Int}, g ∣ a → sg b g ∣ a := fun {a} h => by
    unfold sg
    split
    · exact Int.neg_dvd.mpr h
    · exact h
  have db : g ∣ b := Int.dvd_trans dv1 (Int.natAbs_dvd.mpr (Int.dvd_refl b))
  have eb := fdiv_exact (ds db)
  have el : ∀ x, x ∈ l → x.fdiv (sg b g) * sg b g = x := fun x hx => fdiv_exact (ds (dv2 x hx))
  have es : settleF (b, l) = (b.fdiv (sg b g), l.map fun x => x.fdiv (sg b g)) := by unfold settleF; rw [hg]
  rw [es]
  have bp : 1 ≤ b.fdiv (sg b g) := by
    refine Classical.byContradiction fun no => ?_
    have le : b.fdiv (sg b g) ≤ 0 := by omega
    by_cases hneg : b < 0
    · have e1 : sg b g = -g := if_pos hneg
      rw [e1] at eb le
      have : 0 ≤ b.fdiv (-g) * -g := by rw [Int.mul_neg, ← Int.neg_mul]; exact Int.mul_nonneg (by omega) gn
      omega
    · have e1 : sg b g = g := if_neg hneg
      rw [e1] at eb le
      have : b.fdiv g * g ≤ 0 := Int.mul_nonpos_of_nonpos_of_nonneg le gn
      omega
  refine ⟨⟨by rw [List.length_map]; exact hl, bp, gcdL_one (by show 0 ≤ b.fdiv (sg b g); omega) fun x h0 h1 h2 => one_of_dvd h0 ?_⟩, funext fun i => ?_⟩
  · have k1 : x * g ∣ gcdL (b.natAbs : Int) l := by
      refine gcdL_max ?_ fun y hy => ?_
      · have : x * g ∣ b := by
          have t : x * sg b g ∣ b := by
            have := Int.mul_dvd_mul h1 (Int.dvd_refl (sg b g))
            rwa [eb] at this
          unfold sg at t
          split at t
          · rw [Int.mul_neg] at t; exact Int.neg_dvd.mp t
          · exact t
        exact Int.dvd_natAbs.mpr this
      · have t : x * sg b g ∣ y := by
          have m := h2 (y.fdiv (sg b g)) (List.mem_map.mpr ⟨y, hy, rfl⟩)
          have := Int.mul_dvd_mul m (Int.dvd_refl (sg b g))
          rwa [el y hy] at this
        unfold sg at t
        split at t
        · rw [Int.mul_neg] at t; exact Int.neg_dvd.mp t
        · exact t
    rw [hg] at k1
    obtain ⟨q, hq⟩ := k1
    refine ⟨q, ?_⟩
    have : g * 1 = g * (x * q) := by rw [Int.mul_one, ← Int.mul_assoc, Int.mul_comm g x]; exact hq
    exact Int.eq_of_mul_eq_mul_left g0 this
  · show ((gt (l.map fun x => x.fdiv (sg b g)) i : Int) : Rat) / ((b.fdiv (sg b g) : Int) : Rat) = _
    rw [gt_map (f := fun x => x.fdiv (sg b g)) (Int.zero_fdiv _)]
    have e1 : (gt l i).fdiv (sg b g) * sg b g = gt l i := by
      by_cases hi : i < l.length
      · exact el _ (gt_mem hi)
      · rw [gt_ge (by omega), Int.zero_fdiv, Int.zero_mul]
    conv => rhs; rw [← e1, ← eb]
    rw [Rat.intCast_mul, Rat.intCast_mul]
    have c1 : (((b.fdiv (sg b g)) : Int) : Rat) ≠ 0 := cne (by omega)
    have c2 : (((sg b g) : Int) : Rat) ≠ 0 := cne s0
    rw [div_eq c1, Rat.div_def, Rat.inv_mul_rev]
    have i1 := Rat.inv_mul_cancel _ c1
    have i2 := Rat.inv_mul_cancel _ c2
    grind
/-! ### sizes -/
def Bd (k : Nat) (v : Vc) : Prop := ∃ D : Int, D ≠ 0 ∧ D.natAbs ≤ 2 ^ k ∧ ∀ i, ZB ((D : Rat) * v i) (2 ^ k)
theorem Bd.mono {j k : Nat} {v : Vc} (h : Bd j v) (l : j ≤ k) : Bd k v := by
  obtain ⟨D, h0, h1, h2⟩ := h
  have p : 2 ^ j ≤ 2 ^ k := Nat.pow_le_pow_right (by omega) l
  exact ⟨D, h0, Nat.le_trans h1 p, fun i => (h2 i).mono p⟩
theorem Bd.can {n k : Nat} {d : DD} (h : Bd k (vl d)) (c : Can n d) : d.1.natAbs ≤ 2 ^ k ∧ ∀ x, x ∈ d.2 → x.natAbs ≤ 2 ^ k := by
  obtain ⟨b, l⟩ := d
  obtain ⟨D, h0, h1, h2⟩ := h
  have p : 1 ≤ b := c.pos
  have hb : b ≠ 0 := by omega
  have key : ∀ i, ∃ z : Int, D * gt l i = z * b ∧ z.natAbs ≤ 2 ^ k := fun i => by
    obtain ⟨z, e, hz⟩ := h2 i
    refine ⟨z, cinj ?_, hz⟩
    have e' : (D : Rat) * (((gt l i : Int) : Rat) / ((b : Int) : Rat)) = z := e
    rw [Rat.intCast_mul, Rat.intCast_mul, ← e', Rat.div_def]
    have := Rat.inv_mul_cancel _ (cne hb)
    grind
  have dv : b ∣ D := dvd_of_gcd c.gcd fun x hx => by
    obtain ⟨i, _, rfl⟩ := mem_gt hx
    obtain ⟨z, e, _⟩ := key i
    exact ⟨z, by rw [e, Int.mul_comm]⟩
  obtain ⟨q, hq⟩ := dv
  have q0 : q ≠ 0 := fun e => h0 (by rw [hq, e, Int.mul_zero])
  refine ⟨Nat.le_trans (Nat.le_of_dvd (by omega) (Int.natAbs_dvd_natAbs.mpr ⟨q, hq⟩)) h1, fun x hx => ?_⟩
  obtain ⟨i, _, rfl⟩ := mem_gt hx
  obtain ⟨z, e, hz⟩ := key i
  have ez : q * gt l i = z := by
    refine Int.eq_of_mul_eq_mul_right hb ?_
    rw [← e, hq]
    rw [Int.mul_right_comm, Int.mul_comm q b]
  refine Nat.le_trans ?_ hz
  rw [← ez, Int.natAbs_mul]
  exact Nat.le_mul_of_pos_left _ (by omega)
theorem bd_can {n k : Nat} {d : DD} (c : Can n d) (h1 : d.1.natAbs ≤ 2 ^ k) (h2 : ∀ x, x ∈ d.2 → x.natAbs ≤ 2 ^ k) : Bd k (vl d) := by
  have p : 1 ≤ d.1 := c.pos
  refine ⟨d.1, by omega, h1, fun i => ⟨gt d.2 i, ?_, ?_⟩⟩
  · show ((d.1 : Int) : Rat) * (((gt d.2 i : Int) : Rat) / ((d.1 : Int) : Rat)) = _
    rw [Rat.mul_comm, Rat.div_mul_cancel (cne (by omega))]
  · by_cases hi : i < d.2.length
    · exact h2 _ (gt_mem hi)
    · rw [gt_ge (by omega)]; exact Nat.zero_le _
theorem pow_add3 {a b c j k : Nat} (ha : a ≤ 2 ^ j) (hb : b ≤ 2 ^ k) (hc : c ≤ 32) : c * (a * b) ≤ 2 ^ (j + k + 5) := by
  rw [Nat.pow_add, Nat.pow_add, Nat.mul_comm]
  exact Nat.mul_le_mul (Nat.mul_le_mul ha hb) (Nat.le_trans hc (by decide))
theorem sm_ZB {n M : Nat} {f : Nat → Rat} (h : ∀ i, i < n → ZB (f i) M) : ZB (sm n f) (n * M) := by
  induction n with
  | zero => exact ⟨0, rfl, Nat.zero_le _⟩
  | succ n ih =>
    obtain ⟨z, e, hz⟩ := ih fun i hi => h i (by omega)
    obtain ⟨y, e2, hy⟩ := h n (by omega)
    refine ⟨z + y, ?_, ?_⟩
    · show sm n f + f n = _
      rw [e, e2, Rat.intCast_add]
    · rw [Nat.succ_mul]; omega
theorem Bd.cv {n j k : Nat} {m : Nat → Nat → Nat} {iv : Nat → Nat} {a b : Vc} (hn : n ≤ 32) (ha : Bd j a) (hb : Bd k b) : Bd (j + k + 5) (MA.cv n m iv a b) := by
  obtain ⟨D, h0, h1, h2⟩ := ha
  obtain ⟨E, g0, g1, g2⟩ := hb
  refine ⟨D * E, Int.mul_ne_zero h0 g0, ?_, fun i => ?_⟩
  · rw [Int.natAbs_mul]
    have := pow_add3 h1 g1 (c := 1) (by omega)
    omega
  · by_cases hi : i < n
    · have e : ((D * E : Int) : Rat) * MA.cv n m iv a b i = sm n fun g => ((D : Rat) * a g) * ((E : Rat) * b (m (iv g) i)) := by
        show _ * (if i < n then _ else _) = _
        rw [if_pos hi, ← sm_mul, Rat.intCast_mul]
        exact sm_congr fun g _ => by grind
      rw [e]
      refine ZB.mono (sm_ZB (M := 2 ^ j * 2 ^ k) fun g _ => (h2 g).mul (g2 _)) ?_
      exact pow_add3 (Nat.le_refl _) (Nat.le_refl _) hn
    · have e : MA.cv n m iv a b i = 0 := if_neg hi
      rw [e]
      exact ⟨0, by show _ * (0 : Rat) = 0; grind, Nat.zero_le _⟩
theorem Bd.st {n k : Nat} {iv : Nat → Nat} {a : Vc} (ha : Bd k a) : Bd k (MA.st n iv a) := by
  obtain ⟨D, h0, h1, h2⟩ := ha
  refine ⟨D, h0, h1, fun i => ?_⟩
  by_cases hi : i < n
  · have e : MA.st n iv a i = a (iv i) := if_pos hi
    rw [e]; exact h2 _
  · have e : MA.st n iv a i = 0 := if_neg hi
    rw [e]
    exact ⟨0, by show _ * (0 : Rat) = 0; grind, Nat.zero_le _⟩
theorem Bd.sub {j k : Nat} {a b : Vc} (ha : Bd j a) (hb : Bd k b) : Bd (j + k + 5) (MA.sub a b) := by
  obtain ⟨D, h0, h1, h2⟩ := ha
  obtain ⟨E, g0, g1, g2⟩ := hb
  refine ⟨D * E, Int.mul_ne_zero h0 g0, ?_, fun i => ?_⟩
  · rw [Int.natAbs_mul]
    have := pow_add3 h1 g1 (c := 1) (by omega)
    omega
  · have e : ((D * E : Int) : Rat) * MA.sub a b i = ((D : Rat) * a i) * (E : Rat) - (D : Rat) * ((E : Rat) * b i) := by
      show _ * (a i - b i) = _
      rw [Rat.intCast_mul]; grind
    rw [e]
    have zD : ZB ((D : Int) : Rat) (2 ^ j) := ⟨D, rfl, h1⟩
    have zE : ZB ((E : Int) : Rat) (2 ^ k) := ⟨E, rfl, g1⟩
    refine ZB.mono (((h2 i).mul zE).sub (zD.mul (g2 i))) ?_
    have := pow_add3 (Nat.le_refl (2 ^ j)) (Nat.le_refl (2 ^ k)) (c := 2) (by omega)
    omega
theorem bd_one {k : Nat} : Bd k one := ⟨1, by decide, Nat.one_le_two_pow, fun i => by
  by_cases hi : i = 0
  · have e : one i = 1 := if_pos hi
    rw [e]; exact ⟨1, by rw [Rat.mul_one], Nat.one_le_two_pow⟩
  · have e : one i = 0 := if_neg hi
    rw [e]; exact ⟨0, by rw [Rat.mul_zero]; rfl, Nat.zero_le _⟩⟩
end EL
end
section
set_option maxHeartbeats 1000000
/-! The moves are a group; products, mirrors, shifted rows as vectors. -/
namespace EL
open MA MB MD
def grpB (n : Nat) (T : List (List Nat)) (I : List Nat) : Bool :=
  let m := fun a b => (T.getD a []).getD b 0
  let iv := fun a => I.getD a 0
  (List.range n).all fun a => decide (iv a < n) && (decide (m 0 a = a) && (decide (m a 0 = a) && (decide (m (iv a) a = 0) && (decide (m a (iv a) = 0) &&
    (List.range n).all fun b => decide (m a b < n) && (List.range n).all fun c => decide (m (m a b) c = m a (m b c))))))
theorem grp_of {n : Nat} {m : Nat → Nat → Nat} {iv : Nat → Nat} (hn : 0 < n) (h : grpB n (ofF n fun a => ofF n (m a)) (ofF n iv) = true) : Grp n m iv := by
  have em : ∀ a b, a < n → b < n → ((ofF n fun a => ofF n (m a)).getD a []).getD b 0 = m a b := fun a b ha hb => by
    rw [List.getD_eq_getElem?_getD, List.getD_eq_getElem?_getD, ofF_get ha]
    show ((ofF n (m a))[b]?).getD 0 = _
    rw [ofF_get hb]; rfl
  have ei : ∀ a, a < n → (ofF n iv).getD a 0 = iv a := fun a ha => by rw [List.getD_eq_getElem?_getD, ofF_get ha]; rfl
  unfold grpB at h
  have k := List.all_eq_true.mp h
  have k1 := fun a (ha : a < n) => k a (List.mem_range.mpr ha)
  simp only [Bool.and_eq_true, decide_eq_true_eq, List.all_eq_true, List.mem_range] at k1
  have kc : ∀ a b, a < n → b < n → m a b < n := fun a b ha hb => by
    have := ((k1 a ha).2.2.2.2.2 b hb).1
    rwa [em a b ha hb] at this
  have ki : ∀ a, a < n → iv a < n := fun a ha => by
    have := (k1 a ha).1
    rwa [ei a ha] at this
  refine ⟨hn, kc, ki, fun a b c ha hb hc => ?_, fun a ha => ?_, fun a ha => ?_, fun a ha => ?_, fun a ha => ?_⟩
  · have := ((k1 a ha).2.2.2.2.2 b hb).2 c hc
    rwa [em a b ha hb, em b c hb hc, em _ _ (kc a b ha hb) hc, em _ _ ha (kc b c hb hc)] at this
  · have := (k1 a ha).2.1
    rwa [em 0 a hn ha] at this
  · have := (k1 a ha).2.2.1
    rwa [em a 0 ha hn] at this
  · have := (k1 a ha).2.2.2.1
    rwa [ei a ha, em _ _ (ki a ha) ha] at this
  · have := (k1 a ha).2.2.2.2.1
    rwa [ei a ha, em _ _ ha (ki a ha)] at this
theorem CK.grp {c : Ck} (h : CK c) : Grp (nn c) (mN c) (ivN c) := grp_of (by have := h.bd; omega) (h.all fun c => grpB (nn c) (ofF (nn c) fun a => ofF (nn c) (mN c a)) (ofF (nn c) (ivN c)))
/-- sums along a list -/
def ls {α : Type} (f : α → Rat) : List α → Rat
  | [] => 0
  | a :: l => f a + ls f l
theorem ls_append {α : Type} (f : α → Rat) : ∀ l m : List α, ls f (l ++ m) = ls f l + ls f m
  | [], m => by show ls f m = 0 + ls f m; grind
  | a :: l, m => by show f a + ls f (l ++ m) = f a + ls f l + ls f m; rw [ls_append f l m]; grind
theorem ls_congr {α : Type} {f g : α → Rat} : ∀ {l : List α}, (∀ a, a ∈ l → f a = g a) → ls f l = ls g l
  | [], _ => rfl
  | a :: l, h => by show f a + ls f l = g a + ls g l; rw [h a List.mem_cons_self, ls_congr fun b hb => h b (List.mem_cons_of_mem _ hb)]
theorem ls_filter {α : Type} {f : α → Rat} {p : α → Bool} : ∀ {l : List α}, (∀ a, a ∈ l → p a = false → f a = 0) → ls f (l.filter p) = ls f l
  | [], _ => rfl
  | a :: l, h => by
    have ih := ls_filter (f := f) (p := p) (l := l) fun b hb => h b (List.mem_cons_of_mem _ hb)
    cases e : p a with
    | true => rw [List.filter_cons_of_pos e]; show f a + ls f (l.filter p) = _; rw [ih]; rfl
    | false =>
      rw [List.filter_cons_of_neg (by rw [e]; exact Bool.false_ne_true), ih]
      show ls f l = f a + ls f l
      rw [h a List.mem_cons_self e]; grind
theorem sm_front (f : Nat → Rat) : ∀ n, sm (n + 1) f = f 0 + sm n fun i => f (i + 1)
  | 0 => by show (0 : Rat) + f 0 = f 0 + 0; grind
  | n + 1 => by
    show sm (n + 1) f + f (n + 1) = f 0 + (sm n (fun i => f (i + 1)) + f (n + 1))
    rw [sm_front f n]; grind
theorem ls_zip (f : Int × Nat → Rat) : ∀ (l : Row) (k : Nat), ls f (l.zipIdx k) = sm l.length fun i => f (gt l i, k + i)
  | [], k => rfl
  | x :: l, k => by
    rw [List.zipIdx_cons, List.length_cons, sm_front]
    show f (x, k) + ls f (l.zipIdx (k + 1)) = _
    rw [ls_zip f l (k + 1)]
    congr 1
    exact sm_congr fun i _ => by
      show f (gt l i, k + 1 + i) = f (gt (x :: l) (i + 1), k + (i + 1))
      rw [Nat.add_right_comm, Nat.add_assoc]; rfl
theorem fold_add {α : Type} (φ : α → Nat → Int) (l : List α) (F : Nat → Int) (h : Nat) : ∀ {step : (Nat → Int) → α → Nat → Int}, (∀ F a, a ∈ l → step F a h = F h + φ a h) → ((l.foldl step F h : Int) : Rat) = ((F h : Int) : Rat) + ls (fun a => ((φ a h : Int) : Rat)) l := by
  induction l generalizing F with
  | nil => intro step _; show ((F h : Int) : Rat) = _ + 0; grind
  | cons a l ih =>
    intro step hs
    rw [List.foldl_cons, ih (step F a) fun F b hb => hs F b (List.mem_cons_of_mem _ hb), hs F a List.mem_cons_self, Rat.intCast_add]
    show _ = _ + (_ + _)
    grind
section
variable {c : Ck} (hc : CK c)
include hc
theorem mul_inv_eq {g k h : Nat} (hg : g < nn c) (hk : k < nn c) (hh : h < nn c) : h = mN c g k ↔ k = mN c (ivN c g) h := by
  have G := hc.grp
  constructor
  · intro e
    exact G.canl hg hk e.symm
  · intro e
    rw [e, ← G.assoc _ _ _ hg (G.icl g hg) hh, G.invr g hg, G.onel h hh]
theorem row_add {l2 : Row} (hl : l2.length = nn c) {x : Int} {g h : Nat} (hg : g < nn c) (hh : h < nn c) (F : Nat → Int) : ((rowF c l2 F (x, g) h : Int) : Rat) = (F h : Int) + (x : Int) * rv l2 (mN c (ivN c g) h) := by
  by_cases hx : x = 0
  · have e : rowF c l2 F (x, g) = F := if_pos hx
    rw [e, hx]
    show _ = _ + (0 : Rat) * _
    grind
  · have e : rowF c l2 F (x, g) = (secs l2).foldl (putF c g x) F := if_neg hx
    rw [e, fold_add (fun q h => if h = mN c g q.2 then x * q.1 else 0) (secs l2) F h fun F q _ => ?_]
    · unfold secs
      rw [ls_filter fun q _ hq => ?_, ls_zip, hl]
      · have G := hc.grp
        rw [sm_one (k := mN c (ivN c g) h) (G.cl _ _ (G.icl g hg) hh) fun i hi ne => ?_]
        · rw [Nat.zero_add, if_pos ((mul_inv_eq hc hg (G.cl _ _ (G.icl g hg) hh) hh).mpr rfl), Rat.intCast_mul]; rfl
        · rw [Nat.zero_add, if_neg fun z => ne ((mul_inv_eq hc hg hi hh).mp z)]; rfl
      · have : q.1 = 0 := by simpa using hq
        rw [this]
        split <;> simp
    · show (if h = mN c g q.2 then F h + x * q.1 else F h) = F h + if h = mN c g q.2 then x * q.1 else 0
      split
      · rfl
      · rw [Int.add_zero]
theorem deal_cv {l1 l2 : Row} (h1 : l1.length = nn c) (h2 : l2.length = nn c) {h : Nat} (hh : h < nn c) : ((dealF c l1 l2 h : Int) : Rat) = cv (nn c) (mN c) (ivN c) (rv l1) (rv l2) h := by
  show _ = if h < nn c then _ else _
  rw [if_pos hh]
  have key : ∀ (k : Nat) (l : Row) (F : Nat → Int), (∀ i, i < l.length → k + i < nn c) → (((l.zipIdx k).foldl (rowF c l2) F h : Int) : Rat) = ((F h : Int) : Rat) + ls (fun q : Int × Nat => ((q.1 : Int) : Rat) * rv l2 (mN c (ivN c q.2) h)) (l.zipIdx k) := by
    intro k l
    induction l generalizing k with
    | nil => intro F _; show ((F h : Int) : Rat) = _ + 0; grind
    | cons x l ih =>
      intro F hk
      rw [List.zipIdx_cons, List.foldl_cons, ih (k + 1) _ fun i hi => by have := hk (i + 1) (by simp only [List.length_cons]; omega); omega, row_add hc h2 (by have := hk 0 (by simp only [List.length_cons]; omega); omega) hh]
      show _ = _ + (_ + _)
      grind
  unfold dealF
  rw [key 0 l1 _ fun i hi => by omega, ls_zip, h1]
  show ((0 : Int) : Rat) + _ = _
  rw [show ((0 : Int) : Rat) = 0 from rfl]
  have : ∀ x : Rat, 0 + x = x := fun x => by grind
  rw [this]
  exact sm_congr fun i _ => by rw [Nat.zero_add]; rfl
/-- what dealt tells -/
theorem dealt_vl {d e : DD} (hd : Can (nn c) d) (he : Can (nn c) e) : Can (nn c) (settleF (d.1 * e.1, ofF (nn c) (dealF c d.2 e.2))) ∧ vl (settleF (d.1 * e.1, ofF (nn c) (dealF c d.2 e.2))) = cv (nn c) (mN c) (ivN c) (vl d) (vl e) := by
  have p1 := hd.pos
  have p2 := he.pos
  have n0 : d.1 * e.1 ≠ 0 := Int.mul_ne_zero (by omega) (by omega)
  obtain ⟨k1, k2⟩ := settle_can (n := nn c) (l := ofF (nn c) (dealF c d.2 e.2)) n0 ofF_length
  refine ⟨k1, k2.trans (funext fun h => ?_)⟩
  have ev : ∀ d : DD, d.1 ≠ 0 → vl d = scl (((d.1 : Int) : Rat)⁻¹) (rv d.2) := fun d _ => funext fun i => by
    show ((gt d.2 i : Int) : Rat) / _ = _ * ((gt d.2 i : Int) : Rat)
    rw [Rat.div_def, Rat.mul_comm]
  rw [ev d (by omega), ev e (by omega), scl_cv, cv_scl, gt_ofF]
  show ((if h < nn c then dealF c d.2 e.2 h else 0 : Int) : Rat) / ((d.1 * e.1 : Int) : Rat) = _ * (_ * _)
  have i1 := Rat.inv_mul_cancel _ (cne (show d.1 ≠ 0 by omega))
  have i2 := Rat.inv_mul_cancel _ (cne (show e.1 ≠ 0 by omega))
  rw [div_eq (cne n0), Rat.intCast_mul]
  by_cases hh : h < nn c
  · rw [if_pos hh, deal_cv hc hd.len he.len hh]
    grind
  · rw [if_neg hh]
    have e0 : cv (nn c) (mN c) (ivN c) (rv d.2) (rv e.2) h = 0 := if_neg hh
    rw [e0]
    show (0 : Rat) = _
    grind
/-- what mirrored tells -/
theorem mir_vl {d : DD} (hd : Can (nn c) d) : Can (nn c) (mirF c d) ∧ vl (mirF c d) = st (nn c) (ivN c) (vl d) := by
  have G := hc.grp
  have ev : ∀ h, gt (mirF c d).2 h = if h < nn c then gt d.2 (ivN c h) else 0 := fun h => gt_ofF
  refine ⟨⟨ofF_length, hd.pos, gcdL_one (by have := hd.pos; show 0 ≤ d.1; omega) fun x h0 h1 h2 => ?_⟩, funext fun h => ?_⟩
  · have : x ∣ gcdL d.1 d.2 := gcdL_max h1 fun y hy => by
      obtain ⟨i, hi, rfl⟩ := mem_gt hy
      rw [hd.len] at hi
      have z := h2 (gt (mirF c d).2 (ivN c i)) (gt_mem (by show _ < (ofF _ _).length; rw [ofF_length]; exact G.icl i hi))
      rw [ev, if_pos (G.icl i hi), G.iviv hi] at z
      exact z
    rw [hd.gcd] at this
    exact one_of_dvd h0 this
  · show ((gt (mirF c d).2 h : Int) : Rat) / ((d.1 : Int) : Rat) = if h < nn c then vl d (ivN c h) else 0
    rw [ev]
    by_cases hh : h < nn c
    · rw [if_pos hh, if_pos hh]; rfl
    · rw [if_neg hh, if_neg hh, Rat.div_def]
      show (0 : Rat) * _ = 0
      grind
/-! ### shifted rows -/
theorem fold_put {l : Row} {g : Nat} (hg : g < nn c) : ∀ (ks : List Nat) (F : Nat → Int) (h : Nat), h < nn c → (∀ k, k ∈ ks → k < nn c) → ks.foldl (fun F k => fun h => if h = mN c g k then gt l k else F h) F h = if mN c (ivN c g) h ∈ ks then gt l (mN c (ivN c g) h) else F h
  | [], F, h, hh, hk => rfl
  | k :: ks, F, h, hh, hk => by
    rw [List.foldl_cons, fold_put hg ks _ h hh fun q hq => hk q (List.mem_cons_of_mem _ hq)]
    by_cases e : mN c (ivN c g) h ∈ ks
    · rw [if_pos e, if_pos (List.mem_cons_of_mem _ e)]
    · rw [if_neg e]
      by_cases e2 : k = mN c (ivN c g) h
      · rw [if_pos ((mul_inv_eq hc hg (hk k List.mem_cons_self) hh).mpr e2), if_pos (by rw [e2]; exact List.mem_cons_self), e2]
      · rw [if_neg fun z => e2 ((mul_inv_eq hc hg (hk k List.mem_cons_self) hh).mp z), if_neg fun z => (List.mem_cons.mp z).elim (fun z => e2 z.symm) e]
theorem sho_eq {l : Row} {g h : Nat} (hg : g < nn c) (hh : h < nn c) : shoF c l g h = gt l (mN c (ivN c g) h) := by
  have cb := hc.bd
  have en : nn c = tn c * c.b := Nat.mul_comm _ _
  have e1 : shoF c l g = ((List.range (tn c)).flatMap fun u => (List.range c.b).map fun y => u * c.b + y).foldl (fun F k => fun h => if h = mN c g k then gt l k else F h) fun _ => 0 := by
    unfold shoF
    rw [List.foldl_flatMap]
    congr 1
    funext F u
    rw [List.foldl_map]; rfl
  rw [e1, fold_put hc hg _ _ h hh fun k hk => ?_]
  · have G := hc.grp
    have hk := G.cl _ _ (G.icl g hg) hh
    rw [if_pos]
    refine List.mem_flatMap.mpr ⟨mN c (ivN c g) h / c.b, List.mem_range.mpr ?_, List.mem_map.mpr ⟨mN c (ivN c g) h % c.b, List.mem_range.mpr (Nat.mod_lt _ (by omega)), ?_⟩⟩
    · rw [Nat.div_lt_iff_lt_mul (by omega)]; omega
    · rw [Nat.mul_comm]; exact Nat.div_add_mod _ _
  · obtain ⟨u, hu, hy⟩ := List.mem_flatMap.mp hk
    obtain ⟨y, hy2, rfl⟩ := List.mem_map.mp hy
    have h1 := List.mem_range.mp hu
    have h2 := List.mem_range.mp hy2
    have : (u + 1) * c.b ≤ tn c * c.b := Nat.mul_le_mul_right _ h1
    rw [Nat.succ_mul] at this
    omega
theorem shrow {l : Row} (hl : l.length = nn c) {g : Nat} (hg : g < nn c) : rv ((shRows c l).getD g []) = cv (nn c) (mN c) (ivN c) (sd g) (rv l) := by
  have G := hc.grp
  have e : (shRows c l).getD g [] = ofF (nn c) (shoF c l g) := by
    unfold shRows
    rw [List.getD_eq_getElem?_getD, ofF_get hg]; rfl
  rw [e]
  refine Sup.ext (rv_sup ofF_length) Sup.cv fun h hh => ?_
  show ((gt (ofF (nn c) (shoF c l g)) h : Int) : Rat) = if h < nn c then _ else _
  rw [gt_ofF, if_pos hh, if_pos hh, sho_eq hc hg hh, sm_one (k := g) hg fun i hi ne => ?_]
  · show _ = (if g = g then (1 : Rat) else 0) * _
    rw [if_pos rfl]
    show rv l _ = _
    grind
  · show (if i = g then (1 : Rat) else 0) * _ = 0
    rw [if_neg ne]; grind
end
end EL
end
section
set_option maxHeartbeats 1000000
/-! The elimination of rows, whole and bounded. -/
namespace EL
open MA MB MD
def Prp (row : Row) (v : Vc) : Prop := ∃ κ : Rat, κ ≠ 0 ∧ rv row = scl κ v
def Gc (l : Row) : Prop := gcdL 0 l = 0 ∨ gcdL 0 l = 1
theorem gcd0_zero {l : Row} (h : gcdL 0 l = 0) : ∀ i, gt l i = 0 := fun i => by
  by_cases hi : i < l.length
  · have := (gcdL_dvd (l := l) (g := 0)).2 _ (gt_mem hi)
    rw [h] at this
    exact Int.zero_dvd.mp this
  · exact gt_ge (by omega)
theorem lowF_gc (l : Row) : Gc (lowF l) := by
  unfold lowF
  split
  · rename_i h; exact .inl h
  · rename_i h
    have nn := gcdL_nn (l := l) (show (0 : Int) ≤ 0 by decide)
    refine .inr (gcdL_one (by decide) fun x h0 _ h2 => one_of_dvd h0 ?_)
    have k : x * gcdL 0 l ∣ gcdL 0 l := gcdL_max (Int.dvd_zero _) fun y hy => by
      have m := h2 (y.fdiv (gcdL 0 l)) (List.mem_map.mpr ⟨y, hy, rfl⟩)
      have := Int.mul_dvd_mul m (Int.dvd_refl (gcdL 0 l))
      rwa [fdiv_exact ((gcdL_dvd (g := 0)).2 y hy)] at this
    obtain ⟨q, hq⟩ := k
    refine ⟨q, Int.eq_of_mul_eq_mul_left h ?_⟩
    rw [Int.mul_one, ← Int.mul_assoc, Int.mul_comm (gcdL 0 l) x]; exact hq
theorem Prp.low {l : Row} {v : Vc} (h : Prp l v) : Prp (lowF l) v := by
  obtain ⟨κ, hk, e⟩ := h
  unfold lowF
  split
  · exact ⟨κ, hk, e⟩
  · rename_i hg
    have c1 := cne hg
    refine ⟨κ * ((gcdL 0 l : Int) : Rat)⁻¹, fun z => ?_, funext fun i => ?_⟩
    · rcases Rat.mul_eq_zero.mp z with q | q
      · exact hk q
      · have := Rat.inv_mul_cancel _ c1
        rw [q] at this; grind
    · show ((gt (l.map fun x => x.fdiv (gcdL 0 l)) i : Int) : Rat) = κ * _ * v i
      rw [gt_map (f := fun x => x.fdiv (gcdL 0 l)) (Int.zero_fdiv _)]
      have e1 : (gt l i).fdiv (gcdL 0 l) * gcdL 0 l = gt l i := by
        by_cases hi : i < l.length
        · exact fdiv_exact ((gcdL_dvd (g := 0)).2 _ (gt_mem hi))
        · rw [gt_ge (by omega), Int.zero_fdiv, Int.zero_mul]
      have e2 : ((gt l i : Int) : Rat) = κ * v i := congrFun e i
      rw [← e1, Rat.intCast_mul] at e2
      have := Rat.inv_mul_cancel _ c1
      grind
theorem gt_zip {l m : Row} {i : Nat} {f : Int × Int → Int} (h : l.length = m.length) (h0 : f (0, 0) = 0) : gt ((l.zip m).map f) i = f (gt l i, gt m i) := by
  by_cases hi : i < l.length
  · unfold gt
    rw [List.getD_eq_getElem?_getD, List.getD_eq_getElem?_getD, List.getD_eq_getElem?_getD, List.getElem?_map, List.getElem?_eq_getElem hi, List.getElem?_eq_getElem (by omega : i < m.length), List.getElem?_eq_getElem (by rw [List.length_zip]; omega)]
    simp
  · rw [gt_ge (l := l) (by omega), gt_ge (l := m) (by omega), gt_ge (by rw [List.length_map, List.length_zip]; omega), h0]
theorem clr_prp {p r : Row} {V U : Vc} {k : Nat} (hl : r.length = p.length) (hp : Prp p V) (hr : Prp r U) (hk : gt p k ≠ 0) : Prp (clrF k p r) (el V k U) := by
  obtain ⟨κ', hk', ep⟩ := hp
  obtain ⟨κ, hκ, er⟩ := hr
  have p1 : ∀ j, ((gt p j : Int) : Rat) = κ' * V j := fun j => congrFun ep j
  have r1 : ∀ j, ((gt r j : Int) : Rat) = κ * U j := fun j => congrFun er j
  have vk : V k ≠ 0 := fun z => hk (cinj (by rw [p1, z]; show κ' * 0 = ((0 : Int) : Rat); rw [Rat.mul_zero]; rfl))
  unfold clrF
  split
  · rename_i h0
    have uk : U k = 0 := by
      have := r1 k
      rw [h0] at this
      rcases Rat.mul_eq_zero.mp (show κ * U k = 0 from this.symm) with q | q
      · exact absurd q hκ
      · exact q
    have e : el V k U = U := funext fun j => by
      show U j + -(U k / V k) * V j = U j
      rw [uk, Rat.div_def]; grind
    rw [e]
    exact ⟨κ, hκ, er⟩
  · rename_i h0
    have gp : 0 < Nat.gcd (gt r k).natAbs (gt p k).natAbs := Nat.gcd_pos_of_pos_right _ (by omega)
    generalize hg : ((Nat.gcd (gt r k).natAbs (gt p k).natAbs : Nat) : Int) = g
    have g0 : g ≠ 0 := by rw [← hg]; omega
    have dr : g ∣ gt r k := by rw [← hg]; exact Int.natAbs_dvd_natAbs.mp (by rw [Int.natAbs_natCast]; exact Nat.gcd_dvd_left _ _)
    have dp : g ∣ gt p k := by rw [← hg]; exact Int.natAbs_dvd_natAbs.mp (by rw [Int.natAbs_natCast]; exact Nat.gcd_dvd_right _ _)
    have fr := fdiv_exact dr
    have fp := fdiv_exact dp
    refine Prp.low ⟨(((gt p k).fdiv g : Int) : Rat) * κ, fun z => ?_, funext fun j => ?_⟩
    · rcases Rat.mul_eq_zero.mp z with q | q
      · have : (gt p k).fdiv g = 0 := Rat.intCast_eq_zero_iff.mp q
        rw [this, Int.zero_mul] at fp
        exact hk fp.symm
      · exact hκ q
    · show ((gt ((r.zip p).map fun q => (gt p k).fdiv g * q.1 - (gt r k).fdiv g * q.2) j : Int) : Rat) = _ * _ * (U j + -(U k / V k) * V j)
      rw [gt_zip (f := fun q => (gt p k).fdiv g * q.1 - (gt r k).fdiv g * q.2) hl (by simp)]
      rw [Rat.intCast_sub, Rat.intCast_mul, Rat.intCast_mul, r1, p1]
      have c1 : (((gt p k).fdiv g : Int) : Rat) * g = κ' * V k := by rw [← p1 k, ← Rat.intCast_mul, fp]
      have c2 : (((gt r k).fdiv g : Int) : Rat) * g = κ * U k := by rw [← r1 k, ← Rat.intCast_mul, fr]
      have c3 := cne g0
      have i1 := Rat.inv_mul_cancel _ c3
      have i2 := Rat.inv_mul_cancel _ vk
      rw [Rat.div_def]
      have a1 : (((gt p k).fdiv g : Int) : Rat) = κ' * V k * ((g : Int) : Rat)⁻¹ := by rw [← c1]; grind
      have a2 : (((gt r k).fdiv g : Int) : Rat) = κ * U k * ((g : Int) : Rat)⁻¹ := by rw [← c2]; grind
      rw [a1, a2]
      grind
/-- a row without common factor is as small as any whole row along it -/
theorem prim_le {row : Row} {x : Vc} {D : Rat} {M : Nat} (hg : Gc row) (hp : Prp row x) (hD : D ≠ 0) (hz : ∀ j, ZB (D * x j) M) : ∀ j, (gt row j).natAbs ≤ M := by
  rcases hg with h | h
  · intro j; rw [gcd0_zero h]; exact Nat.zero_le _
  · obtain ⟨κ, hk, e⟩ := hp
    have r1 : ∀ j, ((gt row j : Int) : Rat) = κ * x j := fun j => congrFun e j
    let τ := κ / D
    have t0 : τ ≠ 0 := fun z => hk (by
      have : κ = τ * D := (div_eq hD).mp rfl
      rw [this, z, Rat.zero_mul])
    have tn : τ.num ≠ 0 := fun z => t0 (Rat.num_eq_zero.mp z)
    have td : (τ.den : Int) ≠ 0 := by have := τ.den_nz; omega
    have key : ∀ j (z : Int), D * x j = z → (τ.den : Int) * gt row j = τ.num * z := fun j z hz => by
      refine cinj ?_
      rw [Rat.intCast_mul, Rat.intCast_mul, r1 j, ← hz]
      have e1 : κ = τ * D := (div_eq hD).mp rfl
      have e2 : ((τ.num : Int) : Rat) = τ * ((τ.den : Int) : Rat) := by
        have q := Rat.num_divInt_den τ
        rw [Rat.divInt_eq_div] at q
        exact (div_eq (cne td)).mp q
      rw [e2, e1]; grind
    have dv : τ.num ∣ (τ.den : Int) := by
      have q := gcdL_max (g := (τ.den : Int) * 0) (l := row.map fun y => (τ.den : Int) * y) (d := τ.num) (by rw [Int.mul_zero]; exact Int.dvd_zero _) (fun y hy => by
        obtain ⟨y', hy', rfl⟩ := List.mem_map.mp hy
        obtain ⟨j, _, rfl⟩ := mem_gt hy'
        obtain ⟨z, hz1, _⟩ := hz j
        exact ⟨z, key j z hz1⟩)
      rw [gcdL_mul (Int.natCast_nonneg _), h, Int.mul_one] at q
      exact q
    obtain ⟨γ, hγ⟩ := dv
    intro j
    obtain ⟨z, hz1, hz2⟩ := hz j
    have := key j z hz1
    rw [hγ, Int.mul_assoc] at this
    have ez : γ * gt row j = z := Int.eq_of_mul_eq_mul_left tn this
    have g0 : γ ≠ 0 := fun q => td (by rw [hγ, q, Int.mul_zero])
    refine Nat.le_trans ?_ hz2
    rw [← ez, Int.natAbs_mul]
    exact Nat.le_mul_of_pos_left _ (by omega)
inductive St (lines : List Row) (W : Nat) : Ps → List (Nat × Row) → Prop
  | nil : St lines W [] []
  | cons {ps : Ps} {sts : List (Nat × Row)} {l row : Row} {c : Nat} : St lines W ps sts → l ∈ lines → Prp row (rd ps (rv l)) → gt row c ≠ 0 → (∀ j, j < c → gt row j = 0) → (∀ p, p ∈ ps → p.2 < c) → row.length = W → Gc row → St lines W ((rv l, c) :: ps) (sts ++ [(c, row)])
structure El (lines : List Row) (W k : Nat) (z : StS) (ps : Ps) : Prop where
  nz : pv ps ≠ 0
  st : St lines W ps z.1
  col : ∀ p, p ∈ ps → p.2 < k
  left : ∀ row, row ∈ z.2 → (∃ l, l ∈ lines ∧ Prp row (rd ps (rv l))) ∧ (∀ j, j < k → gt row j = 0) ∧ Gc row ∧ row.length = W
  all : ∀ l, l ∈ lines → rd ps (rv l) = zr ∨ ∃ row, row ∈ z.2 ∧ Prp row (rd ps (rv l))
theorem St.mem {lines : List Row} {W : Nat} {ps : Ps} {sts : List (Nat × Row)} (h : St lines W ps sts) : ∀ p, p ∈ ps → ∃ l, l ∈ lines ∧ p.1 = rv l := by
  induction h with
  | nil => intro p hp; simp at hp
  | cons _ hl _ _ _ _ _ _ ih =>
    intro p hp
    rcases List.mem_cons.mp hp with e | e
    · rw [e]; exact ⟨_, hl, rfl⟩
    · exact ih p e
theorem St.len {lines : List Row} {W : Nat} {ps : Ps} {sts : List (Nat × Row)} (h : St lines W ps sts) : ps.length = sts.length := by
  induction h with
  | nil => rfl
  | cons _ _ _ _ _ _ _ _ ih => rw [List.length_cons, List.length_append, ih]; rfl
theorem leaF_none {rows : List Row} {c : Nat} : ∀ (l : List (Row × Nat)) (o : Option Nat), l.foldl (leaF rows c) o = none → o = none ∧ ∀ q, q ∈ l → gt q.1 c = 0
  | [], o, h => ⟨h, fun q hq => by simp at hq⟩
  | q :: l, o, h => by
    obtain ⟨h1, h2⟩ := leaF_none l (leaF rows c o q) h
    unfold leaF at h1
    split at h1
    · cases h1
    · rename_i hc
      subst h1
      refine ⟨rfl, fun q' hq' => ?_⟩
      rcases List.mem_cons.mp hq' with e | e
      · rw [e]
        refine Classical.byContradiction fun no => hc ?_
        rw [decide_eq_false no]; rfl
      · exact h2 q' e
theorem leastF_none {rows : List Row} {c : Nat} (h : leastF rows c = none) : ∀ q, q ∈ rows → gt q c = 0 := fun q hq => by
  obtain ⟨i, hi, e⟩ := List.mem_iff_getElem.mp hq
  exact (leaF_none _ _ h).2 (q, i) (List.mem_zipIdx_iff_getElem?.mpr (by rw [List.getElem?_eq_getElem hi, e]))
theorem el_step {lines : List Row} {W k : Nat} {z : StS} {ps : Ps} (h : El lines W k z ps) (hkW : k < W) : ∃ ps', El lines W (k + 1) (stpF z k) ps' := by
  unfold stpF
  cases e : leastF z.2 k with
  | none =>
    have hz := leastF_none e
    refine ⟨ps, h.nz, h.st, fun p hp => Nat.lt_succ_of_lt (h.col p hp), fun row hr => ?_, h.all⟩
    obtain ⟨a, b, c, d⟩ := h.left row hr
    refine ⟨a, fun j hj => ?_, c, d⟩
    by_cases e : j = k
    · rw [e]; exact hz row hr
    · exact b j (by omega)
  | some i =>
    have hi := leastF_lt e
    have hz := leastF_nz e
    have hpm : z.2.getD i [] ∈ z.2 := getD_mem hi
    obtain ⟨⟨l, hl, hP⟩, p0, pg, pl⟩ := h.left _ hpm
    show ∃ ps', El lines W (k + 1) (z.1 ++ [(k, z.2.getD i [])], (z.2.zipIdx.filter fun q => !decide (q.2 = i)).map fun q => clrF k (z.2.getD i []) q.1) ps'
    generalize hp : z.2.getD i [] = p at hz hpm hP p0 pg pl ⊢
    have vk : rd ps (rv l) k ≠ 0 := fun q => by
      obtain ⟨κ, _, e⟩ := hP
      have : ((gt p k : Int) : Rat) = κ * rd ps (rv l) k := congrFun e k
      rw [q, Rat.mul_zero] at this
      exact hz (Rat.intCast_eq_zero_iff.mp this)
    have zr_of : ∀ {row : Row} {v : Vc} {j : Nat}, Prp row v → gt row j = 0 → v j = 0 := fun {row v j} ⟨κ, hk, e⟩ g0 => by
      have : ((gt row j : Int) : Rat) = κ * v j := congrFun e j
      rw [g0] at this
      exact (Rat.mul_eq_zero.mp (show κ * v j = 0 from this.symm)).resolve_left hk
    refine ⟨(rv l, k) :: ps, ?_, .cons h.st hl hP hz p0 h.col pl pg, ?_, ?_, ?_⟩
    · exact fun q => (Rat.mul_eq_zero.mp q).elim h.nz vk
    · intro q hq
      rcases List.mem_cons.mp hq with e | e
      · rw [e]; exact Nat.lt_succ_self k
      · exact Nat.lt_succ_of_lt (h.col q e)
    · intro row hr
      obtain ⟨y, hy, rfl⟩ := List.mem_map.mp hr
      have hym : y.1 ∈ z.2 := by
        have := List.mem_zipIdx_iff_getElem?.mp (List.mem_filter.mp hy).1
        exact List.mem_of_getElem? this
      obtain ⟨⟨l2, hl2, hP2⟩, y0, yg, yl⟩ := h.left _ hym
      have cp := clr_prp (k := k) (by rw [yl, pl]) hP hP2 hz
      refine ⟨⟨l2, hl2, cp⟩, fun j hj => ?_, ?_, by rw [clrF_length (by rw [yl, pl]), yl]⟩
      · obtain ⟨κ, _, e⟩ := cp
        have t : ((gt (clrF k p y.1) j : Int) : Rat) = κ * el (rd ps (rv l)) k (rd ps (rv l2)) j := congrFun e j
        have t2 : el (rd ps (rv l)) k (rd ps (rv l2)) j = 0 := by
          by_cases e : j = k
          · rw [e]; exact el_c vk
          · show rd ps (rv l2) j + _ * rd ps (rv l) j = 0
            rw [zr_of hP2 (y0 j (by omega)), zr_of hP (p0 j (by omega))]; grind
        rw [t2, Rat.mul_zero] at t
        exact Rat.intCast_eq_zero_iff.mp t
      · unfold clrF
        split
        · exact yg
        · exact lowF_gc _
    · intro l2 hl2
      rcases h.all l2 hl2 with q | ⟨row, hr, hP2⟩
      · left
        show el _ _ (rd ps (rv l2)) = zr
        rw [q, el_zr]
      · obtain ⟨a, ha, ea⟩ := List.mem_iff_getElem.mp hr
        by_cases eai : a = i
        · left
          have erow : row = p := by
            rw [← hp, ← ea, List.getD_eq_getElem?_getD, ← eai, List.getElem?_eq_getElem ha]; rfl
          rw [erow] at hP2
          obtain ⟨κ, hk, e1⟩ := hP
          obtain ⟨κ2, hk2, e2⟩ := hP2
          have e3 : rd ps (rv l2) = lc zr (κ2⁻¹ * κ) (rd ps (rv l)) := funext fun j => by
            have q1 : rv p j = κ * rd ps (rv l) j := congrFun e1 j
            have q2 : rv p j = κ2 * rd ps (rv l2) j := congrFun e2 j
            show _ = 0 + κ2⁻¹ * κ * rd ps (rv l) j
            have := Rat.inv_mul_cancel _ hk2
            rw [q1] at q2
            grind
          show el _ _ (rd ps (rv l2)) = zr
          rw [e3, el_lin, el_zr, el_self vk]
          exact funext fun j => by show (0 : Rat) + _ * 0 = 0; grind
        · right
          have hlr := h.left row hr
          exact ⟨_, List.mem_map.mpr ⟨(row, a), List.mem_filter.mpr ⟨List.mem_zipIdx_iff_getElem?.mpr (by rw [List.getElem?_eq_getElem ha, ea]), by simpa using eai⟩, rfl⟩, clr_prp (k := k) (by rw [hlr.2.2.2, pl]) hP hP2 hz⟩
theorem el_all {lines : List Row} {W : Nat} (hl : ∀ l, l ∈ lines → l.length = W) : ∀ k, k ≤ W → ∃ ps, El lines W k (stepsF lines k) ps
  | 0, _ => by
    refine ⟨[], by show (1 : Rat) ≠ 0; decide, .nil, fun p hp => by simp at hp, fun row hr => ?_, fun l hm => .inr ⟨lowF l, List.mem_map.mpr ⟨l, hm, rfl⟩, Prp.low ⟨1, by decide, funext fun j => (Rat.one_mul _).symm⟩⟩⟩
    obtain ⟨l, hm, rfl⟩ := List.mem_map.mp (show row ∈ lines.map lowF from hr)
    exact ⟨⟨l, hm, Prp.low ⟨1, by decide, funext fun j => (Rat.one_mul _).symm⟩⟩, fun j hj => by omega, lowF_gc l, by rw [lowF_length, hl l hm]⟩
  | k + 1, h => by
    obtain ⟨ps, e⟩ := el_all hl k (by omega)
    rw [stepsF_succ]
    exact el_step e (by omega)
/-! ### sizes -/
def LB (lines : List Row) (B : Nat) : Prop := ∀ l, l ∈ lines → ∀ x, x ∈ l → x.natAbs ≤ B
theorem LB.zv {lines : List Row} {B : Nat} (h : LB lines B) {l : Row} (hl : l ∈ lines) : ZV B (rv l) := fun j => ⟨gt l j, rfl, by
  by_cases hj : j < l.length
  · exact h l hl _ (gt_mem hj)
  · rw [gt_ge (by omega)]; exact Nat.zero_le _⟩
theorem pow_big {B L k : Nat} (hB : B ≤ 2 ^ 120) (hL : L ≤ 32) (hk : k ≤ 24) : (L * B) ^ k < 2 ^ 4000 := by
  have h1 : L * B ≤ 2 ^ 125 := by
    have e : (2 : Nat) ^ 125 = 32 * 2 ^ 120 := by rw [show (125 : Nat) = 5 + 120 from rfl, Nat.pow_add]
    rw [e]; exact Nat.mul_le_mul hL hB
  refine Nat.lt_of_le_of_lt (Nat.pow_le_pow_left h1 k) ?_
  rw [← Nat.pow_mul]
  exact Nat.pow_lt_pow_right (by omega) (by omega)
theorem step_ok {lines : List Row} {W B : Nat} (hl : ∀ l, l ∈ lines → l.length = W) (hB : LB lines B) (hb : B ≤ 2 ^ 120) (hW : W ≤ 22) : StepOk lines W := by
  intro k hk q hq x hx
  obtain ⟨ps, e⟩ := el_all hl k hk
  obtain ⟨⟨l, hm, hP⟩, _, hg, _⟩ := e.left q hq
  have hlen : ps.length ≤ 22 := by
    rw [e.st.len]
    have := (stepsF_len hl k).2.2
    omega
  have zps : ∀ p, p ∈ ps → ZV B p.1 := fun p hp => by
    obtain ⟨l', hl', e'⟩ := e.st.mem p hp
    rw [e']; exact hB.zv hl'
  obtain ⟨j, _, rfl⟩ := mem_gt hx
  exact Nat.lt_of_le_of_lt (prim_le hg hP e.nz (fun j => rd_ZB (L := 32) e.nz (by omega) zps (hB.zv hm) j) j) (pow_big hb (Nat.le_refl _) (by omega))
theorem St.b4 {lines : List Row} {W B : Nat} (hB : LB lines B) (hb : B ≤ 2 ^ 120) {ps : Ps} {sts : List (Nat × Row)} (h : St lines W ps sts) : pv ps ≠ 0 → sts.length ≤ 22 → ∀ q, q ∈ sts → q.2.length = W ∧ gt q.2 q.1 ≠ 0 ∧ B4 q.2 ∧ (∀ j, j < q.1 → gt q.2 j = 0) ∧ ∃ p, p ∈ ps ∧ p.2 = q.1 := by
  induction h with
  | nil => intro _ _ q hq; simp at hq
  | @cons ps sts l row c st hl hP hc h0 hcol hlen hg ih =>
    intro hnz hs q hq
    rw [List.length_append] at hs
    have hs' : sts.length + 1 ≤ 22 := hs
    obtain ⟨n1, n2⟩ := pv_cons hnz
    rcases List.mem_append.mp hq with e | e
    · obtain ⟨a, b, c2, d, p, hp, ep⟩ := ih n1 (by omega) q e
      exact ⟨a, b, c2, d, p, List.mem_cons_of_mem _ hp, ep⟩
    · rw [List.mem_singleton.mp e]
      refine ⟨hlen, hc, fun x hx => ?_, h0, _, List.mem_cons_self, rfl⟩
      have zps : ∀ p, p ∈ ps → ZV B p.1 := fun p hp => by
        obtain ⟨l', hl', e'⟩ := st.mem p hp
        rw [e']; exact hB.zv hl'
      obtain ⟨j, _, rfl⟩ := mem_gt hx
      have hl2 := st.len
      exact Nat.lt_of_le_of_lt (prim_le hg hP n1 (fun j => rd_ZB (L := 32) n1 (by omega) zps (hB.zv hl) j) j) (pow_big hb (Nat.le_refl _) (by omega))
end EL
end
section
set_option maxHeartbeats 1000000
/-! Solving: what combined tells. -/
namespace EL
open MA MB MD
theorem St.vec {lines : List Row} {W : Nat} {ps : Ps} {sts : List (Nat × Row)} {S : Vc → Prop} (L : LinP S) (hS : ∀ l, l ∈ lines → S (rv l)) (h : St lines W ps sts) : pv ps ≠ 0 → (∀ p, p ∈ ps → ∃ e, S e ∧ (∀ j, j < p.2 → e j = 0) ∧ e p.2 ≠ 0) ∧ ∀ p, p ∈ ps → S p.1 := by
  induction h with
  | nil => intro _; exact ⟨fun p hp => by simp at hp, fun p hp => by simp at hp⟩
  | @cons ps sts l row c st hl hP hc h0 hcol hlen hg ih =>
    intro hnz
    obtain ⟨n1, n2⟩ := pv_cons hnz
    obtain ⟨i1, i2⟩ := ih n1
    refine ⟨fun p hp => ?_, fun p hp => ?_⟩
    · rcases List.mem_cons.mp hp with e | e
      · rw [e]
        refine ⟨rd ps (rv l), rd_in L i2 (hS l hl), fun j hj => ?_, n2⟩
        obtain ⟨κ, hk, e2⟩ := hP
        have : ((gt row j : Int) : Rat) = κ * rd ps (rv l) j := congrFun e2 j
        rw [h0 j hj] at this
        exact (Rat.mul_eq_zero.mp (show κ * rd ps (rv l) j = 0 from this.symm)).resolve_left hk
      · exact i1 p e
    · rcases List.mem_cons.mp hp with e | e
      · rw [e]; exact hS l hl
      · exact i2 p e
theorem phi_rd {φ : Vc → Rat} (hφ : LinF φ) : ∀ {ps : Ps}, (∀ p, p ∈ ps → φ p.1 = 0) → ∀ x, φ (rd ps x) = φ x
  | [], _, x => rfl
  | p :: ps, h, x => by
    have ih := phi_rd hφ (ps := ps) fun q hq => h q (List.mem_cons_of_mem _ hq)
    show φ (lc (rd ps x) _ (rd ps p.1)) = φ x
    rw [hφ, ih, ih, h p List.mem_cons_self]; grind
theorem St.phi {lines : List Row} {W : Nat} {ps : Ps} {sts : List (Nat × Row)} {φ : Vc → Rat} (hφ : LinF φ) (h : St lines W ps sts) : (∀ q, q ∈ sts → φ (rv q.2) = 0) → ∀ p, p ∈ ps → φ p.1 = 0 := by
  induction h with
  | nil => intro _ p hp; simp at hp
  | @cons ps sts l row c st hl hP hc h0 hcol hlen hg ih =>
    intro hq p hp
    have i := ih fun q hq' => hq q (List.mem_append_left _ hq')
    rcases List.mem_cons.mp hp with e | e
    · rw [e]
      show φ (rv l) = 0
      rw [← phi_rd hφ i]
      obtain ⟨κ, hk, e2⟩ := hP
      have h1 := hq (c, row) (List.mem_append_right _ (List.mem_singleton.mpr rfl))
      have h2 : rv row = lc zr κ (rd ps (rv l)) := e2.trans (funext fun j => by show κ * _ = 0 + κ * _; grind)
      have h3 : φ (lc zr κ (rd ps (rv l))) = 0 := by rw [← h2]; exact h1
      rw [hφ, hφ.zr] at h3
      have h4 : κ * φ (rd ps (rv l)) = 0 := by grind
      exact (Rat.mul_eq_zero.mp h4).resolve_left hk
    · exact i p e
theorem St.sorted {lines : List Row} {W : Nat} {ps : Ps} {sts : List (Nat × Row)} (h : St lines W ps sts) : (∀ q, q ∈ sts → ∃ p, p ∈ ps ∧ p.2 = q.1) ∧ sts.Pairwise fun a b => a.1 < b.1 := by
  induction h with
  | nil => exact ⟨fun q hq => by simp at hq, .nil⟩
  | @cons ps sts l row c st hl hP hc h0 hcol hlen hg ih =>
    refine ⟨fun q hq => ?_, List.pairwise_append.mpr ⟨ih.2, List.pairwise_singleton _ _, fun a ha b hb => ?_⟩⟩
    · rcases List.mem_append.mp hq with e | e
      · obtain ⟨p, hp, ep⟩ := ih.1 q e
        exact ⟨p, List.mem_cons_of_mem _ hp, ep⟩
      · rw [List.mem_singleton.mp e]; exact ⟨_, List.mem_cons_self, rfl⟩
    · rw [List.mem_singleton.mp hb]
      obtain ⟨p, hp, ep⟩ := ih.1 a ha
      rw [← ep]; exact hcol p hp
def dt (n : Nat) (l t : Row) : Rat := sm n fun j => rv l j * rv t j
structure SI (n : Nat) (done : List (Nat × Row)) (z : SlS) : Prop where
  pos : 0 < z.1
  len : z.2.length = n
  gcd : gcdL z.1 z.2 = 1
  sup : ∀ j, gt z.2 j ≠ 0 → ∃ q, q ∈ done ∧ q.1 = j
  eq : ∀ q, q ∈ done → dt n q.2 z.2 = rv q.2 n * ((z.1 : Int) : Rat)
theorem sm_cast (k : Nat) (f : Nat → Int) : (((ofF k f).sum : Int) : Rat) = sm k fun i => ((f i : Int) : Rat) := by
  induction k with
  | zero => rfl
  | succ k ih =>
    have e : ofF (k + 1) f = ofF k f ++ [f k] := by unfold ofF; rw [List.range_succ, List.map_append]; rfl
    rw [e, List.sum_append, Rat.intCast_add, ih]
    show _ + (([f k].sum : Int) : Rat) = _ + _
    simp
theorem sm_split (a : Nat) (f : Nat → Rat) : ∀ b, sm (a + b) f = sm a f + sm b fun i => f (a + i)
  | 0 => by show sm a f = _ + 0; grind
  | b + 1 => by
    show sm (a + b) f + f (a + b) = sm a f + (sm b (fun i => f (a + i)) + f (a + b))
    rw [sm_split a f b]; grind
theorem gt_zipIdx {t : Row} {f : Int × Nat → Int} (h0 : ∀ j, t.length ≤ j → f (0, j) = 0) (j : Nat) : gt (t.zipIdx.map f) j = f (gt t j, j) := by
  by_cases hj : j < t.length
  · unfold gt
    rw [List.getD_eq_getElem?_getD, List.getD_eq_getElem?_getD, List.getElem?_map, List.getElem?_zipIdx, List.getElem?_eq_getElem hj]
    simp
  · rw [gt_ge (by rw [List.length_map, List.length_zipIdx]; omega), gt_ge (by omega), h0 j (by omega)]
theorem si_step {n c : Nat} {done : List (Nat × Row)} {z : SlS} {line : Row} (h : SI n done z) (hcn : c < n) (hl : line.length = n + 1) (hc : gt line c ≠ 0) (h0 : ∀ j, j < c → gt line j = 0) (hd : ∀ q, q ∈ done → c < q.1 ∧ gt q.2 c = 0) :
    SI n ((c, line) :: done) (solS n z (c, line)) ∧ z.1.natAbs ≤ (solS n z (c, line)).1.natAbs ∧ ∀ j, (gt z.2 j).natAbs ≤ (gt (solS n z (c, line)).2 j).natAbs := by
  obtain ⟨b, t⟩ := z
  have hb : 0 < b := h.pos
  have ht : t.length = n := h.len
  have tc : gt t c = 0 := Classical.byContradiction fun no => by
    obtain ⟨q, hq, e⟩ := h.sup c no
    have := (hd q hq).1
    omega
  -- ahead is the whole sum
  have ah : ((ahF n (c, line) t : Int) : Rat) = dt n line t := by
    unfold ahF
    rw [sm_cast]
    have e : n = (c + 1) + (n - (c + 1)) := by omega
    have e2 : dt n line t = sm (c + 1) (fun j => rv line j * rv t j) + sm (n - (c + 1)) fun i => rv line (c + 1 + i) * rv t (c + 1 + i) := by
      unfold dt
      conv => lhs; rw [e]
      exact sm_split (c + 1) _ _
    rw [e2, sm_zero (n := c + 1) fun j hj => ?_]
    · have : ∀ x : Rat, 0 + x = x := fun x => by grind
      rw [this]
      exact sm_congr fun i _ => by rw [Rat.intCast_mul]; rfl
    · by_cases ej : j = c
      · have : rv t j = 0 := by show ((gt t j : Int) : Rat) = 0; rw [ej, tc]; rfl
        rw [this]; grind
      · have : rv line j = 0 := by show ((gt line j : Int) : Rat) = 0; rw [h0 j (by omega)]; rfl
        rw [this]; grind
  generalize hw : wtF n (b, t) (c, line) = w
  have ew : w = gt line n * b - ahF n (c, line) t := hw.symm
  generalize hs : shF n (b, t) (c, line) = s
  have es : s = sg (gt line c) (Nat.gcd w.natAbs (gt line c).natAbs : Nat) := by rw [← hs]; unfold shF; rw [hw]
  have gp : 0 < Nat.gcd w.natAbs (gt line c).natAbs := Nat.gcd_pos_of_pos_right _ (by omega)
  have s0 : s ≠ 0 := by rw [es]; exact sg_ne (by omega)
  have sabs : s.natAbs = Nat.gcd w.natAbs (gt line c).natAbs := by rw [es, sg_abs, Int.natAbs_natCast]
  have dw : s ∣ w := Int.natAbs_dvd_natAbs.mp (by rw [sabs]; exact Nat.gcd_dvd_left _ _)
  have dl : s ∣ gt line c := Int.natAbs_dvd_natAbs.mp (by rw [sabs]; exact Nat.gcd_dvd_right _ _)
  have fw := fdiv_exact dw
  have fl := fdiv_exact dl
  generalize hgr : (gt line c).fdiv s = gr at fl
  generalize hwq : w.fdiv s = wq at fw
  have grp : 0 < gr := by
    have gr0 : gr ≠ 0 := fun e => hc (by rw [← fl, e, Int.zero_mul])
    refine Classical.byContradiction fun no => ?_
    have gn : gr < 0 := by omega
    by_cases hneg : gt line c < 0
    · have e1 : s < 0 := by rw [es, show sg (gt line c) _ = -_ from if_pos hneg]; omega
      have := Int.mul_pos_of_neg_of_neg gn e1
      omega
    · have e1 : 0 < s := by rw [es, show sg (gt line c) _ = _ from if_neg hneg]; omega
      have := Int.mul_neg_of_neg_of_pos gn e1
      omega
  have ez : solS n (b, t) (c, line) = (b * gr, t.zipIdx.map fun y => if y.2 = c then wq else y.1 * gr) := by
    unfold solS
    show (b * (gt line c).fdiv (shF n (b, t) (c, line)), t.zipIdx.map fun y => if y.2 = c then (wtF n (b, t) (c, line)).fdiv (shF n (b, t) (c, line)) else y.1 * (gt line c).fdiv (shF n (b, t) (c, line))) = _
    rw [hw, hs, hgr, hwq]
  rw [ez]
  have gt' : ∀ j, gt (t.zipIdx.map fun y => if y.2 = c then wq else y.1 * gr) j = if j = c then wq else gt t j * gr := fun j =>
    gt_zipIdx (f := fun y => if y.2 = c then wq else y.1 * gr) (fun j hj => by show (if j = c then wq else (0 : Int) * gr) = 0; rw [if_neg (by omega), Int.zero_mul]) j
  have key : ∀ l : Row, dt n l (t.zipIdx.map fun y => if y.2 = c then wq else y.1 * gr) = dt n l t * ((gr : Int) : Rat) + rv l c * ((wq : Int) : Rat) := fun l => by
    unfold dt
    have e : ∀ j, j < n → rv l j * rv (t.zipIdx.map fun y => if y.2 = c then wq else y.1 * gr) j = rv l j * rv t j * ((gr : Int) : Rat) + (if j = c then rv l c * ((wq : Int) : Rat) else 0) := fun j _ => by
      show rv l j * ((gt _ j : Int) : Rat) = _
      rw [gt']
      by_cases ej : j = c
      · have : rv t j = 0 := by show ((gt t j : Int) : Rat) = 0; rw [ej, tc]; rfl
        rw [if_pos ej, if_pos ej, this, ej]; grind
      · rw [if_neg ej, if_neg ej, Rat.intCast_mul]
        show rv l j * (rv t j * _) = _
        grind
    rw [sm_congr e, sm_add, sm_mulr, sm_sing c hcn fun _ => rv l c * ((wq : Int) : Rat)]
  refine ⟨⟨Int.mul_pos hb grp, by rw [List.length_map, List.length_zipIdx]; exact ht, ?_, fun j hj => ?_, fun q hq => ?_⟩, ?_, fun j => ?_⟩
  · refine gcdL_one (by have := Int.mul_pos hb grp; show 0 ≤ b * gr; omega) fun x x0 x1 x2 => one_of_dvd x0 ?_
    have k1 : x ∣ gr := by
      have hg : gcdL b t = 1 := h.gcd
      have q := gcdL_max (g := gr * b) (l := t.map fun y => gr * y) (d := x) (by rw [Int.mul_comm]; exact x1) (fun y hy => by
        obtain ⟨y', hy', rfl⟩ := List.mem_map.mp hy
        obtain ⟨j, hj, rfl⟩ := mem_gt hy'
        by_cases ej : j = c
        · rw [ej, tc, Int.mul_zero]; exact Int.dvd_zero _
        · have := x2 (gt (t.zipIdx.map fun y => if y.2 = c then wq else y.1 * gr) j) (gt_mem (by rw [List.length_map, List.length_zipIdx]; exact hj))
          rw [gt', if_neg ej, Int.mul_comm] at this
          exact this)
      rw [gcdL_mul (by omega), hg, Int.mul_one] at q
      exact q
    have k2 : x ∣ wq := by
      have := x2 (gt (t.zipIdx.map fun y => if y.2 = c then wq else y.1 * gr) c) (gt_mem (by rw [List.length_map, List.length_zipIdx, ht]; exact hcn))
      rwa [gt', if_pos rfl] at this
    -- x s divides both, hence their gcd
    have m1 : (x * s).natAbs ∣ w.natAbs := Int.natAbs_dvd_natAbs.mpr (by rw [← fw]; exact Int.mul_dvd_mul k2 (Int.dvd_refl s))
    have m2 : (x * s).natAbs ∣ (gt line c).natAbs := Int.natAbs_dvd_natAbs.mpr (by rw [← fl]; exact Int.mul_dvd_mul k1 (Int.dvd_refl s))
    have m3 := Nat.dvd_gcd m1 m2
    rw [← sabs, Int.natAbs_mul] at m3
    have m4 : x.natAbs ∣ 1 := by
      obtain ⟨q, hq⟩ := m3
      refine ⟨q, Nat.eq_of_mul_eq_mul_left (show 0 < s.natAbs by omega) ?_⟩
      rw [Nat.mul_one, ← Nat.mul_assoc, Nat.mul_comm s.natAbs]; exact hq
    exact Int.natAbs_dvd_natAbs.mp m4
  · have hj' : (if j = c then wq else gt t j * gr) ≠ 0 := by rw [← gt']; exact hj
    by_cases ej : j = c
    · exact ⟨_, List.mem_cons_self, ej.symm⟩
    · rw [if_neg ej] at hj'
      obtain ⟨q, hq, e⟩ := h.sup j fun z => hj' (by have : gt t j = 0 := z; rw [this, Int.zero_mul])
      exact ⟨q, List.mem_cons_of_mem _ hq, e⟩
  · show dt n q.2 _ = rv q.2 n * ((b * gr : Int) : Rat)
    rw [key, Rat.intCast_mul]
    rcases List.mem_cons.mp hq with e | e
    · rw [e]
      show dt n line t * _ + rv line c * _ = rv line n * _
      have q1 : rv line c = ((gr : Int) : Rat) * ((s : Int) : Rat) := by show ((gt line c : Int) : Rat) = _; rw [← fl, Rat.intCast_mul]
      have q2 : ((wq : Int) : Rat) * ((s : Int) : Rat) = rv line n * ((b : Int) : Rat) - dt n line t := by
        rw [← Rat.intCast_mul, fw, ew, Rat.intCast_sub, Rat.intCast_mul, ah]; rfl
      rw [q1]
      grind
    · have q1 : rv q.2 c = 0 := by show ((gt q.2 c : Int) : Rat) = 0; rw [(hd q e).2]; rfl
      have q2 : dt n q.2 t = rv q.2 n * ((b : Int) : Rat) := h.eq q e
      rw [q1, q2]; grind
  · show b.natAbs ≤ (b * gr).natAbs
    rw [Int.natAbs_mul]
    exact Nat.le_mul_of_pos_right _ (by omega)
  · show (gt t j).natAbs ≤ (gt _ j).natAbs
    rw [gt']
    by_cases ej : j = c
    · rw [ej, tc]; exact Nat.zero_le _
    · rw [if_neg ej, Int.natAbs_mul]
      exact Nat.le_mul_of_pos_right _ (by omega)
end EL
end
section
set_option maxHeartbeats 1000000
namespace EL
open MA MB MD
theorem line_mem {rows : List Row} {row : Row} {l : Row} (h : l ∈ linesF rows row) : ∃ c, c < row.length ∧ l = (rows.map fun o => gt o c) ++ [gt row c] := by
  obtain ⟨y, hy, rfl⟩ := List.mem_map.mp h
  have := List.mem_zipIdx_iff_getElem?.mp hy
  have hl := (List.getElem?_eq_some_iff.mp this).1
  refine ⟨y.2, hl, ?_⟩
  have e : gt row y.2 = y.1 := by unfold gt; rw [List.getD_eq_getElem?_getD, this]; rfl
  rw [e]
theorem line_at {rows : List Row} {row : Row} {c : Nat} (h : c < row.length) : (linesF rows row).getD c [] = (rows.map fun o => gt o c) ++ [gt row c] ∧ (rows.map fun o => gt o c) ++ [gt row c] ∈ linesF rows row := by
  have e : (linesF rows row)[c]? = some ((rows.map fun o => gt o c) ++ [gt row c]) := by
    unfold linesF
    rw [List.getElem?_map, List.getElem?_zipIdx, getD_get h]
    show some _ = some _
    rw [Nat.zero_add]; rfl
  exact ⟨by rw [List.getD_eq_getElem?_getD, e]; rfl, List.mem_of_getElem? e⟩
theorem line_gt {rows : List Row} {row : Row} {c j : Nat} : gt ((rows.map fun o => gt o c) ++ [gt row c]) j = if j < rows.length then gt (rows.getD j []) c else if j = rows.length then gt row c else 0 := by
  by_cases h1 : j < rows.length
  · rw [if_pos h1]
    unfold gt
    rw [List.getD_eq_getElem?_getD, List.getElem?_append_left (by rw [List.length_map]; exact h1), List.getElem?_map, List.getElem?_eq_getElem h1]
    simp [h1]
  · rw [if_neg h1]
    by_cases h2 : j = rows.length
    · rw [if_pos h2, h2]
      unfold gt
      rw [List.getD_eq_getElem?_getD, List.getElem?_append_right (by rw [List.length_map]; exact Nat.le_refl _), List.length_map, Nat.sub_self]; rfl
    · rw [if_neg h2, gt_ge (by rw [List.length_append, List.length_map]; show rows.length + 1 ≤ j; omega)]
structure SolR (n : Nat) (rows : List Row) (row : Row) (z : SlS) : Prop where
  len : z.2.length = n
  pos : 0 < z.1
  id : combR z = z
  b1 : z.1.natAbs ≤ 2 ^ 3000
  b2 : ∀ x, x ∈ z.2 → x.natAbs ≤ 2 ^ 3000
  eq : ∀ c, c < n → sm n (fun i => rv (rows.getD i []) c * rv z.2 i) = rv row c * ((z.1 : Int) : Rat)
theorem solve_ok {n B : Nat} {rows : List Row} {row : Row} (hn : rows.length = n) (hr : row.length = n) (h1 : 1 ≤ n) (h21 : n ≤ 21) (each : ∀ q, q ∈ rows → q.length = n) (hB1 : ∀ q, q ∈ rows → ∀ x, x ∈ q → x.natAbs ≤ B) (hB2 : ∀ x, x ∈ row → x.natAbs ≤ B) (b1 : 1 ≤ B) (hb : B ≤ 2 ^ 120)
    (hF : ∀ y : Nat → Rat, (∀ i, i < n → sm n (fun c => y c * rv (rows.getD i []) c) = 0) → sm n (fun c => y c * rv row c) = 0) : ∃ sts z, CombOk rows row sts z ∧ SolR n rows row z := by
  have hlen : ∀ l, l ∈ linesF rows row → l.length = n + 1 := fun l hl => by
    obtain ⟨c, _, rfl⟩ := line_mem hl
    rw [List.length_append, List.length_map, hn]; rfl
  have hLB : LB (linesF rows row) B := fun l hl x hx => by
    obtain ⟨c, hc, rfl⟩ := line_mem hl
    rcases List.mem_append.mp hx with e | e
    · obtain ⟨o, ho, rfl⟩ := List.mem_map.mp e
      exact hB1 o ho _ (gt_mem (by rw [each o ho]; omega))
    · rw [List.mem_singleton.mp e]; exact hB2 _ (gt_mem hc)
  obtain ⟨ps, E⟩ := el_all hlen (n + 1) (Nat.le_refl _)
  have slen := (stepsF_len hlen (n + 1)).2.2
  generalize hsts : (stepsF (linesF rows row) (n + 1)).1 = sts at slen
  have est := E.st
  rw [hsts] at est
  have b4 := est.b4 hLB hb E.nz (by omega)
  have sorted := est.sorted
  -- all lines are spanned
  have allz : ∀ l, l ∈ linesF rows row → rd ps (rv l) = zr := fun l hl => by
    rcases E.all l hl with q | ⟨r, hr', κ, hk, e⟩
    · exact q
    · obtain ⟨_, r0, _, rl⟩ := E.left r hr'
      refine funext fun j => ?_
      have t : ((gt r j : Int) : Rat) = κ * rd ps (rv l) j := congrFun e j
      have g0 : gt r j = 0 := by
        by_cases hj : j < n + 1
        · exact r0 j hj
        · exact gt_ge (by omega)
      rw [g0] at t
      exact (Rat.mul_eq_zero.mp (show κ * rd ps (rv l) j = 0 from t.symm)).resolve_left hk
  -- no pivot in the last column
  have noN : ∀ p, p ∈ ps → p.2 < n := fun p hp => by
    have h2 := E.col p hp
    refine Classical.byContradiction fun no => ?_
    have ep : p.2 = n := by omega
    let S : Vc → Prop := fun x => ∃ y : Nat → Rat, ∀ j, x j = sm n fun c => y c * rv ((linesF rows row).getD c []) j
    have L : LinP S := ⟨⟨fun _ => 0, fun j => (sm_zero fun i _ => by grind).symm⟩, fun {x y} k ⟨a, ha⟩ ⟨b, hb⟩ => ⟨fun c => a c + k * b c, fun j => by
      show x j + k * y j = _
      rw [ha, hb, ← sm_mul, ← sm_add]
      exact sm_congr fun i _ => by grind⟩⟩
    have hS : ∀ l, l ∈ linesF rows row → S (rv l) := fun l hl => by
      obtain ⟨c, hc, rfl⟩ := line_mem hl
      refine ⟨sd c, fun j => ?_⟩
      rw [sm_one (k := c) (by omega) fun i _ ne => by show (if i = c then (1 : Rat) else 0) * _ = 0; rw [if_neg ne]; grind]
      show _ = (if c = c then (1 : Rat) else 0) * _
      rw [if_pos rfl, (line_at hc).1]; grind
    obtain ⟨e, ⟨y, hy⟩, e0, e1⟩ := (est.vec L hS E.nz).1 p hp
    rw [ep] at e0 e1
    have conv1 : ∀ j c, c < n → rv ((linesF rows row).getD c []) j = if j < n then rv (rows.getD j []) c else if j = n then rv row c else 0 := fun j c hc => by
      rw [(line_at (by omega)).1]
      show ((gt _ j : Int) : Rat) = _
      rw [line_gt, hn]
      by_cases h1 : j < n
      · rw [if_pos h1, if_pos h1]; rfl
      · rw [if_neg h1, if_neg h1]
        by_cases h2 : j = n
        · rw [if_pos h2, if_pos h2]; rfl
        · rw [if_neg h2, if_neg h2]; rfl
    refine e1 ?_
    rw [hy, sm_congr (g := fun c => y c * rv row c) fun c hc => by rw [conv1 n c hc, if_neg (Nat.lt_irrefl n), if_pos rfl]]
    refine hF y fun i hi => ?_
    have := e0 i hi
    rw [hy] at this
    rw [← this]
    exact sm_congr fun c hc => by rw [conv1 i c hc, if_pos hi]
  have stsOk : StsOk sts n := fun q hq => by
    obtain ⟨a, b, c, d, p, hp, ep⟩ := b4 q hq
    exact ⟨by rw [← ep]; exact noN p hp, a, b, c⟩
  -- the back substitution
  have solI : ∀ k, k ≤ sts.length → SI n (sts.reverse.take k) (solF sts n k) := by
    intro k
    induction k with
    | zero =>
      intro _
      refine ⟨by show (0 : Int) < 1; decide, ofF_length, ?_, fun j hj => ?_, fun q hq => by simp at hq⟩
      · refine gcdL_one (by show (0 : Int) ≤ 1; decide) fun x h0 h _ => one_of_dvd h0 h
      · exact absurd (by show gt (ofF n fun _ => 0) j = 0; rw [gt_ofF]; split <;> rfl) hj
    | succ k ih =>
      intro hk
      have I := ih (by omega)
      have hkl : k < sts.reverse.length := by rw [List.length_reverse]; omega
      have hq : sts.reverse[k]? = some sts.reverse[k] := List.getElem?_eq_getElem hkl
      rw [solF_succ hq]
      generalize hqq : sts.reverse[k] = q at hq
      have hqm : q ∈ sts := List.mem_reverse.mp (List.mem_of_getElem? hq)
      obtain ⟨c, line⟩ := q
      obtain ⟨g1, g2, g3, g4⟩ := stsOk _ hqm
      have z0 := (b4 _ hqm).2.2.2.1
      have st := (si_step (done := sts.reverse.take k) I g1 g2 g3 z0 fun q' hq' => ?_).1
      · refine ⟨st.pos, st.len, st.gcd, fun j hj => ?_, fun q hq2 => ?_⟩
        · obtain ⟨q, hq2, e⟩ := st.sup j hj
          refine ⟨q, ?_, e⟩
          rw [List.take_succ, hq]
          rcases List.mem_cons.mp hq2 with e | e
          · exact List.mem_append_right _ (by rw [e]; exact List.mem_singleton.mpr rfl)
          · exact List.mem_append_left _ e
        · rw [List.take_succ, hq] at hq2
          rcases List.mem_append.mp hq2 with e | e
          · exact st.eq q (List.mem_cons_of_mem _ e)
          · have : q = (c, line) := by simpa using e
            rw [this]; exact st.eq _ List.mem_cons_self
      · have hm : q' ∈ sts := List.mem_reverse.mp (List.mem_of_mem_take hq')
        have pw : sts.reverse.Pairwise fun a b => b.1 < a.1 := List.pairwise_reverse.mpr sorted.2
        obtain ⟨i, hi, ei⟩ := List.mem_iff_getElem.mp hq'
        rw [List.length_take] at hi
        have lt := List.pairwise_iff_getElem.mp pw i k (by omega) hkl (by omega)
        rw [hqq] at lt
        rw [List.getElem_take] at ei
        rw [ei] at lt
        exact ⟨lt, (b4 _ hm).2.2.2.1 c lt⟩
  have mono : ∀ d k, k + d = sts.length → (solF sts n k).1.natAbs ≤ (solF sts n sts.length).1.natAbs ∧ ∀ j, (gt (solF sts n k).2 j).natAbs ≤ (gt (solF sts n sts.length).2 j).natAbs := by
    intro d
    induction d with
    | zero => intro k e; rw [show k = sts.length by omega]; exact ⟨Nat.le_refl _, fun j => Nat.le_refl _⟩
    | succ d ih =>
      intro k e
      obtain ⟨i1, i2⟩ := ih (k + 1) (by omega)
      have I := solI k (by omega)
      have hkl : k < sts.reverse.length := by rw [List.length_reverse]; omega
      have hq : sts.reverse[k]? = some sts.reverse[k] := List.getElem?_eq_getElem hkl
      rw [solF_succ hq] at i1 i2
      generalize hqq : sts.reverse[k] = q at hq i1 i2
      have hqm : q ∈ sts := List.mem_reverse.mp (List.mem_of_getElem? hq)
      obtain ⟨c, line⟩ := q
      obtain ⟨g1, g2, g3, g4⟩ := stsOk _ hqm
      have z0 := (b4 _ hqm).2.2.2.1
      obtain ⟨_, m1, m2⟩ := si_step (done := sts.reverse.take k) I g1 g2 g3 z0 fun q' hq' => by
        have hm : q' ∈ sts := List.mem_reverse.mp (List.mem_of_mem_take hq')
        have pw : sts.reverse.Pairwise fun a b => b.1 < a.1 := List.pairwise_reverse.mpr sorted.2
        obtain ⟨i, hi, ei⟩ := List.mem_iff_getElem.mp hq'
        rw [List.length_take] at hi
        have lt := List.pairwise_iff_getElem.mp pw i k (by omega) hkl (by omega)
        rw [hqq] at lt
        rw [List.getElem_take] at ei
        rw [ei] at lt
        exact ⟨lt, (b4 _ hm).2.2.2.1 c lt⟩
      exact ⟨Nat.le_trans m1 i1, fun j => Nat.le_trans (m2 j) (i2 j)⟩
  have I := solI sts.length (Nat.le_refl _)
  rw [List.take_of_length_le (by rw [List.length_reverse]; exact Nat.le_refl _)] at I
  generalize hz : solF sts n sts.length = z at I mono
  -- the functional that tells a line's fault
  let φ : Vc → Rat := fun y => sm n (fun i => y i * rv z.2 i) - y n * ((z.1 : Int) : Rat)
  have hφ : LinF φ := fun x k y => by
    show sm n (fun i => (x i + k * y i) * rv z.2 i) - (x n + k * y n) * _ = (sm n (fun i => x i * rv z.2 i) - x n * _) + k * (sm n (fun i => y i * rv z.2 i) - y n * _)
    rw [sm_congr (g := fun i => x i * rv z.2 i + k * (y i * rv z.2 i)) fun i _ => by grind, sm_add, sm_mul]; grind
  have φs : ∀ q, q ∈ sts → φ (rv q.2) = 0 := fun q hq => by
    have := I.eq q (List.mem_reverse.mpr hq)
    show dt n q.2 z.2 - rv q.2 n * _ = 0
    rw [this]; grind
  have φp := est.phi hφ φs
  have φl : ∀ l, l ∈ linesF rows row → φ (rv l) = 0 := fun l hl => by rw [← phi_rd hφ φp, allz l hl, hφ.zr]
  have eqs : ∀ c, c < n → sm n (fun i => rv (rows.getD i []) c * rv z.2 i) = rv row c * ((z.1 : Int) : Rat) := fun c hc => by
    have := φl _ (line_at (rows := rows) (row := row) (c := c) (by omega)).2
    have e1 : sm n (fun i => rv ((rows.map fun o => gt o c) ++ [gt row c]) i * rv z.2 i) - rv ((rows.map fun o => gt o c) ++ [gt row c]) n * ((z.1 : Int) : Rat) = 0 := this
    rw [sm_congr (g := fun i => rv (rows.getD i []) c * rv z.2 i) fun i hi => by
      show ((gt _ i : Int) : Rat) * _ = _
      rw [line_gt, hn, if_pos hi]; rfl] at e1
    have e2 : rv ((rows.map fun o => gt o c) ++ [gt row c]) n = rv row c := by
      show ((gt _ n : Int) : Rat) = _
      rw [line_gt, hn, if_neg (Nat.lt_irrefl n), if_pos rfl]; rfl
    rw [e2] at e1
    grind
  -- Cramer
  have plen : ps.length ≤ 22 := by rw [est.len]; omega
  have zps : ∀ p, p ∈ ps → ZV B p.1 := fun p hp => by
    obtain ⟨l, hl, e⟩ := est.mem p hp
    rw [e]; exact hLB.zv hl
  obtain ⟨D, eD, hD⟩ := pv_ZB (L := 32) E.nz (by omega) zps
  have D0 : D ≠ 0 := fun e => E.nz (by rw [eD, e]; rfl)
  have cram : ∀ j, ∃ y : Int, D * gt z.2 j = y * z.1 ∧ y.natAbs ≤ (32 * B) ^ (ps.length + 1) := fun j => by
    by_cases hj : j < n
    · have zs : ZV B (sd j) := fun i => by
        by_cases e : i = j
        · exact ⟨1, if_pos e, b1⟩
        · exact ⟨0, if_neg e, Nat.zero_le _⟩
      obtain ⟨y, ey, hy⟩ := rd_ZB (L := 32) E.nz (by omega) zps zs n
      refine ⟨-y, ?_, by rw [Int.natAbs_neg]; exact hy⟩
      have h1 : φ (rd ps (sd j)) = φ (sd j) := phi_rd hφ φp _
      have h2 : φ (sd j) = rv z.2 j := by
        show sm n (fun i => sd j i * rv z.2 i) - sd j n * _ = _
        rw [sm_one (k := j) hj fun i _ ne => by show (if i = j then (1 : Rat) else 0) * _ = 0; rw [if_neg ne]; grind]
        show (if j = j then (1 : Rat) else 0) * _ - (if n = j then (1 : Rat) else 0) * _ = _
        rw [if_pos rfl, if_neg (by omega)]; grind
      have h3 : φ (rd ps (sd j)) = - (rd ps (sd j) n * ((z.1 : Int) : Rat)) := by
        show sm n (fun i => rd ps (sd j) i * rv z.2 i) - _ = _
        rw [sm_zero fun i hi => ?_]
        · grind
        · by_cases e : gt z.2 i = 0
          · have : rv z.2 i = 0 := by show ((gt z.2 i : Int) : Rat) = 0; rw [e]; rfl
            rw [this]; grind
          · obtain ⟨q, hq, eq⟩ := I.sup i e
            obtain ⟨p, hp, ep⟩ := sorted.1 q (List.mem_reverse.mp hq)
            have := rd_col E.nz (sd j) p hp
            rw [ep, eq] at this
            rw [this]; grind
      refine cinj ?_
      rw [Rat.intCast_mul, Rat.intCast_mul, Rat.intCast_neg, ← ey, ← eD]
      show pv ps * rv z.2 j = _
      rw [← h2, ← h1, h3]; grind
    · refine ⟨0, ?_, Nat.zero_le _⟩
      rw [gt_ge (by rw [I.len]; omega)]; simp
  have dv : z.1 ∣ D := dvd_of_gcd I.gcd fun x hx => by
    obtain ⟨j, _, rfl⟩ := mem_gt hx
    obtain ⟨y, e, _⟩ := cram j
    exact ⟨y, by rw [e, Int.mul_comm]⟩
  obtain ⟨Q, hQ⟩ := dv
  have Q0 : Q ≠ 0 := fun e => D0 (by rw [hQ, e, Int.mul_zero])
  have z0 : z.1 ≠ 0 := by have := I.pos; omega
  have pw : ∀ k, k ≤ 23 → (32 * B) ^ k ≤ 2 ^ 3000 := fun k hk => by
    have h1 : 32 * B ≤ 2 ^ 125 := by
      have e : (2 : Nat) ^ 125 = 32 * 2 ^ 120 := by rw [show (125 : Nat) = 5 + 120 from rfl, Nat.pow_add]
      rw [e]; exact Nat.mul_le_mul_left 32 hb
    refine Nat.le_trans (Nat.pow_le_pow_left h1 k) ?_
    rw [← Nat.pow_mul]
    exact Nat.pow_le_pow_right (by omega) (by omega)
  have B1 : z.1.natAbs ≤ 2 ^ 3000 := Nat.le_trans (Nat.le_of_dvd (by omega) (Int.natAbs_dvd_natAbs.mpr ⟨Q, hQ⟩)) (Nat.le_trans hD (pw _ (by omega)))
  have B2 : ∀ j, (gt z.2 j).natAbs ≤ 2 ^ 3000 := fun j => by
    obtain ⟨y, e, hy⟩ := cram j
    have ez : Q * gt z.2 j = y := by
      refine Int.eq_of_mul_eq_mul_right z0 ?_
      rw [← e, hQ, Int.mul_right_comm, Int.mul_comm Q]
    refine Nat.le_trans ?_ (Nat.le_trans hy (pw _ (by omega)))
    rw [← ez, Int.natAbs_mul]
    exact Nat.le_mul_of_pos_left _ (by omega)
  have lt1 : ∀ {x : Nat}, x ≤ 2 ^ 3000 → x < 2 ^ 1000000 := fun {x} h => Nat.lt_of_le_of_lt h (Nat.pow_lt_pow_right (by omega) (by omega))
  have big : ∀ {x : Nat}, x ≤ B → x < 2 ^ 9000 := fun {x} h => Nat.lt_of_le_of_lt (Nat.le_trans h hb) (Nat.pow_lt_pow_right (by omega) (by omega))
  refine ⟨sts, z, ⟨hn.trans hr.symm, by omega, fun q hq => by rw [each q hq, hr], fun q hq x hx => big (hLB q hq x hx), ?_, ?_, ?_, fun k hk => ?_, ?_, z0, Nat.lt_of_le_of_lt B1 (Nat.pow_lt_pow_right (by omega) (by omega))⟩, I.len, I.pos, ?_, B1, fun x hx => ?_, eqs⟩
  · rw [hr]; exact step_ok hlen hLB hb (by omega)
  · rw [hr]; exact hsts.symm
  · rw [hr]; exact stsOk
  · rw [hr]
    obtain ⟨m1, m2⟩ := mono (sts.length - k) k (by omega)
    refine ⟨lt1 (Nat.le_trans m1 B1), fun x hx => ?_⟩
    obtain ⟨j, _, rfl⟩ := mem_gt hx
    exact lt1 (Nat.le_trans (m2 j) (B2 j))
  · rw [hr]; exact hz.symm
  · unfold combR
    rw [I.gcd]
    have e1 : z.1.fdiv 1 = z.1 := Int.fdiv_one _
    have e2 : (z.2.map fun x => x.fdiv 1) = z.2 := by
      conv => rhs; rw [← List.map_id z.2]
      exact List.map_congr_left fun x _ => Int.fdiv_one x
    rw [e1, e2]
  · obtain ⟨j, _, rfl⟩ := mem_gt hx
    exact B2 j
end EL
end
section
set_option maxHeartbeats 1000000
/-! What the parts tell, by vectors. -/
namespace EL
open PySem DL MA MB MD
abbrev cvc (c : Ck) (a b : Vc) : Vc := cv (nn c) (mN c) (ivN c) a b
abbrev stc (c : Ck) (a : Vc) : Vc := st (nn c) (ivN c) a
theorem lt4 {x k : Nat} (h : x ≤ 2 ^ k) (hk : k ≤ 3999) : x < 2 ^ 4000 := Nat.lt_of_le_of_lt h (Nat.pow_lt_pow_right (by omega) (by omega))
theorem lt9k {x k : Nat} (h : x ≤ 2 ^ k) (hk : k ≤ 8999) : x < 2 ^ 9000 := Nat.lt_of_le_of_lt h (Nat.pow_lt_pow_right (by omega) (by omega))
section
variable {c : Ck} (hc : CK c) {d e f : DD}
include hc
theorem r41 {j k : Nat} (hd : Can (nn c) d) (he : Can (nn c) e) (hf : Can (nn c) f) (q : vl f = cvc c (vl d) (vl e)) (bd : Bd j (vl d)) (be : Bd k (vl e)) (hj : j ≤ 3999 := by omega) (hk : k ≤ 3999 := by omega) : R41 [ckD c, dlD d, dlD e] (dlD f) := by
  obtain ⟨k1, k2⟩ := dealt_vl hc hd he
  have ef : f = settleF (d.1 * e.1, ofF (nn c) (dealF c d.2 e.2)) := can_uniq hf k1 (q.trans k2.symm)
  obtain ⟨a1, a2⟩ := bd.can hd
  obtain ⟨b1, b2⟩ := be.can he
  exact ⟨c, d, e, hc, hd, he, lt4 a1 hj, lt4 b1 hk, fun x hx => lt9k (a2 x hx) (by omega), fun x hx => lt9k (b2 x hx) (by omega), rfl, by rw [ef]⟩
theorem ex41 (hd : Can (nn c) d) (he : Can (nn c) e) : ∃ f, Can (nn c) f ∧ vl f = cvc c (vl d) (vl e) := ⟨_, dealt_vl hc hd he⟩
theorem vl_eq (d : DD) (i : Nat) : vl d i = ((gt d.2 i : Int) : Rat) * ((d.1 : Int) : Rat)⁻¹ := Rat.div_def _ _
theorem taken_vl (hd : Can (nn c) d) (he : Can (nn c) e) : Can (nn c) (settleF (d.1 * e.1, (d.2.zip e.2).map fun q => q.1 * e.1 - q.2 * d.1)) ∧ vl (settleF (d.1 * e.1, (d.2.zip e.2).map fun q => q.1 * e.1 - q.2 * d.1)) = sub (vl d) (vl e) := by
  have p1 := hd.pos
  have p2 := he.pos
  have n0 : d.1 * e.1 ≠ 0 := Int.mul_ne_zero (by omega) (by omega)
  have ll := hd.len.trans he.len.symm
  obtain ⟨k1, k2⟩ := settle_can (n := nn c) (l := (d.2.zip e.2).map fun q => q.1 * e.1 - q.2 * d.1) n0 (by rw [List.length_map, List.length_zip, hd.len, he.len, Nat.min_self])
  refine ⟨k1, k2.trans (funext fun i => ?_)⟩
  show _ = vl d i - vl e i
  rw [gt_zip (f := fun q => q.1 * e.1 - q.2 * d.1) ll (by simp), vl_eq hc, vl_eq hc, div_eq (cne n0)]
  have i1 := Rat.inv_mul_cancel _ (cne (show d.1 ≠ 0 by omega))
  have i2 := Rat.inv_mul_cancel _ (cne (show e.1 ≠ 0 by omega))
  show ((gt d.2 i * e.1 - gt e.2 i * d.1 : Int) : Rat) = _
  rw [Rat.intCast_sub, Rat.intCast_mul, Rat.intCast_mul, Rat.intCast_mul]
  grind
theorem r43 {j k : Nat} (hd : Can (nn c) d) (he : Can (nn c) e) (hf : Can (nn c) f) (q : vl f = sub (vl d) (vl e)) (bd : Bd j (vl d)) (be : Bd k (vl e)) (hj : j ≤ 3999 := by omega) (hk : k ≤ 3999 := by omega) : R43 [ckD c, dlD d, dlD e] (dlD f) := by
  obtain ⟨k1, k2⟩ := taken_vl hc hd he
  have ef := can_uniq hf k1 (q.trans k2.symm)
  obtain ⟨a1, a2⟩ := bd.can hd
  obtain ⟨b1, b2⟩ := be.can he
  exact ⟨c, d, e, hc, hd, he, lt4 a1 hj, lt4 b1 hk, fun x hx => lt9k (a2 x hx) (by omega), fun x hx => lt9k (b2 x hx) (by omega), rfl, by rw [ef]⟩
theorem ex43 (hd : Can (nn c) d) (he : Can (nn c) e) : ∃ f, Can (nn c) f ∧ vl f = sub (vl d) (vl e) := ⟨_, taken_vl hc hd he⟩
theorem r46 (hd : Can (nn c) d) (hf : Can (nn c) f) (q : vl f = stc c (vl d)) : R46 [ckD c, dlD d] (dlD f) := by
  obtain ⟨k1, k2⟩ := mir_vl hc hd
  have ef := can_uniq hf k1 (q.trans k2.symm)
  exact ⟨c, d, hc, hd, rfl, by rw [ef]⟩
theorem ex46 (hd : Can (nn c) d) : ∃ f, Can (nn c) f ∧ vl f = stc c (vl d) := ⟨_, mir_vl hc hd⟩
theorem id_can : Can (nn c) (idF (nn c)) ∧ vl (idF (nn c)) = one := by
  have cb := hc.bd
  refine ⟨⟨ofF_length, by show (1 : Int) ≤ 1; decide, gcdL_one (by show (0 : Int) ≤ 1; decide) fun x h0 h _ => one_of_dvd h0 h⟩, funext fun i => ?_⟩
  show ((gt (ofF (nn c) fun i => if i = 0 then 1 else 0) i : Int) : Rat) / ((1 : Int) : Rat) = if i = 0 then 1 else 0
  rw [gt_ofF, div_eq (by decide)]
  by_cases h0 : i = 0
  · rw [if_pos h0, if_pos (by omega), if_pos h0, Rat.one_mul]
  · by_cases h1 : i < nn c
    · rw [if_pos h1, if_neg h0, if_neg h0, Rat.zero_mul]; rfl
    · rw [if_neg h1, if_neg h0, Rat.zero_mul]; rfl
/-- scaled by p / q -/
theorem scaled_vl {p q : Int} (hd : Can (nn c) d) (hq : 1 ≤ q) : Can (nn c) (settleF (d.1 * q, d.2.map fun x => x * p)) ∧ vl (settleF (d.1 * q, d.2.map fun x => x * p)) = scl (((p : Int) : Rat) / ((q : Int) : Rat)) (vl d) := by
  have p1 := hd.pos
  have n0 : d.1 * q ≠ 0 := Int.mul_ne_zero (by omega) (by omega)
  obtain ⟨k1, k2⟩ := settle_can (n := nn c) (l := d.2.map fun x => x * p) n0 (by rw [List.length_map, hd.len])
  refine ⟨k1, k2.trans (funext fun i => ?_)⟩
  show _ = _ * vl d i
  rw [gt_map (f := fun x => x * p) (Int.zero_mul _), vl_eq hc, div_eq (cne n0), Rat.div_def]
  have i1 := Rat.inv_mul_cancel _ (cne (show d.1 ≠ 0 by omega))
  have i2 := Rat.inv_mul_cancel _ (cne (show q ≠ 0 by omega))
  rw [Rat.intCast_mul, Rat.intCast_mul]
  grind
theorem r44 {p q : Int} {j : Nat} (hd : Can (nn c) d) (hf : Can (nn c) f) (hq : 1 ≤ q) (hg : Nat.gcd p.natAbs q.natAbs = 1) (e1 : vl f = scl (((p : Int) : Rat) / ((q : Int) : Rat)) (vl d)) (bd : Bd j (vl d)) (hj : j ≤ 3999) (h2 : q.natAbs < 2 ^ 4000) (h3 : p.natAbs < 2 ^ 9000) : R44 [ckD c, dlD d, .tuple [.int p, .int q]] (dlD f) := by
  obtain ⟨k1, k2⟩ := scaled_vl hc (p := p) hd hq
  have ef := can_uniq hf k1 (e1.trans k2.symm)
  obtain ⟨a1, a2⟩ := bd.can hd
  exact ⟨c, d, p, q, hc, hd, hq, hg, lt4 a1 hj, h2, h3, fun x hx => lt9k (a2 x hx) (by omega), rfl, by rw [ef]⟩
theorem share_dvd (l : Row) : ∀ x, x ∈ l → shareF l ∣ x := fun x hx => by
  unfold shareF
  split
  · exact Int.one_dvd _
  · exact (gcdL_dvd (g := 0)).2 x hx
theorem share_pos (l : Row) : 1 ≤ shareF l := by
  have h := shareF_ne l
  unfold shareF at h ⊢
  split
  · exact Int.le_refl _
  · have := gcdL_nn (l := l) (show (0 : Int) ≤ 0 by decide)
    rename_i h0
    omega
/-- the deal without its share -/
theorem small_vl (hd : Can (nn c) d) : Can (nn c) (smallF d) ∧ vl (smallF d) = scl (((d.1 : Int) : Rat) / ((shareF d.2 : Int) : Rat)) (vl d) ∧ vl d = scl (((shareF d.2 : Int) : Rat) / ((d.1 : Int) : Rat)) (vl (smallF d)) := by
  have p1 := hd.pos
  have s1 := share_pos hc d.2
  have ent : ∀ i, ((gt (smallF d).2 i : Int) : Rat) * ((shareF d.2 : Int) : Rat) = ((gt d.2 i : Int) : Rat) := fun i => by
    rw [← Rat.intCast_mul]
    congr 1
    show gt (d.2.map fun x => x.fdiv (shareF d.2)) i * _ = _
    rw [gt_map (f := fun x => x.fdiv (shareF d.2)) (Int.zero_fdiv _)]
    by_cases hi : i < d.2.length
    · exact fdiv_exact (share_dvd hc _ _ (gt_mem hi))
    · rw [gt_ge (by omega), Int.zero_fdiv, Int.zero_mul]
  have i1 := Rat.inv_mul_cancel _ (cne (show d.1 ≠ 0 by omega))
  have i2 := Rat.inv_mul_cancel _ (cne (show shareF d.2 ≠ 0 by omega))
  have sv : ∀ i, vl (smallF d) i = ((gt (smallF d).2 i : Int) : Rat) := fun i => by
    rw [vl_eq hc]
    show _ * (((1 : Int) : Rat))⁻¹ = _
    have : (((1 : Int) : Rat))⁻¹ = 1 := by
      have := Rat.inv_mul_cancel ((1 : Int) : Rat) (cne (by decide))
      have o : ((1 : Int) : Rat) = 1 := rfl
      rw [o] at this ⊢; grind
    rw [this, Rat.mul_one]
  refine ⟨⟨by show (List.map _ _).length = _; rw [List.length_map, hd.len], by show (1 : Int) ≤ 1; decide, gcdL_one (by show (0 : Int) ≤ 1; decide) fun x h0 h _ => one_of_dvd h0 h⟩, funext fun i => ?_, funext fun i => ?_⟩
  · show _ = _ * vl d i
    rw [sv, vl_eq hc, ← ent, Rat.div_def]
    grind
  · show _ = _ * vl (smallF d) i
    rw [sv, vl_eq hc, ← ent, Rat.div_def]
    grind
/-! ### solving -/
theorem solved_vl {B : Nat} (hd : Can (nn c) d) (he : Can (nn c) e) (b1 : 1 ≤ B) (hb : B ≤ 2 ^ 120) (hB1 : ∀ x, x ∈ d.2 → x.natAbs ≤ B) (hB2 : ∀ x, x ∈ e.2 → x.natAbs ≤ B) (d1 : d.1.natAbs ≤ 2 ^ 120) (e1 : e.1.natAbs ≤ 2 ^ 120)
    (hF : ∀ y : Vc, cvc c y (stc c (vl d)) = zr → sm (nn c) (fun i => y i * vl e i) = 0) : ∃ f, R61 [ckD c, dlD d, dlD e] (dlD f) ∧ Can (nn c) f ∧ cvc c (vl f) (vl d) = vl e ∧ Bd 3120 (vl f) := by
  have G := hc.grp
  have cb := hc.bd
  have p1 := hd.pos
  have p2 := he.pos
  have d0 : ((d.1 : Int) : Rat) ≠ 0 := cne (by omega)
  have e0 : ((e.1 : Int) : Rat) ≠ 0 := cne (by omega)
  have rvd : rv d.2 = scl ((d.1 : Int) : Rat) (vl d) := funext fun i => by
    show ((gt d.2 i : Int) : Rat) = _ * vl d i
    have := Rat.inv_mul_cancel _ d0
    rw [vl_eq hc]; grind
  have rve : rv e.2 = scl ((e.1 : Int) : Rat) (vl e) := funext fun i => by
    show ((gt e.2 i : Int) : Rat) = _ * vl e i
    have := Rat.inv_mul_cancel _ e0
    rw [vl_eq hc]; grind
  have dot : ∀ (y : Vc) i, i < nn c → sm (nn c) (fun q => y q * rv ((shRows c d.2).getD i []) q) = ((d.1 : Int) : Rat) * cvc c y (stc c (vl d)) i := fun y i hi => by
    rw [shrow hc hd.len hi, dot_row G hi, rvd, st_scl, cv_scl]; rfl
  have each : ∀ q, q ∈ shRows c d.2 → q.length = nn c ∧ ∀ x, x ∈ q → x.natAbs ≤ B := fun q hq => by
    obtain ⟨g, hg, rfl⟩ := List.mem_map.mp hq
    refine ⟨ofF_length, fun x hx => ?_⟩
    obtain ⟨h, hh, rfl⟩ := List.mem_map.mp hx
    have hg' := List.mem_range.mp hg
    have hh' := List.mem_range.mp hh
    rw [sho_eq hc hg' hh']
    exact hB1 _ (gt_mem (by rw [hd.len]; exact hc.mlt _ _))
  obtain ⟨sts, z, ok, S⟩ := solve_ok (n := nn c) (rows := shRows c d.2) (row := e.2) (B := B) ofF_length he.len (by omega) (by omega) (fun q hq => (each q hq).1) (fun q hq => (each q hq).2) hB2 b1 hb fun y hy => by
    have h1 : cvc c y (stc c (vl d)) = zr := Sup.ext Sup.cv (fun _ _ => rfl) fun i hi => by
      have := hy i hi
      rw [dot y i hi] at this
      exact (Rat.mul_eq_zero.mp this).resolve_left d0
    have := hF y h1
    rw [rve, sm_congr (g := fun i => ((e.1 : Int) : Rat) * (y i * vl e i)) fun i _ => by show y i * (_ * vl e i) = _; grind, sm_mul, this]; grind
  have z0 : z.1 ≠ 0 := by have := S.pos; omega
  have zc : ((z.1 : Int) : Rat) ≠ 0 := cne z0
  have n0 : z.1 * e.1 ≠ 0 := Int.mul_ne_zero z0 (by omega)
  obtain ⟨k1, k2⟩ := settle_can (n := nn c) (b := z.1 * e.1) (l := z.2.map fun x => x * d.1) n0 (by rw [List.length_map]; exact S.len)
  have eq : cvc c (rv z.2) (rv d.2) = scl ((z.1 : Int) : Rat) (rv e.2) := Sup.ext Sup.cv (Sup.scl (rv_sup he.len)) fun h hh => by
    have := S.eq h hh
    show cvc c (rv z.2) (rv d.2) h = _ * rv e.2 h
    rw [Rat.mul_comm, ← this]
    show (if h < nn c then _ else _) = _
    rw [if_pos hh]
    refine sm_congr fun g hg => ?_
    rw [shrow hc hd.len hg]
    have e2 : cv (nn c) (mN c) (ivN c) (sd g) (rv d.2) h = rv d.2 (mN c (ivN c g) h) := by
      show (if h < nn c then _ else _) = _
      rw [if_pos hh, sm_one (k := g) hg fun i _ ne => by show (if i = g then (1 : Rat) else 0) * _ = 0; rw [if_neg ne]; grind]
      show (if g = g then (1 : Rat) else 0) * _ = _
      rw [if_pos rfl]; grind
    rw [e2]; grind
  have vf : vl (settleF (z.1 * e.1, z.2.map fun x => x * d.1)) = scl (((d.1 : Int) : Rat) * (((z.1 : Int) : Rat) * ((e.1 : Int) : Rat))⁻¹) (rv z.2) := k2.trans (funext fun i => by
    show ((gt (z.2.map fun x => x * d.1) i : Int) : Rat) / _ = _ * rv z.2 i
    rw [gt_map (f := fun x => x * d.1) (Int.zero_mul _), Rat.intCast_mul, Rat.intCast_mul, Rat.div_def]
    show rv z.2 i * _ * _ = _
    grind)
  have zid1 : (combR z).1 = z.1 := by rw [S.id]
  have zid2 : (combR z).2 = z.2 := by rw [S.id]
  refine ⟨_, ⟨c, d, e, sts, z, hc, hd, he, ok, by rw [zid1]; exact lt4 S.b1 (by omega), by rw [zid1]; exact z0, fun x hx => lt9k (S.b2 x (by rw [← zid2]; exact hx)) (by omega), lt4 e1 (by omega), lt4 d1 (by omega), rfl, by rw [zid1, zid2]⟩, k1, ?_, ?_⟩
  · rw [vf]
    have evd : vl d = scl ((((d.1 : Int) : Rat))⁻¹) (rv d.2) := funext fun i => by show vl d i = _ * ((gt d.2 i : Int) : Rat); rw [vl_eq hc, Rat.mul_comm]
    have eve : vl e = scl ((((e.1 : Int) : Rat))⁻¹) (rv e.2) := funext fun i => by show vl e i = _ * ((gt e.2 i : Int) : Rat); rw [vl_eq hc, Rat.mul_comm]
    rw [evd, eve]
    show cv (nn c) (mN c) (ivN c) _ _ = _
    rw [scl_cv, cv_scl, show cv (nn c) (mN c) (ivN c) (rv z.2) (rv d.2) = _ from eq]
    refine funext fun i => ?_
    show _ * (_ * (_ * rv e.2 i)) = _ * rv e.2 i
    have i1 := Rat.inv_mul_cancel _ d0
    have i2 := Rat.inv_mul_cancel _ e0
    have i3 := Rat.inv_mul_cancel _ zc
    rw [Rat.inv_mul_rev]
    grind
  · refine ⟨z.1 * e.1, n0, ?_, fun i => ⟨gt z.2 i * d.1, ?_, ?_⟩⟩
    · rw [Int.natAbs_mul, show (3120 : Nat) = 3000 + 120 from rfl, Nat.pow_add]
      exact Nat.mul_le_mul S.b1 e1
    · rw [vf]
      show ((z.1 * e.1 : Int) : Rat) * (_ * rv z.2 i) = _
      rw [Rat.intCast_mul, Rat.intCast_mul]
      have i3 := Rat.inv_mul_cancel _ (show ((z.1 : Int) : Rat) * ((e.1 : Int) : Rat) ≠ 0 from fun h => (Rat.mul_eq_zero.mp h).elim zc e0)
      show _ = rv z.2 i * _
      grind
    · rw [Int.natAbs_mul, show (3120 : Nat) = 3000 + 120 from rfl, Nat.pow_add]
      refine Nat.mul_le_mul ?_ d1
      by_cases hi : i < z.2.length
      · exact S.b2 _ (gt_mem hi)
      · rw [gt_ge (by omega)]; exact Nat.zero_le _
end
end EL
end
section
set_option maxHeartbeats 1000000
namespace EL
open PySem DL MA MB MD
/-! ### deals compared -/
theorem eqvAll_il : ∀ l m : Row, PyData.eqvAll (il l) (il m) = decide (l = m)
  | [], [] => by unfold il; simp [PyData.eqvAll]
  | [], y :: m => by unfold il; simp [PyData.eqvAll]
  | x :: l, [] => by unfold il; simp [PyData.eqvAll]
  | x :: l, y :: m => by
    have ih := eqvAll_il l m
    unfold il at ih ⊢
    simp only [List.map_cons, PyData.eqvAll, ih]
    have e : (x == y) = decide (x = y) := by rw [Bool.eq_iff_iff]; simp
    have e' : PyData.eqv (.int x) (.int y) = decide (x = y) := by simp only [PyData.eqv]; exact e
    rw [e']
    by_cases h1 : x = y <;> by_cases h2 : l = m <;> simp [h1, h2]
theorem eqv_dl (d e : DD) : PyData.eqv (dlD d) (dlD e) = decide (d = e) := by
  obtain ⟨b, l⟩ := d
  obtain ⟨b', l'⟩ := e
  unfold dlD
  have e : (b == b') = decide (b = b') := by rw [Bool.eq_iff_iff]; simp
  simp only [PyData.eqv, PyData.eqvAll, eqvAll_il, e]
  by_cases h1 : b = b' <;> by_cases h2 : l = l' <;> simp [h1, h2]
theorem il_lay : ∀ l : Row, PyData.canLayAll0 (il l) = true
  | [] => by unfold il; simp [PyData.canLayAll0]
  | x :: l => by
    have ih := il_lay l
    unfold il at ih ⊢
    simp [PyData.canLayAll0, PyData.canLay0, ih]
theorem il_dep : ∀ l : Row, PyData.depthAll (il l) = 0
  | [] => by unfold il; simp [PyData.depthAll]
  | x :: l => by
    have ih := il_dep l
    unfold il at ih ⊢
    simp [PyData.depthAll, PyData.depth, ih]
theorem sh_dl (d : DD) : SeqAt.shaped (dlD d) = true := by
  unfold SeqAt.shaped dlD
  simp [PyData.canLay0, PyData.canLayAll0, il_lay, PyData.depth, PyData.depthAll, il_dep]
/-! ### recall and units -/
def Wt (k : Nat) (d : DD) : Prop := d.1.natAbs ≤ 2 ^ k ∧ ∀ x, x ∈ d.2 → x.natAbs ≤ 2 ^ k
theorem Wt.mono {j k : Nat} {d : DD} (h : Wt j d) (l : j ≤ k) : Wt k d := by
  have p : 2 ^ j ≤ 2 ^ k := Nat.pow_le_pow_right (by omega) l
  exact ⟨Nat.le_trans h.1 p, fun x hx => Nat.le_trans (h.2 x hx) p⟩
section
variable {c : Ck} (hc : CK c) {d : DD}
include hc
theorem small_wt {k : Nat} (hd : Can (nn c) d) (hw : Wt k d) : Wt k (smallF d) := by
  refine ⟨Nat.one_le_two_pow, fun x hx => ?_⟩
  obtain ⟨y, hy, rfl⟩ := List.mem_map.mp hx
  exact Nat.le_trans (natAbs_fdiv_le _ _) (hw.2 y hy)
theorem mp_small {r : Vc} (hd : Can (nn c) d) (h : MP (nn c) (mN c) (ivN c) (vl (smallF d)) r) : MP (nn c) (mN c) (ivN c) (vl d) (scl (((d.1 : Int) : Rat) / ((shareF d.2 : Int) : Rat)) r) := by
  obtain ⟨_, _, e⟩ := small_vl hc hd
  have p1 := hd.pos
  have s1 := share_pos hc d.2
  have d0 := cne (show d.1 ≠ 0 by omega)
  have s0 := cne (show shareF d.2 ≠ 0 by omega)
  have k0 : ((shareF d.2 : Int) : Rat) / ((d.1 : Int) : Rat) ≠ 0 := fun z => s0 (by have := (div_eq d0).mp z; rw [this, Rat.zero_mul])
  have := h.scale hc.grp k0
  rw [← e] at this
  have ek : (((shareF d.2 : Int) : Rat) / ((d.1 : Int) : Rat))⁻¹ = ((d.1 : Int) : Rat) / ((shareF d.2 : Int) : Rat) := by
    rw [Rat.div_def, Rat.div_def, Rat.inv_mul_rev, Rat.inv_inv]
  rwa [ek] at this
theorem lu_small {l : Vc} (hd : Can (nn c) d) (h : LU (nn c) (mN c) (ivN c) (vl (smallF d)) l) : LU (nn c) (mN c) (ivN c) (vl d) l := by
  obtain ⟨_, _, e⟩ := small_vl hc hd
  have p1 := hd.pos
  have s1 := share_pos hc d.2
  have d0 := cne (show d.1 ≠ 0 by omega)
  have s0 := cne (show shareF d.2 ≠ 0 by omega)
  have k0 : ((shareF d.2 : Int) : Rat) / ((d.1 : Int) : Rat) ≠ 0 := fun z => s0 (by have := (div_eq d0).mp z; rw [this, Rat.zero_mul])
  have := h.scale hc.grp k0
  rwa [← e] at this
theorem dot_one (y a : Vc) : sm (nn c) (fun i => y i * stc c a i) = cvc c y (stc c (stc c a)) 0 := by
  have G := hc.grp
  have := dot_row G (y := y) (a := stc c a) G.pos
  refine Eq.trans ?_ this
  have e : sd 0 = one := rfl
  rw [e, one_cv G _ Sup.st]
theorem recall_ok (hd : Can (nn c) d) (hw : Wt 26 d) : ∃ mi sq sq2 fo fs out, Can (nn c) (smallF d) ∧ Can (nn c) mi ∧ Can (nn c) sq ∧ Can (nn c) sq2 ∧ Can (nn c) fo ∧ Can (nn c) fs ∧ R46 [ckD c, dlD (smallF d)] (dlD mi) ∧ R41 [ckD c, dlD (smallF d), dlD mi] (dlD sq) ∧ R41 [ckD c, dlD sq, dlD sq] (dlD sq2) ∧
    R61 [ckD c, dlD sq2, dlD mi] (dlD fo) ∧ R41 [ckD c, dlD fo, dlD sq] (dlD fs) ∧ R44 [ckD c, dlD fs, .tuple [.int d.1, .int (shareF d.2)]] (dlD out) ∧ Can (nn c) out ∧ MP (nn c) (mN c) (ivN c) (vl d) (vl out) ∧ Bd 3300 (vl out) := by
  have G := hc.grp
  have cb := hc.bd
  obtain ⟨cs, _, _⟩ := small_vl hc hd
  have ws := small_wt hc hd hw
  generalize hs : smallF d = s at cs ws
  have bs : Bd 26 (vl s) := bd_can cs ws.1 ws.2
  obtain ⟨mi, cm, vm⟩ := ex46 hc cs
  have bm : Bd 26 (vl mi) := by rw [vm]; exact bs.st
  obtain ⟨sq, cq, vq⟩ := ex41 hc cs cm
  have bq : Bd 57 (vl sq) := by rw [vq]; exact bs.cv (by omega) bm
  obtain ⟨sq2, cq2, vq2⟩ := ex41 hc cq cq
  have bq2 : Bd 119 (vl sq2) := by rw [vq2]; exact bq.cv (by omega) bq
  have sS := cs.sup
  have eq : vl sq = cvc c (vl s) (stc c (vl s)) := by rw [vq, vm]
  have qs : stc c (vl sq) = vl sq := by rw [eq]; show st _ _ (cv _ _ _ _ _) = _; rw [st_cv G, st_st G _ sS]
  obtain ⟨m1, m2⟩ := bm.can cm
  obtain ⟨q1, q2⟩ := bq2.can cq2
  have up : ∀ {x : Nat} {k : Nat}, x ≤ 2 ^ k → k ≤ 120 → x ≤ 2 ^ 120 := fun {x k} h hk => Nat.le_trans h (Nat.pow_le_pow_right (by omega) hk)
  obtain ⟨fo, r61, cf, ef, bf⟩ := solved_vl hc (B := 2 ^ 120) cq2 cm Nat.one_le_two_pow (Nat.le_refl _) (fun x hx => up (q2 x hx) (by omega)) (fun x hx => up (m2 x hx) (by omega)) (up q1 (by omega)) (up m1 (by omega)) fun y hy => by
    rw [vq2] at hy
    have e1 : stc c (cvc c (vl sq) (vl sq)) = cvc c (vl sq) (vl sq) := by
      show st _ _ (cv _ _ _ _ _) = _
      rw [st_cv G, show st (nn c) (ivN c) (vl sq) = vl sq from qs]
    rw [e1] at hy
    have z := yzero2 G sS eq hy
    have ss : stc c (stc c (vl s)) = vl s := st_st G _ sS
    rw [vm, dot_one hc, ss]
    have : cvc c y (vl s) = zr := z
    rw [this]; rfl
  obtain ⟨fs, cfs, vfs⟩ := ex41 hc cf cq
  have bfs : Bd 3182 (vl fs) := by rw [vfs]; exact bf.cv (by omega) bq
  have mp : MP (nn c) (mN c) (ivN c) (vl s) (vl fs) := by
    rw [vfs]
    exact mp_of G sS cf.sup eq (by have := ef; rw [vq2, vm] at this; exact this)
  have p1 := hd.pos
  have s1 := share_pos hc d.2
  obtain ⟨co, vo⟩ := scaled_vl hc (p := d.1) cfs s1
  have mpo : MP (nn c) (mN c) (ivN c) (vl d) (vl (settleF (fs.1 * shareF d.2, fs.2.map fun x => x * d.1))) := by
    rw [vo]
    exact mp_small hc hd (by rw [hs]; exact mp)
  have shb : (shareF d.2).natAbs ≤ 2 ^ 26 := by
    unfold shareF
    split
    · exact Nat.one_le_two_pow
    · rename_i h0
      have : ∃ x, x ∈ d.2 ∧ x ≠ 0 := by
        refine Classical.byContradiction fun no => h0 ?_
        have : (0 : Int) ∣ gcdL 0 d.2 := gcdL_max (Int.dvd_refl _) fun x hx => by
          have : x = 0 := Classical.byContradiction fun q => no ⟨x, hx, q⟩
          rw [this]; exact Int.dvd_refl _
        exact Int.zero_dvd.mp this
      obtain ⟨x, hx, hne⟩ := this
      exact Nat.le_trans (Nat.le_of_dvd (by omega) (Int.natAbs_dvd_natAbs.mpr ((gcdL_dvd (g := 0)).2 x hx))) (hw.2 x hx)
  have gg : Nat.gcd d.1.natAbs (shareF d.2).natAbs = 1 := by
    have h1 : ((Nat.gcd d.1.natAbs (shareF d.2).natAbs : Nat) : Int) ∣ gcdL d.1 d.2 := gcdL_max (Int.natAbs_dvd_natAbs.mp (by rw [Int.natAbs_natCast]; exact Nat.gcd_dvd_left _ _)) fun x hx =>
      Int.dvd_trans (Int.natAbs_dvd_natAbs.mp (by rw [Int.natAbs_natCast]; exact Nat.gcd_dvd_right _ _)) (share_dvd hc _ x hx)
    rw [hd.gcd] at h1
    have := one_of_dvd (Int.natCast_nonneg _) h1
    omega
  refine ⟨mi, sq, sq2, fo, fs, _, cs, cm, cq, cq2, cf, cfs, r46 hc cs cm vm, r41 hc cs cm cq vq bs bm, r41 hc cq cq cq2 vq2 bq bq, r61, r41 hc cf cq cfs vfs bf bq, r44 hc cfs co s1 gg vo bfs (by omega) (lt4 shb (by omega)) (lt9k hw.1 (by omega)), co, mpo, ?_⟩
  obtain ⟨D, D0, D1, D2⟩ := bfs
  rw [vo]
  refine ⟨D * shareF d.2, Int.mul_ne_zero D0 (by omega), ?_, fun i => ?_⟩
  · rw [Int.natAbs_mul]
    refine Nat.le_trans (Nat.mul_le_mul D1 shb) ?_
    rw [← Nat.pow_add]
    exact Nat.pow_le_pow_right (by omega) (by omega)
  · have s0 := cne (show shareF d.2 ≠ 0 by omega)
    have e1 : ((D * shareF d.2 : Int) : Rat) * scl (((d.1 : Int) : Rat) / ((shareF d.2 : Int) : Rat)) (vl fs) i = ((D : Int) : Rat) * vl fs i * ((d.1 : Int) : Rat) := by
      show _ * (_ * vl fs i) = _
      rw [Rat.intCast_mul, Rat.div_def]
      have := Rat.inv_mul_cancel _ s0
      grind
    rw [e1]
    refine ZB.mono ((D2 i).mul ⟨d.1, rfl, hw.1⟩) ?_
    rw [← Nat.pow_add]
    exact Nat.pow_le_pow_right (by omega) (by omega)
theorem lu_ok (hd : Can (nn c) d) (hw : Wt 50 d) : ∃ mi pr zf out, Can (nn c) (smallF d) ∧ Can (nn c) mi ∧ Can (nn c) pr ∧ Can (nn c) zf ∧ R46 [ckD c, dlD (smallF d)] (dlD mi) ∧ R41 [ckD c, dlD (smallF d), dlD mi] (dlD pr) ∧ R61 [ckD c, dlD pr, dlD mi] (dlD zf) ∧ R41 [ckD c, dlD zf, dlD (smallF d)] (dlD out) ∧
    Can (nn c) out ∧ LU (nn c) (mN c) (ivN c) (vl d) (vl out) ∧ Bd 3175 (vl out) := by
  have G := hc.grp
  have cb := hc.bd
  obtain ⟨cs, _, _⟩ := small_vl hc hd
  have ws := small_wt hc hd hw
  generalize hs : smallF d = s at cs ws
  have bs : Bd 50 (vl s) := bd_can cs ws.1 ws.2
  obtain ⟨mi, cm, vm⟩ := ex46 hc cs
  have bm : Bd 50 (vl mi) := by rw [vm]; exact bs.st
  obtain ⟨sq, cq, vq⟩ := ex41 hc cs cm
  have bq : Bd 105 (vl sq) := by rw [vq]; exact bs.cv (by omega) bm
  have sS := cs.sup
  have eq : vl sq = cvc c (vl s) (stc c (vl s)) := by rw [vq, vm]
  have qs : stc c (vl sq) = vl sq := by rw [eq]; show st _ _ (cv _ _ _ _ _) = _; rw [st_cv G, st_st G _ sS]
  obtain ⟨m1, m2⟩ := bm.can cm
  obtain ⟨q1, q2⟩ := bq.can cq
  have up : ∀ {x : Nat} {k : Nat}, x ≤ 2 ^ k → k ≤ 120 → x ≤ 2 ^ 120 := fun {x k} h hk => Nat.le_trans h (Nat.pow_le_pow_right (by omega) hk)
  obtain ⟨fo, r61, cf, ef, bf⟩ := solved_vl hc (B := 2 ^ 120) cq cm Nat.one_le_two_pow (Nat.le_refl _) (fun x hx => up (q2 x hx) (by omega)) (fun x hx => up (m2 x hx) (by omega)) (up q1 (by omega)) (up m1 (by omega)) fun y hy => by
    rw [qs, eq] at hy
    have z := yzero G sS hy
    have ss : stc c (stc c (vl s)) = vl s := st_st G _ sS
    rw [vm, dot_one hc, ss]
    have : cvc c y (vl s) = zr := z
    rw [this]; rfl
  obtain ⟨out, co, vo⟩ := ex41 hc cf cs
  have lu : LU (nn c) (mN c) (ivN c) (vl s) (vl out) := by
    rw [vo]
    exact lu_of G sS cf.sup (by have := ef; rw [eq, vm] at this; exact this)
  exact ⟨mi, sq, fo, out, cs, cm, cq, cf, r46 hc cs cm vm, r41 hc cs cm cq vq bs bm, r61, r41 hc cf cs co vo bf bs, co, lu_small hc hd (by rw [hs]; exact lu), by rw [vo]; exact bf.cv (by omega) bs⟩
end
end EL
end
section
set_option maxHeartbeats 1000000
namespace EL
open PySem PySem.Spec PyProof.Rows L2 DL
open MA (Vc Sup one sub scl sm)
open MD (MP LU Mof)
abbrev MPc (c : Ck) (s r : Vc) : Prop := MP (nn c) (mN c) (ivN c) s r
abbrev LUc (c : Ck) (s l : Vc) : Prop := LU (nn c) (mN c) (ivN c) s l
abbrev Mfc (c : Ck) (a b : Vc) : Prop := Mof (nn c) (mN c) (ivN c) a b
theorem Wt.w9 {k : Nat} {d : DD} (h : Wt k d) (hk : k ≤ 8999 := by omega) : W9 d.2 := fun x hx => lt9k (h.2 x hx) hk
theorem Wt.bd {n k : Nat} {d : DD} (h : Wt k d) (c : Can n d) : Bd k (vl d) := bd_can c h.1 h.2
section
variable {P : Program} {w : World} {K : PySem.W.Frag} {mg : Str → Option Value} {base : Heap} (B : Bi mg)
def R64 : List PyData → PyData → Prop := fun ds r => ∃ (c : Ck) (d o : DD), CK c ∧ Can (nn c) d ∧ Wt 26 d ∧ Can (nn c) o ∧ MPc c (vl d) (vl o) ∧ ds = [ckD c, dlD d] ∧ r = dlD o
theorem w64 (F : FF K mg "recall_made" "recall_made" 64) (h63 : Cb false P w K mg base 4 "small_deal" 1 R63) (h62 : Cb false P w K mg base 3 "weights_share" 1 R62) (h46 : Cb false P w K mg base 5 "mirrored" 2 R46) (h41 : Cb false P w K mg base 6 "dealt" 3 R41) (h61 : Cb false P w K mg base 6 "solved" 3 R61) (h44 : Cb false P w K mg base 5 "scaled" 3 R44) : Cb false P w K mg base 7 "recall_made" 2 R64 := by
  refine cb_calm F sc64 rfl bn64 fun f cd A outer s H ds r rm hR hn => ?_
  obtain ⟨c, d, o, hc, hd, hw, ho, hm, rfl, rfl⟩ := hR
  have cb := hc.bd
  obtain ⟨mi, sq, sq2, fo, fs, out, _, _, _, _, _, _, r1, r2, r3, r4, r5, r6, co, mo, _⟩ := recall_ok hc hd hw
  have e : o = out := can_uniq ho co (MP.uniq hc.grp hm mo)
  subst e
  refine .inl ?_
  refine dss_cons (ds_set 2 sc64.nd (de_call (h63.cal rm) (da_1 (de_v 1)) ⟨d, by rw [hd.len]; omega, hw.w9, rfl, rfl⟩)) ?_
  refine dss_cons (ds_set 3 sc64.nd (de_call (h46.cal rm) (da_2 (de_v 0) (de_v 2)) r1)) ?_
  refine dss_cons (ds_set 4 sc64.nd (de_call (h41.cal rm) (da_3 (de_v 0) (de_v 2) (de_v 3)) r2)) ?_
  refine dss_cons (ds_set 5 sc64.nd (de_call (h61.cal rm) (da_3 (de_v 0) (de_call (h41.cal rm) (da_3 (de_v 0) (de_v 4) (de_v 4)) r3) (de_v 3)) r4)) ?_
  exact dss_one (ds_ret (de_call (h44.cal rm) (da_3 (de_v 0) (de_call (h41.cal rm) (da_3 (de_v 0) (de_v 5) (de_v 4)) r5) (de_tup2 (de_ixT (de_v 1) de_int rfl) (de_call (h62.cal rm) (da_1 (de_v 1)) ⟨d, rfl, rfl⟩))) r6))
def R65 : List PyData → PyData → Prop := fun ds r => ∃ (c : Ck) (d o : DD), CK c ∧ Can (nn c) d ∧ Wt 50 d ∧ Can (nn c) o ∧ LUc c (vl d) (vl o) ∧ ds = [ckD c, dlD d] ∧ r = dlD o
theorem w65 (F : FF K mg "left_unit" "left_unit" 65) (h63 : Cb false P w K mg base 4 "small_deal" 1 R63) (h46 : Cb false P w K mg base 5 "mirrored" 2 R46) (h41 : Cb false P w K mg base 6 "dealt" 3 R41) (h61 : Cb false P w K mg base 6 "solved" 3 R61) : Cb false P w K mg base 7 "left_unit" 2 R65 := by
  refine cb_calm F sc65 rfl bn65 fun f cd A outer s H ds r rm hR hn => ?_
  obtain ⟨c, d, o, hc, hd, hw, ho, hm, rfl, rfl⟩ := hR
  have cb := hc.bd
  obtain ⟨mi, pr, zf, out, _, _, _, _, r1, r2, r3, r4, co, lo, _⟩ := lu_ok hc hd hw
  have e : o = out := can_uniq ho co (LU.uniq hc.grp hm lo)
  subst e
  refine .inl ?_
  refine dss_cons (ds_set 2 sc65.nd (de_call (h63.cal rm) (da_1 (de_v 1)) ⟨d, by rw [hd.len]; omega, hw.w9, rfl, rfl⟩)) ?_
  refine dss_cons (ds_set 3 sc65.nd (de_call (h46.cal rm) (da_2 (de_v 0) (de_v 2)) r1)) ?_
  exact dss_one (ds_ret (de_call (h41.cal rm) (da_3 (de_v 0) (de_call (h61.cal rm) (da_3 (de_v 0) (de_call (h41.cal rm) (da_3 (de_v 0) (de_v 2) (de_v 3)) r2) (de_v 3)) r3) (de_v 2)) r4))
def R66 : List PyData → PyData → Prop := fun ds r => ∃ (c : Ck) (d o : DD), CK c ∧ Can (nn c) d ∧ Wt 50 d ∧ Can (nn c) o ∧ LUc c (stc c (vl d)) (vl o) ∧ ds = [ckD c, dlD d] ∧ r = dlD o
theorem mir_wt {c : Ck} {k : Nat} {d m : DD} (hc : CK c) (hd : Can (nn c) d) (hw : Wt k d) (hm : Can (nn c) m) (e : vl m = stc c (vl d)) : Wt k m := by
  have : Bd k (vl m) := by rw [e]; exact (hw.bd hd).st
  exact this.can hm
theorem w66 (F : FF K mg "right_unit" "right_unit" 66) (h46 : Cb false P w K mg base 5 "mirrored" 2 R46) (h65 : Cb false P w K mg base 7 "left_unit" 2 R65) : Cb false P w K mg base 8 "right_unit" 2 R66 := by
  refine cb_calm F sc66 rfl bn66 fun f cd A outer s H ds r rm hR hn => ?_
  obtain ⟨c, d, o, hc, hd, hw, ho, hm, rfl, rfl⟩ := hR
  obtain ⟨m, cm, vm⟩ := ex46 hc hd
  exact .inl (dss_one (ds_ret (de_call (h65.cal rm) (da_2 (de_v 0) (de_call (h46.cal rm) (da_2 (de_v 0) (de_v 1)) (r46 hc hd cm vm))) ⟨c, m, o, hc, cm, mir_wt hc hd hw cm vm, ho, by rw [vm]; exact hm, rfl, rfl⟩)))
/-! ### made or not -/
def R73 : List PyData → PyData → Prop := fun ds r => ∃ (c : Ck) (d e : DD) (b : Bool), CK c ∧ Can (nn c) d ∧ Can (nn c) e ∧ Wt 50 d ∧ Wt 50 e ∧ (b = true ↔ Mfc c (vl d) (vl e)) ∧ ds = [ckD c, dlD d, dlD e] ∧ r = .bool b
theorem w73 (F : FF K mg "is_made_left" "is_made_left" 73) (h70 : Cb false P w K mg base 5 "need_deals" 3 R29) (h65 : Cb false P w K mg base 7 "left_unit" 2 R65) (h41 : Cb false P w K mg base 6 "dealt" 3 R41) : Cb false P w K mg base 8 "is_made_left" 3 R73 := by
  refine cb_calm F sc73 rfl bn73 fun f cd A outer s H ds r rm hR hn => ?_
  obtain ⟨c, d, e, b, hc, hd, he, hw, hw2, hb, rfl, rfl⟩ := hR
  obtain ⟨_, _, _, l, _, _, _, _, _, _, _, _, cl, ll, bl⟩ := lu_ok hc hd hw
  obtain ⟨g, cg, vg⟩ := ex41 hc he cl
  refine .inl (dss_cons (ds_expr (de_call (h70.cal rm) (da_3 (de_v 0) (de_v 1) (de_v 2)) ⟨c, d, e, hc, hd, he, rfl, rfl⟩)) (dss_one (ds_ret (dec (de_eqD rm.units (de_call (h41.cal rm) (da_3 (de_v 0) (de_v 2) (de_call (h65.cal rm) (da_2 (de_v 0) (de_v 1)) ⟨c, d, l, hc, hd, hw, cl, ll, rfl, rfl⟩)) (r41 hc he cl cg vg (hw2.bd he) bl)) (de_v 2) (sh_dl g) (sh_dl e)) ?_))))
  rw [eqv_dl]
  refine congrArg PyData.bool ?_
  rw [Bool.eq_iff_iff, hb, decide_eq_true_eq]
  refine Iff.trans ?_ (LU.mof hc.grp ll).symm
  constructor
  · rintro rfl; exact vg.symm
  · intro q; exact can_uniq cg he (vg.trans q)
def R74 : List PyData → PyData → Prop := fun ds r => ∃ (c : Ck) (d e : DD) (b : Bool), CK c ∧ Can (nn c) d ∧ Can (nn c) e ∧ Wt 50 d ∧ Wt 50 e ∧ (b = true ↔ Mfc c (stc c (vl d)) (stc c (vl e))) ∧ ds = [ckD c, dlD d, dlD e] ∧ r = .bool b
theorem w74 (F : FF K mg "is_made_right" "is_made_right" 74) (h70 : Cb false P w K mg base 5 "need_deals" 3 R29) (h66 : Cb false P w K mg base 8 "right_unit" 2 R66) (h41 : Cb false P w K mg base 6 "dealt" 3 R41) : Cb false P w K mg base 9 "is_made_right" 3 R74 := by
  refine cb_calm F sc74 rfl bn74 fun f cd A outer s H ds r rm hR hn => ?_
  obtain ⟨c, d, e, b, hc, hd, he, hw, hw2, hb, rfl, rfl⟩ := hR
  have G := hc.grp
  obtain ⟨m, cm, vm⟩ := ex46 hc hd
  obtain ⟨_, _, _, l, _, _, _, _, _, _, _, _, cl, ll, bl⟩ := lu_ok hc cm (mir_wt hc hd hw cm vm)
  rw [vm] at ll
  obtain ⟨g, cg, vg⟩ := ex41 hc cl he
  refine .inl (dss_cons (ds_expr (de_call (h70.cal rm) (da_3 (de_v 0) (de_v 1) (de_v 2)) ⟨c, d, e, hc, hd, he, rfl, rfl⟩)) (dss_one (ds_ret (dec (de_eqD rm.units (de_call (h41.cal rm) (da_3 (de_v 0) (de_call (h66.cal rm) (da_2 (de_v 0) (de_v 1)) ⟨c, d, l, hc, hd, hw, cl, ll, rfl, rfl⟩) (de_v 2)) (r41 hc cl he cg vg bl (hw2.bd he))) (de_v 2) (sh_dl g) (sh_dl e)) ?_))))
  rw [eqv_dl]
  refine congrArg PyData.bool ?_
  rw [Bool.eq_iff_iff, hb, decide_eq_true_eq]
  refine Iff.trans ?_ (LU.mof G ll).symm
  have flip : cvc c (stc c (vl e)) (vl l) = stc c (vl e) ↔ cvc c (vl l) (vl e) = vl e := by
    constructor
    · intro q
      have := congrArg (stc c) q
      have q2 : stc c (cvc c (stc c (vl e)) (vl l)) = cvc c (stc c (vl l)) (stc c (stc c (vl e))) := MA.st_cv G _ _
      have q3 : stc c (stc c (vl e)) = vl e := MA.st_st G _ he.sup
      have q4 : stc c (vl l) = vl l := ll.c
      rw [q2, q3, q4] at this
      exact this
    · intro q
      have := congrArg (stc c) q
      have q2 : stc c (cvc c (vl l) (vl e)) = cvc c (stc c (vl e)) (stc c (vl l)) := MA.st_cv G _ _
      have q4 : stc c (vl l) = vl l := ll.c
      rw [q2, q4] at this
      exact this
  refine Iff.trans ?_ flip.symm
  constructor
  · rintro rfl; exact vg.symm
  · intro q; exact can_uniq cg he (vg.trans q)
/-- made_left where it can be made -/
def R75 : List PyData → PyData → Prop := fun ds r => ∃ (c : Ck) (d e t : DD) (q : Vc), CK c ∧ Can (nn c) d ∧ Can (nn c) e ∧ Can (nn c) t ∧ Wt 26 d ∧ Wt 26 e ∧ Mfc c (vl d) (vl e) ∧ MPc c (vl d) q ∧ vl t = cvc c (vl e) q ∧ ds = [ckD c, dlD d, dlD e] ∧ r = dlD t
theorem w75 (F : FF K mg "made_left" "made_left" 75) (h70 : Cb false P w K mg base 5 "need_deals" 3 R29) (h64 : Cb false P w K mg base 7 "recall_made" 2 R64) (h41 : Cb false P w K mg base 6 "dealt" 3 R41) : Cb false P w K mg base 8 "made_left" 3 R75 := by
  refine cb_calm F sc75 rfl bn75 fun f cd A outer s H ds r rm hR hn => ?_
  obtain ⟨c, d, e, t, q, hc, hd, he, ht, hw, hw2, hmf, hmp, vt, rfl, rfl⟩ := hR
  have G := hc.grp
  obtain ⟨_, _, _, _, _, o, _, _, _, _, _, _, _, _, _, _, _, _, co, mo, bo⟩ := recall_ok hc hd hw
  have eq : q = vl o := MP.uniq G hmp mo
  subst eq
  obtain ⟨lf, cl, vlf⟩ := ex41 hc co hd
  have bl : Bd 3331 (vl lf) := by rw [vlf]; exact bo.cv (by have := hc.bd; omega) (hw.bd hd)
  have lu : LUc c (vl d) (vl lf) := by rw [vlf]; exact mo.lu G
  have el : vl e = cvc c (vl e) (vl lf) := ((LU.mof G lu).mp hmf).symm
  refine .inl (dss_cons (ds_expr (de_call (h70.cal rm) (da_3 (de_v 0) (de_v 1) (de_v 2)) ⟨c, d, e, hc, hd, he, rfl, rfl⟩)) ?_)
  refine dss_cons (ds_set 3 sc75.nd (de_call (h64.cal rm) (da_2 (de_v 0) (de_v 1)) ⟨c, d, o, hc, hd, hw, co, mo, rfl, rfl⟩)) ?_
  refine dss_cons (ds_set 4 sc75.nd (de_call (h41.cal rm) (da_3 (de_v 0) (de_v 3) (de_v 1)) (r41 hc co hd cl vlf bo (hw.bd hd)))) ?_
  refine dss_cons (ds_ifF (dtc (dt_neD rm.units (de_call (h41.cal rm) (da_3 (de_v 0) (de_v 2) (de_v 4)) (r41 hc he cl he el (hw2.bd he) bl)) (de_v 2) (sh_dl e) (sh_dl e)) (by rw [eqv_dl, decide_eq_true rfl]; rfl)) dss_nil) ?_
  exact dss_one (ds_ret (de_call (h41.cal rm) (da_3 (de_v 0) (de_v 2) (de_v 3)) (r41 hc he co ht vt (hw2.bd he) bo)))
/-- made_right where it can be made -/
def R76 : List PyData → PyData → Prop := fun ds r => ∃ (c : Ck) (d e t : DD) (q : Vc), CK c ∧ Can (nn c) d ∧ Can (nn c) e ∧ Can (nn c) t ∧ Wt 26 d ∧ Wt 26 e ∧ Mfc c (stc c (vl d)) (stc c (vl e)) ∧ MPc c (vl d) q ∧ vl t = cvc c q (vl e) ∧ ds = [ckD c, dlD d, dlD e] ∧ r = dlD t
theorem mp_right {c : Ck} (hc : CK c) {s q : Vc} (hs : Sup (nn c) s) (h : MPc c s q) : LUc c (stc c s) (cvc c s q) := by
  have G := hc.grp
  have m := h.star G hs
  have := m.lu G
  have e : MA.cv (nn c) (mN c) (ivN c) (MA.st (nn c) (ivN c) q) (MA.st (nn c) (ivN c) s) = cvc c s q := by
    rw [← MA.st_cv G]; exact h.c
  rw [e] at this
  exact this
theorem w76 (F : FF K mg "made_right" "made_right" 76) (h70 : Cb false P w K mg base 5 "need_deals" 3 R29) (h64 : Cb false P w K mg base 7 "recall_made" 2 R64) (h41 : Cb false P w K mg base 6 "dealt" 3 R41) : Cb false P w K mg base 8 "made_right" 3 R76 := by
  refine cb_calm F sc76 rfl bn76 fun f cd A outer s H ds r rm hR hn => ?_
  obtain ⟨c, d, e, t, q, hc, hd, he, ht, hw, hw2, hmf, hmp, vt, rfl, rfl⟩ := hR
  have G := hc.grp
  obtain ⟨_, _, _, _, _, o, _, _, _, _, _, _, _, _, _, _, _, _, co, mo, bo⟩ := recall_ok hc hd hw
  have eq : q = vl o := MP.uniq G hmp mo
  subst eq
  obtain ⟨lf, cl, vlf⟩ := ex41 hc hd co
  have bl : Bd 3331 (vl lf) := by rw [vlf]; exact ((hw.bd hd).cv (by have := hc.bd; omega) bo).mono (by omega)
  have lu : LUc c (stc c (vl d)) (vl lf) := by rw [vlf]; exact mp_right hc hd.sup mo
  have el : vl e = cvc c (vl lf) (vl e) := by
    have := congrArg (stc c) ((LU.mof G lu).mp hmf)
    have q2 : stc c (cvc c (stc c (vl e)) (vl lf)) = cvc c (stc c (vl lf)) (stc c (stc c (vl e))) := MA.st_cv G _ _
    have q3 : stc c (stc c (vl e)) = vl e := MA.st_st G _ he.sup
    have q4 : stc c (vl lf) = vl lf := lu.c
    have q5 : stc c (cvc c (stc c (vl e)) (vl lf)) = stc c (stc c (vl e)) := this
    rw [q2, q3, q4] at q5
    exact q5.symm
  refine .inl (dss_cons (ds_expr (de_call (h70.cal rm) (da_3 (de_v 0) (de_v 1) (de_v 2)) ⟨c, d, e, hc, hd, he, rfl, rfl⟩)) ?_)
  refine dss_cons (ds_set 3 sc76.nd (de_call (h64.cal rm) (da_2 (de_v 0) (de_v 1)) ⟨c, d, o, hc, hd, hw, co, mo, rfl, rfl⟩)) ?_
  refine dss_cons (ds_set 4 sc76.nd (de_call (h41.cal rm) (da_3 (de_v 0) (de_v 1) (de_v 3)) (r41 hc hd co cl vlf (hw.bd hd) bo))) ?_
  refine dss_cons (ds_ifF (dtc (dt_neD rm.units (de_call (h41.cal rm) (da_3 (de_v 0) (de_v 4) (de_v 2)) (r41 hc cl he he el bl (hw2.bd he))) (de_v 2) (sh_dl e) (sh_dl e)) (by rw [eqv_dl, decide_eq_true rfl]; rfl)) dss_nil) ?_
  exact dss_one (ds_ret (de_call (h41.cal rm) (da_3 (de_v 0) (de_v 3) (de_v 2)) (r41 hc co he ht vt bo (hw2.bd he))))
/-! ### sides -/
theorem w86 (F : FF K mg "left_side" "left_side" 86) (h68 : Cb false P w K mg base 4 "need_deal_e_wants" 3 R28) (h65 : Cb false P w K mg base 7 "left_unit" 2 R65) : Cb false P w K mg base 8 "left_side" 2 R65 := by
  refine cb_calm F sc86 rfl bn86 fun f cd A outer s H ds r rm hR hn => ?_
  obtain ⟨c, d, o, hc, hd, hw, ho, hm, rfl, rfl⟩ := hR
  exact .inl (dss_cons (ds_expr (de_call (h68.cal rm) (da_3 (de_v 0) (de_v 1) de_str) ⟨c, d, _, hc, hd, rfl, rfl⟩)) (dss_one (ds_ret (de_call (h65.cal rm) (da_2 (de_v 0) (de_v 1)) ⟨c, d, o, hc, hd, hw, ho, hm, rfl, rfl⟩))))
theorem w87 (F : FF K mg "right_side" "right_side" 87) (h68 : Cb false P w K mg base 4 "need_deal_e_wants" 3 R28) (h66 : Cb false P w K mg base 8 "right_unit" 2 R66) : Cb false P w K mg base 9 "right_side" 2 R66 := by
  refine cb_calm F sc87 rfl bn87 fun f cd A outer s H ds r rm hR hn => ?_
  obtain ⟨c, d, o, hc, hd, hw, ho, hm, rfl, rfl⟩ := hR
  exact .inl (dss_cons (ds_expr (de_call (h68.cal rm) (da_3 (de_v 0) (de_v 1) de_str) ⟨c, d, _, hc, hd, rfl, rfl⟩)) (dss_one (ds_ret (de_call (h66.cal rm) (da_2 (de_v 0) (de_v 1)) ⟨c, d, o, hc, hd, hw, ho, hm, rfl, rfl⟩))))
/-! ### less even -/
theorem w78 (F : FF K mg "quotient_of" "quotient_of" 78) (h9 : Cb false P w K mg base 1 "usable" 2 R9) (h10 : Cb false P w K mg base 1 "whole" 1 (Rint1 fun _ => .bool true)) (h12 : Cb false P w K mg base 1 "lowest" 2 R12) : Cb false P w K mg base 2 "quotient_of" 2 R12 := by
  refine cb_calm F sc78 rfl bn78 fun f cd A outer s H ds r rm hR hn => ?_
  obtain ⟨a, b, rfl, hb, h1, rfl⟩ := hR
  refine .inl (dss_cons (ds_expr (de_call (h9.cal rm) (da_2 (de_call (h10.cal rm) (da_1 (de_v 0)) ⟨_, rfl, rfl⟩) de_str) ⟨_, rfl, rfl⟩)) (dss_cons (ds_expr (de_call (h9.cal rm) (da_2 (de_andT (de_call (h10.cal rm) (da_1 (de_v 1)) ⟨_, rfl, rfl⟩) (de_one (dec (de_ne (de_v 1) de_int) ?_))) de_str) ⟨_, rfl, rfl⟩)) (dss_one (ds_ret (de_call (h12.cal rm) (da_2 (de_v 0) (de_v 1)) ⟨a, b, rfl, hb, h1, rfl⟩)))))
  rw [decide_eq_false hb]; rfl
def R80 : List PyData → PyData → Prop := fun ds r => ∃ (c : Ck) (d : DD), CK c ∧ Can (nn c) d ∧ Wt 26 d ∧ ds = [ckD c, dlD d] ∧ r = .tuple [.int (d.2.sum.fdiv (sg d.1 (Nat.gcd d.2.sum.natAbs d.1.natAbs))), .int (d.1.fdiv (sg d.1 (Nat.gcd d.2.sum.natAbs d.1.natAbs)))]
theorem w80 (hS : mg "sum" = none) (F : FF K mg "total_of" "total_of" 80) (h28 : Cb false P w K mg base 4 "want_deal" 3 R28) (h78 : Cb false P w K mg base 2 "quotient_of" 2 R12) (hT : mg "tuple" = none) : Cb false P w K mg base 5 "total_of" 2 R80 := by
  refine cb_calm F sc80 rfl bn80 fun f cd A outer s H ds r rm hR hn => ?_
  obtain ⟨c, d, hc, hd, hw, rfl, rfl⟩ := hR
  have p1 := hd.pos
  exact .inl (dss_cons (ds_expr (de_call (h28.cal rm) (da_3 (de_v 0) (de_v 1) de_str) ⟨c, d, _, hc, hd, rfl, rfl⟩)) (dss_one (ds_ret (de_call (h78.cal rm) (da_2 (de_sumT rfl hS (de_ixT (de_v 1) de_int rfl)) (de_ixT (de_v 1) de_int rfl)) ⟨d.2.sum, d.1, rfl, by omega, lt9k hw.1 (by omega), rfl⟩))))
end
end EL
end
section
set_option maxHeartbeats 1000000
namespace EL
open PySem PySem.Spec PyProof.Rows L2 DL
open MA (Vc Sup one sub scl sm)
open MB (ZB zr)
open MD (MP LU Mof)
def evn (n : Nat) (a : Vc) : Vc := fun i => if i < n then sm n a / (n : Rat) else 0
def lsV (c : Ck) (a : Vc) : Vc := sub a (evn (nn c) a)
theorem sum_sm {n : Nat} {l : Row} (h : l.length = n) : ((l.sum : Int) : Rat) = sm n (rv l) := by
  have e : l = ofF n fun i => gt l i := by
    have := ofF_getD (l := l) (d := (0 : Int))
    rw [h] at this
    exact this
  conv => lhs; rw [e]
  rw [sm_cast]; rfl
theorem sum_le {l : Row} {M : Nat} (h : ∀ x, x ∈ l → x.natAbs ≤ M) : l.sum.natAbs ≤ l.length * M := by
  induction l with
  | nil => exact Nat.zero_le _
  | cons x l ih =>
    have h1 := h x List.mem_cons_self
    have h2 := ih fun y hy => h y (List.mem_cons_of_mem _ hy)
    rw [List.sum_cons, List.length_cons, Nat.succ_mul]
    omega
section
variable {c : Ck} (hc : CK c) {d : DD}
include hc
theorem nnc : ((nn c : Nat) : Rat) ≠ 0 := by
  have := hc.bd
  have h : ((nn c : Nat) : Int) ≠ 0 := by omega
  exact cne h
theorem ev_at (hd : Can (nn c) d) {i : Nat} (hi : i < nn c) : evn (nn c) (vl d) i * (((d.1 : Int) : Rat) * ((nn c : Nat) : Rat)) = ((d.2.sum : Int) : Rat) := by
  have p1 := hd.pos
  have d0 := cne (show d.1 ≠ 0 by omega)
  have e1 : sm (nn c) (vl d) = ((d.2.sum : Int) : Rat) * ((d.1 : Int) : Rat)⁻¹ := by
    rw [sum_sm hd.len, ← MA.sm_mulr]
    exact MA.sm_congr fun j _ => vl_eq hc d j
  show (if i < nn c then _ else _) * _ = _
  rw [if_pos hi, e1, Rat.div_def]
  have i1 := Rat.inv_mul_cancel _ d0
  have i2 := Rat.inv_mul_cancel _ (nnc hc)
  grind
theorem ev_can (hd : Can (nn c) d) : let g : Int := sg d.1 (Nat.gcd d.2.sum.natAbs d.1.natAbs : Nat)
    1 ≤ d.1.fdiv g ∧ Nat.gcd (d.2.sum.fdiv g).natAbs (d.1.fdiv g).natAbs = 1 ∧ Can (nn c) (settleF (d.1.fdiv g * nn c, ofF (nn c) fun _ => d.2.sum.fdiv g)) ∧ vl (settleF (d.1.fdiv g * nn c, ofF (nn c) fun _ => d.2.sum.fdiv g)) = evn (nn c) (vl d) := by
  intro g
  have cb := hc.bd
  have p1 := hd.pos
  have gp : 0 < Nat.gcd d.2.sum.natAbs d.1.natAbs := Nat.gcd_pos_of_pos_right _ (by omega)
  have eg : g = (Nat.gcd d.2.sum.natAbs d.1.natAbs : Nat) := if_neg (by omega)
  have dv1 : g ∣ d.2.sum := by rw [eg]; exact Int.natAbs_dvd_natAbs.mp (by rw [Int.natAbs_natCast]; exact Nat.gcd_dvd_left _ _)
  have dv2 : g ∣ d.1 := by rw [eg]; exact Int.natAbs_dvd_natAbs.mp (by rw [Int.natAbs_natCast]; exact Nat.gcd_dvd_right _ _)
  have f1 := fdiv_exact dv1
  have f2 := fdiv_exact dv2
  have g0 : 0 < g := by omega
  have q1 : 1 ≤ d.1.fdiv g := by
    refine Classical.byContradiction fun no => ?_
    have : d.1.fdiv g * g ≤ 0 := Int.mul_nonpos_of_nonpos_of_nonneg (by omega) (by omega)
    omega
  have n0 : d.1.fdiv g * (nn c : Nat) ≠ 0 := Int.mul_ne_zero (by omega) (by omega)
  obtain ⟨k1, k2⟩ := settle_can (n := nn c) (l := ofF (nn c) fun _ => d.2.sum.fdiv g) n0 ofF_length
  refine ⟨q1, ?_, k1, k2.trans (funext fun i => ?_)⟩
  · have e : Nat.gcd (d.2.sum.fdiv g * g).natAbs (d.1.fdiv g * g).natAbs = Nat.gcd (d.2.sum.fdiv g).natAbs (d.1.fdiv g).natAbs * g.natAbs := by
      rw [Int.natAbs_mul, Int.natAbs_mul, Nat.gcd_mul_right]
    rw [f1, f2] at e
    have e2 : g.natAbs = Nat.gcd d.2.sum.natAbs d.1.natAbs := by rw [eg, Int.natAbs_natCast]
    rw [← e2] at e
    have : 0 < g.natAbs := by omega
    exact Nat.eq_of_mul_eq_mul_right this (by rw [Nat.one_mul]; exact e.symm)
  · rw [gt_ofF, div_eq (cne n0)]
    by_cases hi : i < nn c
    · rw [if_pos hi]
      have h := ev_at hc hd hi
      have gc := cne (show g ≠ 0 by omega)
      rw [← f1, ← f2, Rat.intCast_mul, Rat.intCast_mul] at h
      rw [Rat.intCast_mul]
      have e3 : (((nn c : Nat) : Int) : Rat) = ((nn c : Nat) : Rat) := rfl
      rw [e3]
      have i1 := Rat.inv_mul_cancel _ gc
      grind
    · rw [if_neg hi]
      have : evn (nn c) (vl d) i = 0 := if_neg hi
      rw [this, Rat.zero_mul]; rfl
theorem ev_bd (hd : Can (nn c) d) (hw : Wt 26 d) : Bd 31 (evn (nn c) (vl d)) ∧ Bd 32 (lsV c (vl d)) := by
  have cb := hc.bd
  have p1 := hd.pos
  have d0 := cne (show d.1 ≠ 0 by omega)
  have s1 := sum_le hw.2
  rw [hd.len] at s1
  have n0 : d.1 * (nn c : Nat) ≠ 0 := Int.mul_ne_zero (by omega) (by omega)
  have b1 : (d.1 * (nn c : Nat)).natAbs ≤ 2 ^ 31 := by
    rw [Int.natAbs_mul, Int.natAbs_natCast]
    have := Nat.mul_le_mul hw.1 (show nn c ≤ 32 by omega)
    exact Nat.le_trans this (by decide)
  have s2 : d.2.sum.natAbs ≤ 2 ^ 31 := Nat.le_trans s1 (Nat.le_trans (Nat.mul_le_mul_right _ (show nn c ≤ 32 by omega)) (by decide))
  have e3 : (((nn c : Nat) : Int) : Rat) = ((nn c : Nat) : Rat) := rfl
  refine ⟨⟨_, n0, b1, fun i => ?_⟩, ⟨_, n0, Nat.le_trans b1 (by decide), fun i => ?_⟩⟩
  · by_cases hi : i < nn c
    · refine ⟨d.2.sum, ?_, s2⟩
      rw [← ev_at hc hd hi, Rat.intCast_mul, e3]; grind
    · refine ⟨0, ?_, Nat.zero_le _⟩
      have : evn (nn c) (vl d) i = 0 := if_neg hi
      rw [this, Rat.mul_zero]; rfl
  · by_cases hi : i < nn c
    · refine ⟨(nn c : Nat) * gt d.2 i - d.2.sum, ?_, ?_⟩
      · show _ * (vl d i - evn (nn c) (vl d) i) = _
        rw [Rat.intCast_sub, ← ev_at hc hd hi, Rat.intCast_mul, Rat.intCast_mul, e3, vl_eq hc]
        have i1 := Rat.inv_mul_cancel _ d0
        grind
      · have h1 : ((nn c : Nat) * gt d.2 i : Int).natAbs ≤ 2 ^ 31 := by
          rw [Int.natAbs_mul, Int.natAbs_natCast]
          exact Nat.le_trans (Nat.mul_le_mul (show nn c ≤ 32 by omega) (hw.2 _ (gt_mem (by rw [hd.len]; exact hi)))) (by decide)
        have : (2 : Nat) ^ 32 = 2 ^ 31 + 2 ^ 31 := by decide
        omega
    · refine ⟨0, ?_, Nat.zero_le _⟩
      show _ * (vl d i - evn (nn c) (vl d) i) = _
      have h1 : evn (nn c) (vl d) i = 0 := if_neg hi
      rw [h1, hd.sup i (by omega)]
      show _ * ((0 : Rat) - 0) = ((0 : Int) : Rat)
      rw [show (0 : Rat) - 0 = 0 by grind, Rat.mul_zero]; rfl
end
section
variable {P : Program} {w : World} {K : PySem.W.Frag} {mg : Str → Option Value} {base : Heap} (B : Bi mg)
def R84 : List PyData → PyData → Prop := fun ds r => ∃ (c : Ck) (d f : DD), CK c ∧ Can (nn c) d ∧ Wt 26 d ∧ Can (nn c) f ∧ vl f = lsV c (vl d) ∧ ds = [ckD c, dlD d] ∧ r = dlD f
theorem w84 (F : FF K mg "without_even" "without_even" 84) (h43 : Cb false P w K mg base 6 "taken" 3 R43) (h39 : Cb false P w K mg base 4 "even_deal" 2 R39) (h80 : Cb false P w K mg base 5 "total_of" 2 R80) : Cb false P w K mg base 7 "without_even" 2 R84 := by
  refine cb_calm F sc84 rfl bn84 fun f cd A outer s H ds r rm hR hn => ?_
  obtain ⟨c, d, o, hc, hd, hw, ho, vo, rfl, rfl⟩ := hR
  obtain ⟨q1, q2, q3, q4⟩ := ev_can hc hd
  obtain ⟨b1, b2⟩ := ev_bd hc hd hw
  refine .inl (dss_one (ds_ret (de_call (h43.cal rm) (da_3 (de_v 0) (de_v 1) (de_call (h39.cal rm) (da_2 (de_v 0) (de_call (h80.cal rm) (da_2 (de_v 0) (de_v 1)) ⟨c, d, hc, hd, hw, rfl, rfl⟩)) ⟨c, _, _, hc, q1, q2, ?_, rfl, rfl⟩)) (r43 hc hd q3 ho (vo.trans (by rw [q4]; rfl)) (hw.bd hd) (by rw [q4]; exact b1)))))
  exact Nat.lt_of_le_of_lt (Nat.le_trans (natAbs_fdiv_le _ _) hw.1) (Nat.pow_lt_pow_right (by omega) (by omega))
def R89 : List PyData → PyData → Prop := fun ds r => ∃ (c : Ck) (d f : DD) (l : Vc), CK c ∧ Can (nn c) d ∧ Wt 26 d ∧ LUc c (lsV c (vl d)) l ∧ Can (nn c) f ∧ vl f = sub one l ∧ ds = [ckD c, dlD d] ∧ r = dlD f
theorem w89 (F : FF K mg "evener_right" "evener_right" 89) (h82 : Cb false P w K mg base 4 "need_deal_f_told" 3 R82) (h84 : Cb false P w K mg base 7 "without_even" 2 R84) (h43 : Cb false P w K mg base 6 "taken" 3 R43) (h38 : Cb false P w K mg base 3 "idle_deal" 1 (Rck fun c => dlD (idF (nn c)))) (h86 : Cb false P w K mg base 8 "left_side" 2 R65) : Cb false P w K mg base 9 "evener_right" 2 R89 := by
  refine cb_calm F sc89 rfl bn89 fun f cd A outer s H ds r rm hR hn => ?_
  obtain ⟨c, d, o, l, hc, hd, hw, hl, ho, vo, rfl, rfl⟩ := hR
  obtain ⟨q1, q2, q3, q4⟩ := ev_can hc hd
  obtain ⟨b1, b2⟩ := ev_bd hc hd hw
  obtain ⟨rs, cr, vr⟩ := ex43 hc hd q3
  rw [q4] at vr
  have vr' : vl rs = lsV c (vl d) := vr
  have wr : Wt 50 rs := by
    have : Bd 50 (vl rs) := by rw [vr']; exact b2.mono (by omega)
    exact this.can cr
  obtain ⟨_, _, _, lo, _, _, _, _, _, _, _, _, cl, ll, bl⟩ := lu_ok hc cr wr
  have el : l = vl lo := LU.uniq hc.grp hl (by rw [← vr']; exact ll)
  subst el
  obtain ⟨ci, vi⟩ := id_can hc
  refine .inl (dss_cons (ds_expr (de_call (h82.cal rm) (da_3 (de_v 0) de_str (de_v 1)) ⟨c, d, _, hc, hd, rfl, rfl⟩)) ?_)
  refine dss_cons (ds_set 2 sc89.nd (de_call (h84.cal rm) (da_2 (de_v 0) (de_v 1)) ⟨c, d, rs, hc, hd, hw, cr, vr', rfl, rfl⟩)) ?_
  exact dss_one (ds_ret (de_call (h43.cal rm) (da_3 (de_v 0) (de_call (h38.cal rm) (da_1 (de_v 0)) ⟨c, hc, rfl, rfl⟩) (de_call (h86.cal rm) (da_2 (de_v 0) (de_v 2)) ⟨c, rs, lo, hc, cr, wr, cl, ll, rfl, rfl⟩)) (r43 hc ci cl ho (by rw [vi]; exact vo) (by rw [vi]; exact bd_one (k := 0)) bl)))
/-! ### papers -/
include B in
theorem w71 (F : FF K mg "need_side" "need_side" 71) : Cb false P w K mg base 1 "need_side" 1 (fun ds r => ds = [.str "left"] ∧ r = .none) := by
  refine cb_calm F sc71 rfl bn71 fun f cd A outer s H ds r rm hR hn => ?_
  obtain ⟨rfl, rfl⟩ := hR
  exact .inr ⟨rfl, _, dss_one (ds_ifF (dtc (DW.dt (dw_orF (dtc (dt_not (DE.dt (de_isSS B (de_v 0))))) (dw_or1 (x := false) (dtc (dt_notIn (z := "left") (zs := ["left", "right"]) (de_v 0) (de_tup2 de_str de_str) rfl) (by decide))))) rfl) dss_nil)⟩
def R91 : List PyData → PyData → Prop := fun ds r => ∃ (c : Ck) (d e f : DD) (j k : Nat), CK c ∧ Can (nn c) d ∧ Can (nn c) e ∧ Can (nn c) f ∧ vl f = cvc c (vl d) (vl e) ∧ Bd j (vl d) ∧ Bd k (vl e) ∧ j ≤ 3999 ∧ k ≤ 3999 ∧ ds = [ckD c, .str "left", dlD d, dlD e] ∧ r = dlD f
theorem w91 (F : FF K mg "beside" "beside" 91) (h41 : Cb false P w K mg base 6 "dealt" 3 R41) : Cb false P w K mg base 7 "beside" 4 R91 := by
  refine cb_calm F sc91 rfl bn91 fun f cd A outer s H ds r rm hR hn => ?_
  obtain ⟨c, d, e, o, j, k, hc, hd, he, ho, vo, bd, be, hj, hk, rfl, rfl⟩ := hR
  exact .inl (dss_ret (ds_ifT (dtc (dt_eqS (de_v 1) de_str) (decide_eq_true rfl)) (dss_one (ds_ret (de_call (h41.cal rm) (da_3 (de_v 0) (de_v 2) (de_v 3)) (r41 hc hd he ho vo bd be hj hk))))))
def R92 : List PyData → PyData → Prop := fun ds r => ∃ (c : Ck) (d e u : DD) (q : Vc), CK c ∧ Can (nn c) d ∧ Can (nn c) e ∧ Can (nn c) u ∧ Wt 26 d ∧ Wt 26 e ∧ ¬ Mfc c (vl d) (vl e) ∧ LUc c (vl d) q ∧ vl u = sub one q ∧ ds = [ckD c, .str "left", dlD d, dlD e] ∧ r = .tuple [.str "apart", dlD u]
def da4 := @w60.da_4
theorem w92 (F : FF K mg "made_paper" "made_paper" 92) (h71 : Cb false P w K mg base 1 "need_side" 1 (fun ds r => ds = [.str "left"] ∧ r = .none)) (h70 : Cb false P w K mg base 5 "need_deals" 3 R29) (h64 : Cb false P w K mg base 7 "recall_made" 2 R64) (h91 : Cb false P w K mg base 7 "beside" 4 R91) (h43 : Cb false P w K mg base 6 "taken" 3 R43) (h38 : Cb false P w K mg base 3 "idle_deal" 1 (Rck fun c => dlD (idF (nn c)))) : Cb false P w K mg base 8 "made_paper" 4 R92 := by
  refine cb_calm F sc92 rfl bn92 fun f cd A outer s H ds r rm hR hn => ?_
  obtain ⟨c, d, e, u, q, hc, hd, he, hu, hw, hw2, hno, hq, vu, rfl, rfl⟩ := hR
  have G := hc.grp
  have cb := hc.bd
  obtain ⟨_, _, _, _, _, o, _, _, _, _, _, _, _, _, _, _, _, _, co, mo, bo⟩ := recall_ok hc hd hw
  obtain ⟨lf, cl, vlf⟩ := ex41 hc co hd
  have bl : Bd 3331 (vl lf) := by rw [vlf]; exact bo.cv (by omega) (hw.bd hd)
  have lu : LUc c (vl d) (vl lf) := by rw [vlf]; exact mo.lu G
  have eq : q = vl lf := LU.uniq G hq lu
  subst eq
  obtain ⟨g, cg, vg⟩ := ex41 hc he cl
  obtain ⟨ci, vi⟩ := id_can hc
  have ne : g ≠ e := fun z => hno ((LU.mof G lu).mpr (by rw [z] at vg; exact vg.symm))
  refine .inl (dss_cons (ds_expr (de_call (h71.cal rm) (da_1 (de_v 1)) ⟨rfl, rfl⟩)) ?_)
  refine dss_cons (ds_expr (de_call (h70.cal rm) (da_3 (de_v 0) (de_v 2) (de_v 3)) ⟨c, d, e, hc, hd, he, rfl, rfl⟩)) ?_
  refine dss_cons (ds_set 4 sc92.nd (de_call (h64.cal rm) (da_2 (de_v 0) (de_v 2)) ⟨c, d, o, hc, hd, hw, co, mo, rfl, rfl⟩)) ?_
  refine dss_cons (ds_set 5 sc92.nd (de_call (h91.cal rm) (w60.da_4 (de_v 0) (de_v 1) (de_v 4) (de_v 2)) ⟨c, o, d, lf, _, _, hc, co, hd, cl, vlf, bo, hw.bd hd, by omega, by omega, rfl, rfl⟩)) ?_
  refine dss_cons (ds_ifF (dtc (dt_eqD rm.units (de_call (h91.cal rm) (w60.da_4 (de_v 0) (de_v 1) (de_v 3) (de_v 5)) ⟨c, e, lf, g, _, _, hc, he, cl, cg, vg, hw2.bd he, bl, by omega, by omega, rfl, rfl⟩) (de_v 3) (sh_dl g) (sh_dl e)) (by rw [eqv_dl]; exact decide_eq_false ne)) dss_nil) ?_
  exact dss_one (ds_ret (de_tup2 de_str (de_call (h43.cal rm) (da_3 (de_v 0) (de_call (h38.cal rm) (da_1 (de_v 0)) ⟨c, hc, rfl, rfl⟩) (de_v 5)) (r43 hc ci cl hu (by rw [vi]; exact vu) (by rw [vi]; exact bd_one (k := 0)) bl))))
def allZ (l : Row) : Bool := !(l.map fun x => !decide (x = 0)).any id
theorem allZ_iff {l : Row} : allZ l = true ↔ ∀ i, gt l i = 0 := by
  unfold allZ
  rw [List.any_map, Bool.not_eq_true', List.any_eq_false]
  constructor
  · intro h i
    by_cases hi : i < l.length
    · have := h _ (gt_mem hi)
      simpa using this
    · exact gt_ge (by omega)
  · intro h x hx
    obtain ⟨i, _, rfl⟩ := mem_gt hx
    simp [h i]
def R93 : List PyData → PyData → Prop := fun ds r => ∃ (d : DD), d.2.length ≤ 100 ∧ ds = [dlD d] ∧ r = .bool (allZ d.2)
include B in
theorem w93 (F : FF K mg "is_zero" "is_zero" 93) : Cb false P w K mg base 1 "is_zero" 1 R93 := by
  refine cb_calm F sc93 rfl bn93 fun f cd A outer s H ds r rm hR hn => ?_
  obtain ⟨d, hl, rfl, rfl⟩ := hR
  refine .inl (dss_one (ds_ret (dec (de_not (de_any (ns := d.2.map fun x => !decide (x = 0)) rfl B.any (DN.dr (w50.dec2 (dn_lc (own := [("weight", 1)]) d.2 PyData.int (fun x => .bool (!decide (x = 0))) cmF sc93.nd (sml (by omega)) bk (di_tup (de_ixT (de_v 0) de_int rfl)) fun x hx => ⟨_, _, fun j hj => hj, fun s H C cl fp => ⟨dg_name 1 sc93.nd, de_ne (de_v 1) de_int⟩⟩) ?_)))))))
  rw [List.map_map]; rfl
def R94 : List PyData → PyData → Prop := fun ds r => ∃ (c : Ck) (d : DD) (z : Str), CK c ∧ Can (nn c) d ∧ (z = "made" ∨ z = "apart") ∧ ds = [ckD c, .tuple [.str z, dlD d]] ∧ r = .bool true
include B in
theorem w94 (F : FF K mg "is_paper" "is_paper" 94) (h26 : Cb false P w K mg base 3 "is_deal" 2 R26) : Cb false P w K mg base 4 "is_paper" 2 R94 := by
  refine cb_calm F sc94 rfl bn94 fun f cd A outer s H ds r rm hR hn => ?_
  obtain ⟨c, d, z, hc, hd, hz, rfl, rfl⟩ := hR
  refine .inl ?_
  refine dss_cons (ds_ifF (dtc (DW.dt (dw_orF (dtc (dt_not (DE.dt (de_isTT B (de_v 1))))) (dw_or1 (dtc (dt_ne (de_lenT B.len (de_v 1)) de_int)))))) dss_nil) ?_
  refine dss_cons (ds_ifF (dtc (DW.dt (dw_orF (dtc (dt_not (DE.dt (de_isSS B (de_ixT (d := .str z) (de_v 1) de_int rfl))))) (dw_or1 (x := false) (dtc (dt_notIn (z := z) (zs := ["made", "apart"]) (de_ixT (de_v 1) de_int rfl) (de_tup2 de_str de_str) rfl) ?_)))) rfl) dss_nil) ?_
  · rcases hz with rfl | rfl <;> decide
  · exact dss_one (ds_ret (de_call (h26.cal rm) (da_2 (de_v 0) (de_ixT (de_v 1) de_int rfl)) ⟨c, d, hc, hd, rfl, rfl⟩))
def R95 : List PyData → PyData → Prop := fun ds r => ∃ (c : Ck) (d e t : DD) (k : Nat) (z : Str), CK c ∧ Can (nn c) d ∧ Can (nn c) e ∧ Can (nn c) t ∧ Wt 26 d ∧ Wt 26 e ∧ Bd k (vl t) ∧ k ≤ 3999 ∧
  ((z = "made" ∧ cvc c (vl t) (vl d) = vl e) ∨ (z = "apart" ∧ cvc c (vl d) (vl t) = zr ∧ cvc c (vl e) (vl t) ≠ zr)) ∧ ds = [ckD c, .str "left", dlD d, dlD e, .tuple [.str z, dlD t]] ∧ r = .str z
theorem allZ_vl {n : Nat} {d : DD} (hd : Can n d) : allZ d.2 = true ↔ vl d = zr := by
  have p1 := hd.pos
  have d0 := cne (show d.1 ≠ 0 by omega)
  rw [allZ_iff]
  constructor
  · intro h
    refine funext fun i => ?_
    show ((gt d.2 i : Int) : Rat) / _ = 0
    rw [h i, Rat.div_def, show ((0 : Int) : Rat) = 0 from rfl, Rat.zero_mul]
  · intro h i
    have := congrFun h i
    have e : ((gt d.2 i : Int) : Rat) / ((d.1 : Int) : Rat) = 0 := this
    rw [div_eq d0, Rat.zero_mul] at e
    exact Rat.intCast_eq_zero_iff.mp e
include B in
theorem w95 (F : FF K mg "lets_made" "lets_made" 95) (h71 : Cb false P w K mg base 1 "need_side" 1 (fun ds r => ds = [.str "left"] ∧ r = .none)) (h70 : Cb false P w K mg base 5 "need_deals" 3 R29) (h94 : Cb false P w K mg base 4 "is_paper" 2 R94) (h91 : Cb false P w K mg base 7 "beside" 4 R91) (h93 : Cb false P w K mg base 1 "is_zero" 1 R93) : Cb false P w K mg base 8 "lets_made" 5 R95 := by
  refine cb_calm F sc95 rfl bn95 fun f cd A outer s H ds r rm hR hn => ?_
  obtain ⟨c, d, e, t, k, z, hc, hd, he, ht, hw, hw2, bt, hk, hz, rfl, rfl⟩ := hR
  have cb := hc.bd
  refine .inl (dss_cons (ds_expr (de_call (h71.cal rm) (da_1 (de_v 1)) ⟨rfl, rfl⟩)) ?_)
  refine dss_cons (ds_expr (de_call (h70.cal rm) (da_3 (de_v 0) (de_v 2) (de_v 3)) ⟨c, d, e, hc, hd, he, rfl, rfl⟩)) ?_
  refine dss_cons (ds_ifF (dtc (dt_not (DE.dt (de_call (r := .bool true) (h94.cal rm) (da_2 (de_v 0) (de_v 4)) ⟨c, t, z, hc, ht, hz.imp (·.1) (·.1), rfl, rfl⟩)))) dss_nil) ?_
  refine dss_cons (ds_asg (de_v 4) (dg_tup2 (.inl rfl) (dg_name 5 sc95.nd) (dg_name 6 sc95.nd))) ?_
  rcases hz with ⟨rfl, h1⟩ | ⟨rfl, h1, h2⟩
  · refine dss_ret (ds_ifT (dtc (dt_eqS (de_v 5) de_str) (decide_eq_true rfl)) ?_)
    refine dss_cons (ds_ifF (dtc (dt_neD rm.units (de_call (h91.cal rm) (w60.da_4 (de_v 0) (de_v 1) (de_v 6) (de_v 2)) ⟨c, t, d, e, _, _, hc, ht, hd, he, h1.symm, bt, hw.bd hd, hk, by omega, rfl, rfl⟩) (de_v 3) (sh_dl e) (sh_dl e)) (by rw [eqv_dl, decide_eq_true rfl]; rfl)) dss_nil) (dss_one (ds_ret (de_v 5)))
  · obtain ⟨g1, c1, v1⟩ := ex41 hc hd ht
    obtain ⟨g2, c2, v2⟩ := ex41 hc he ht
    refine dss_cons (ds_ifF (dtc (dt_eqS (de_v 5) de_str) (decide_eq_false (by decide))) dss_nil) ?_
    refine dss_cons (ds_ifF (dtc (dt_not (DE.dt (de_call (h93.cal rm) (da_1 (de_call (h91.cal rm) (w60.da_4 (de_v 0) (de_v 1) (de_v 2) (de_v 6)) ⟨c, d, t, g1, _, _, hc, hd, ht, c1, v1, hw.bd hd, bt, by omega, hk, rfl, rfl⟩)) ⟨g1, by rw [c1.len]; omega, rfl, rfl⟩))) ?_) dss_nil) ?_
    · rw [(allZ_vl c1).mpr (v1.trans h1)]; rfl
    refine dss_cons (ds_ifF (dtc (DE.dt (de_call (h93.cal rm) (da_1 (de_call (h91.cal rm) (w60.da_4 (de_v 0) (de_v 1) (de_v 3) (de_v 6)) ⟨c, e, t, g2, _, _, hc, he, ht, c2, v2, hw2.bd he, bt, by omega, hk, rfl, rfl⟩)) ⟨g2, by rw [c2.len]; omega, rfl, rfl⟩)) ?_) dss_nil) (dss_one (ds_ret (de_v 5)))
    exact Bool.eq_false_iff.mpr fun q => h2 (v2.symm.trans ((allZ_vl c2).mp q))
end
end EL
end
section
set_option maxHeartbeats 1000000
namespace DL
open PySem PySem.Spec PyProof.Rows L2
theorem DE.drS {X : Cx} {G : Ev} {e : Expr} {ns : List Int} (h : DE X G e (scrD ns)) : DR X G e (ns.map .int) := by
  obtain ⟨te, p, q⟩ := h
  refine ⟨te, p, fun H0 σ H Q r k => q H0 σ H Q r fun v H' s r' => ?_⟩
  generalize hd : scrD ns = d at r'
  cases r' with
  | @scr a ms sc =>
    have e : ms = ns := by
      unfold scrD at hd
      have h1 := PyData.dict.inj hd
      have h2 := congrArg (List.map fun q => match q.1 with | .int i => i | _ => (0 : Int)) h1
      rw [List.map_map, List.map_map] at h2
      have e1 : ∀ l : List Int, l.map ((fun q : PyData × PyData => match q.1 with | .int i => i | _ => (0 : Int)) ∘ fun n => (.int n, .none)) = l := fun l => by
        conv => rhs; rw [← List.map_id l]
        exact List.map_congr_left fun _ _ => rfl
      rw [e1, e1] at h2
      exact h2.symm
    subst e
    refine k _ _ H' s sc.seq ?_
    induction ms with
    | nil => exact .nil
    | cons n l ih => exact .cons (.int n) (by
        clear ih q k sc hd
        induction l with
        | nil => exact .nil
        | cons m l ih => exact .cons (.int m) ih)
  | _ => cases hd
end DL
namespace EL
open PySem PySem.Spec PyProof.Rows L2 DL
section
variable {P : Program} {w : World} {K : PySem.W.Frag} {mg : Str → Option Value} {base : Heap} (B : Bi mg)
theorem cmM {X : Cx} (h : Mild X) : Md false X := h
/-! ### cells, rows -/
def cellF (ns : List Int) (k : Nat) : Int := if k < ns.length then gt ns k else if 0 < ns.length then gt ns (k % ns.length) * 6007 + k else 0
def R97 : List PyData → PyData → Prop := fun ds r => ∃ (ns : List Int) (k : Nat), ns.length ≤ 1000 ∧ ds = [scrD ns, iN k] ∧ r = .int (cellF ns k)
include B in
theorem w97 (F : FF K mg "_law_cell" "_law_cell" 97) : Cb false P w K mg base 1 "_law_cell" 2 R97 := by
  refine cb_calm F sc97 rfl bn97 fun f cd A outer s H ds r rm hR hn => ?_
  obtain ⟨ns, k, hl, rfl, rfl⟩ := hR
  refine .inl ?_
  have le : (ns.map PyData.int).length = ns.length := by simp
  unfold cellF
  by_cases h1 : k < ns.length
  · rw [if_pos h1]
    exact dss_ret (ds_ifT (dtc (dt_lt (de_v 1) (de_lenL B.len (DE.drS (de_v 0)))) (by rw [le]; exact decide_eq_true (by omega))) (dss_one (ds_ret (de_ixL (DE.drS (de_v 0)) (de_v 1) (il_at (getD_get h1))))))
  · rw [if_neg h1]
    refine dss_cons (ds_ifF (dtc (dt_lt (de_v 1) (de_lenL B.len (DE.drS (de_v 0)))) (by rw [le]; exact decide_eq_false (by omega))) dss_nil) ?_
    by_cases h2 : 0 < ns.length
    · rw [if_pos h2]
      exact dss_ret (ds_ifT (dtc (dt_gt (de_lenL B.len (DE.drS (de_v 0))) de_int) (by rw [le]; exact decide_eq_true (by omega))) (dss_one (ds_ret (de_add (de_mul (de_ixL (DE.drS (de_v 0)) (dec (de_modP (de_intI B.int (de_v 1)) (de_lenL B.len (DE.drS (de_v 0))) (by rw [le]; omega)) (q := iN (k % ns.length)) (by rw [le]; exact congrArg PyData.int (Int.natCast_emod _ _).symm)) (il_at (getD_get (Nat.mod_lt _ h2)))) de_int (mulS2 (by decide))) (de_v 1)))))
    · rw [if_neg h2]
      exact dss_cons (ds_ifF (dtc (dt_gt (de_lenL B.len (DE.drS (de_v 0))) de_int) (by rw [le]; exact decide_eq_false (by omega))) dss_nil) (dss_one (ds_ret de_int))
structure RwS where
  rest : Int
  st : Int
  row : Row
def rwS (great : Bool) (z : RwS) (_ : Nat) : RwS :=
  let st := z.st * 62089 % 2147483563
  if (great && decide (0 < z.rest)) = true then ⟨z.rest.fdiv 64, st, z.row ++ [z.rest % 64]⟩ else ⟨z.rest, st, z.row ++ [st.fdiv 64 % 64]⟩
def rwF (cell : Int) (many : Nat) : Row := ((List.range many).foldl (rwS (decide ((10 : Int) ^ 18 ≤ cell.natAbs))) ⟨cell.natAbs, (cell.natAbs : Int) * 39373 % 2147483563, []⟩).row
theorem rwS_ok (great : Bool) (z : RwS) (a : Nat) : ∃ x, (rwS great z a).row = z.row ++ [x] ∧ 0 ≤ x ∧ x < 64 := by
  unfold rwS
  split
  · exact ⟨_, rfl, Int.emod_nonneg _ (by decide), Int.emod_lt_of_pos _ (by decide)⟩
  · exact ⟨_, rfl, Int.emod_nonneg _ (by decide), Int.emod_lt_of_pos _ (by decide)⟩
def R98 : List PyData → PyData → Prop := fun ds r => ∃ (cell : Int) (many : Nat), many ≤ 100 ∧ ds = [.int cell, iN many, .int 64] ∧ r = rwD (rwF cell many)
include B in
theorem w98 (F : FF K mg "_law_row" "_law_row" 98) : Cb false P w K mg base 1 "_law_row" 3 R98 := by
  refine cb_calm F sc98 rfl bn98 fun f cd A outer s H ds r rm hR hn => ?_
  obtain ⟨cell, many, hm, rfl, rfl⟩ := hR
  refine .inl ?_
  refine dss_cons (ds_set 3 sc98.nd (de_abs B.abs (de_v 0))) ?_
  refine dss_cons (ds_set 4 sc98.nd (d := .bool (decide ((10 : Int) ^ 18 ≤ cell.natAbs))) (de_ge (de_v 3) (de_pow de_int de_int ⟨by decide, by decide, by decide⟩))) ?_
  refine dss_cons (ds_set 5 sc98.nd (de_modP (de_intI B.int (de_mul (de_v 3) de_int (mulS2 (by decide)))) de_int (by decide))) ?_
  refine dss_cons (ds_setN 6 sc98.nd dn_nil) ?_
  generalize hg : decide ((10 : Int) ^ 18 ≤ cell.natAbs) = great
  have er : rwF cell many = ((List.range many).foldl (rwS great) ⟨cell.natAbs, (cell.natAbs : Int) * 39373 % 2147483563, []⟩).row := by unfold rwF; rw [hg]
  rw [er]
  have key := dfor_inv (X := cxB P w K mg base ["_law_cell_here", "_law_many", "_law_size", "_law_rest", "_law_great", "_law_state", "_law_row_here", "_law_k"] "_law_row" (defScope (top 98)) f cd A outer s H true []) (tg := fT 98 4) (body := fB 98 4) (List.range many) iN (fun k => [.dat (.int cell), .dat (iN many), .dat (.int 64), .dat (.int ((List.range k).foldl (rwS great) ⟨cell.natAbs, (cell.natAbs : Int) * 39373 % 2147483563, []⟩).rest), .dat (.bool great), .dat (.int ((List.range k).foldl (rwS great) ⟨cell.natAbs, (cell.natAbs : Int) * 39373 % 2147483563, []⟩).st), .own (il ((List.range k).foldl (rwS great) ⟨cell.natAbs, (cell.natAbs : Int) * 39373 % 2147483563, []⟩).row), .no]) fun k a hk => ?_
  · rw [List.length_range] at key
    exact dss_cons (ds_for cmF PassesOwn.never (di_range B.range many (de_v 1) (by omega)) key) (dss_frz 6 rfl (dss_one (ds_ret (de_v 6))))
  · obtain ⟨rfl, hlt⟩ := range_get hk
    have len : ∀ j, ((List.range j).foldl (rwS great) ⟨cell.natAbs, (cell.natAbs : Int) * 39373 % 2147483563, []⟩).row.length = j := fun j => by
      induction j with
      | zero => rfl
      | succ j ih =>
        rw [List.range_succ, List.foldl_append]
        show (rwS great _ j).row.length = _
        obtain ⟨x, e, _⟩ := rwS_ok great ((List.range j).foldl (rwS great) ⟨cell.natAbs, (cell.natAbs : Int) * 39373 % 2147483563, []⟩) j
        rw [e, List.length_append, ih]; rfl
    have l1 := len a
    rw [List.range_succ, List.foldl_append]
    generalize (List.range a).foldl (rwS great) ⟨cell.natAbs, (cell.natAbs : Int) * 39373 % 2147483563, []⟩ = z at l1
    obtain ⟨re, st, ro⟩ := z
    show ∃ G1 js, DG _ _ _ [.dat (.int cell), .dat (iN many), .dat (.int 64), .dat (.int re), .dat (.bool great), .dat (.int st), .own (il ro), .no] G1 js ∧ DSs _ G1 _ (.nx [.dat (.int cell), .dat (iN many), .dat (.int 64), .dat (.int (rwS great ⟨re, st, ro⟩ a).rest), .dat (.bool great), .dat (.int (rwS great ⟨re, st, ro⟩ a).st), .own (il (rwS great ⟨re, st, ro⟩ a).row), .no])
    have lr : (il ro).length < sizeLine := by rw [il_length]; exact sml (by have : ro.length = a := l1; omega)
    have ea : ∀ x : Int, il ro ++ [PyData.int x] = il (ro ++ [x]) := fun x => by unfold il; rw [List.map_append]; rfl
    refine ⟨_, _, dg_name 7 sc98.nd, dss_cons (ds_set 5 sc98.nd (de_modP (de_intI B.int (de_mul (de_v 5) de_int (mulS2 (by decide)))) de_int (by decide))) ?_⟩
    unfold rwS
    by_cases hb : (great && decide (0 < re)) = true
    · rw [if_pos hb]
      refine DSs.less (dss_one (ds_ifT (dtc (DW.dt (dw_and (DE.dt (de_v 4)) fun _ => dw_and1 (dt_gt (de_v 3) de_int))) hb) (dss_cons (ds_app 6 rfl (de_modP (de_intI B.int (de_v 3)) (de_v 2) (by decide)) lr) (dss_one (ds_set 3 sc98.nd (de_div (de_v 3) (de_v 2) (cdvS (by decide) (by decide)))))))) ?_
      show Less [_, _, _, _, _, _, .own _, _] _
      rw [ea]
      exact .keep (.keep (.keep (.keep (.keep (.keep (.keep (.drop .nil)))))))
    · rw [if_neg hb]
      refine DSs.less (dss_one (ds_ifF (dtc (DW.dt (dw_and (DE.dt (de_v 4)) fun _ => dw_and1 (dt_gt (de_v 3) de_int))) (Bool.eq_false_iff.mpr hb)) (dss_one (ds_app 6 rfl (de_modP (de_intI B.int (de_div (de_v 5) de_int (cdvS (by decide) (by decide)))) (de_v 2) (by decide)) lr)))) ?_
      show Less [_, _, _, _, _, _, .own _, _] _
      rw [ea]
      exact .keep (.keep (.keep (.keep (.keep (.keep (.keep (.drop .nil)))))))
theorem rwF_ok (cell : Int) (many : Nat) : (rwF cell many).length = many ∧ ∀ x, x ∈ rwF cell many → 0 ≤ x ∧ x < 64 := by
  unfold rwF
  generalize decide ((10 : Int) ^ 18 ≤ cell.natAbs) = great
  have key : ∀ j, ((List.range j).foldl (rwS great) ⟨cell.natAbs, (cell.natAbs : Int) * 39373 % 2147483563, []⟩).row.length = j ∧ ∀ x, x ∈ ((List.range j).foldl (rwS great) ⟨cell.natAbs, (cell.natAbs : Int) * 39373 % 2147483563, []⟩).row → 0 ≤ x ∧ x < 64 := fun j => by
    induction j with
    | zero => exact ⟨rfl, fun x hx => by simp at hx⟩
    | succ j ih =>
      obtain ⟨i1, i2⟩ := ih
      rw [List.range_succ, List.foldl_append]
      show (rwS great _ j).row.length = _ ∧ ∀ x, x ∈ (rwS great _ j).row → _
      obtain ⟨y, e, y1, y2⟩ := rwS_ok great ((List.range j).foldl (rwS great) ⟨cell.natAbs, (cell.natAbs : Int) * 39373 % 2147483563, []⟩) j
      rw [e]
      refine ⟨by rw [List.length_append, i1]; rfl, fun x hx => ?_⟩
      rcases List.mem_append.mp hx with e | e
      · exact i2 x e
      · rw [List.mem_singleton.mp e]; exact ⟨y1, y2⟩
  exact key many
/-! ### whole, share, is_deal -/
def whT : Stmt → Expr
  | .While t .. => t
  | _ => .Constant .none 0 ⟨0, 0, 0, 0⟩
def whB : Stmt → List Stmt
  | .While _ b .. => b
  | _ => []
include B in
theorem w100 (F : FF K mg "_law_whole" "_law_whole" 100) : Cb true P w K mg base 1 "_law_whole" 1 (Rint1 fun _ => .bool true) := by
  refine cb_both F sc100 rfl bn100 fun f cd A outer s H b pn ds r hm rm hR hn => ?_
  obtain ⟨i, rfl, rfl⟩ := hR
  exact .inl (dss_one (ds_ret (de_andT (de_isII B (de_v 0)) (de_one (dec (de_not (de_isIB B (de_v 0))))))))
def R101 : List PyData → PyData → Prop := fun ds r => ∃ a b : Int, ds = [.int a, .int b] ∧ r = .int (Nat.gcd a.natAbs b.natAbs : Nat)
include B in
theorem w101 (F : FF K mg "_law_share" "_law_share" 101) : Cb true P w K mg base 1 "_law_share" 2 R101 := by
  refine cb_both F sc101 rfl bn101 fun f cd A outer s H b pn ds r hm rm hR hn => ?_
  obtain ⟨a, b2, rfl, rfl⟩ := hR
  refine .inl ?_
  refine dss_cons (ds_par 0 1 hm sc101.nd (de_abs B.abs (de_v 0)) (de_abs B.abs (de_v 1))) ?_
  refine dss_cons (G1 := [.dat (.int (Nat.gcd a.natAbs b2.natAbs : Nat)), .dat (.int 0)]) (ds_while PassesOwn.never ?_) (dss_one (ds_ret (de_v 0)))
  have go : ∀ (n x y : Nat), y ≤ n → DWh (cxB P w K mg base ["_law_one", "_law_other"] "_law_share" (defScope (top 101)) f cd A outer s H b pn) (whT ((defBody (top 101)).getD 1 (.Pass ⟨0, 0, 0, 0⟩))) (whB ((defBody (top 101)).getD 1 (.Pass ⟨0, 0, 0, 0⟩))) [.dat (iN x), .dat (iN y)] (.nx [.dat (.int (Nat.gcd x y : Nat)), .dat (.int 0)]) := by
    intro n
    induction n with
    | zero =>
      intro x y hy
      have : y = 0 := by omega
      subst this
      rw [Nat.gcd_zero_right]
      exact .done (dtc (dt_gt (de_v 1) de_int) (decide_eq_false (by omega)))
    | succ n ih =>
      intro x y hy
      by_cases h0 : y = 0
      · subst h0
        rw [Nat.gcd_zero_right]
        exact .done (dtc (dt_gt (de_v 1) de_int) (decide_eq_false (by omega)))
      · have hlt := Nat.mod_lt x (show 0 < y by omega)
        have e : Nat.gcd x y = Nat.gcd y (x % y) := by rw [Nat.gcd_comm x y, Nat.gcd_rec y x, Nat.gcd_comm]
        rw [e]
        exact .turn (dtc (dt_gt (de_v 1) de_int) (decide_eq_true (by omega))) (dss_one (ds_par 0 1 hm sc101.nd (de_v 1) (dec (de_modP (de_intI B.int (de_v 0)) (de_v 1) (by omega)) (q := iN (x % y)) (congrArg PyData.int (Int.natCast_emod _ _).symm)))) (ih y (x % y) (by omega))
  exact go b2.natAbs a.natAbs b2.natAbs (Nat.le_refl _)
def R102 : List PyData → PyData → Prop := fun ds r => ∃ (n : Nat) (d : DD), Can n d ∧ ds = [iN n, dlD d] ∧ r = .bool true
include B in
theorem w102 (F : FF K mg "_law_is_deal" "_law_is_deal" 102) (h100 : Cb true P w K mg base 1 "_law_whole" 1 (Rint1 fun _ => .bool true)) (h101 : Cb true P w K mg base 1 "_law_share" 2 R101) : Cb true P w K mg base 2 "_law_is_deal" 2 R102 := by
  refine cb_both F sc102 rfl bn102 fun f cd A outer s H b pn ds r hm rm hR hn => ?_
  obtain ⟨n, d, hd, rfl, rfl⟩ := hR
  have p1 := hd.pos
  refine .inl ?_
  refine dss_cons (ds_ifF (dtc (DW.dt (dw_orF (dtc (dt_not (DE.dt (de_isTT B (de_v 1))))) (dw_or1 (dtc (dt_ne (de_lenT B.len (de_v 1)) de_int)))))) dss_nil) ?_
  refine dss_cons (ds_ifF (DW.dt (x := false) (dw_orF (dtc (dt_not (DE.dt (de_call (r := .bool true) (h100.cal rm) (da_1 (de_ixT (d := .int d.1) (de_v 1) de_int rfl)) ⟨_, rfl, rfl⟩)))) (dw_orF (dtc (dt_lt (de_ixT (d := .int d.1) (de_v 1) de_int rfl) de_int) (decide_eq_false (by omega))) (dw_orF (dtc (dt_not (DE.dt (de_isTT B (de_ixT (d := .tuple (il d.2)) (de_v 1) de_int rfl))))) (dw_or1 (x := false) (dtc (dt_ne (de_lenT B.len (de_ixT (d := .tuple (il d.2)) (de_v 1) de_int rfl)) (de_v 0)) ?_)))))) dss_nil) ?_
  · rw [il_length, hd.len, decide_eq_true rfl]; rfl
  refine dss_cons (ds_set 2 sc102.nd (de_ixT (d := .int d.1) (de_v 1) de_int rfl)) ?_
  refine dss_cons (ds_forF (fun g : Int => [.dat (iN n), .dat (dlD d), .dat (.int g), .no]) (fun (g x : Int) => ((Nat.gcd g.natAbs x.natAbs : Nat) : Int)) (fun _ => True) d.1 d.2 PyData.int (cmM hm) PassesOwn.never (di_tup (de_ixT (d := .tuple (il d.2)) (de_v 1) de_int rfl)) trivial fun g x hx _ => ⟨trivial, _, _, _, dg_name 3 sc102.nd, dss_cons (ds_ifF (dtc (dt_not (DE.dt (de_call (r := .bool true) (h100.cal rm) (da_1 (de_v 3)) ⟨_, rfl, rfl⟩)))) dss_nil) (dss_one (ds_set 2 sc102.nd (de_call (h101.cal rm) (da_2 (de_v 2) (de_v 3)) ⟨_, _, rfl, rfl⟩))), .keep (.keep (.keep (.drop .nil)))⟩) ?_
  exact dss_one (ds_ret (dec (de_eq (de_v 2) de_int) (congrArg PyData.bool (decide_eq_true hd.gcd))))
/-! ### settled -/
def lsF (d : DD) : DD := (d.1.fdiv (gcdL d.1 d.2), d.2.map fun x => x.fdiv (gcdL d.1 d.2))
def R103 : List PyData → PyData → Prop := fun ds r => ∃ d : DD, 1 ≤ d.1 ∧ d.1 ≤ 1000 ∧ d.2.length ≤ 100 ∧ ds = [.int d.1, rwD d.2] ∧ r = dlD (lsF d)
include B in
theorem w103 (F : FF K mg "_law_settled" "_law_settled" 103) (h101 : Cb true P w K mg base 1 "_law_share" 2 R101) : Cb false P w K mg base 2 "_law_settled" 2 R103 := by
  refine cb_calm F sc103 rfl bn103 fun f cd A outer s H ds r rm hR hn => ?_
  obtain ⟨⟨b, l⟩, h1, h2, hl, rfl, rfl⟩ := hR
  have h1' : 1 ≤ b := h1
  have h2' : b ≤ 1000 := h2
  have hl' : l.length ≤ 100 := hl
  have g0 := gcdL_ne (l := l) (show b ≠ 0 by omega)
  have gl := gcdL_le (l := l) (show b ≠ 0 by omega)
  have cg : ∀ i : Int, CDv i (gcdL b l) := fun i => EL.cdv g0 (Nat.lt_of_le_of_lt gl (Nat.lt_of_lt_of_le (show b.natAbs < 2 ^ 10 by omega) (Nat.pow_le_pow_right (by omega) (by omega))))
  refine .inl ?_
  refine dss_cons (ds_set 2 sc103.nd (de_v 0)) ?_
  refine dss_cons (ds_forF (fun g : Int => [.dat (.int b), .dat (rwD l), .dat (.int g), .no]) (fun (g x : Int) => ((Nat.gcd g.natAbs x.natAbs : Nat) : Int)) (fun _ => True) b l PyData.int cmF PassesOwn.never (di_list (de_v 1)) trivial fun g x hx _ => ⟨trivial, _, _, _, dg_name 3 sc103.nd, dss_one (ds_set 2 sc103.nd (de_call (h101.cal rm) (da_2 (de_v 2) (de_v 3)) ⟨_, _, rfl, rfl⟩)), .keep (.keep (.keep (.drop .nil)))⟩) ?_
  refine dss_one (ds_ret (de_tup2 (de_div (de_v 0) (de_v 2) (cg _)) (dec (de_tupL B.tuple (DN.dr (dn_lc (own := [("_law_worth", 3)]) l PyData.int (fun x => .int (x.fdiv (gcdL b l))) cmF sc103.nd (sml (by omega)) bk (di_list (de_v 1)) fun x hx => ⟨_, _, fun j hj => hj, fun s H C cl fp => ⟨dg_name 3 sc103.nd, de_div (de_v 3) (de_v 2) (cg _)⟩⟩))) ?_)))
  show PyData.tuple _ = .tuple (il (l.map _))
  unfold il
  rw [List.map_map]; rfl
end
end EL
end
section
set_option maxHeartbeats 1000000
namespace EL
open PySem PySem.Spec PyProof.Rows L2 DL
def clkL : List Ck := [⟨3, [(2, 2)]⟩, ⟨5, [(2, 4)]⟩, ⟨7, [(2, 6)]⟩, ⟨3, [(2, 2)]⟩, ⟨3, [(2, 1)]⟩, ⟨7, [(3, 2)]⟩, ⟨6, []⟩, ⟨5, [(2, 4)]⟩, ⟨3, [(2, 2)]⟩, ⟨7, [(2, 6)]⟩, ⟨1, [(2, 1), (3, 1)]⟩, ⟨3, [(2, 2)]⟩, ⟨2, [(3, 1)]⟩, ⟨5, [(2, 4)]⟩, ⟨3, [(2, 2)]⟩, ⟨1, []⟩, ⟨3, [(2, 2)]⟩, ⟨5, [(2, 4)]⟩, ⟨5, [(2, 4)]⟩, ⟨3, [(2, 2)]⟩, ⟨7, [(2, 6)]⟩, ⟨2, [(5, 1)]⟩, ⟨3, [(2, 2)]⟩, ⟨5, [(2, 4)]⟩, ⟨3, [(2, 2)]⟩, ⟨10, []⟩, ⟨2, []⟩, ⟨7, [(2, 6)]⟩, ⟨3, [(2, 2)]⟩, ⟨5, [(2, 4)]⟩, ⟨3, [(2, 2)]⟩, ⟨3, [(2, 2)]⟩]
theorem de_m1 {X : Cx} {G : Ev} {e : Expr} {d : PyData} {x1 : Nat} {pos : Pos} (h : DE X G e d) (hs : starEach [e] X.env = (false, eval e X.env) :: starEach [] X.env := by rfl) : DE X G (.Tuple [e] x1 pos) (.tuple [d]) := de_tup (da_1 h hs) (szk (by simp only [List.length_cons, List.length_nil]; omega))
theorem de_e0 {X : Cx} {G : Ev} {x1 : Nat} {pos : Pos} : DE X G (.Tuple [] x1 pos) (.tuple []) := de_tup da_nil (Nat.zero_le _)
section
variable {P : Program} {w : World} {K : PySem.W.Frag} {mg : Str → Option Value} {base : Heap} (B : Bi mg)
def R99 : List PyData → PyData → Prop := fun ds r => ∃ i : Nat, i < 32 ∧ ds = [iN i] ∧ r = ckD (clkL.getD i ⟨1, []⟩)
theorem w99 (F : FF K mg "_law_clock" "_law_clock" 99) : Cb false P w K mg base 1 "_law_clock" 1 R99 := by
  refine cb_calm F sc99 rfl bn99 fun f cd A outer s H ds r rm hR hn => ?_
  obtain ⟨i, hi, rfl, rfl⟩ := hR
  refine .inl ?_
  refine dss_cons (G1 := [.dat (iN i), .own (clkL.map ckD)]) (ds_setN 1 sc99.nd (dn_lst (da_cons (de_tup2 de_int (de_m1 (de_tup2 de_int de_int))) (da_cons (de_tup2 de_int (de_m1 (de_tup2 de_int de_int))) (da_cons (de_tup2 de_int (de_m1 (de_tup2 de_int de_int))) (da_cons (de_tup2 de_int (de_m1 (de_tup2 de_int de_int))) (da_cons (de_tup2 de_int (de_m1 (de_tup2 de_int de_int))) (da_cons (de_tup2 de_int (de_m1 (de_tup2 de_int de_int))) (da_cons (de_tup2 de_int de_e0) (da_cons (de_tup2 de_int (de_m1 (de_tup2 de_int de_int))) (da_cons (de_tup2 de_int (de_m1 (de_tup2 de_int de_int))) (da_cons (de_tup2 de_int (de_m1 (de_tup2 de_int de_int))) (da_cons (de_tup2 de_int (de_tup2 (de_tup2 de_int de_int) (de_tup2 de_int de_int))) (da_cons (de_tup2 de_int (de_m1 (de_tup2 de_int de_int))) (da_cons (de_tup2 de_int (de_m1 (de_tup2 de_int de_int))) (da_cons (de_tup2 de_int (de_m1 (de_tup2 de_int de_int))) (da_cons (de_tup2 de_int (de_m1 (de_tup2 de_int de_int))) (da_cons (de_tup2 de_int de_e0) (da_cons (de_tup2 de_int (de_m1 (de_tup2 de_int de_int))) (da_cons (de_tup2 de_int (de_m1 (de_tup2 de_int de_int))) (da_cons (de_tup2 de_int (de_m1 (de_tup2 de_int de_int))) (da_cons (de_tup2 de_int (de_m1 (de_tup2 de_int de_int))) (da_cons (de_tup2 de_int (de_m1 (de_tup2 de_int de_int))) (da_cons (de_tup2 de_int (de_m1 (de_tup2 de_int de_int))) (da_cons (de_tup2 de_int (de_m1 (de_tup2 de_int de_int))) (da_cons (de_tup2 de_int (de_m1 (de_tup2 de_int de_int))) (da_cons (de_tup2 de_int (de_m1 (de_tup2 de_int de_int))) (da_cons (de_tup2 de_int de_e0) (da_cons (de_tup2 de_int de_e0) (da_cons (de_tup2 de_int (de_m1 (de_tup2 de_int de_int))) (da_cons (de_tup2 de_int (de_m1 (de_tup2 de_int de_int))) (da_cons (de_tup2 de_int (de_m1 (de_tup2 de_int de_int))) (da_cons (de_tup2 de_int (de_m1 (de_tup2 de_int de_int))) (da_cons (de_tup2 de_int (de_m1 (de_tup2 de_int de_int))) da_nil)))))))))))))))))))))))))))))))) (szk (by decide)))) (dss_one (ds_ret (de_ixL (dr_v 1) (de_v 0) (atI_nat ?_))))
  rw [List.getElem?_map, List.getD_eq_getElem?_getD, List.getElem?_eq_getElem (show i < clkL.length from hi)]; rfl
theorem clk_ok {i : Nat} (h : i < 32) : CK (clkL.getD i ⟨1, []⟩) := by
  have z : (List.range 32).all (fun i => decide (clkL.getD i ⟨1, []⟩ ∈ clocks)) = true := by decide +kernel
  have := of_decide_eq_true (List.all_eq_true.mp z i (List.mem_range.mpr h))
  exact this
end
end EL
end
section
set_option maxHeartbeats 1000000
namespace EL
open PySem PySem.Spec PyProof.Rows L2 DL
/-! ### lists and tuples of numbers -/
def SQ (q : Bool) (l : Row) : PyData := if q then .tuple (il l) else rwD l
theorem de_ixQ {X : Cx} {G : Ev} {a b : Expr} {pos : Pos} {q : Bool} {l : Row} {i : Nat} (ha : DE X G a (SQ q l)) (hb : DE X G b (iN i)) (h : i < l.length) (hs : PlainIx b := by intro _ _; rfl) : DE X G (.Subscript a b pos) (.int (gt l i)) := by
  cases q with
  | true => exact de_ixT (ds := il l) ha hb (gt_at h) hs
  | false => exact de_ixL (DE.dr (ds := il l) ha) hb (gt_at h) hs
def rowT (c : Ck) (g : Nat) : Row := ofF (nn c) fun k => (mN c g k : Int)
def tblD (c : Ck) : PyData := .list ((List.range (nn c)).map fun g => rwD (rowT c g))
theorem tbl_at {c : Ck} {g : Nat} (h : g < nn c) : atI ((List.range (nn c)).map fun g => rwD (rowT c g)) (g : Int) = some (rwD (rowT c g)) := atI_nat (by rw [List.getElem?_map, List.getElem?_range h]; rfl)
theorem rowT_at {c : Ck} {g k : Nat} (h : k < nn c) : atI (il (rowT c g)) (k : Int) = some (iN (mN c g k)) := il_at (ofF_get h)
theorem tbl_len {c : Ck} : ((List.range (nn c)).map fun g => rwD (rowT c g)).length = nn c := by simp
section
variable {P : Program} {w : World} {K : PySem.W.Frag} {mg : Str → Option Value} {base : Heap} (B : Bi mg)
/-! ### factors, table -/
def fzF (c : Ck) : Nat → Int
  | 0 => (1 : Int) % c.b
  | t + 1 => fzF c t * (c.mv.foldl (fun a p => a * p.2) 1 : Nat) % c.b
theorem CK.fz {c : Ck} (h : CK c) : rwD (ofF (tn c) (fzF c)) = facD c := by
  have := of_decide_eq_true (h.all fun c => decide (ofF (tn c) (fzF c) = ofF (tn c) fun t => facI c (t : Int)))
  unfold rwD facD
  rw [this]
theorem pairF {c : Ck} : ∀ (l : List (Nat × Nat)) (a b : Nat), l.foldl (fun (z : Nat × Nat) p => (z.1 * p.1, z.2 * p.2)) (a, b) = (l.foldl (fun a p => a * p.1) a, l.foldl (fun a p => a * p.2) b)
  | [], a, b => rfl
  | p :: l, a, b => pairF (c := c) l (a * p.1) (b * p.2)
include B in
theorem w104 (F : FF K mg "_law_factors" "_law_factors" 104) : Cb false P w K mg base 1 "_law_factors" 1 (Rck facD) := by
  refine cb_calm F sc104 rfl bn104 fun f cd A outer s H ds r rm hR hn => ?_
  obtain ⟨c, hc, rfl, rfl⟩ := hR
  have cb := hc.bd
  rw [← hc.fz]
  refine .inl ?_
  refine dss_cons (ds_asg (de_tup2 de_int de_int) (dg_tup2 (.inl rfl) (dg_name 1 sc104.nd) (dg_name 2 sc104.nd))) ?_
  refine dss_cons (ds_forF (fun z : Nat × Nat => [.dat (ckD c), .dat (iN z.1), .dat (iN z.2), .no, .no, .no]) (fun z p => (z.1 * p.1, z.2 * p.2)) (fun _ => True) (1, 1) c.mv mvD cmF PassesOwn.never (di_tup (de_ixT (de_v 0) de_int rfl)) trivial fun z p hp _ => ⟨trivial, ?_⟩) ?_
  · have hb := hc.mv hp
    exact ⟨_, _, _, dg_name 3 sc104.nd, dss_one (ds_par 1 2 (.inl rfl) sc104.nd (dec (de_mul (de_v 1) (de_ixT (ds := [iN p.1, iN p.2]) (de_v 3) de_int rfl) (mulS2 (by omega))) (q := iN (z.1 * p.1)) (congrArg PyData.int (Int.natCast_mul _ _).symm)) (dec (de_mul (de_v 2) (de_ixT (ds := [iN p.1, iN p.2]) (de_v 3) de_int rfl) (mulS2 (by omega))) (q := iN (z.2 * p.2)) (congrArg PyData.int (Int.natCast_mul _ _).symm))), .keep (.keep (.keep (.drop (.keep (.keep .nil)))))⟩
  rw [pairF (c := c)]
  show DSs _ [.dat (ckD c), .dat (iN (tn c)), .dat (iN (c.mv.foldl (fun a p => a * p.2) 1)), .no, .no, .no] _ _
  have rb : c.mv.foldl (fun a p => a * p.2) 1 ≤ 100 := of_decide_eq_true (hc.all fun c => decide (c.mv.foldl (fun a p => a * p.2) 1 ≤ 100))
  generalize hro : c.mv.foldl (fun a p => a * p.2) 1 = ro at rb
  have zs : ∀ t, fzF c (t + 1) = fzF c t * (ro : Nat) % c.b := fun t => by show fzF c t * (c.mv.foldl (fun a p => a * p.2) 1 : Nat) % c.b = _; rw [hro]
  refine dss_cons (G1 := [.dat (ckD c), .dat (iN (tn c)), .dat (iN ro), .no, .own (il (ofF 1 (fzF c))), .no]) (ds_setN 4 sc104.nd (dn_lst (ds := [.int ((1 : Int) % c.b)]) (da_1 (de_modP de_int (de_ixT (d := iN c.b) (de_v 0) de_int rfl) (by omega))) (szk (by show 1 ≤ 1000; omega)))) ?_
  have key := dfor_inv (X := cxB P w K mg base ["_law_clock_here", "_law_many", "_law_root", "_law_pair", "_law_row_here", "_law_t"] "_law_factors" (defScope (top 104)) f cd A outer s H true []) (tg := fT 104 3) (body := fB 104 3) (List.range (tn c - 1)) iN (fun k => [.dat (ckD c), .dat (iN (tn c)), .dat (iN ro), .no, .own (il (ofF (k + 1) (fzF c))), .no]) fun k a hk => ?_
  · rw [List.length_range, show tn c - 1 + 1 = tn c by omega] at key
    exact dss_cons (ds_for cmF PassesOwn.never (di_range B.range (tn c - 1) (dec (de_sub (de_v 1) de_int) (congrArg PyData.int (by omega))) (by omega)) key) (dss_frz 4 rfl (dss_one (ds_ret (de_v 4))))
  · obtain ⟨rfl, hlt⟩ := range_get hk
    have ea : il (ofF (a + 1) (fzF c)) ++ [PyData.int (fzF c (a + 1))] = il (ofF (a + 1 + 1) (fzF c)) := by unfold il ofF; rw [List.range_succ (n := a + 1), List.map_append, List.map_append]; rfl
    refine ⟨_, _, dg_name 5 sc104.nd, ?_⟩
    refine DSs.less (dss_one (ds_app 4 rfl (d := .int (fzF c (a + 1))) (dec (de_modP (de_intI B.int (de_mul (de_ixL (dr_v 4) (de_v 5) (il_at (ofF_get (i := a) (by omega)))) (de_v 2) (mulS2 (by omega)))) (de_ixT (d := iN c.b) (de_v 0) de_int rfl) (by omega)) (congrArg PyData.int (zs a).symm)) (by rw [il_length, ofF_length]; exact sml (by omega)))) ?_
    show Less [_, _, _, _, .own _, _] _
    rw [ea]
    exact .keep (.keep (.keep (.keep (.keep (.drop .nil)))))
def R105 : List PyData → PyData → Prop := fun ds r => ∃ c : Ck, CK c ∧ ds = [iN c.b, facD c] ∧ r = tblD c
theorem range_blk (b u : Nat) : List.range ((u + 1) * b) = List.range (u * b) ++ (List.range b).map fun y => u * b + y := by
  rw [Nat.succ_mul, List.range_add]
include B in
theorem w105 (F : FF K mg "_law_table" "_law_table" 105) : Cb false P w K mg base 1 "_law_table" 2 R105 := by
  refine cb_calm F sc105 rfl bn105 fun f cd A outer s H ds r rm hR hn => ?_
  obtain ⟨c, hc, rfl, rfl⟩ := hR
  have cb := hc.bd
  have en : nn c = tn c * c.b := Nat.mul_comm _ _
  refine .inl ?_
  refine dss_cons (ds_set 2 sc105.nd (dec (de_lenL B.len (DE.dr (de_v 1))) (q := iN (tn c)) (by rw [il_length, ofF_length]))) ?_
  refine dss_cons (ds_setN 3 sc105.nd dn_nil) ?_
  have fin : PyData.list ((List.range (tn c * c.b)).map fun g => rwD (rowT c g)) = tblD c := by unfold tblD; rw [en]
  have key := dfor_inv (X := cxB P w K mg base ["_law_beats", "_law_factors_here", "_law_turns", "_law_table_here", "_law_t", "_law_x", "_law_row_here", "_law_u", "_law_base", "_law_y"] "_law_table" (defScope (top 105)) f cd A outer s H true []) (tg := fT 105 2) (body := fB 105 2) (List.range (tn c)) iN (fun t => [.dat (iN c.b), .dat (facD c), .dat (iN (tn c)), .own ((List.range (t * c.b)).map fun g => rwD (rowT c g)), .no, .no, .no, .no, .no, .no]) fun t a ht => ?_
  · rw [List.length_range, Nat.zero_mul] at key
    refine dss_cons (ds_for cmF PassesOwn.never (di_range B.range (tn c) (de_v 2) (by omega)) key) (dss_frz 3 rfl (dss_one (ds_ret (dec (de_v 3) fin))))
  · obtain ⟨rfl, hlt⟩ := range_get ht
    refine ⟨_, _, dg_name 4 sc105.nd, ?_⟩
    have key2 := dfor_inv (X := cxB P w K mg base ["_law_beats", "_law_factors_here", "_law_turns", "_law_table_here", "_law_t", "_law_x", "_law_row_here", "_law_u", "_law_base", "_law_y"] "_law_table" (defScope (top 105)) f cd A outer s H true []) (tg := forT ((fB 105 2).getD 0 (.Pass ⟨0, 0, 0, 0⟩))) (body := forB ((fB 105 2).getD 0 (.Pass ⟨0, 0, 0, 0⟩))) (List.range c.b) iN (fun x => [.dat (iN c.b), .dat (facD c), .dat (iN (tn c)), .own ((List.range (a * c.b + x)).map fun g => rwD (rowT c g)), .dat (iN a), .no, .no, .no, .no, .no]) fun x a2 hx => ?_
    · rw [List.length_range, show a * c.b + c.b = (a + 1) * c.b by rw [Nat.succ_mul]] at key2
      exact DSs.less (dss_one (ds_for cmF PassesOwn.never (di_range B.range c.b (de_v 0) (by omega)) key2)) (.keep (.keep (.keep (.keep (.drop (.keep (.keep (.keep (.keep (.keep .nil))))))))))
    · obtain ⟨rfl, hx2⟩ := range_get hx
      have hg : a * c.b + a2 < nn c := by
        have : (a + 1) * c.b ≤ tn c * c.b := Nat.mul_le_mul_right _ hlt
        rw [Nat.succ_mul] at this
        omega
      have d1 : (a * c.b + a2) / c.b = a := by rw [Nat.mul_comm, Nat.mul_add_div (by omega), Nat.div_eq_of_lt hx2]; rfl
      have d2 : (a * c.b + a2) % c.b = a2 := by rw [Nat.mul_comm, Nat.mul_add_mod, Nat.mod_eq_of_lt hx2]
      refine ⟨_, _, dg_name 5 sc105.nd, ?_⟩
      refine dss_cons (ds_setN 6 sc105.nd dn_nil) ?_
      have key3 := dfor_inv (X := cxB P w K mg base ["_law_beats", "_law_factors_here", "_law_turns", "_law_table_here", "_law_t", "_law_x", "_law_row_here", "_law_u", "_law_base", "_law_y"] "_law_table" (defScope (top 105)) f cd A outer s H true []) (tg := forT ((forB ((fB 105 2).getD 0 (.Pass ⟨0, 0, 0, 0⟩))).getD 1 (.Pass ⟨0, 0, 0, 0⟩))) (body := forB ((forB ((fB 105 2).getD 0 (.Pass ⟨0, 0, 0, 0⟩))).getD 1 (.Pass ⟨0, 0, 0, 0⟩))) (List.range (tn c)) iN (fun u => [.dat (iN c.b), .dat (facD c), .dat (iN (tn c)), .own ((List.range (a * c.b + a2)).map fun g => rwD (rowT c g)), .dat (iN a), .dat (iN a2), .own ((List.range (u * c.b)).map fun k => iN (mN c (a * c.b + a2) k)), .no, .no, .no]) fun u a3 hu => ?_
      · rw [List.length_range, Nat.zero_mul] at key3
        refine dss_cons (ds_for cmF PassesOwn.never (di_range B.range (tn c) (de_v 2) (by omega)) key3) (dss_frz 6 rfl ?_)
        have er : PyData.list ((List.range (tn c * c.b)).map fun k => iN (mN c (a * c.b + a2) k)) = rwD (rowT c (a * c.b + a2)) := by
          unfold rwD rowT il
          rw [ofF_map, ← en]; rfl
        show DSs _ [_, _, _, _, _, _, .dat (PyData.list _), _, _, _] _ _
        rw [er]
        refine DSs.less (dss_one (ds_app 3 rfl (de_v 6) (by rw [List.length_map, List.length_range]; exact sml (by omega)))) ?_
        have e5 : (List.range (a * c.b + a2)).map (fun g => rwD (rowT c g)) ++ [rwD (rowT c (a * c.b + a2))] = (List.range (a * c.b + (a2 + 1))).map fun g => rwD (rowT c g) := by rw [← Nat.add_assoc, List.range_succ, List.map_append]; rfl
        show Less [_, _, _, .own _, _, _, _, _, _, _] _
        rw [e5]
        exact .keep (.keep (.keep (.keep (.keep (.drop (.drop (.keep (.keep (.keep .nil)))))))))
      · obtain ⟨rfl, hu2⟩ := range_get hu
        have fe := hc.fac hu2
        refine ⟨_, _, dg_name 7 sc105.nd, ?_⟩
        refine dss_cons (ds_set 8 sc105.nd (d := iN (c.b * ((a + a3) % tn c))) (dec (de_mul (de_v 0) (de_modP (de_intI B.int (de_add (de_v 4) (de_v 7))) (de_v 2) (by omega)) (mulS (by omega))) ?_)) ?_
        · exact congrArg PyData.int (by simp only [Int.natCast_add, Int.natCast_mul, Int.natCast_emod])
        refine DSs.less (dss_one (ds_setN 6 sc105.nd (dn_cat (dc_v 6) (DN.dc (dn_lc (own := [("_law_y", 9)]) (List.range c.b) iN (fun y => iN (mN c (a * c.b + a2) (a3 * c.b + y))) cmF sc105.nd (sml (by rw [List.length_range]; omega)) bk (di_range B.range c.b (de_v 0) (by omega)) fun y hy => ⟨_, _, fun j hj => hj, fun s H C cl fp => ⟨dg_name 9 sc105.nd, dec (de_add (de_v 8) (de_modP (de_intI B.int (de_add (de_mul (de_ixL (DE.dr (de_v 1)) (de_v 7) (il_at (ofF_get hu2))) (de_v 5) (mulS2 (by omega))) (de_v 9))) (de_v 0) (by omega))) ?_⟩⟩)) ?_))) ?_
        · have hy' := List.mem_range.mp hy
          have d3 : (a3 * c.b + y) / c.b = a3 := by rw [Nat.mul_comm, Nat.mul_add_div (by omega), Nat.div_eq_of_lt hy']; rfl
          have d4 : (a3 * c.b + y) % c.b = y := by rw [Nat.mul_comm, Nat.mul_add_mod, Nat.mod_eq_of_lt hy']
          rw [fe]
          refine congrArg PyData.int ?_
          unfold mN
          rw [d1, d2, d3, d4]
          simp only [Int.natCast_add, Int.natCast_mul, Int.natCast_emod, Int.mul_comm]
        · rw [List.length_map, List.length_range, List.length_map, List.length_range]
          have : (a3 + 1) * c.b ≤ tn c * c.b := Nat.mul_le_mul_right _ hu2
          rw [Nat.succ_mul] at this
          exact szk (by omega)
        · have e6 : (List.range (a3 * c.b)).map (fun k => iN (mN c (a * c.b + a2) k)) ++ (List.range c.b).map (fun y => iN (mN c (a * c.b + a2) (a3 * c.b + y))) = (List.range ((a3 + 1) * c.b)).map fun k => iN (mN c (a * c.b + a2) k) := by rw [range_blk, List.map_append, List.map_map]; rfl
          show Less [_, _, _, _, _, _, .own _, _, _, _] _
          rw [e6]
          exact .keep (.keep (.keep (.keep (.keep (.keep (.keep (.drop (.drop (.keep .nil)))))))))
end
end EL
end
section
set_option maxHeartbeats 1000000
namespace EL
open PySem PySem.Spec PyProof.Rows L2 DL
/-! ### products by the table -/
def dzK (c : Ck) (a b : Row) (g : Nat) (F : Nat → Int) (k : Nat) : Nat → Int := fun h => if h = mN c g k then F h + gt a g * gt b k else F h
def dzG (c : Ck) (a b : Row) (F : Nat → Int) (g : Nat) : Nat → Int := if gt a g = 0 then F else (List.range (nn c)).foldl (dzK c a b g) F
def dzF (c : Ck) (a b : Row) : Nat → Int := (List.range (nn c)).foldl (dzG c a b) fun _ => 0
def BL (l : Row) : Prop := ∀ x, x ∈ l → x.natAbs < 2 ^ 20000
theorem BL.gt {l : Row} (h : BL l) (i : Nat) : (gt l i).natAbs < 2 ^ 20000 := by
  by_cases hi : i < l.length
  · exact h _ (gt_mem hi)
  · rw [gt_ge (by omega)]; exact Nat.two_pow_pos _
section
variable {P : Program} {w : World} {K : PySem.W.Frag} {mg : Str → Option Value} {base : Heap} (B : Bi mg)
def R106 : List PyData → PyData → Prop := fun ds r => ∃ (c : Ck) (p q : Bool) (a b : Row), CK c ∧ a.length = nn c ∧ b.length = nn c ∧ BL a ∧ BL b ∧ ds = [tblD c, SQ p a, SQ q b] ∧ r = rwD (ofF (nn c) (dzF c a b))
include B in
theorem w106 (F : FF K mg "_law_dealt" "_law_dealt" 106) : Cb true P w K mg base 1 "_law_dealt" 3 R106 := by
  refine cb_both F sc106 rfl bn106 fun f cd A outer s H hb pn ds r hm rm hR hn => ?_
  obtain ⟨c, p, q, a, b, hc, ha, hbl, ba, bb, rfl, rfl⟩ := hR
  have cb := hc.bd
  refine .inl ?_
  refine dss_cons (ds_lc (own := [("_law_k", 4)]) 3 (List.range (nn c)) (fun g => rwD (rowT c g)) (fun _ => .int 0) (cmM hm) sc106.nd (sml (by rw [List.length_range]; omega)) bk (di_list (de_v 0)) fun g hg => ⟨_, _, fun j hj => hj, fun s H C cl fp => ⟨dg_name 4 sc106.nd, de_int⟩⟩) ?_
  have e0 : (List.range (nn c)).map (fun _ => PyData.int 0) = il (ofF (nn c) fun _ => 0) := by unfold il ofF; rw [List.map_map]; rfl
  rw [e0]
  refine dss_cons (ds_forF (fun F : Nat → Int => [.dat (tblD c), .dat (SQ p a), .dat (SQ q b), .own (il (ofF (nn c) F)), .no, .no]) (dzG c a b) (fun _ => True) (fun _ => 0) (List.range (nn c)) iN (cmM hm) PassesOwn.never (di_range B.range (nn c) (dec (de_lenL B.len (DE.dr (de_v 0))) (by rw [tbl_len])) (by omega)) trivial fun F g hg _ => ⟨trivial, ?_⟩) (dss_frz 3 rfl (dss_one (ds_ret (de_v 3))))
  have hg' := List.mem_range.mp hg
  refine ⟨_, _, [.dat (tblD c), .dat (SQ p a), .dat (SQ q b), .own (il (ofF (nn c) (dzG c a b F g))), .no, .dat (iN g)], dg_name 5 sc106.nd, dss_one (ds_if (dt_ne (de_ixQ (de_v 1) (de_v 5) (by omega)) de_int) (fun t => ?_) fun t => ?_), .keep (.keep (.keep (.keep (.keep (.drop .nil)))))⟩
  · have tq : gt a g ≠ 0 := by simpa using t
    have er : dzG c a b F g = (List.range (nn c)).foldl (dzK c a b g) F := if_neg tq
    rw [er]
    refine dss_one (ds_forF (fun F : Nat → Int => [.dat (tblD c), .dat (SQ p a), .dat (SQ q b), .own (il (ofF (nn c) F)), .no, .dat (iN g)]) (dzK c a b g) (fun _ => True) F (List.range (nn c)) iN (cmM hm) PassesOwn.never (di_range B.range (nn c) (dec (de_lenL B.len (DE.dr (de_v 0))) (by rw [tbl_len])) (by omega)) trivial fun F2 k hk _ => ⟨trivial, ?_⟩)
    have hk' := List.mem_range.mp hk
    have hml := hc.mlt g k
    refine ⟨_, _, _, dg_name 4 sc106.nd, dss_one (ds_inc 3 (m := mN c g k) (y := F2 (mN c g k)) rfl (de_ixL (DE.dr (de_ixL (DE.dr (de_v 0)) (de_v 5) (tbl_at hg'))) (de_v 4) (rowT_at hk')) (by omega) (il_get (ofF_get hml)) (de_mul (de_ixQ (de_v 1) (de_v 5) (by omega)) (de_ixQ (de_v 2) (de_v 4) (by omega)) (mulB (k := 20000) (ba.gt g) (bb.gt k) (by omega)))), ?_⟩
    rw [il_set, ofF_set]
    have e3 : (fun i => if i = mN c g k then F2 (mN c g k) + gt a g * gt b k else F2 i) = dzK c a b g F2 k := funext fun i => by
      unfold dzK
      by_cases hi : i = mN c g k
      · rw [if_pos hi, if_pos hi, hi]
      · rw [if_neg hi, if_neg hi]
    rw [e3]
    exact .keep (.keep (.keep (.keep (.drop (.keep .nil)))))
  · have tq : gt a g = 0 := by simpa using t
    have er : dzG c a b F g = F := if_pos tq
    rw [er]
    exact dss_nil
/-! ### lefts -/
def R111 : List PyData → PyData → Prop := fun ds r => ∃ (c : Ck) (p : Bool) (a : Row), CK c ∧ a.length = nn c ∧ ds = [tblD c, SQ p a] ∧ r = rlD (shRows c a)
include B in
theorem w111 (F : FF K mg "_law_lefts" "_law_lefts" 111) : Cb true P w K mg base 1 "_law_lefts" 2 R111 := by
  refine cb_both F sc111 rfl bn111 fun f cd A outer s H hb pn ds r hm rm hR hn => ?_
  obtain ⟨c, p, a, hc, ha, rfl, rfl⟩ := hR
  have cb := hc.bd
  refine .inl ?_
  refine dss_cons (ds_setN 2 sc111.nd dn_nil) ?_
  have key := dfor_inv (X := cxB P w K mg base ["_law_table_here", "_law_tops", "_law_rows", "_law_places", "_law_row_here", "_law_k"] "_law_lefts" (defScope (top 111)) f cd A outer s H hb pn) (tg := fT 111 1) (body := fB 111 1) (List.range (nn c)) (fun g => rwD (rowT c g)) (fun k => [.dat (tblD c), .dat (SQ p a), .own ((List.range k).map fun g => rwD (ofF (nn c) (shoF c a g))), .no, .no, .no]) fun k g hk => ?_
  · rw [List.length_range] at key
    have e1 : PyData.list ((List.range (nn c)).map fun g => rwD (ofF (nn c) (shoF c a g))) = rlD (shRows c a) := by unfold rlD shRows; rw [ofF_map]; rfl
    exact dss_cons (ds_for (cmM hm) PassesOwn.never (di_list (de_v 0)) key) (dss_frz 2 rfl (dss_one (ds_ret (dec (de_v 2) e1))))
  · obtain ⟨rfl, hlt⟩ := range_get hk
    refine ⟨_, _, dg_name 3 sc111.nd, ?_⟩
    refine dss_cons (ds_lc (own := [("_law_k", 5)]) 4 (List.range (nn c)) (fun g => rwD (rowT c g)) (fun _ => .int 0) (cmM hm) sc111.nd (sml (by rw [List.length_range]; omega)) bk (di_list (de_v 0)) fun g hg => ⟨_, _, fun j hj => hj, fun s H C cl fp => ⟨dg_name 5 sc111.nd, de_int⟩⟩) ?_
    have e0 : (List.range (nn c)).map (fun _ => PyData.int 0) = il (ofF (nn c) fun _ => 0) := by unfold il ofF; rw [List.map_map]; rfl
    rw [e0]
    refine dss_cons (ds_forF (fun F : Nat → Int => [.dat (tblD c), .dat (SQ p a), .own ((List.range g).map fun g => rwD (ofF (nn c) (shoF c a g))), .dat (rwD (rowT c g)), .own (il (ofF (nn c) F)), .no]) (fun F k => fun h => if h = mN c g k then gt a k else F h) (fun _ => True) (fun _ => 0) (List.range (nn c)) iN (cmM hm) PassesOwn.never (di_range B.range (nn c) (dec (de_lenL B.len (DE.dr (de_v 0))) (by rw [tbl_len])) (by omega)) trivial fun F k hk _ => ⟨trivial, ?_⟩) ?_
    · have hk' := List.mem_range.mp hk
      refine ⟨_, _, _, dg_name 5 sc111.nd, dss_one (ds_put 4 (m := mN c g k) rfl (de_ixQ (de_v 1) (de_v 5) (by omega)) (de_ixL (DE.dr (de_v 3)) (de_v 5) (rowT_at hk')) (by rw [il_length, ofF_length]; exact ixN_nat (hc.mlt _ _))), ?_⟩
      rw [il_set, ofF_set]
      exact .keep (.keep (.keep (.keep (.keep (.drop .nil)))))
    · refine dss_frz 4 rfl ?_
      have e2 : PyData.list (il (ofF (nn c) ((List.range (nn c)).foldl (fun F k => fun h => if h = mN c g k then gt a k else F h) fun _ => 0))) = rwD (ofF (nn c) (shoF c a g)) := by
        unfold rwD
        congr 2
        refine ofF_congr fun h hh => ?_
        rw [fold_put hc hlt _ _ h hh fun k hk => List.mem_range.mp hk, sho_eq hc hlt hh, if_pos (List.mem_range.mpr (hc.mlt _ _))]
      show DSs _ [_, _, _, _, .dat (PyData.list _), _] _ _
      rw [e2]
      refine DSs.less (dss_one (ds_app 2 rfl (de_v 4) (by rw [List.length_map, List.length_range]; exact sml (by omega)))) ?_
      have e5 : (List.range g).map (fun g => rwD (ofF (nn c) (shoF c a g))) ++ [rwD (ofF (nn c) (shoF c a g))] = (List.range (g + 1)).map fun g => rwD (ofF (nn c) (shoF c a g)) := by rw [List.range_succ, List.map_append]; rfl
      show Less [_, _, .own _, _, _, _] _
      rw [e5]
      exact .keep (.keep (.keep (.drop (.drop (.keep .nil)))))
/-! ### is -/
theorem dfor_all {X : Cx} {tg : Expr} {body : List Stmt} {α : Type} (γ : α → PyData) (E : Ev) (p : α → Bool) (r : PyData) : ∀ (l : List α), (∀ a, a ∈ l → p a = true → ∃ G1 js G2, DG X tg (γ a) E G1 js ∧ DSs X G1 body (.nx G2) ∧ Less G2 E) → (∀ a, a ∈ l → p a = false → ∃ G1 js, DG X tg (γ a) E G1 js ∧ DSs X G1 body (.ret r)) →
    DFor X tg body (l.map γ) E (if l.all p then .nx E else .ret r)
  | [], _, _ => .nil
  | a :: l, h1, h2 => by
    cases e : p a with
    | true =>
      obtain ⟨G1, js, G2, g, b, ls⟩ := h1 a List.mem_cons_self e
      have ih := dfor_all γ E p r l (fun a ha => h1 a (List.mem_cons_of_mem _ ha)) fun a ha => h2 a (List.mem_cons_of_mem _ ha)
      rw [List.all_cons, e, Bool.true_and]
      exact .next g (b.less ls) ih
    | false =>
      obtain ⟨G1, js, g, b⟩ := h2 a List.mem_cons_self e
      rw [List.all_cons, e, Bool.false_and]
      exact .ret g b
def isF (c : Ck) (d e u : DD) : Bool := (List.range (nn c)).all fun k => decide (dzF c d.2 e.2 k * u.1 = gt u.2 k * (d.1 * e.1))
structure IsOk (n : Nat) (d : DD) : Prop where
  len : d.2.length = n
  b1 : d.1.natAbs < 2 ^ 20000
  b2 : BL d.2
def R112 : List PyData → PyData → Prop := fun ds r => ∃ (c : Ck) (d e u : DD), CK c ∧ IsOk (nn c) d ∧ IsOk (nn c) e ∧ IsOk (nn c) u ∧ ds = [tblD c, dlD d, dlD e, dlD u] ∧ r = .bool (isF c d e u)
theorem dz_le {c : Ck} {a b : Row} (hc : CK c) (ha : BL a) (hb : BL b) (h : Nat) : (dzF c a b h).natAbs < 2 ^ 40020 := by
  have pr : ∀ i j, (gt a i * gt b j).natAbs ≤ 2 ^ 40000 := fun i j => by
    rw [Int.natAbs_mul, show (40000 : Nat) = 20000 + 20000 from rfl, Nat.pow_add]
    exact Nat.mul_le_mul (Nat.le_of_lt (ha.gt i)) (Nat.le_of_lt (hb.gt j))
  have cb := hc.bd
  have k1 : ∀ (l : List Nat) (F : Nat → Int) (g : Nat), (l.foldl (dzK c a b g) F h).natAbs ≤ (F h).natAbs + l.length * 2 ^ 40000 := by
    intro l
    induction l with
    | nil => intro F g; show (F h).natAbs ≤ _; omega
    | cons k l ih =>
      intro F g
      rw [List.foldl_cons, List.length_cons, Nat.succ_mul]
      have := ih (dzK c a b g F k) g
      have e : (dzK c a b g F k h).natAbs ≤ (F h).natAbs + 2 ^ 40000 := by
        unfold dzK
        split
        · have := pr g k; omega
        · omega
      omega
  have k2 : ∀ (l : List Nat) (F : Nat → Int), (l.foldl (dzG c a b) F h).natAbs ≤ (F h).natAbs + l.length * (nn c * 2 ^ 40000) := by
    intro l
    induction l with
    | nil => intro F; show (F h).natAbs ≤ _; omega
    | cons g l ih =>
      intro F
      rw [List.foldl_cons, List.length_cons, Nat.succ_mul]
      have := ih (dzG c a b F g)
      have e : (dzG c a b F g h).natAbs ≤ (F h).natAbs + nn c * 2 ^ 40000 := by
        unfold dzG
        split
        · omega
        · have := k1 (List.range (nn c)) F g
          rw [List.length_range] at this
          exact this
      omega
  have := k2 (List.range (nn c)) fun _ => 0
  rw [List.length_range] at this
  refine Nat.lt_of_le_of_lt this ?_
  have e : (2 : Nat) ^ 40020 = 2 ^ 20 * 2 ^ 40000 := by rw [← Nat.pow_add]
  rw [e, ← Nat.mul_assoc]
  show 0 + nn c * nn c * 2 ^ 40000 < _
  rw [Nat.zero_add]
  refine Nat.mul_lt_mul_of_pos_right ?_ (Nat.two_pow_pos _)
  exact Nat.lt_of_le_of_lt (Nat.mul_le_mul (show nn c ≤ 21 by omega) (show nn c ≤ 21 by omega)) (by decide)
include B in
theorem w112 (F : FF K mg "_law_is" "_law_is" 112) (h106 : Cb true P w K mg base 1 "_law_dealt" 3 R106) : Cb true P w K mg base 2 "_law_is" 4 R112 := by
  refine cb_both F sc112 rfl bn112 fun f cd A outer s H hb pn ds r hm rm hR hn => ?_
  obtain ⟨c, d, e, u, hc, hd, he, hu, rfl, rfl⟩ := hR
  have cb := hc.bd
  refine .inl ?_
  refine dss_cons (ds_set 4 sc112.nd (de_call (h106.cal rm) (da_3 (de_v 0) (de_ixT (ds := [.int d.1, .tuple (il d.2)]) (d := SQ true d.2) (de_v 1) de_int rfl) (de_ixT (ds := [.int e.1, .tuple (il e.2)]) (d := SQ true e.2) (de_v 2) de_int rfl)) ⟨c, true, true, d.2, e.2, hc, hd.len, he.len, hd.b2, he.b2, rfl, rfl⟩)) ?_
  refine dss_cons (ds_set 5 sc112.nd (d := .int (d.1 * e.1)) (de_mul (de_ixT (ds := [.int d.1, .tuple (il d.2)]) (de_v 1) de_int rfl) (de_ixT (ds := [.int e.1, .tuple (il e.2)]) (de_v 2) de_int rfl) (mulB (k := 20000) hd.b1 he.b1 (by omega)))) ?_
  have lowb : (d.1 * e.1).natAbs < 2 ^ 40020 := by
    rw [Int.natAbs_mul, show (40020 : Nat) = 20000 + 20020 from rfl, Nat.pow_add]
    refine Nat.lt_of_le_of_lt (Nat.mul_le_mul_left _ (Nat.le_trans (Nat.le_of_lt he.b1) (Nat.pow_le_pow_right (by omega) (show 20000 ≤ 20020 by omega)))) (Nat.mul_lt_mul_of_pos_right hd.b1 (Nat.two_pow_pos _))
  have up : ∀ {x : Nat}, x < 2 ^ 20000 → x < 2 ^ 40020 := fun {x} h => Nat.lt_of_lt_of_le h (Nat.pow_le_pow_right (by omega) (by omega))
  have key := dfor_all (X := cxB P w K mg base ["_law_table_here", "_law_one", "_law_other", "_law_due", "_law_tops", "_law_low", "_law_k"] "_law_is" (defScope (top 112)) f cd A outer s H hb pn) (tg := fT 112 2) (body := fB 112 2) iN [.dat (tblD c), .dat (dlD d), .dat (dlD e), .dat (dlD u), .dat (rwD (ofF (nn c) (dzF c d.2 e.2))), .dat (.int (d.1 * e.1)), .no] (fun k => decide (dzF c d.2 e.2 k * u.1 = gt u.2 k * (d.1 * e.1))) (.bool false) (List.range (nn c)) (fun k hk hp => ?_) (fun k hk hp => ?_)
  · unfold isF
    cases hall : (List.range (nn c)).all fun k => decide (dzF c d.2 e.2 k * u.1 = gt u.2 k * (d.1 * e.1)) with
    | true =>
      rw [hall] at key
      exact dss_cons (ds_for (cmM hm) PassesOwn.never (di_range B.range (nn c) (dec (de_lenL B.len (DE.dr (de_v 0))) (by rw [tbl_len])) (by omega)) key) (dss_one (ds_ret de_bl))
    | false =>
      rw [hall] at key
      exact dss_ret (ds_for (cmM hm) PassesOwn.never (di_range B.range (nn c) (dec (de_lenL B.len (DE.dr (de_v 0))) (by rw [tbl_len])) (by omega)) key)
  · have hk' := List.mem_range.mp hk
    refine ⟨_, _, _, dg_name 6 sc112.nd, dss_one (ds_ifF (dtc (dt_ne (de_mul (de_ixL (DE.dr (de_v 4)) (de_v 6) (il_at (ofF_get hk'))) (de_ixT (ds := [.int u.1, .tuple (il u.2)]) (de_v 3) de_int rfl) (mulB (k := 40020) (dz_le hc hd.b2 he.b2 k) (up hu.b1) (by omega))) (de_mul (de_ixT (ds := il u.2) (de_ixT (ds := [.int u.1, .tuple (il u.2)]) (de_v 3) de_int rfl) (de_v 6) (gt_at (by rw [hu.len]; exact hk'))) (de_v 5) (mulB (k := 40020) (up (hu.b2.gt k)) lowb (by omega)))) (by rw [hp]; rfl)) dss_nil), .keep (.keep (.keep (.keep (.keep (.keep (.drop .nil))))))⟩
  · have hk' := List.mem_range.mp hk
    refine ⟨_, _, dg_name 6 sc112.nd, dss_one (ds_ifT (dtc (dt_ne (de_mul (de_ixL (DE.dr (de_v 4)) (de_v 6) (il_at (ofF_get hk'))) (de_ixT (ds := [.int u.1, .tuple (il u.2)]) (de_v 3) de_int rfl) (mulB (k := 40020) (dz_le hc hd.b2 he.b2 k) (up hu.b1) (by omega))) (de_mul (de_ixT (ds := il u.2) (de_ixT (ds := [.int u.1, .tuple (il u.2)]) (de_v 3) de_int rfl) (de_v 6) (gt_at (by rw [hu.len]; exact hk'))) (de_v 5) (mulB (k := 40020) (up (hu.b2.gt k)) lowb (by omega)))) (by rw [hp]; rfl)) (dss_one (ds_ret de_bl)))⟩
/-! ### mirror -/
def R113 : List PyData → PyData → Prop := fun ds r => ∃ (c : Ck) (d : DD), CK c ∧ d.2.length = nn c ∧ ds = [tblD c, dlD d] ∧ r = dlD (mirF c d)
include B in
theorem w113 (F : FF K mg "_law_mirror" "_law_mirror" 113) : Cb true P w K mg base 1 "_law_mirror" 2 R113 := by
  refine cb_both F sc113 rfl bn113 fun f cd A outer s H hb pn ds r hm rm hR hn => ?_
  obtain ⟨c, d, hc, hd, rfl, rfl⟩ := hR
  have cb := hc.bd
  have G := hc.grp
  refine .inl ?_
  refine dss_cons (ds_lc (own := [("_law_row_here", 3)]) 2 (List.range (nn c)) (fun g => rwD (rowT c g)) (fun g => iN (ivN c g)) (cmM hm) sc113.nd (sml (by rw [List.length_range]; omega)) bk (di_list (de_v 0)) fun g hg => ⟨_, _, fun j hj => hj, fun s H C cl fp => ⟨dg_name 3 sc113.nd, de_index (ns := rowT c g) (DE.dr (de_v 3)) de_int ?_ ?_⟩⟩) ?_
  · have hg' := List.mem_range.mp hg
    show (ofF _ _)[ivN c g]? = _
    rw [ofF_get (G.icl g hg'), G.invr g hg']; rfl
  · have hg' := List.mem_range.mp hg
    intro k y hk hy e
    have hkn : k < nn c := Nat.lt_trans hk (G.icl g hg')
    have hy' : (ofF (nn c) fun k => (mN c g k : Int))[k]? = some y := hy
    rw [ofF_get hkn] at hy'
    have : mN c g k = 0 := by
      have := Option.some.inj hy'
      omega
    have e2 := G.canl hg' hkn this
    rw [G.oner _ (G.icl g hg')] at e2
    omega
  · refine dss_frz 2 rfl (dss_one (ds_ret (de_tup2 (de_ixT (ds := [.int d.1, .tuple (il d.2)]) (de_v 1) de_int rfl) (dec (de_tupL B.tuple (DN.dr (dn_lc (own := [("_law_k", 4)]) (List.range (nn c)) (fun g => iN (ivN c g)) (fun g => .int (gt d.2 (ivN c g))) (cmM hm) sc113.nd (sml (by rw [List.length_range]; omega)) bk (di_list (de_v 2)) fun g hg => ⟨_, _, fun j hj => hj, fun s H C cl fp => ⟨dg_name 4 sc113.nd, de_ixT (ds := il d.2) (de_ixT (ds := [.int d.1, .tuple (il d.2)]) (de_v 1) de_int rfl) (de_v 4) (gt_at (by rw [hd]; exact hc.bklt _))⟩⟩))) ?_))))
    show PyData.tuple _ = .tuple (il (ofF _ _))
    unfold il
    rw [ofF_map]; rfl
end
end EL
end
section
set_option maxHeartbeats 1000000
namespace EL
open PySem PySem.Spec PyProof.Rows L2 DL
def ifB : Stmt → List Stmt
  | .If _ b .. => b
  | _ => []
/-! ### rank, by rows that stay whole -/
structure BaS where
  rank : Nat
  bef : Int
  R : Nat → Row
def fnd (R : Nat → Row) (c : Nat) (o : Option Nat) (i : Nat) : Option Nat := if (o.isNone && !decide (gt (R i) c = 0)) = true then some i else o
def atF (R : Nat → Row) (c k N : Nat) : Option Nat := ((List.range (N - k)).map fun i => k + i).foldl (fnd R c) none
def brow (W c : Nat) (p r : Row) (b : Int) : Row := ofF W fun j => (gt p c * gt r j - gt r c * gt p j).fdiv b
def swp (R : Nat → Row) (k a : Nat) : Nat → Row := fun i => if i = k then R a else if i = a then R k else R i
def baS (W N : Nat) (z : BaS) (c : Nat) : BaS := match atF z.R c z.rank N with
  | none => z
  | some a => ⟨z.rank + 1, gt (z.R a) c, fun i => if z.rank < i ∧ i < N then brow W c (z.R a) (swp z.R z.rank a i) z.bef else swp z.R z.rank a i⟩
def baF (W N : Nat) (R : Nat → Row) (k : Nat) : BaS := (List.range k).foldl (baS W N) ⟨0, 1, R⟩
def atD : Option Nat → PyData
  | none => .int (-1)
  | some i => iN i
theorem fnd_some {R : Nat → Row} {c : Nat} : ∀ (l : List Nat) (o : Option Nat) (a : Nat), l.foldl (fnd R c) o = some a → o = some a ∨ (a ∈ l ∧ gt (R a) c ≠ 0)
  | [], o, a, h => .inl h
  | i :: l, o, a, h => by
    rcases fnd_some l (fnd R c o i) a h with e | ⟨e1, e2⟩
    · unfold fnd at e
      split at e
      · rename_i hc
        have : i = a := Option.some.inj e
        subst this
        have := (Bool.and_eq_true_iff.mp hc).2
        exact .inr ⟨List.mem_cons_self, by simpa using this⟩
      · exact .inl e
    · exact .inr ⟨List.mem_cons_of_mem _ e1, e2⟩
theorem fnd_none {R : Nat → Row} {c : Nat} : ∀ (l : List Nat) (o : Option Nat), l.foldl (fnd R c) o = none → o = none ∧ ∀ i, i ∈ l → gt (R i) c = 0
  | [], o, h => ⟨h, fun i hi => by simp at hi⟩
  | i :: l, o, h => by
    obtain ⟨h1, h2⟩ := fnd_none l (fnd R c o i) h
    unfold fnd at h1
    split at h1
    · cases h1
    · rename_i hc
      subst h1
      refine ⟨rfl, fun q hq => ?_⟩
      rcases List.mem_cons.mp hq with e | e
      · rw [e]
        refine Classical.byContradiction fun no => hc ?_
        rw [decide_eq_false no]; rfl
      · exact h2 q e
theorem atF_some {R : Nat → Row} {c k N a : Nat} (h : atF R c k N = some a) : k ≤ a ∧ a < N ∧ gt (R a) c ≠ 0 := by
  rcases fnd_some _ _ _ h with e | ⟨e1, e2⟩
  · cases e
  · obtain ⟨i, hi, rfl⟩ := List.mem_map.mp e1
    have := List.mem_range.mp hi
    exact ⟨by omega, by omega, e2⟩
theorem atF_none {R : Nat → Row} {c k N : Nat} (h : atF R c k N = none) : ∀ i, k ≤ i → i < N → gt (R i) c = 0 := fun i h1 h2 =>
  (fnd_none _ _ h).2 i (List.mem_map.mpr ⟨i - k, List.mem_range.mpr (by omega), by omega⟩)
theorem baF_succ (W N : Nat) (R : Nat → Row) (k : Nat) : baF W N R (k + 1) = baS W N (baF W N R k) k := by
  unfold baF
  rw [List.range_succ, List.foldl_append]; rfl
structure BaOk (W N : Nat) (z : BaS) : Prop where
  b0 : z.bef ≠ 0
  b9 : z.bef.natAbs < 2 ^ 9000
  len : ∀ i, i < N → (z.R i).length = W
  bl : ∀ i, i < N → BL (z.R i)
section
variable {P : Program} {w : World} {K : PySem.W.Frag} {mg : Str → Option Value} {base : Heap} (B : Bi mg)
def R110 : List PyData → PyData → Prop := fun ds r => ∃ (W N : Nat) (R : Nat → Row), 1 ≤ N ∧ N ≤ 100 ∧ W ≤ 100 ∧ (∀ k, k ≤ W → BaOk W N (baF W N R k)) ∧ ds = [rlD (ofF N R)] ∧ r = iN (baF W N R W).rank
theorem rows_at {N : Nat} {R : Nat → Row} {i : Nat} (h : i < N) : atI ((ofF N R).map rwD) (i : Int) = some (rwD (R i)) := atI_nat (by rw [List.getElem?_map, ofF_get h]; rfl)
theorem rows_set {N : Nat} {R : Nat → Row} {i : Nat} {v : Row} : ((ofF N R).map rwD).set i (rwD v) = (ofF N fun k => if k = i then v else R k).map rwD := by rw [← List.map_set, ofF_set]
theorem rank_le {W N : Nat} {R : Nat → Row} : ∀ k, (baF W N R k).rank ≤ k ∧ (baF W N R k).rank ≤ N
  | 0 => ⟨Nat.le_refl _, Nat.zero_le _⟩
  | k + 1 => by
    obtain ⟨h1, h2⟩ := rank_le k (W := W) (N := N) (R := R)
    rw [baF_succ]
    unfold baS
    cases e : atF (baF W N R k).R k (baF W N R k).rank N with
    | none => exact ⟨Nat.le_succ_of_le h1, h2⟩
    | some a =>
      have := atF_some e
      exact ⟨Nat.succ_le_succ h1, by show _ + 1 ≤ N; omega⟩
include B in
theorem w110 (F : FF K mg "_law_rank" "_law_rank" 110) : Cb true P w K mg base 1 "_law_rank" 1 R110 := by
  refine cb_both F sc110 rfl bn110 fun f cd A outer s H hb pn ds r hm rm hR hn => ?_
  obtain ⟨W, N, R, hN1, hN, hW, ok, rfl, rfl⟩ := hR
  refine .inl ?_
  have lenN : ∀ R : Nat → Row, ((ofF N R).map rwD).length = N := fun R => by rw [List.length_map, ofF_length]
  refine dss_cons (ds_setN 0 sc110.nd (dn_listL B.list (DE.dr (de_v 0)))) ?_
  refine dss_cons (ds_asg (de_tup2 de_int de_int) (dg_tup2 hm (dg_name 1 sc110.nd) (dg_name 2 sc110.nd))) ?_
  have key := dfor_inv (X := cxB P w K mg base ["_law_rows", "_law_rank_here", "_law_before", "_law_c", "_law_at", "_law_i", "_law_held", "_law_lead", "_law_row_here", "_law_j"] "_law_rank" (defScope (top 110)) f cd A outer s H hb pn) (tg := fT 110 2) (body := fB 110 2) (List.range W) iN (fun k => [.own ((ofF N (baF W N R k).R).map rwD), .dat (iN (baF W N R k).rank), .dat (.int (baF W N R k).bef), .no, .no, .no, .no, .no, .no, .no]) fun k c hk => ?_
  · rw [List.length_range] at key
    have l0 : (R 0).length = W := (ok 0 (Nat.zero_le _)).len 0 (by omega)
    refine dss_cons (ds_for (cmM hm) PassesOwn.never (di_range B.range W (dec (de_lenL B.len (DE.dr (de_ixL (dr_v 0) de_int (rows_at (i := 0) (by omega))))) (congrArg PyData.int (by rw [il_length, l0]))) (by omega)) key) (dss_one (ds_ret (de_v 1)))
  · obtain ⟨rfl, hc⟩ := range_get hk
    have okc := ok c (by omega)
    obtain ⟨rk1, rk2⟩ := rank_le (W := W) (N := N) (R := R) c
    rw [baF_succ]
    generalize baF W N R c = z at okc rk1 rk2
    obtain ⟨rank, bef, R⟩ := z
    have rk3 : rank ≤ c := rk1
    have rk4 : rank ≤ N := rk2
    refine ⟨_, _, dg_name 3 sc110.nd, ?_⟩
    refine dss_cons (ds_set 4 sc110.nd (de_neg de_int)) ?_
    refine dss_cons (G1 := [.own ((ofF N R).map rwD), .dat (iN rank), .dat (.int bef), .dat (iN c), .dat (atD (atF R c rank N)), .no, .no, .no, .no, .no]) (ds_forF (fun o : Option Nat => [.own ((ofF N R).map rwD), .dat (iN rank), .dat (.int bef), .dat (iN c), .dat (atD o), .no, .no, .no, .no, .no]) (fnd R c) (fun _ => True) none ((List.range (N - rank)).map fun i => rank + i) iN (cmM hm) PassesOwn.never (by rw [List.map_map]; exact di_range2 B.range rank N (de_v 1) (dec (de_lenL B.len (dr_v 0)) (by rw [lenN])) (by omega) (by omega)) trivial fun o i hi _ => ⟨trivial, ?_⟩) ?_
    · obtain ⟨i', hi', rfl⟩ := List.mem_map.mp hi
      have hi2 : rank + i' < N := by have := List.mem_range.mp hi'; omega
      have li := okc.len (rank + i') hi2
      have t : DT (cxB P w K mg base ["_law_rows", "_law_rank_here", "_law_before", "_law_c", "_law_at", "_law_i", "_law_held", "_law_lead", "_law_row_here", "_law_j"] "_law_rank" (defScope (top 110)) f cd A outer s H hb pn) [.own ((ofF N R).map rwD), .dat (iN rank), .dat (.int bef), .dat (iN c), .dat (atD o), .dat (iN (rank + i')), .no, .no, .no, .no] (ifTest (forB ((fB 110 2).getD 1 (.Pass ⟨0, 0, 0, 0⟩)))) (o.isNone && !decide (gt (R (rank + i')) c = 0)) := by
        refine DW.dt ?_
        cases o with
        | none => exact dw_and (dtc (dt_lt (de_v 4) de_int)) fun _ => dw_and1 (dt_ne (de_ixL (DE.dr (de_ixL (dr_v 0) (de_v 5) (rows_at hi2))) (de_v 3) (gt_at (by rw [li]; exact hc))) de_int)
        | some q => exact dw_andF (dtc (dt_lt (i := (q : Int)) (de_v 4) de_int) (decide_eq_false (by omega)))
      unfold fnd
      refine ⟨_, _, [.own ((ofF N R).map rwD), .dat (iN rank), .dat (.int bef), .dat (iN c), .dat (atD (if (o.isNone && !decide (gt (R (rank + i')) c = 0)) = true then some (rank + i') else o)), .dat (iN (rank + i')), .no, .no, .no, .no], dg_name 5 sc110.nd, dss_one (ds_if t (fun h => ?_) fun h => ?_), .keep (.keep (.keep (.keep (.keep (.drop (.keep (.keep (.keep (.keep .nil)))))))))⟩
      · rw [if_pos h]
        exact dss_one (ds_set 4 sc110.nd (de_v 5))
      · rw [if_neg (by rw [h]; exact Bool.false_ne_true)]
        exact dss_nil
    unfold baS
    cases e : atF R c rank N with
    | none =>
      refine DSs.less (dss_one (ds_ifF (dtc (dt_ge (i := -1) (de_v 4) de_int)) dss_nil)) ?_
      show Less _ [.own ((ofF N R).map rwD), .dat (iN rank), .dat (.int bef), _, _, _, _, _, _, _]
      exact .keep (.keep (.keep (.drop (.drop (.keep (.keep (.keep (.keep (.keep .nil)))))))))
    | some a =>
      obtain ⟨a1, a2, a3⟩ := atF_some e
      have lp := okc.len a a2
      refine DSs.less (G1 := [.own ((ofF N (fun i => if rank < i ∧ i < N then brow W c (R a) (swp R rank a i) bef else swp R rank a i)).map rwD), .dat (iN (rank + 1)), .dat (.int (gt (R a) c)), .dat (iN c), .dat (iN a), .no, .dat (rwD (R a)), .no, .no, .no]) (dss_one (ds_ifT (dtc (dt_ge (i := (a : Int)) (de_v 4) de_int) (decide_eq_true (by omega))) ?_)) (.keep (.keep (.keep (.drop (.drop (.keep (.drop (.keep (.keep (.keep .nil))))))))))
      refine dss_cons (ds_set 6 sc110.nd (de_ixL (dr_v 0) (de_v 4) (rows_at a2))) ?_
      refine dss_cons (ds_put 0 (m := a) rfl (de_ixL (dr_v 0) (de_v 1) (rows_at (by omega))) (de_v 4) (by rw [lenN]; exact ixN_nat a2)) ?_
      rw [rows_set]
      refine dss_cons (ds_put 0 (m := rank) rfl (de_v 6) (de_v 1) (by rw [lenN]; exact ixN_nat (by omega))) ?_
      rw [rows_set]
      have es : (fun k => if k = rank then R a else (fun k => if k = a then R rank else R k) k) = swp R rank a := rfl
      rw [es]
      let S : Nat → Nat → Row := fun m i => if rank < i ∧ i < rank + 1 + m then brow W c (R a) (swp R rank a i) bef else swp R rank a i
      have S0 : ofF N (swp R rank a) = ofF N (S 0) := ofF_congr fun i hi => by
        show _ = if rank < i ∧ i < rank + 1 + 0 then _ else _
        rw [if_neg (by omega)]
      rw [S0]
      have slen : ∀ i, i < N → (swp R rank a i).length = W := fun i hi => by
        unfold swp
        split
        · exact okc.len a a2
        · split
          · exact okc.len rank (by omega)
          · exact okc.len i hi
      have sbl : ∀ i, i < N → BL (swp R rank a i) := fun i hi => by
        unfold swp
        split
        · exact okc.bl a a2
        · split
          · exact okc.bl rank (by omega)
          · exact okc.bl i hi
      refine dss_cons (G1 := [.own ((ofF N (S (N - (rank + 1)))).map rwD), .dat (iN rank), .dat (.int bef), .dat (iN c), .dat (iN a), .no, .dat (rwD (R a)), .no, .no, .no]) ?_ ?_
      · have key2 := dfor_inv (X := cxB P w K mg base ["_law_rows", "_law_rank_here", "_law_before", "_law_c", "_law_at", "_law_i", "_law_held", "_law_lead", "_law_row_here", "_law_j"] "_law_rank" (defScope (top 110)) f cd A outer s H hb pn) (tg := forT ((ifB ((fB 110 2).getD 2 (.Pass ⟨0, 0, 0, 0⟩))).getD 3 (.Pass ⟨0, 0, 0, 0⟩))) (body := forB ((ifB ((fB 110 2).getD 2 (.Pass ⟨0, 0, 0, 0⟩))).getD 3 (.Pass ⟨0, 0, 0, 0⟩))) (List.range (N - (rank + 1))) (fun i => iN (rank + 1 + i)) (fun m => [.own ((ofF N (S m)).map rwD), .dat (iN rank), .dat (.int bef), .dat (iN c), .dat (iN a), .no, .dat (rwD (R a)), .no, .no, .no]) fun m i hi => ?_
        · rw [List.length_range] at key2
          exact ds_for (cmM hm) PassesOwn.never (di_range2 B.range (rank + 1) N (dec (de_add (de_v 1) de_int) (congrArg PyData.int (Int.natCast_add rank 1).symm)) (dec (de_lenL B.len (dr_v 0)) (by rw [lenN])) (by omega) (by omega)) key2
        · obtain ⟨rfl, hi2⟩ := range_get hi
          have hiN : rank + 1 + i < N := by omega
          have Si : S i (rank + 1 + i) = swp R rank a (rank + 1 + i) := if_neg (by omega)
          have l2 := slen _ hiN
          have b2 := sbl _ hiN
          refine ⟨_, _, dg_name 5 sc110.nd, ?_⟩
          refine dss_cons (ds_asg (de_tup2 (de_ixL (DE.dr (de_ixL (dr_v 0) (de_v 5) (rows_at hiN))) (de_v 3) (by rw [Si]; exact gt_at (by rw [l2]; exact hc))) (de_ixL (dr_v 0) (de_v 5) (rows_at hiN))) (dg_tup2 hm (dg_name 7 sc110.nd) (dg_name 8 sc110.nd))) ?_
          rw [Si]
          generalize hri : swp R rank a (rank + 1 + i) = ri at l2 b2 Si
          have ba := okc.bl a a2
          refine DSs.less (dss_one (ds_put 0 (m := rank + 1 + i) rfl (dec (DN.de (dn_lc (own := [("_law_j", 9)]) (List.range W) iN (fun j => .int ((gt (R a) c * gt ri j - gt ri c * gt (R a) j).fdiv bef)) (cmM hm) sc110.nd (sml (by rw [List.length_range]; omega)) bk (di_range B.range W (dec (de_lenL B.len (DE.dr (de_v 6))) (congrArg PyData.int (by rw [il_length, lp]))) (by omega)) fun j hj => ⟨_, _, fun j hj => hj, fun s H C cl fp => ⟨dg_name 9 sc110.nd, de_div (de_sub (de_mul (de_ixL (DE.dr (de_v 6)) (de_v 3) (gt_at (by rw [lp]; exact hc))) (de_ixL (DE.dr (de_v 8)) (de_v 9) (gt_at (by rw [l2]; exact List.mem_range.mp hj))) (mulB (k := 20000) (ba.gt _) (b2.gt _) (by omega))) (de_mul (de_v 7) (de_ixL (DE.dr (de_v 6)) (de_v 9) (gt_at (by rw [lp]; exact List.mem_range.mp hj))) (mulB (k := 20000) (b2.gt _) (ba.gt _) (by omega)))) (de_v 2) (EL.cdv okc.b0 okc.b9)⟩⟩)) (q := rwD (brow W c (R a) ri bef)) ?_) (de_v 5) (by rw [lenN]; exact ixN_nat hiN))) ?_
          · unfold rwD brow il
            rw [ofF_map]; rfl
          · rw [rows_set]
            have eS : ofF N (fun k => if k = rank + 1 + i then brow W c (R a) ri bef else S i k) = ofF N (S (i + 1)) := ofF_congr fun k hk => by
              show _ = if rank < k ∧ k < rank + 1 + (i + 1) then _ else _
              by_cases ek : k = rank + 1 + i
              · rw [if_pos ek, if_pos (by omega), ek, hri]
              · rw [if_neg ek]
                show (if rank < k ∧ k < rank + 1 + i then _ else _) = _
                by_cases h2 : rank < k ∧ k < rank + 1 + i
                · rw [if_pos h2, if_pos (by omega)]
                · rw [if_neg h2, if_neg (by omega)]
            rw [eS]
            exact .keep (.keep (.keep (.keep (.keep (.drop (.keep (.drop (.drop (.keep .nil)))))))))
      · have eF : ofF N (S (N - (rank + 1))) = ofF N (fun i => if rank < i ∧ i < N then brow W c (R a) (swp R rank a i) bef else swp R rank a i) := ofF_congr fun k hk => by
          show (if rank < k ∧ k < rank + 1 + (N - (rank + 1)) then _ else _) = _
          rw [show rank + 1 + (N - (rank + 1)) = N by omega]
        rw [eF]
        refine dss_cons (ds_set 2 sc110.nd (de_ixL (DE.dr (de_v 6)) (de_v 3) (gt_at (by rw [lp]; exact hc)))) ?_
        exact DSs.less (dss_one (ds_aug 1 sc110.nd rfl de_int)) .rfl
end
end EL
end
section
set_option maxHeartbeats 1000000
/-! The whole-number elimination tells the rank. -/
namespace EL
open MA MB MD
structure BI (lines : List Row) (W N B k : Nat) (z : BaS) (ps : Ps) (o : Nat → Row) : Prop where
  nz : pv ps ≠ 0
  bef : ((z.bef : Int) : Rat) = pv ps
  rank : ps.length = z.rank
  kb : z.rank ≤ k
  mem : ∀ p, p ∈ ps → ∃ l, l ∈ lines ∧ p.1 = rv l
  left : ∀ i, z.rank ≤ i → i < N → o i ∈ lines ∧ (∀ j, rv (z.R i) j = pv ps * rd ps (rv (o i)) j) ∧ ∀ j, j < k → gt (z.R i) j = 0
  len : ∀ i, i < N → (z.R i).length = W
  bl : ∀ i, i < N → ∀ x, x ∈ z.R i → x.natAbs < 2 ^ 4000
  all : ∀ l, l ∈ lines → rd ps (rv l) = zr ∨ ∃ i, z.rank ≤ i ∧ i < N ∧ o i = l
section
variable {lines : List Row} {W N B : Nat} (hlen : ∀ l, l ∈ lines → l.length = W) (hLB : LB lines B) (hb : B ≤ 2 ^ 120) (hW : W ≤ 22)
include hlen hLB hb hW
theorem bi_step {k : Nat} {z : BaS} {ps : Ps} {o : Nat → Row} (h : BI lines W N B k z ps o) (hk : k < W) : ∃ ps' o', BI lines W N B (k + 1) (baS W N z k) ps' o' := by
  obtain ⟨rank, bef, R⟩ := z
  unfold baS
  cases e : atF R k rank N with
  | none =>
    have hz := atF_none e
    refine ⟨ps, o, h.nz, h.bef, h.rank, Nat.le_succ_of_le h.kb, h.mem, fun i h1 h2 => ?_, h.len, h.bl, h.all⟩
    obtain ⟨a, b, c⟩ := h.left i h1 h2
    refine ⟨a, b, fun j hj => ?_⟩
    by_cases ej : j = k
    · rw [ej]; exact hz i h1 h2
    · exact c j (by omega)
  | some a =>
    obtain ⟨a1, a2, a3⟩ := atF_some e
    have hrk : ps.length = rank := h.rank
    have kb : rank ≤ k := h.kb
    obtain ⟨om, oe, o0⟩ := h.left a a1 a2
    have ve : rv (R a) k = pv ps * rd ps (rv (o a)) k := oe k
    have vk : rd ps (rv (o a)) k ≠ 0 := fun q => by
      rw [q, Rat.mul_zero] at ve
      exact a3 (Rat.intCast_eq_zero_iff.mp ve)
    have nz' : pv ((rv (o a), k) :: ps) ≠ 0 := fun q => (Rat.mul_eq_zero.mp q).elim h.nz vk
    have bef' : ((gt (R a) k : Int) : Rat) = pv ((rv (o a), k) :: ps) := ve
    have mem' : ∀ p, p ∈ (rv (o a), k) :: ps → ∃ l, l ∈ lines ∧ p.1 = rv l := fun p hp => by
      rcases List.mem_cons.mp hp with q | q
      · rw [q]; exact ⟨_, om, rfl⟩
      · exact h.mem p q
    have zps : ∀ p, p ∈ (rv (o a), k) :: ps → ZV B p.1 := fun p hp => by
      obtain ⟨l, hl, q⟩ := mem' p hp
      rw [q]; exact hLB.zv hl
    let o' : Nat → Row := fun i => if i = rank then o a else if i = a then o rank else o i
    -- the rows as they are exchanged
    have sw : ∀ i, rank < i → i < N → o' i ∈ lines ∧ (∀ j, rv (swp R rank a i) j = pv ps * rd ps (rv (o' i)) j) ∧ ∀ j, j < k → gt (swp R rank a i) j = 0 := fun i h1 h2 => by
      show (if i = rank then o a else if i = a then o rank else o i) ∈ lines ∧ _
      have e1 : (if i = rank then o a else if i = a then o rank else o i) = if i = a then o rank else o i := if_neg (by omega)
      have e2 : swp R rank a i = if i = a then R rank else R i := if_neg (by omega)
      have e3 : o' i = if i = a then o rank else o i := e1
      rw [e1, e2, e3]
      by_cases ea : i = a
      · rw [if_pos ea, if_pos ea]; exact h.left rank (Nat.le_refl _) (by omega)
      · rw [if_neg ea, if_neg ea]; exact h.left i (by show rank ≤ i; omega) h2
    have b0 : ((bef : Int) : Rat) = pv ps := h.bef
    have bne : bef ≠ 0 := fun q => h.nz (by rw [← b0, q]; rfl)
    have new : ∀ i, rank < i → i < N → ∀ j, ∃ y : Int, gt (brow W k (R a) (swp R rank a i) bef) j = y ∧ ((y : Int) : Rat) = pv ((rv (o a), k) :: ps) * rd ((rv (o a), k) :: ps) (rv (o' i)) j ∧ y.natAbs < 2 ^ 4000 := fun i h1 h2 j => by
      obtain ⟨s1, s2, s3⟩ := sw i h1 h2
      obtain ⟨y, ey, hy⟩ := rd_ZB (L := 32) nz' (by rw [List.length_cons]; omega) zps (hLB.zv s1) j
      refine ⟨y, ?_, ey.symm, Nat.lt_of_le_of_lt hy (pow_big hb (Nat.le_refl _) (by rw [List.length_cons]; omega))⟩
      have num : gt (R a) k * gt (swp R rank a i) j - gt (swp R rank a i) k * gt (R a) j = bef * y := by
        refine cinj ?_
        rw [Rat.intCast_sub, Rat.intCast_mul, Rat.intCast_mul, Rat.intCast_mul, ← ey, b0]
        show rv (R a) k * rv (swp R rank a i) j - rv (swp R rank a i) k * rv (R a) j = pv ps * (pv ps * rd ps (rv (o a)) k * (rd ps (rv (o' i)) j + -(rd ps (rv (o' i)) k / rd ps (rv (o a)) k) * rd ps (rv (o a)) j))
        rw [oe k, oe j, s2 k, s2 j, Rat.div_def]
        have := Rat.inv_mul_cancel _ vk
        grind
      unfold brow
      rw [gt_ofF]
      by_cases hj : j < W
      · rw [if_pos hj, num]
        exact Int.mul_fdiv_cancel_left _ bne
      · rw [if_neg hj]
        -- beyond the width all is 0
        have z1 : gt (R a) j = 0 := gt_ge (by rw [h.len a a2]; omega)
        have l2 : (swp R rank a i).length = W := by
          unfold swp
          split
          · exact h.len a a2
          · split
            · exact h.len rank (by omega)
            · exact h.len i h2
        have z2 : gt (swp R rank a i) j = 0 := gt_ge (by rw [l2]; omega)
        rw [z1, z2, Int.mul_zero, Int.mul_zero] at num
        have : bef * y = 0 := by omega
        exact ((Int.mul_eq_zero.mp this).resolve_left bne).symm
    refine ⟨(rv (o a), k) :: ps, o', nz', bef', by rw [List.length_cons, hrk], Nat.succ_le_succ kb, mem', fun i h1 h2 => ?_, fun i hi => ?_, fun i hi x hx => ?_, fun l hl => ?_⟩
    · have h1' : rank < i := h1
      have e1 : (if rank < i ∧ i < N then brow W k (R a) (swp R rank a i) bef else swp R rank a i) = brow W k (R a) (swp R rank a i) bef := if_pos ⟨h1', h2⟩
      show o' i ∈ lines ∧ (∀ j, rv (if rank < i ∧ i < N then brow W k (R a) (swp R rank a i) bef else swp R rank a i) j = _) ∧ ∀ j, j < k + 1 → gt (if rank < i ∧ i < N then brow W k (R a) (swp R rank a i) bef else swp R rank a i) j = 0
      rw [e1]
      obtain ⟨s1, s2, s3⟩ := sw i h1' h2
      refine ⟨s1, fun j => ?_, fun j hj => ?_⟩
      · obtain ⟨y, e2, e3, _⟩ := new i h1' h2 j
        show ((gt _ j : Int) : Rat) = _
        rw [e2, e3]
      · obtain ⟨y, e2, e3, _⟩ := new i h1' h2 j
        rw [e2]
        refine Rat.intCast_eq_zero_iff.mp ?_
        rw [e3]
        have t2 : rd ((rv (o a), k) :: ps) (rv (o' i)) j = 0 := by
          by_cases ej : j = k
          · rw [ej]; exact el_c vk
          · have zz : ∀ {r : Row} {v : Vc}, rv r j = pv ps * v j → gt r j = 0 → v j = 0 := fun {r v} q g0 => by
              have : rv r j = 0 := by show ((gt r j : Int) : Rat) = 0; rw [g0]; rfl
              rw [this] at q
              exact (Rat.mul_eq_zero.mp q.symm).resolve_left h.nz
            show rd ps (rv (o' i)) j + _ * rd ps (rv (o a)) j = 0
            rw [zz (s2 j) (s3 j (by omega)), zz (oe j) (o0 j (by omega))]; grind
        rw [t2, Rat.mul_zero]
    · show (if rank < i ∧ i < N then brow W k (R a) (swp R rank a i) bef else swp R rank a i).length = W
      split
      · exact ofF_length
      · unfold swp
        split
        · exact h.len a a2
        · split
          · exact h.len rank (by omega)
          · exact h.len i hi
    · have hx' : x ∈ (if rank < i ∧ i < N then brow W k (R a) (swp R rank a i) bef else swp R rank a i) := hx
      by_cases hc : rank < i ∧ i < N
      · rw [if_pos hc] at hx'
        obtain ⟨j, _, rfl⟩ := mem_gt hx'
        obtain ⟨y, e2, _, e4⟩ := new i hc.1 hc.2 j
        rw [e2]; exact e4
      · rw [if_neg hc] at hx'
        unfold swp at hx'
        split at hx'
        · exact h.bl a a2 x hx'
        · split at hx'
          · exact h.bl rank (by omega) x hx'
          · exact h.bl i hi x hx'
    · rcases h.all l hl with q | ⟨i, i1, i2, i3⟩
      · left
        show el _ _ (rd ps (rv l)) = zr
        rw [q, el_zr]
      · have i1' : rank ≤ i := i1
        by_cases ea : i = a
        · left
          show el (rd ps (rv (o a))) k (rd ps (rv l)) = zr
          rw [← i3, ea]
          exact el_self vk
        · by_cases er : i = rank
          · right
            refine ⟨a, by show rank + 1 ≤ a; omega, a2, ?_⟩
            show (if a = rank then o a else if a = a then o rank else o a) = l
            rw [if_neg (by omega), if_pos rfl, ← er, i3]
          · right
            refine ⟨i, by show rank + 1 ≤ i; omega, i2, ?_⟩
            show (if i = rank then o a else if i = a then o rank else o i) = l
            rw [if_neg er, if_neg ea, i3]
theorem bar_all (hN : lines.length = N) : ∀ k, k ≤ W → ∃ ps o, BI lines W N B k (baF W N (fun i => lines.getD i []) k) ps o
  | 0, _ => by
    refine ⟨[], fun i => lines.getD i [], by show (1 : Rat) ≠ 0; decide, rfl, rfl, Nat.le_refl _, fun p hp => by simp at hp, fun i _ hi => ⟨getD_mem (by omega), fun j => ?_, fun j hj => by omega⟩, fun i hi => hlen _ (getD_mem (by omega)), fun i hi x hx => ?_, fun l hl => .inr ?_⟩
    · show _ = (1 : Rat) * _
      exact (Rat.one_mul _).symm
    · exact Nat.lt_of_le_of_lt (Nat.le_trans (hLB _ (getD_mem (by omega)) x hx) hb) (Nat.pow_lt_pow_right (by omega) (by omega))
    · obtain ⟨i, hi, e⟩ := List.mem_iff_getElem.mp hl
      exact ⟨i, Nat.zero_le _, by omega, by show lines.getD i [] = l; rw [List.getD_eq_getElem?_getD, List.getElem?_eq_getElem hi, e]; rfl⟩
  | k + 1, h => by
    obtain ⟨ps, o, i⟩ := bar_all hN k (by omega)
    rw [baF_succ]
    exact bi_step hlen hLB hb hW i (by omega)
theorem bar_ok (hN : lines.length = N) : (∀ k, k ≤ W → BaOk W N (baF W N (fun i => lines.getD i []) k)) ∧ Rk W (fun v => ∃ l, l ∈ lines ∧ v = rv l) (baF W N (fun i => lines.getD i []) W).rank := by
  refine ⟨fun k hk => ?_, ?_⟩
  · obtain ⟨ps, o, i⟩ := bar_all hlen hLB hb hW hN k hk
    have zps : ∀ p, p ∈ ps → ZV B p.1 := fun p hp => by
      obtain ⟨l, hl, q⟩ := i.mem p hp
      rw [q]; exact hLB.zv hl
    have kb := i.kb
    have rk := i.rank
    obtain ⟨y, ey, hy⟩ := pv_ZB (L := 32) i.nz (by omega) zps
    have e : (baF W N (fun i => lines.getD i []) k).bef = y := cinj (i.bef.trans ey)
    refine ⟨fun q => i.nz (by rw [← i.bef, q]; rfl), ?_, i.len, fun j hj x hx => Nat.lt_trans (i.bl j hj x hx) (Nat.pow_lt_pow_right (by omega) (by omega))⟩
    rw [e]
    exact Nat.lt_trans (Nat.lt_of_le_of_lt hy (pow_big hb (Nat.le_refl _) (by omega))) (Nat.pow_lt_pow_right (by omega) (by omega))
  · obtain ⟨ps, o, i⟩ := bar_all hlen hLB hb hW hN W (Nat.le_refl _)
    refine ⟨ps, i.nz, fun p hp => ?_, fun v ⟨l, hl, ev⟩ => ?_, i.rank⟩
    · obtain ⟨l, hl, q⟩ := i.mem p hp
      exact ⟨by rw [q]; exact rv_sup (hlen l hl), l, hl, q⟩
    · rw [ev]
      rcases i.all l hl with q | ⟨j, j1, j2, j3⟩
      · exact q
      · obtain ⟨_, q1, q2⟩ := i.left j j1 j2
        refine funext fun t => ?_
        have g0 : gt ((baF W N (fun i => lines.getD i []) W).R j) t = 0 := by
          by_cases ht : t < W
          · exact q2 t ht
          · exact gt_ge (by rw [i.len j j2]; omega)
        have := q1 t
        have z : rv ((baF W N (fun i => lines.getD i []) W).R j) t = 0 := by show ((gt _ t : Int) : Rat) = 0; rw [g0]; rfl
        rw [z, j3] at this
        exact (Rat.mul_eq_zero.mp this.symm).resolve_left i.nz
end
end EL
end
section
set_option maxHeartbeats 1000000
namespace EL
open PySem PySem.Spec PyProof.Rows L2 DL
/-! ### parts of the clock -/
def lowsF (b : Nat) : List Nat := ((List.range b).filter fun i => decide (b % (1 + i) = 0)).map fun i => 1 + i
def highsF (t : Nat) : List Nat := ((List.range t).filter fun i => decide (t % (1 + i) = 0)).map fun i => t / (1 + i)
def ptA (c : Ck) (r : Row) : Nat := (lowsF c.b).getD ((gt r 0).toNat % (lowsF c.b).length) 0
def ptH (c : Ck) (r : Row) : Nat := (highsF (tn c)).getD ((gt r 1).toNat % (highsF (tn c)).length) 0
def spQ (c : Ck) (f q : Nat) (p : Nat × Nat) : Bool := decide (f % p.1 = 0) && !decide (p.2 % q = 1)
def spS (c : Ck) (f : Nat) (z : Nat × Nat) (i : Nat) : Nat × Nat := if z.2 % (2 + i) = 0 then (if 0 < (c.mv.filter (spQ c f (2 + i))).length then z.1 * (2 + i) else z.1, z.2 / (2 + i)) else z
def spF (c : Ck) (r : Row) : Nat := ((List.range (c.b - 1)).foldl (spS c (ptH c r)) (1, c.b / ptA c r)).1
def R3 (r : Row) : Prop := r.length = 3 ∧ ∀ x, x ∈ r → 0 ≤ x ∧ x < 64
theorem R3.at {r : Row} (h : R3 r) {i : Nat} (hi : i < 3) : 0 ≤ gt r i ∧ gt r i < 64 := h.2 _ (gt_mem (by rw [h.1]; exact hi))
theorem lows_ok {b : Nat} (hb : 1 ≤ b) : 0 < (lowsF b).length ∧ ∀ x, x ∈ lowsF b → 1 ≤ x ∧ x ≤ b := by
  constructor
  · have : 1 ∈ lowsF b := List.mem_map.mpr ⟨0, List.mem_filter.mpr ⟨List.mem_range.mpr (by omega), by simp [Nat.mod_one]⟩, rfl⟩
    exact List.length_pos_of_mem this
  · intro x hx
    obtain ⟨i, hi, rfl⟩ := List.mem_map.mp hx
    have := List.mem_range.mp (List.mem_filter.mp hi).1
    omega
theorem highs_ok {t : Nat} (ht : 1 ≤ t) : 0 < (highsF t).length ∧ ∀ x, x ∈ highsF t → 1 ≤ x ∧ x ≤ t := by
  constructor
  · have : t / (1 + 0) ∈ highsF t := List.mem_map.mpr ⟨0, List.mem_filter.mpr ⟨List.mem_range.mpr (by omega), by simp [Nat.mod_one]⟩, rfl⟩
    exact List.length_pos_of_mem this
  · intro x hx
    obtain ⟨i, hi, rfl⟩ := List.mem_map.mp hx
    have h1 := List.mem_range.mp (List.mem_filter.mp hi).1
    exact ⟨Nat.div_pos (by omega) (by omega), Nat.div_le_self _ _⟩
theorem ptA_ok {c : Ck} (hc : CK c) (r : Row) : 1 ≤ ptA c r ∧ ptA c r ≤ c.b := by
  have cb := hc.bd
  obtain ⟨h1, h2⟩ := lows_ok (b := c.b) (by omega)
  exact h2 _ (getD_mem (Nat.mod_lt _ h1))
theorem ptH_ok {c : Ck} (hc : CK c) (r : Row) : 1 ≤ ptH c r ∧ ptH c r ≤ tn c := by
  have cb := hc.bd
  obtain ⟨h1, h2⟩ := highs_ok (t := tn c) (by omega)
  exact h2 _ (getD_mem (Nat.mod_lt _ h1))
theorem spS_ok {c : Ck} {f : Nat} : ∀ (l : List Nat) (z : Nat × Nat), 1 ≤ z.1 → 1 ≤ (l.foldl (spS c f) z).1
  | [], z, h => h
  | i :: l, z, h => spS_ok l (spS c f z i) (by
      unfold spS
      split
      · show 1 ≤ if _ then _ else _
        split
        · exact Nat.mul_pos h (by omega)
        · exact h
      · exact h)
theorem spF_ok (c : Ck) (r : Row) : 1 ≤ spF c r := spS_ok _ _ (Nat.le_refl _)
def ptD (c : Ck) (r : Row) : PyData := .tuple [iN (ptA c r), iN (ptH c r), .int (gt r 2 % spF c r)]
section
variable {P : Program} {w : World} {K : PySem.W.Frag} {mg : Str → Option Value} {base : Heap} (B : Bi mg)
def R107 : List PyData → PyData → Prop := fun ds r => ∃ (c : Ck) (l : Row), CK c ∧ R3 l ∧ ds = [ckD c, facD c, rwD l] ∧ r = ptD c l
theorem toN {x : Int} (h : 0 ≤ x) {m : Nat} : x % m = ((x.toNat % m : Nat) : Int) := by
  rw [Int.natCast_emod, Int.toNat_of_nonneg h]
include B in
theorem w107 (F : FF K mg "_law_part" "_law_part" 107) : Cb false P w K mg base 1 "_law_part" 3 R107 := by
  refine cb_calm F sc107 rfl bn107 fun f cd A outer s H ds r rm hR hn => ?_
  obtain ⟨c, l, hc, h3, rfl, rfl⟩ := hR
  have cb := hc.bd
  have hl : l.length = 3 := h3.1
  obtain ⟨lo1, lo2⟩ := lows_ok (b := c.b) (by omega)
  obtain ⟨hi1, hi2⟩ := highs_ok (t := tn c) (by omega)
  have pa := ptA_ok hc l
  have ph := ptH_ok hc l
  refine .inl ?_
  refine dss_cons (ds_asg (de_tup2 (de_ixT (d := iN c.b) (de_v 0) de_int rfl) (dec (de_lenL B.len (DE.dr (de_v 1))) (q := iN (tn c)) (by rw [il_length, ofF_length]))) (dg_tup2 (.inl rfl) (dg_name 3 sc107.nd) (dg_name 4 sc107.nd))) ?_
  refine dss_cons (ds_lcF (own := [("_law_k", 6)]) 5 (List.range c.b) (fun i => iN (1 + i)) (fun i => iN (1 + i)) (fun i => decide (c.b % (1 + i) = 0)) cmF sc107.nd (sml (by rw [List.length_range]; omega)) bk (di_range2 B.range 1 (1 + c.b) de_int (dec (de_add (de_v 3) de_int) (congrArg PyData.int (by omega))) (by omega) (by omega) |> fun z => by rw [show 1 + c.b - 1 = c.b by omega] at z; exact z) fun i hi => ⟨_, _, fun j hj => hj, fun s H C cl fp => ⟨dg_name 6 sc107.nd, dts_one (dtc (dt_eq (de_modP (de_intI B.int (de_v 3)) (de_v 6) (by omega)) de_int) ?_), fun _ => de_v 6⟩⟩) ?_
  · exact decide_eq_decide.mpr (by rw [← Int.natCast_emod]; omega)
  refine dss_frz 5 rfl ?_
  refine dss_cons (ds_lcF (own := [("_law_k", 6)]) 7 (List.range (tn c)) (fun i => iN (1 + i)) (fun i => iN (tn c / (1 + i))) (fun i => decide (tn c % (1 + i) = 0)) cmF sc107.nd (sml (by rw [List.length_range]; omega)) bk (di_range2 B.range 1 (1 + tn c) de_int (dec (de_add (de_v 4) de_int) (congrArg PyData.int (by omega))) (by omega) (by omega) |> fun z => by rw [show 1 + tn c - 1 = tn c by omega] at z; exact z) fun i hi => ⟨_, _, fun j hj => hj, fun s H C cl fp => ⟨dg_name 6 sc107.nd, dts_one (dtc (dt_eq (de_modP (de_intI B.int (de_v 4)) (de_v 6) (by omega)) de_int) ?_), fun _ => dec (de_div (de_v 4) (de_v 6) (cdvS (by omega) (by have := List.mem_range.mp hi; omega))) (congrArg PyData.int (Int.ofNat_fdiv _ _).symm)⟩⟩) ?_
  · exact decide_eq_decide.mpr (by rw [← Int.natCast_emod]; omega)
  refine dss_frz 7 rfl ?_
  have eL : PyData.list (((List.range c.b).filter fun i => decide (c.b % (1 + i) = 0)).map fun i => iN (1 + i)) = .list ((lowsF c.b).map iN) := by unfold lowsF; rw [List.map_map]; rfl
  have eH : PyData.list (((List.range (tn c)).filter fun i => decide (tn c % (1 + i) = 0)).map fun i => iN (tn c / (1 + i))) = .list ((highsF (tn c)).map iN) := by unfold highsF; rw [List.map_map]; rfl
  show DSs _ [_, _, _, _, _, .dat (PyData.list _), _, .dat (PyData.list _), _, _, _, _, _, _] _ _
  rw [eL, eH]
  have at1 : ∀ (m : List Nat) (k : Nat), k < m.length → atI (m.map iN) (k : Int) = some (iN (m.getD k 0)) := fun m k hk => atI_nat (by rw [List.getElem?_map, List.getD_eq_getElem?_getD, List.getElem?_eq_getElem hk]; rfl)
  refine dss_cons (ds_set 8 sc107.nd (d := iN (ptA c l)) (de_ixL (DE.dr (de_v 5)) (dec (de_modP (de_intI B.int (de_ixL (DE.dr (de_v 2)) de_int (gt_at (i := 0) (by omega)))) (de_lenL B.len (DE.dr (de_v 5))) (by rw [List.length_map]; omega)) (congrArg PyData.int (by rw [List.length_map]; exact toN (h3.at (by omega)).1))) (at1 _ _ (Nat.mod_lt _ lo1)))) ?_
  refine dss_cons (ds_set 9 sc107.nd (d := iN (ptH c l)) (de_ixL (DE.dr (de_v 7)) (dec (de_modP (de_intI B.int (de_ixL (DE.dr (de_v 2)) de_int (gt_at (i := 1) (by omega)))) (de_lenL B.len (DE.dr (de_v 7))) (by rw [List.length_map]; omega)) (congrArg PyData.int (by rw [List.length_map]; exact toN (h3.at (by omega)).1))) (at1 _ _ (Nat.mod_lt _ hi1)))) ?_
  refine dss_cons (ds_par 10 11 (.inl rfl) sc107.nd de_int (dec (de_div (de_v 3) (de_v 8) (cdvS (by omega) (by omega))) (q := iN (c.b / ptA c l)) (congrArg PyData.int (Int.ofNat_fdiv _ _).symm))) ?_
  refine dss_cons (ds_forF (fun z : Nat × Nat => [.dat (ckD c), .dat (facD c), .dat (rwD l), .dat (iN c.b), .dat (iN (tn c)), .dat (.list ((lowsF c.b).map iN)), .no, .dat (.list ((highsF (tn c)).map iN)), .dat (iN (ptA c l)), .dat (iN (ptH c l)), .dat (iN z.1), .dat (iN z.2), .no, .no]) (spS c (ptH c l)) (fun _ => True) (1, c.b / ptA c l) (List.range (c.b - 1)) (fun i => iN (2 + i)) cmF PassesOwn.never (di_range2 B.range 2 (1 + c.b) de_int (dec (de_add (de_v 3) de_int) (congrArg PyData.int (by omega))) (by omega) (by omega) |> fun z => by rw [show 1 + c.b - 2 = c.b - 1 by omega] at z; exact z) trivial fun z i hi _ => ⟨trivial, ?_⟩) ?_
  · have hi' := List.mem_range.mp hi
    refine ⟨_, _, [.dat (ckD c), .dat (facD c), .dat (rwD l), .dat (iN c.b), .dat (iN (tn c)), .dat (.list ((lowsF c.b).map iN)), .no, .dat (.list ((highsF (tn c)).map iN)), .dat (iN (ptA c l)), .dat (iN (ptH c l)), .dat (iN (spS c (ptH c l) z i).1), .dat (iN (spS c (ptH c l) z i).2), .dat (iN (2 + i)), .no], dg_name 12 sc107.nd, dss_one (ds_if (dtc (dt_eq (de_modP (de_intI B.int (de_v 11)) (de_v 12) (by omega)) de_int) (q := decide (z.2 % (2 + i) = 0)) (decide_eq_decide.mpr (by rw [← Int.natCast_emod]; omega))) (fun t => ?_) fun t => ?_), .keep (.keep (.keep (.keep (.keep (.keep (.keep (.keep (.keep (.keep (.keep (.keep (.drop (.keep .nil)))))))))))))⟩
    · have tt := of_decide_eq_true t
      have es : spS c (ptH c l) z i = (if 0 < (c.mv.filter (spQ c (ptH c l) (2 + i))).length then z.1 * (2 + i) else z.1, z.2 / (2 + i)) := if_pos tt
      rw [es]
      refine dss_cons (ds_set 11 sc107.nd (dec (de_div (de_v 11) (de_v 12) (cdvS (by omega) (by omega))) (q := iN (z.2 / (2 + i))) (congrArg PyData.int (Int.ofNat_fdiv _ _).symm))) ?_
      refine dss_one (ds_if (dtc (dt_gt (de_lenL B.len (DN.dr (dn_lcF (own := [("_law_pair", 13)]) c.mv mvD (fun _ => .int 1) (spQ c (ptH c l) (2 + i)) cmF sc107.nd (sml (by have := hc.all (fun c => decide (c.mv.length ≤ 5)); have := of_decide_eq_true this; omega)) bk (di_tup (de_ixT (ds := [iN c.b, .tuple (c.mv.map mvD)]) (de_v 0) de_int rfl)) fun p hp => ⟨_, _, fun j hj => hj, fun s H C cl fp => ⟨dg_name 13 sc107.nd, dts_one (DW.dt (dw_and (dtc (dt_eq (de_modP (de_intI B.int (de_v 9)) (de_ixT (ds := [iN p.1, iN p.2]) (d := iN p.1) (de_v 13) de_int rfl) ?_) de_int) (q := decide (ptH c l % p.1 = 0)) ?_) fun _ => dw_and1 (dtc (dt_ne (de_modP (de_intI B.int (de_ixT (ds := [iN p.1, iN p.2]) (d := iN p.2) (de_v 13) de_int rfl)) (de_v 12) (by omega)) de_int) ?_))), fun _ => de_int⟩⟩))) de_int) (q := decide (0 < (c.mv.filter (spQ c (ptH c l) (2 + i))).length)) ?_) (fun t2 => ?_) fun t2 => ?_)
      · have := hc.mv hp; omega
      · exact decide_eq_decide.mpr (by rw [← Int.natCast_emod]; omega)
      · exact congrArg (!·) (decide_eq_decide.mpr (by rw [← Int.natCast_emod]; omega))
      · rw [List.length_map]; exact decide_eq_decide.mpr (by omega)
      · rw [if_pos (of_decide_eq_true t2)]
        exact dss_one (ds_set 10 sc107.nd (dec (de_mul (de_v 10) (de_v 12) (mulS2 (by omega))) (congrArg PyData.int (Int.natCast_mul _ _).symm)))
      · rw [if_neg (of_decide_eq_false t2)]
        exact dss_nil
    · have tt := of_decide_eq_false t
      have es : spS c (ptH c l) z i = z := if_neg tt
      rw [es]
      exact dss_nil
  · have sp := spF_ok c l
    exact dss_one (ds_ret (de_tup (da_3 (de_v 8) (de_v 9) (de_modP (de_intI B.int (de_ixL (DE.dr (de_v 2)) de_int (gt_at (i := 2) (by omega)))) (de_v 10) (by show (0 : Int) < ((spF c l : Nat) : Int); omega))) sz3))
/-! ### members -/
def memF (c : Ck) (r : Row) (g : Nat) : Int := if (g / c.b) % (tn c / ptH c r) = 0 ∧ (((g % c.b : Nat) : Int) - (1 - facI c (g / c.b : Nat)) * (gt r 2 % spF c r)) % ((c.b / ptA c r : Nat) : Int) = 0 then 1 else 0
def R108 : List PyData → PyData → Prop := fun ds r => ∃ (c : Ck) (l : Row), CK c ∧ R3 l ∧ ds = [ckD c, ptD c l, facD c] ∧ r = rwD (ofF (nn c) (memF c l))
include B in
theorem w108 (F : FF K mg "_law_members" "_law_members" 108) : Cb false P w K mg base 1 "_law_members" 3 R108 := by
  refine cb_calm F sc108 rfl bn108 fun f cd A outer s H ds r rm hR hn => ?_
  obtain ⟨c, l, hc, h3, rfl, rfl⟩ := hR
  have cb := hc.bd
  have en : nn c = tn c * c.b := Nat.mul_comm _ _
  have pa := ptA_ok hc l
  have ph := ptH_ok hc l
  have sp := spF_ok c l
  have w1 : 0 < c.b / ptA c l := Nat.div_pos pa.2 (by omega)
  have w2 : 0 < tn c / ptH c l := Nat.div_pos ph.2 (by omega)
  have s3 := h3.at (i := 2) (by omega)
  have s4 := Int.emod_nonneg (gt l 2) (b := (spF c l : Int)) (by omega)
  have s5 : gt l 2 % (spF c l : Int) ≤ gt l 2  := by rw [toN s3.1]; have := Nat.mod_le (gt l 2).toNat (spF c l); omega
  refine .inl ?_
  refine dss_cons (ds_par 3 4 (.inl rfl) sc108.nd (d1 := iN (tn c / ptH c l)) (d2 := iN (c.b / ptA c l)) (dec (de_div (dec (de_lenL B.len (DE.dr (de_v 2))) (q := iN (tn c)) (by rw [il_length, ofF_length])) (de_ixT (ds := [iN (ptA c l), iN (ptH c l), .int (gt l 2 % spF c l)]) (d := iN (ptH c l)) (de_v 1) de_int rfl) (cdvS (by omega) (by omega))) (congrArg PyData.int (Int.ofNat_fdiv _ _).symm)) (dec (de_div (de_ixT (d := iN c.b) (de_v 0) de_int rfl) (de_ixT (ds := [iN (ptA c l), iN (ptH c l), .int (gt l 2 % spF c l)]) (d := iN (ptA c l)) (de_v 1) de_int rfl) (cdvS (by omega) (by omega))) (congrArg PyData.int (Int.ofNat_fdiv _ _).symm))) ?_
  refine dss_cons (ds_setN 5 sc108.nd dn_nil) ?_
  have key := dfor_inv (X := cxB P w K mg base ["_law_clock_here", "_law_part_here", "_law_factors_here", "_law_step", "_law_wide", "_law_on", "_law_t", "_law_x"] "_law_members" (defScope (top 108)) f cd A outer s H true []) (tg := fT 108 2) (body := fB 108 2) (List.range (tn c)) iN (fun t => [.dat (ckD c), .dat (ptD c l), .dat (facD c), .dat (iN (tn c / ptH c l)), .dat (iN (c.b / ptA c l)), .own ((List.range (t * c.b)).map fun g => .int (memF c l g)), .no, .no]) fun t a ht => ?_
  · rw [List.length_range, Nat.zero_mul] at key
    refine dss_cons (ds_for cmF PassesOwn.never (di_range B.range (tn c) (dec (de_lenL B.len (DE.dr (de_v 2))) (by rw [il_length, ofF_length])) (by omega)) key) (dss_frz 5 rfl (dss_one (ds_ret (dec (de_v 5) ?_))))
    unfold rwD il
    rw [ofF_map, en]; rfl
  · obtain ⟨rfl, hlt⟩ := range_get ht
    have fe := hc.fac hlt
    have fb : facN c a ≤ 100 := by
      have z := hc.all fun c => (List.range (tn c)).all fun t => decide (facN c t ≤ 100)
      exact of_decide_eq_true (List.all_eq_true.mp z a (List.mem_range.mpr hlt))
    refine ⟨_, _, dg_name 6 sc108.nd, ?_⟩
    have key2 := dfor_inv (X := cxB P w K mg base ["_law_clock_here", "_law_part_here", "_law_factors_here", "_law_step", "_law_wide", "_law_on", "_law_t", "_law_x"] "_law_members" (defScope (top 108)) f cd A outer s H true []) (tg := forT ((fB 108 2).getD 0 (.Pass ⟨0, 0, 0, 0⟩))) (body := forB ((fB 108 2).getD 0 (.Pass ⟨0, 0, 0, 0⟩))) (List.range c.b) iN (fun x => [.dat (ckD c), .dat (ptD c l), .dat (facD c), .dat (iN (tn c / ptH c l)), .dat (iN (c.b / ptA c l)), .own ((List.range (a * c.b + x)).map fun g => .int (memF c l g)), .dat (iN a), .no]) fun x a2 hx => ?_
    · rw [List.length_range, show a * c.b + c.b = (a + 1) * c.b by rw [Nat.succ_mul]] at key2
      exact DSs.less (dss_one (ds_for cmF PassesOwn.never (di_range B.range c.b (de_ixT (d := iN c.b) (de_v 0) de_int rfl) (by omega)) key2)) (.keep (.keep (.keep (.keep (.keep (.keep (.drop (.keep .nil))))))))
    · obtain ⟨rfl, hx2⟩ := range_get hx
      have hg : a * c.b + a2 < nn c := by
        have : (a + 1) * c.b ≤ tn c * c.b := Nat.mul_le_mul_right _ hlt
        rw [Nat.succ_mul] at this
        omega
      have d1 : (a * c.b + a2) / c.b = a := by rw [Nat.mul_comm, Nat.mul_add_div (by omega), Nat.div_eq_of_lt hx2]; rfl
      have d2 : (a * c.b + a2) % c.b = a2 := by rw [Nat.mul_comm, Nat.mul_add_mod, Nat.mod_eq_of_lt hx2]
      refine ⟨_, _, dg_name 7 sc108.nd, ?_⟩
      refine DSs.less (dss_one (ds_app 5 rfl (d := .int (memF c l (a * c.b + a2))) (dec (de_intB B.int (de_and (dec (de_eq (de_modP (de_intI B.int (de_v 6)) (de_v 3) (by omega)) de_int) (q := .bool (decide (a % (tn c / ptH c l) = 0))) ?_) fun _ => de_one (de_eq (de_modP (de_intI B.int (de_sub (de_v 7) (de_mul (de_sub de_int (de_ixL (DE.dr (de_v 2)) (de_v 6) (il_at (ofF_get hlt)))) (de_ixT (ds := [iN (ptA c l), iN (ptH c l), .int (gt l 2 % spF c l)]) (d := .int (gt l 2 % spF c l)) (de_v 1) de_int rfl) (mulS2 (by omega))))) (de_v 4) (by omega)) de_int))) ?_) ?_)) ?_
      · exact congrArg PyData.bool (decide_eq_decide.mpr (by rw [← Int.natCast_emod]; omega))
      · unfold memF
        rw [d1, d2]
        refine congrArg PyData.int ?_
        by_cases q1 : a % (tn c / ptH c l) = 0 <;> by_cases q2 : ((a2 : Int) - (1 - facI c (a : Nat)) * (gt l 2 % spF c l)) % ((c.b / ptA c l : Nat) : Int) = 0 <;> simp [q1, q2]
      · rw [List.length_map, List.length_range]; exact sml (by omega)
      · have e5 : (List.range (a * c.b + a2)).map (fun g => PyData.int (memF c l g)) ++ [PyData.int (memF c l (a * c.b + a2))] = (List.range (a * c.b + (a2 + 1))).map fun g => PyData.int (memF c l g) := by rw [← Nat.add_assoc, List.range_succ, List.map_append]; rfl
        show Less [_, _, _, _, _, .own _, _, _] _
        rw [e5]
        exact .keep (.keep (.keep (.keep (.keep (.keep (.keep (.drop .nil)))))))
end
end EL
end
section
set_option maxHeartbeats 1000000
namespace EL
open PySem PySem.Spec PyProof.Rows L2 DL
/-! ### products by the table: the sum, its size -/
theorem dz_sum {c : Ck} (hc : CK c) {a b : Row} {h : Nat} (hh : h < nn c) : dzF c a b h = ((List.range (nn c)).map fun g => gt a g * gt b (mN c (ivN c g) h)).sum := by
  have G := hc.grp
  have k1 : ∀ g, g < nn c → ∀ (m : Nat), m ≤ nn c → ∀ F : Nat → Int, (List.range m).foldl (dzK c a b g) F h = F h + (if mN c (ivN c g) h < m then gt a g * gt b (mN c (ivN c g) h) else 0) := by
    intro g hg m
    induction m with
    | zero => intro _ F; rw [if_neg (by omega)]; show F h = F h + 0; omega
    | succ m ih =>
      intro hm F
      rw [List.range_succ, List.foldl_append]
      show dzK c a b g ((List.range m).foldl (dzK c a b g) F) m h = _
      have i := ih (by omega) F
      unfold dzK at i ⊢
      by_cases e : h = mN c g m
      · have e2 := (mul_inv_eq hc hg (by omega) hh).mp e
        rw [if_pos e, i, if_neg (by omega), if_pos (by omega), ← e2]; omega
      · have e2 : m ≠ mN c (ivN c g) h := fun z => e ((mul_inv_eq hc hg (by omega) hh).mpr z)
        rw [if_neg e, i]
        by_cases q : mN c (ivN c g) h < m
        · rw [if_pos q, if_pos (by omega)]
        · rw [if_neg q, if_neg (by omega)]
  have k2 : ∀ m, m ≤ nn c → (List.range m).foldl (dzG c a b) (fun _ => 0) h = ((List.range m).map fun g => gt a g * gt b (mN c (ivN c g) h)).sum := by
    intro m
    induction m with
    | zero => intro _; rfl
    | succ m ih =>
      intro hm
      rw [List.range_succ, List.foldl_append, List.map_append, List.sum_append]
      show dzG c a b ((List.range m).foldl (dzG c a b) fun _ => 0) m h = _ + [gt a m * gt b (mN c (ivN c m) h)].sum
      have i := ih (by omega)
      rw [show [gt a m * gt b (mN c (ivN c m) h)].sum = gt a m * gt b (mN c (ivN c m) h) by simp, ← i]
      generalize (List.range m).foldl (dzG c a b) (fun _ => 0) = F
      unfold dzG
      split
      · rename_i h0; rw [h0, Int.zero_mul, Int.add_zero]
      · rw [k1 m (by omega) (nn c) (Nat.le_refl _) F, if_pos (G.cl _ _ (G.icl m (by omega)) hh)]
  exact k2 (nn c) (Nat.le_refl _)
def l1 (n : Nat) (a : Row) : Nat := ((List.range n).map fun g => (gt a g).natAbs).sum
theorem abs_sum {α : Type} (f : α → Int) : ∀ l : List α, (l.map f).sum.natAbs ≤ (l.map fun x => (f x).natAbs).sum
  | [] => Nat.le_refl _
  | x :: l => by
    have := abs_sum f l
    rw [List.map_cons, List.sum_cons, List.map_cons, List.sum_cons]
    omega
theorem sum_mono {α : Type} {f g : α → Nat} : ∀ {l : List α}, (∀ x, x ∈ l → f x ≤ g x) → (l.map f).sum ≤ (l.map g).sum
  | [], _ => Nat.le_refl _
  | x :: l, h => by
    have := sum_mono (l := l) fun y hy => h y (List.mem_cons_of_mem _ hy)
    have := h x List.mem_cons_self
    rw [List.map_cons, List.sum_cons, List.map_cons, List.sum_cons]
    omega
theorem sum_cmul {α : Type} (f : α → Nat) (M : Nat) : ∀ l : List α, (l.map fun x => f x * M).sum = (l.map f).sum * M
  | [] => (Nat.zero_mul _).symm
  | x :: l => by rw [List.map_cons, List.sum_cons, List.map_cons, List.sum_cons, sum_cmul f M l, Nat.add_mul]
theorem dz_bnd {c : Ck} (hc : CK c) {a b : Row} {A M : Nat} (ha : l1 (nn c) a ≤ A) (hb : ∀ i, (gt b i).natAbs ≤ M) {h : Nat} (hh : h < nn c) : (dzF c a b h).natAbs ≤ A * M := by
  rw [dz_sum hc hh]
  refine Nat.le_trans (abs_sum _ _) ?_
  refine Nat.le_trans (sum_mono (g := fun g => (gt a g).natAbs * M) fun g _ => by rw [Int.natAbs_mul]; exact Nat.mul_le_mul_left _ (hb _)) ?_
  rw [sum_cmul]
  exact Nat.mul_le_mul_right _ ha
theorem l1_le {n M : Nat} {a : Row} (h : ∀ i, (gt a i).natAbs ≤ M) : l1 n a ≤ n * M := by
  unfold l1
  induction n with
  | zero => exact Nat.zero_le _
  | succ n ih =>
    rw [List.range_succ, List.map_append, List.sum_append, Nat.succ_mul]
    have := h n
    simp only [List.map_cons, List.map_nil, List.sum_cons, List.sum_nil]
    omega
def dzL (c : Ck) (a b : Row) : Row := ofF (nn c) (dzF c a b)
structure WB (n M : Nat) (l : Row) : Prop where
  len : l.length = n
  bd : ∀ i, (gt l i).natAbs ≤ M
theorem WB.mono {n M M' : Nat} {l : Row} (h : WB n M l) (q : M ≤ M') : WB n M' l := ⟨h.len, fun i => Nat.le_trans (h.bd i) q⟩
theorem WB.bl {n M : Nat} {l : Row} (h : WB n M l) (q : M < 2 ^ 20000) : BL l := fun x hx => by
  obtain ⟨i, _, rfl⟩ := mem_gt hx
  exact Nat.lt_of_le_of_lt (h.bd i) q
theorem WB.blS {n M : Nat} {l : Row} (h : WB n M l) (q : M < 2 ^ 40 := by omega) : BL l := h.bl (Nat.lt_of_lt_of_le q (Nat.pow_le_pow_right (by omega) (by omega)))
theorem dzL_wb {c : Ck} (hc : CK c) {a b : Row} {A M : Nat} (ha : l1 (nn c) a ≤ A) (hb : ∀ i, (gt b i).natAbs ≤ M) : WB (nn c) (A * M) (dzL c a b) := ⟨ofF_length, fun i => by
  unfold dzL
  rw [gt_ofF]
  split
  · rename_i hi; exact dz_bnd hc ha hb hi
  · exact Nat.zero_le _⟩
/-! ### three moves -/
def v3 (k : Nat) : Int := ([1, 2, -1] : List Int).getD k 0
def thS (c : Ck) (r : Row) (F : Nat → Int) (k : Nat) : Nat → Int := fun h => if h = ((gt r k).toNat + k) % nn c then F h + v3 k else F h
def thL (c : Ck) (r : Row) : Row := ofF (nn c) ((List.range 3).foldl (thS c r) fun _ => 0)
theorem l1_add {n p : Nat} {F : Nat → Int} {v : Int} : l1 n (ofF n fun h => if h = p then F h + v else F h) ≤ l1 n (ofF n F) + v.natAbs := by
  have e : ∀ G : Nat → Int, l1 n (ofF n G) = ((List.range n).map fun g => (G g).natAbs).sum := fun G => by
    unfold l1
    congr 1
    exact List.map_congr_left fun g hg => by rw [gt_ofF, if_pos (List.mem_range.mp hg)]
  rw [e, e]
  have k : ∀ m, ((List.range m).map fun g => (if g = p then F g + v else F g).natAbs).sum ≤ ((List.range m).map fun g => (F g).natAbs).sum + (if p < m then v.natAbs else 0) := fun m => by
    induction m with
    | zero => exact Nat.le_refl _
    | succ m ih =>
      rw [List.range_succ, List.map_append, List.map_append, List.sum_append, List.sum_append]
      simp only [List.map_cons, List.map_nil, List.sum_cons, List.sum_nil]
      by_cases e1 : m = p
      · rw [if_pos e1]
        rw [if_neg (by omega)] at ih
        rw [if_pos (by omega)]
        omega
      · rw [if_neg e1]
        by_cases e2 : p < m
        · rw [if_pos e2] at ih; rw [if_pos (by omega)]; omega
        · rw [if_neg e2] at ih; rw [if_neg (by omega)]; omega
  refine Nat.le_trans (k n) ?_
  split <;> omega
theorem thL_l1 (c : Ck) (r : Row) : l1 (nn c) (thL c r) ≤ 4 := by
  have e0 : l1 (nn c) (ofF (nn c) fun _ => 0) = 0 := by
    have := l1_le (n := nn c) (M := 0) (a := ofF (nn c) fun _ => 0) fun i => by rw [gt_ofF]; split <;> exact Nat.le_refl _
    omega
  have s1 := l1_add (n := nn c) (p := ((gt r 0).toNat + 0) % nn c) (F := fun _ => 0) (v := v3 0)
  have s2 := l1_add (n := nn c) (p := ((gt r 1).toNat + 1) % nn c) (F := thS c r (fun _ => 0) 0) (v := v3 1)
  have s3 := l1_add (n := nn c) (p := ((gt r 2).toNat + 2) % nn c) (F := thS c r (thS c r (fun _ => 0) 0) 1) (v := v3 2)
  have v0 : (v3 0).natAbs = 1 := rfl
  have v1 : (v3 1).natAbs = 2 := rfl
  have v2 : (v3 2).natAbs = 1 := rfl
  show l1 (nn c) (ofF (nn c) (thS c r (thS c r (thS c r (fun _ => 0) 0) 1) 2)) ≤ 4
  have t1 : l1 (nn c) (ofF (nn c) (thS c r (fun _ => 0) 0)) ≤ 1 := by
    have : l1 (nn c) (ofF (nn c) (thS c r (fun _ => 0) 0)) ≤ _ := s1
    omega
  have t2 : l1 (nn c) (ofF (nn c) (thS c r (thS c r (fun _ => 0) 0) 1)) ≤ 3 := by
    have : l1 (nn c) (ofF (nn c) (thS c r (thS c r (fun _ => 0) 0) 1)) ≤ _ := s2
    omega
  have t3 : l1 (nn c) (ofF (nn c) (thS c r (thS c r (thS c r (fun _ => 0) 0) 1) 2)) ≤ _ := s3
  omega
section
variable {P : Program} {w : World} {K : PySem.W.Frag} {mg : Str → Option Value} {base : Heap} (B : Bi mg)
def R114 : List PyData → PyData → Prop := fun ds r => ∃ (c : Ck) (l : Row), CK c ∧ R3 l ∧ ds = [tblD c, rwD l] ∧ r = rwD (thL c l)
include B in
theorem w114 (F : FF K mg "_law_three" "_law_three" 114) : Cb false P w K mg base 1 "_law_three" 2 R114 := by
  refine cb_calm F sc114 rfl bn114 fun f cd A outer s H ds r rm hR hn => ?_
  obtain ⟨c, l, hc, h3, rfl, rfl⟩ := hR
  have cb := hc.bd
  refine .inl ?_
  refine dss_cons (ds_lc (own := [("_law_k", 3)]) 2 (List.range (nn c)) (fun g => rwD (rowT c g)) (fun _ => .int 0) cmF sc114.nd (sml (by rw [List.length_range]; omega)) bk (di_list (de_v 0)) fun g hg => ⟨_, _, fun j hj => hj, fun s H C cl fp => ⟨dg_name 3 sc114.nd, de_int⟩⟩) ?_
  have e0 : (List.range (nn c)).map (fun _ => PyData.int 0) = il (ofF (nn c) fun _ => 0) := by unfold il ofF; rw [List.map_map]; rfl
  rw [e0]
  refine dss_cons (ds_forF (fun F : Nat → Int => [.dat (tblD c), .dat (rwD l), .own (il (ofF (nn c) F)), .no]) (thS c l) (fun _ => True) (fun _ => 0) (List.range 3) iN cmF PassesOwn.never (di_range B.range 3 de_int (by decide)) trivial fun F k hk _ => ⟨trivial, ?_⟩) (dss_frz 2 rfl (dss_one (ds_ret (de_v 2))))
  have hk' := List.mem_range.mp hk
  have hr := h3.at hk'
  have hl : l.length = 3 := h3.1
  have hm : ((gt l k).toNat + k) % nn c < nn c := Nat.mod_lt _ (by omega)
  have v3at : atI [PyData.int 1, .int 2, .int (-1)] (k : Int) = some (.int (v3 k)) := by
    match k, hk' with
    | 0, _ => rfl
    | 1, _ => rfl
    | 2, _ => rfl
  refine ⟨_, _, _, dg_name 3 sc114.nd, dss_one (ds_inc 2 (m := ((gt l k).toNat + k) % nn c) (y := F (((gt l k).toNat + k) % nn c)) rfl (dec (de_modP (de_intI B.int (de_add (de_ixL (DE.dr (de_v 1)) (de_v 3) (gt_at (by omega))) (de_v 3))) (de_lenL B.len (DE.dr (de_v 0))) (by rw [tbl_len]; omega)) ?_) (by omega) (il_get (ofF_get hm)) (de_ixL (DN.dr (dn_lst (da_3 de_int de_int (dec (de_neg de_int) (q := .int (-1)))) (szk (by decide)))) (de_v 3) v3at)), ?_⟩
  · rw [tbl_len]
    refine congrArg PyData.int ?_
    rw [Int.natCast_emod, Int.natCast_add, Int.toNat_of_nonneg hr.1]
  · rw [il_set, ofF_set]
    have e3 : (fun i => if i = ((gt l k).toNat + k) % nn c then F (((gt l k).toNat + k) % nn c) + v3 k else F i) = thS c l F k := funext fun i => by
      unfold thS
      by_cases hi : i = ((gt l k).toNat + k) % nn c
      · rw [if_pos hi, if_pos hi, hi]
      · rw [if_neg hi, if_neg hi]
    rw [e3]
    exact .keep (.keep (.keep (.drop .nil)))
def adL (n : Nat) (a b : Row) : Row := ofF n fun i => gt a i + gt b i
def R115 : List PyData → PyData → Prop := fun ds r => ∃ (n : Nat) (a b : Row), n ≤ 100 ∧ a.length = n ∧ b.length = n ∧ ds = [rwD a, rwD b] ∧ r = rwD (adL n a b)
include B in
theorem w115 (F : FF K mg "_law_added" "_law_added" 115) : Cb false P w K mg base 1 "_law_added" 2 R115 := by
  refine cb_calm F sc115 rfl bn115 fun f cd A outer s H ds r rm hR hn => ?_
  obtain ⟨n, a, b, hn1, ha, hb, rfl, rfl⟩ := hR
  refine .inl (dss_one (ds_ret (dec (DN.de (dn_lc (own := [("_law_k", 2)]) (List.range n) iN (fun i => .int (gt a i + gt b i)) cmF sc115.nd (sml (by rw [List.length_range]; omega)) bk (di_range B.range n (dec (de_lenL B.len (DE.dr (de_v 0))) (congrArg PyData.int (by rw [il_length, ha]))) (by omega)) fun i hi => ⟨_, _, fun j hj => hj, fun s H C cl fp => ⟨dg_name 2 sc115.nd, de_add (de_ixL (DE.dr (de_v 0)) (de_v 2) (gt_at (by rw [ha]; exact List.mem_range.mp hi))) (de_ixL (DE.dr (de_v 1)) (de_v 2) (gt_at (by rw [hb]; exact List.mem_range.mp hi)))⟩⟩)) ?_)))
  unfold rwD adL il
  rw [ofF_map]; rfl
def leL (l : Row) : Row := l.map fun x => (l.length : Int) * x - l.sum
def R120 : List PyData → PyData → Prop := fun ds r => ∃ d : DD, d.2.length ≤ 100 ∧ ds = [dlD d] ∧ r = rwD (leL d.2)
include B in
theorem w120 (F : FF K mg "_law_less" "_law_less" 120) : Cb false P w K mg base 1 "_law_less" 1 R120 := by
  refine cb_calm F sc120 rfl bn120 fun f cd A outer s H ds r rm hR hn => ?_
  obtain ⟨d, hl, rfl, rfl⟩ := hR
  refine .inl (dss_one (ds_ret (dec (DN.de (dn_lc (own := [("_law_worth", 1)]) d.2 PyData.int (fun x => .int ((d.2.length : Int) * x - d.2.sum)) cmF sc120.nd (sml (by omega)) bk (di_tup (de_ixT (ds := [.int d.1, .tuple (il d.2)]) (de_v 0) de_int rfl)) fun x hx => ⟨_, _, fun j hj => hj, fun s H C cl fp => ⟨dg_name 1 sc120.nd, de_sub (de_mul (dec (de_lenT B.len (de_ixT (ds := [.int d.1, .tuple (il d.2)]) (d := .tuple (il d.2)) (de_v 0) de_int rfl)) (q := .int d.2.length) (by rw [il_length])) (de_v 1) (mulS (by omega))) (de_sumT rfl B.sum (de_ixT (ds := [.int d.1, .tuple (il d.2)]) (d := .tuple (d.2.map .int)) (de_v 0) de_int rfl))⟩⟩)) ?_)))
  unfold rwD leL il
  rw [List.map_map]; rfl
end
end EL
end
section
set_option maxHeartbeats 1000000
namespace EL
open PySem PySem.Spec PyProof.Rows L2 DL
/-! ### weights -/
def sl (r : Row) (i : Nat) : Row := (r.drop i).take 3
def R64w (r : Row) (m : Nat) : Prop := r.length = m ∧ ∀ x, x ∈ r → 0 ≤ x ∧ x < 64
theorem R64w.at {r : Row} {m : Nat} (h : R64w r m) {i : Nat} (hi : i < m) : 0 ≤ gt r i ∧ gt r i < 64 := h.2 _ (gt_mem (by rw [h.1]; exact hi))
theorem R64w.sl {r : Row} {m : Nat} (h : R64w r m) {i : Nat} (hi : i + 3 ≤ m) : R3 (sl r i) := by
  refine ⟨?_, fun x hx => h.2 x (List.mem_of_mem_drop (List.mem_of_mem_take hx))⟩
  unfold EL.sl
  rw [List.length_take, List.length_drop, h.1]
  omega
def onL (c : Ck) (l : Row) : Row := ofF (nn c) (memF c l)
def offL (l : Row) : Row := (l.map fun x => -x).set 0 (-gt l 0 + l.sum)
def menuL (n : Nat) : Row := if 20 < n then [0, 1, -1, 0, 1, 0, -1, 1] else [0, 1, -1, 2, 3, -2, 4, -3]
def bas0 (n : Nat) (r : Row) : Row := ofF n fun k => gt (menuL n) (gt r (8 + k) % 8).toNat
def bas1 (n : Nat) (r : Row) : Row := (bas0 n r).set 0 (gt (bas0 n r) 0 + 1)
def basL (n : Nat) (r : Row) : Row := (bas1 n r).set (1 % n) (gt (bas1 n r) (1 % n) + 2)
def pick4 (on off : Row) (k : Nat) : Row := if k = 0 then on.map fun _ => 0 else if k = 1 then on else if k = 2 then on.map fun _ => 1 else off
def wgF (c : Ck) (cell : Int) : Row :=
  let r := rwF cell (nn c + 8)
  let on := onL c (sl r 0)
  let off := offL on
  let base := basL (nn c) r
  let f := (gt r 6 % 8).toNat
  if f = 0 then dzL c on base else if f = 1 then dzL c base on else if f = 2 then base else if f = 3 then dzL c off base else if f = 4 then dzL c (dzL c on base) (onL c (sl r 3)) else if f = 5 then dzL c base off else if f = 6 then dzL c (dzL c on base) off else pick4 on off (gt r 7 % 4).toNat
theorem onL_wb (c : Ck) (l : Row) : WB (nn c) 1 (onL c l) := ⟨ofF_length, fun i => by
  unfold onL
  rw [gt_ofF]
  split
  · unfold memF; split <;> decide
  · decide⟩
theorem gt_set {l : Row} {k i : Nat} {v : Int} : gt (l.set k v) i = if k = i ∧ i < l.length then v else gt l i := by
  unfold gt
  rw [List.getD_eq_getElem?_getD, List.getD_eq_getElem?_getD, List.getElem?_set]
  by_cases h : k = i
  · subst h
    rw [if_pos rfl]
    by_cases h2 : k < l.length
    · rw [if_pos h2, if_pos ⟨rfl, h2⟩]; rfl
    · rw [if_neg h2, if_neg (fun z => h2 z.2), List.getElem?_eq_none (by omega)]
  · rw [if_neg h, if_neg (fun z => h z.1)]
theorem sum_abs {M : Nat} : ∀ {l : Row}, (∀ x, x ∈ l → x.natAbs ≤ M) → l.sum.natAbs ≤ l.length * M
  | [], _ => by simp
  | x :: l, h => by
    have := sum_abs (l := l) fun y hy => h y (List.mem_cons_of_mem _ hy)
    have := h x List.mem_cons_self
    rw [List.sum_cons, List.length_cons, Nat.succ_mul]
    omega
theorem WB.mem {n M : Nat} {l : Row} (h : WB n M l) {x : Int} (hx : x ∈ l) : x.natAbs ≤ M := by
  obtain ⟨i, _, rfl⟩ := mem_gt hx
  exact h.bd i
theorem offL_wb {n : Nat} {l : Row} (h : WB n 1 l) (hn : n ≤ 21) : WB n 22 (offL l) := ⟨by unfold offL; rw [List.length_set, List.length_map, h.len], fun i => by
  unfold offL
  rw [gt_set, gt_map (f := fun x => -x) rfl]
  have h1 := sum_abs fun x hx => h.mem hx
  have h0 := h.bd 0
  have hi := h.bd i
  rw [h.len] at h1
  split <;> omega⟩
theorem menu_le (n : Nat) (k : Nat) : (gt (menuL n) k).natAbs ≤ 4 := by
  unfold menuL gt
  split <;> match k with
  | 0 | 1 | 2 | 3 | 4 | 5 | 6 | 7 => decide
  | k + 8 => exact Nat.zero_le _
theorem menu_len (n : Nat) : (menuL n).length = 8 := by unfold menuL; split <;> rfl
theorem basL_wb {n : Nat} {r : Row} : WB n 7 (basL n r) := by
  have b0 : WB n 4 (bas0 n r) := ⟨ofF_length, fun i => by
    unfold bas0
    rw [gt_ofF]
    split
    · exact menu_le _ _
    · exact Nat.zero_le _⟩
  have b1 : WB n 5 (bas1 n r) := ⟨by unfold bas1; rw [List.length_set, b0.len], fun i => by
    unfold bas1
    rw [gt_set]
    have := b0.bd 0
    have := b0.bd i
    split <;> omega⟩
  exact ⟨by unfold basL; rw [List.length_set, b1.len], fun i => by
    unfold basL
    rw [gt_set]
    have := b1.bd (1 % n)
    have := b1.bd i
    split <;> omega⟩
theorem dzL_w2 {c : Ck} (hc : CK c) {a b : Row} {A M N : Nat} (ha : WB (nn c) A a) (hb : WB (nn c) M b) (h : 21 * A * M ≤ N) : WB (nn c) N (dzL c a b) := by
  have cb := hc.bd
  refine (dzL_wb hc (A := 21 * A) (l1_le ha.bd |> fun z => Nat.le_trans z (Nat.mul_le_mul_right _ (show nn c ≤ 21 by omega))) hb.bd).mono h
theorem pick4_wb {n : Nat} {on off : Row} {k : Nat} (h : WB n 1 on) (h2 : WB n 22 off) : WB n 22 (pick4 on off k) := by
  unfold pick4
  repeat' split
  · refine ⟨by rw [List.length_map, h.len], fun i => ?_⟩
    rw [gt_map (f := fun _ => 0) rfl]; exact Nat.zero_le _
  · exact h.mono (by omega)
  · refine ⟨by rw [List.length_map, h.len], fun i => ?_⟩
    unfold gt
    rw [List.getD_eq_getElem?_getD, List.getElem?_map]
    cases on[i]? with
    | none => exact Nat.zero_le _
    | some x => show (1 : Int).natAbs ≤ 22; decide
  · exact h2
theorem wgF_wb {c : Ck} (hc : CK c) (cell : Int) : WB (nn c) 70000 (wgF c cell) := by
  have cb := hc.bd
  have h1 := onL_wb c (sl (rwF cell (nn c + 8)) 0)
  have h3 := onL_wb c (sl (rwF cell (nn c + 8)) 3)
  have h2 := offL_wb h1 (show nn c ≤ 21 by omega)
  have hb := basL_wb (n := nn c) (r := rwF cell (nn c + 8))
  have h4 := dzL_w2 hc h1 hb (N := 147) (by omega)
  unfold wgF
  simp only []
  repeat' split
  · exact h4.mono (by omega)
  · exact dzL_w2 hc hb h1 (by omega)
  · exact hb.mono (by omega)
  · exact dzL_w2 hc h2 hb (by omega)
  · exact dzL_w2 hc h4 h3 (by omega)
  · exact dzL_w2 hc hb h2 (by omega)
  · exact dzL_w2 hc h4 h2 (by omega)
  · exact (pick4_wb h1 h2).mono (by omega)
section
variable {P : Program} {w : World} {K : PySem.W.Frag} {mg : Str → Option Value} {base : Heap} (B : Bi mg)
def R109 : List PyData → PyData → Prop := fun ds r => ∃ (c : Ck) (cell : Int), CK c ∧ ds = [.int cell, ckD c, facD c, tblD c] ∧ r = rwD (wgF c cell)
theorem dn_sl3 {X : Cx} {G : Ev} {a lo hi : Expr} {p2 pos : Pos} {r : Row} {i : Nat} (ha : DR X G a (il r)) (hl : DE X G lo (iN i)) (hh : DE X G hi (iN (i + 3))) (h : i + 3 ≤ r.length) : DE X G (.Subscript a (.Slice (some lo) (some hi) none p2) pos) (rwD (sl r i)) := by
  refine dec (DN.de (dn_sl ha hl hh (by omega) (by omega) (by rw [il_length]; omega))) ?_
  rw [Int.toNat_natCast, show (((i + 3 : Nat) : Int) - (i : Int)).toNat = 3 by omega]
  unfold rwD sl il
  rw [List.map_take, List.map_drop]
/-- a product told by the table -/
theorem de_dz {X : Cx} {G : Ev} {c : Ck} {e1 e2 e3 : Expr} {pos p : Pos} {a b : Row} {M : Nat} (C : Cal X "_law_dealt" 3 R106) (hc : CK c) (h1 : DE X G e1 (tblD c)) (h2 : DE X G e2 (rwD a)) (h3 : DE X G e3 (rwD b)) (ha : WB (nn c) M a) (hb : WB (nn c) M b) (hM : M < 2 ^ 40) (hg : Gl X "_law_dealt" := by rfl)
    (s1 : starEach [e1, e2, e3] X.env = (false, eval e1 X.env) :: starEach [e2, e3] X.env := by rfl) (s2 : starEach [e2, e3] X.env = (false, eval e2 X.env) :: starEach [e3] X.env := by rfl) (s3 : starEach [e3] X.env = (false, eval e3 X.env) :: starEach [] X.env := by rfl)
    (hpl : (backTo pos (starEach [e2, e3] X.env)).any (·.1) = false := by rfl) : DE X G (.Call (.Name "_law_dealt" p) [e1, e2, e3] [] pos) (rwD (dzL c a b)) :=
  de_call C (da_cons h1 (da_cons h2 (da_cons h3 da_nil s3) s2) s1) ⟨c, false, false, a, b, hc, ha.len, hb.len, ha.blS hM, hb.blS hM, rfl, rfl⟩ rfl hg (by decide) s1 hpl
include B in
theorem w109 (F : FF K mg "_law_weights" "_law_weights" 109) (h98 : Cb false P w K mg base 1 "_law_row" 3 R98) (h107 : Cb false P w K mg base 1 "_law_part" 3 R107) (h108 : Cb false P w K mg base 1 "_law_members" 3 R108) (h106 : Cb true P w K mg base 1 "_law_dealt" 3 R106) : Cb false P w K mg base 2 "_law_weights" 4 R109 := by
  refine cb_calm F sc109 rfl bn109 fun f cd A outer s H ds r rm hR hn => ?_
  obtain ⟨c, cell, hc, rfl, rfl⟩ := hR
  have cb := hc.bd
  refine .inl ?_
  refine dss_cons (ds_set 4 sc109.nd (dec (de_lenL B.len (DE.dr (de_v 3))) (q := iN (nn c)) (by rw [tbl_len]))) ?_
  refine dss_cons (ds_set 5 sc109.nd (de_call (h98.cal rm) (da_3 (de_v 0) (dec (de_add (de_v 4) de_int) (q := iN (nn c + 8)) (congrArg PyData.int (Int.natCast_add (nn c) 8).symm)) de_int) ⟨cell, nn c + 8, by omega, rfl, rfl⟩)) ?_
  unfold wgF
  simp only []
  have rok : R64w (rwF cell (nn c + 8)) (nn c + 8) := rwF_ok cell (nn c + 8)
  generalize rwF cell (nn c + 8) = r at rok
  have rl := rok.1
  have s0 := rok.sl (i := 0) (by omega)
  have s3 := rok.sl (i := 3) (by omega)
  have h1 := onL_wb c (sl r 0)
  have h3 := onL_wb c (sl r 3)
  have hb := basL_wb (n := nn c) (r := r)
  have h4 := dzL_w2 hc h1 hb (N := 147) (by omega)
  refine dss_cons (ds_set 6 sc109.nd (d := rwD (onL c (sl r 0))) (de_call (h108.cal rm) (da_3 (de_v 1) (de_call (h107.cal rm) (da_3 (de_v 1) (de_v 2) (dn_sl3 (i := 0) (DE.dr (de_v 5)) de_int de_int (by omega))) ⟨c, sl r 0, hc, s0, rfl, rfl⟩) (de_v 2)) ⟨c, sl r 0, hc, s0, rfl, rfl⟩)) ?_
  have h2 := offL_wb h1 (show nn c ≤ 21 by omega)
  generalize hon : onL c (sl r 0) = on at h1 h2 h4
  have onl := h1.len
  refine dss_cons (ds_lc (own := [("_law_k", 8)]) 7 on PyData.int (fun x => .int (-x)) cmF sc109.nd (sml (by omega)) bk (di_list (de_v 6)) fun x hx => ⟨_, _, fun j hj => hj, fun s H C cl fp => ⟨dg_name 8 sc109.nd, de_neg (de_v 8)⟩⟩) ?_
  refine dss_cons (ds_inc 7 (m := 0) (y := -gt on 0) rfl de_int (by decide) ?_ (de_sum rfl B.sum (DE.dr (de_v 6)))) ?_
  · rw [List.getElem?_map, getD_get (show 0 < on.length by omega)]; rfl
  refine dss_frz 7 rfl ?_
  have eoff : PyData.list ((on.map fun x => PyData.int (-x)).set 0 (.int (-gt on 0 + on.sum))) = rwD (offL on) := by
    unfold rwD offL il
    rw [List.map_set, List.map_map]; rfl
  show DSs _ [_, _, _, _, _, _, _, .dat (PyData.list _), _, _, _, _, _] _ _
  rw [eoff]
  generalize offL on = off at h2
  refine dss_cons (ds_setN 9 sc109.nd (dn_lst (ds := il [0, 1, -1, 2, 3, -2, 4, -3]) (da_cons de_int (da_cons de_int (da_cons (dec (de_neg de_int)) (da_cons de_int (da_cons de_int (da_cons (dec (de_neg de_int)) (da_cons de_int (da_cons (dec (de_neg de_int)) da_nil)))))))) (szk (by decide)))) ?_
  refine dss_cons (G1 := [.dat (.int cell), .dat (ckD c), .dat (facD c), .dat (tblD c), .dat (iN (nn c)), .dat (rwD r), .dat (rwD on), .dat (rwD off), .no, .own (il (menuL (nn c))), .no, .no, .no]) (ds_if (dtc (dt_gt (de_v 4) de_int) (q := decide (20 < nn c)) (decide_eq_decide.mpr (by omega))) (fun t => ?_) fun t => ?_) ?_
  · unfold menuL
    rw [if_pos (of_decide_eq_true t)]
    exact dss_one (ds_setN 9 sc109.nd (dn_lst (ds := il [0, 1, -1, 0, 1, 0, -1, 1]) (da_cons de_int (da_cons de_int (da_cons (dec (de_neg de_int)) (da_cons de_int (da_cons de_int (da_cons de_int (da_cons (dec (de_neg de_int)) (da_cons de_int da_nil)))))))) (szk (by decide))))
  · unfold menuL
    rw [if_neg (of_decide_eq_false t)]
    exact dss_nil
  refine dss_frz 9 rfl ?_
  refine dss_cons (ds_lc (own := [("_law_k", 8)]) 10 (List.range (nn c)) iN (fun k => .int (gt (menuL (nn c)) (gt r (8 + k) % 8).toNat)) cmF sc109.nd (sml (by rw [List.length_range]; omega)) bk (di_range B.range (nn c) (de_v 4) (by omega)) fun k hk => ⟨_, _, fun j hj => hj, fun s H C cl fp => ⟨dg_name 8 sc109.nd, ?_⟩⟩) ?_
  · have hk' := List.mem_range.mp hk
    have g8 := rok.at (i := 8 + k) (by omega)
    exact de_ixL (ds := il (menuL (nn c))) (DE.dr (de_v 9)) (dec (de_modP (de_intI B.int (de_ixL (DE.dr (de_v 5)) (dec (de_add de_int (de_v 8)) (q := iN (8 + k)) (congrArg PyData.int (Int.natCast_add 8 k).symm)) (gt_at (by omega)))) de_int (by decide)) (q := iN (gt r (8 + k) % 8).toNat) (congrArg PyData.int (by omega))) (gt_at (by rw [menu_len]; omega))
  have e0 : (List.range (nn c)).map (fun k => PyData.int (gt (menuL (nn c)) (gt r (8 + k) % 8).toNat)) = il (bas0 (nn c) r) := by unfold il bas0 ofF; rw [List.map_map]; rfl
  rw [e0]
  have l0 : (bas0 (nn c) r).length = nn c := ofF_length
  have l1 : (bas1 (nn c) r).length = nn c := by unfold bas1; rw [List.length_set, l0]
  refine dss_cons (ds_inc 10 (m := 0) (y := gt (bas0 (nn c) r) 0) rfl de_int (by decide) (il_get (getD_get (by omega))) de_int) ?_
  rw [il_set]
  have m1 : 1 % nn c < nn c := Nat.mod_lt _ (by omega)
  refine dss_cons (ds_inc 10 (m := 1 % nn c) (y := gt (bas1 (nn c) r) (1 % nn c)) rfl (dec (de_modP de_int (de_v 4) (by omega)) (congrArg PyData.int (Int.natCast_emod 1 (nn c)).symm)) (by omega) (il_get (getD_get (l := bas1 (nn c) r) (by omega))) de_int) ?_
  rw [il_set]
  refine dss_frz 10 rfl ?_
  show DSs _ [_, _, _, _, _, _, _, _, _, _, .dat (rwD (basL (nn c) r)), _, _] _ _
  generalize basL (nn c) r = bas at hb h4
  have g6 := rok.at (i := 6) (by omega)
  refine dss_cons (ds_set 11 sc109.nd (d := iN (gt r 6 % 8).toNat) (dec (de_modP (de_intI B.int (de_ixL (DE.dr (de_v 5)) de_int (gt_at (i := 6) (by omega)))) de_int (by decide)) (congrArg PyData.int (by omega)))) ?_
  have f8 : (gt r 6 % 8).toNat < 8 := by omega
  generalize (gt r 6 % 8).toNat = f at f8
  show DSs _ [.dat (.int cell), .dat (ckD c), .dat (facD c), .dat (tblD c), .dat (iN (nn c)), .dat (rwD r), .dat (rwD on), .dat (rwD off), .no, .dat (rwD (menuL (nn c))), .dat (rwD bas), .dat (iN f), .no] _ _
  by_cases f0 : f = 0
  · rw [if_pos f0]
    exact dss_ret (ds_ifT (dtc (dt_eq (de_v 11) de_int) (decide_eq_true (by omega))) (dss_one (ds_ret (de_dz (h106.cal rm) hc (de_v 3) (de_v 6) (de_v 10) (M := 147) (h1.mono (by omega)) (hb.mono (by omega)) (by decide)))))
  rw [if_neg f0]
  refine dss_cons (ds_ifF (dtc (dt_eq (de_v 11) de_int) (decide_eq_false (by omega))) dss_nil) ?_
  by_cases f1 : f = 1
  · rw [if_pos f1]
    exact dss_ret (ds_ifT (dtc (dt_eq (de_v 11) de_int) (decide_eq_true (by omega))) (dss_one (ds_ret (de_dz (h106.cal rm) hc (de_v 3) (de_v 10) (de_v 6) (M := 147) (hb.mono (by omega)) (h1.mono (by omega)) (by decide)))))
  rw [if_neg f1]
  refine dss_cons (ds_ifF (dtc (dt_eq (de_v 11) de_int) (decide_eq_false (by omega))) dss_nil) ?_
  by_cases f2 : f = 2
  · rw [if_pos f2]
    exact dss_ret (ds_ifT (dtc (dt_eq (de_v 11) de_int) (decide_eq_true (by omega))) (dss_one (ds_ret (de_v 10))))
  rw [if_neg f2]
  refine dss_cons (ds_ifF (dtc (dt_eq (de_v 11) de_int) (decide_eq_false (by omega))) dss_nil) ?_
  by_cases f3 : f = 3
  · rw [if_pos f3]
    exact dss_ret (ds_ifT (dtc (dt_eq (de_v 11) de_int) (decide_eq_true (by omega))) (dss_one (ds_ret (de_dz (h106.cal rm) hc (de_v 3) (de_v 7) (de_v 10) (M := 147) (h2.mono (by omega)) (hb.mono (by omega)) (by decide)))))
  rw [if_neg f3]
  refine dss_cons (ds_ifF (dtc (dt_eq (de_v 11) de_int) (decide_eq_false (by omega))) dss_nil) ?_
  by_cases f4 : f = 4
  · rw [if_pos f4]
    refine dss_ret (ds_ifT (dtc (dt_eq (de_v 11) de_int) (decide_eq_true (by omega))) ?_)
    refine dss_cons (ds_set 12 sc109.nd (d := rwD (onL c (sl r 3))) (de_call (h108.cal rm) (da_3 (de_v 1) (de_call (h107.cal rm) (da_3 (de_v 1) (de_v 2) (dn_sl3 (i := 3) (DE.dr (de_v 5)) de_int de_int (by omega))) ⟨c, sl r 3, hc, s3, rfl, rfl⟩) (de_v 2)) ⟨c, sl r 3, hc, s3, rfl, rfl⟩)) ?_
    exact dss_one (ds_ret (de_dz (h106.cal rm) hc (de_v 3) (de_dz (h106.cal rm) hc (de_v 3) (de_v 6) (de_v 10) (M := 147) (h1.mono (by omega)) (hb.mono (by omega)) (by decide)) (de_v 12) (M := 147) h4 (h3.mono (by omega)) (by decide)))
  rw [if_neg f4]
  refine dss_cons (ds_ifF (dtc (dt_eq (de_v 11) de_int) (decide_eq_false (by omega))) dss_nil) ?_
  by_cases f5 : f = 5
  · rw [if_pos f5]
    exact dss_ret (ds_ifT (dtc (dt_eq (de_v 11) de_int) (decide_eq_true (by omega))) (dss_one (ds_ret (de_dz (h106.cal rm) hc (de_v 3) (de_v 10) (de_v 7) (M := 147) (hb.mono (by omega)) (h2.mono (by omega)) (by decide)))))
  rw [if_neg f5]
  refine dss_cons (ds_ifF (dtc (dt_eq (de_v 11) de_int) (decide_eq_false (by omega))) dss_nil) ?_
  by_cases f6 : f = 6
  · rw [if_pos f6]
    exact dss_ret (ds_ifT (dtc (dt_eq (de_v 11) de_int) (decide_eq_true (by omega))) (dss_one (ds_ret (de_dz (h106.cal rm) hc (de_v 3) (de_dz (h106.cal rm) hc (de_v 3) (de_v 6) (de_v 10) (M := 147) (h1.mono (by omega)) (hb.mono (by omega)) (by decide)) (de_v 7) (M := 147) h4 (h2.mono (by omega)) (by decide)))))
  rw [if_neg f6]
  refine dss_cons (ds_ifF (dtc (dt_eq (de_v 11) de_int) (decide_eq_false (by omega))) dss_nil) ?_
  have g7 := rok.at (i := 7) (by omega)
  have k4 : (gt r 7 % 4).toNat < 4 := by omega
  have z0 : PyData.list (on.map fun _ => PyData.int 0) = rwD (on.map fun _ => 0) := by unfold rwD il; rw [List.map_map]; rfl
  have z1 : PyData.list (on.map fun _ => PyData.int 1) = rwD (on.map fun _ => 1) := by unfold rwD il; rw [List.map_map]; rfl
  refine dss_one (ds_ret (de_ixL (DN.dr (dn_lst (ds := [rwD (on.map fun _ => 0), rwD on, rwD (on.map fun _ => 1), rwD off]) (da_cons (dec (DN.de (dn_lc (own := [("_law_k", 8)]) on PyData.int (fun _ => .int 0) cmF sc109.nd (sml (by omega)) bk (di_list (de_v 6)) fun x hx => ⟨_, _, fun j hj => hj, fun s H C cl fp => ⟨dg_name 8 sc109.nd, de_int⟩⟩)) z0) (da_cons (de_v 6) (da_cons (dec (DN.de (dn_lc (own := [("_law_k", 8)]) on PyData.int (fun _ => .int 1) cmF sc109.nd (sml (by omega)) bk (di_list (de_v 6)) fun x hx => ⟨_, _, fun j hj => hj, fun s H C cl fp => ⟨dg_name 8 sc109.nd, de_int⟩⟩)) z1) (da_cons (de_v 7) da_nil)))) (szk (by show 4 ≤ 1000; omega)))) (dec (de_modP (de_intI B.int (de_ixL (DE.dr (de_v 5)) de_int (gt_at (i := 7) (by omega)))) de_int (by decide)) (q := iN (gt r 7 % 4).toNat) (congrArg PyData.int (by omega))) ?_))
  generalize (gt r 7 % 4).toNat = k at k4
  refine atI_nat ?_
  unfold pick4
  match k, k4 with
  | 0, _ => rfl
  | 1, _ => rfl
  | 2, _ => rfl
  | 3, _ => rfl
end
end EL
end
section
set_option maxHeartbeats 1000000
namespace EL
open PySem PySem.Spec PyProof.Rows L2 DL MA MB MD
/-! ### the rank of what stands left of a -/
abbrev Lfc (c : Ck) (a : Vc) : Vc → Prop := Lf (nn c) (mN c) (ivN c) a
def rkF (W : Nat) (lines : List Row) : Nat := (baF W lines.length (fun i => lines.getD i []) W).rank
theorem shR_len {c : Ck} {a : Row} : (shRows c a).length = nn c := ofF_length
theorem shR_mem {c : Ck} {a l : Row} (h : l ∈ shRows c a) : ∃ g, g < nn c ∧ l = (shRows c a).getD g [] ∧ l = ofF (nn c) (shoF c a g) := by
  unfold shRows ofF at h
  obtain ⟨g, hg, rfl⟩ := List.mem_map.mp h
  have hg' := List.mem_range.mp hg
  refine ⟨g, hg', ?_, rfl⟩
  unfold shRows
  rw [List.getD_eq_getElem?_getD, ofF_get hg']; rfl
theorem shR_at {c : Ck} {a : Row} {g : Nat} (h : g < nn c) : (shRows c a).getD g [] ∈ shRows c a := getD_mem (by rw [shR_len]; exact h)
theorem shR_lb {c : Ck} {a : Row} {M : Nat} (hc : CK c) (h : ∀ x, x ∈ a → x.natAbs ≤ M) : LB (shRows c a) M := fun l hl x hx => by
  obtain ⟨g, hg, _, rfl⟩ := shR_mem hl
  unfold ofF at hx
  obtain ⟨k, hk, rfl⟩ := List.mem_map.mp hx
  rw [sho_eq hc hg (List.mem_range.mp hk)]
  by_cases q : mN c (ivN c g) k < a.length
  · exact h _ (gt_mem q)
  · rw [gt_ge (by omega)]; exact Nat.zero_le _
theorem rank_R {W : Nat} {lines : List Row} (hlen : ∀ l, l ∈ lines → l.length = W) (hLB : LB lines (2 ^ 120)) (hW : W ≤ 22) (h1 : 1 ≤ lines.length) (h2 : lines.length ≤ 100) : R110 [rlD lines] (iN (rkF W lines)) ∧ Rk W (fun v => ∃ l, l ∈ lines ∧ v = rv l) (rkF W lines) := by
  obtain ⟨ok, rk⟩ := bar_ok (lines := lines) (W := W) (N := lines.length) (B := 2 ^ 120) hlen hLB (Nat.le_refl _) hW rfl
  refine ⟨⟨W, lines.length, fun i => lines.getD i [], h1, h2, by omega, ok, ?_, rfl⟩, rk⟩
  exact congrArg (fun l => [rlD l]) ofF_getD
theorem lef_iff {c : Ck} {a : Row} (hc : CK c) (ha : a.length = nn c) (v : Vc) : (∃ l, l ∈ shRows c a ∧ v = rv l) ↔ Lfc c (rv a) v := by
  constructor
  · rintro ⟨l, hl, rfl⟩
    obtain ⟨g, hg, e, _⟩ := shR_mem hl
    exact ⟨g, hg, by rw [e]; exact shrow hc ha hg⟩
  · rintro ⟨g, hg, rfl⟩
    exact ⟨_, shR_at hg, (shrow hc ha hg).symm⟩
theorem rk_lefts {c : Ck} {a : Row} (hc : CK c) (ha : a.length = nn c) (hB : ∀ x, x ∈ a → x.natAbs ≤ 2 ^ 120) : R110 [rlD (shRows c a)] (iN (rkF (nn c) (shRows c a))) ∧ Rk (nn c) (Lfc c (rv a)) (rkF (nn c) (shRows c a)) := by
  have cb := hc.bd
  obtain ⟨h1, h2⟩ := rank_R (W := nn c) (lines := shRows c a) (fun l hl => by obtain ⟨g, _, _, rfl⟩ := shR_mem hl; exact ofF_length) (shR_lb hc hB) (by omega) (by rw [shR_len]; omega) (by rw [shR_len]; omega)
  refine ⟨h1, ?_⟩
  have e : (fun v => ∃ l, l ∈ shRows c a ∧ v = rv l) = Lfc c (rv a) := funext fun v => propext (lef_iff hc ha v)
  rw [← e]
  exact h2
theorem rk_made {c : Ck} {a b : Row} (hc : CK c) (ha : a.length = nn c) (hb : b.length = nn c) (hA : ∀ x, x ∈ a → x.natAbs ≤ 2 ^ 120) (hB : ∀ x, x ∈ b → x.natAbs ≤ 2 ^ 120) :
    R110 [rlD (shRows c a ++ [b])] (iN (rkF (nn c) (shRows c a ++ [b]))) ∧ (rkF (nn c) (shRows c a ++ [b]) = rkF (nn c) (shRows c a) ↔ Mfc c (rv a) (rv b)) := by
  have cb := hc.bd
  obtain ⟨h1, h2⟩ := rank_R (W := nn c) (lines := shRows c a ++ [b]) (fun l hl => by
    rcases List.mem_append.mp hl with h | h
    · obtain ⟨g, _, _, rfl⟩ := shR_mem h; exact ofF_length
    · rw [List.mem_singleton.mp h]; exact hb) (fun l hl x hx => by
    rcases List.mem_append.mp hl with h | h
    · exact shR_lb hc hA l h x hx
    · rw [List.mem_singleton.mp h] at hx; exact hB x hx) (by omega) (by rw [List.length_append, shR_len]; simp) (by rw [List.length_append, shR_len]; simp; omega)
  refine ⟨h1, ?_⟩
  have e : (fun v => ∃ l, l ∈ shRows c a ++ [b] ∧ v = rv l) = fun v => Lfc c (rv a) v ∨ v = rv b := funext fun v => propext (by
    constructor
    · rintro ⟨l, hl, rfl⟩
      rcases List.mem_append.mp hl with h | h
      · exact .inl ((lef_iff hc ha _).mp ⟨l, h, rfl⟩)
      · rw [List.mem_singleton.mp h]; exact .inr rfl
    · rintro (h | rfl)
      · obtain ⟨l, hl, rfl⟩ := (lef_iff hc ha v).mpr h
        exact ⟨l, List.mem_append_left _ hl, rfl⟩
      · exact ⟨b, List.mem_append_right _ (List.mem_singleton.mpr rfl), rfl⟩)
  rw [e] at h2
  exact ((rk_lefts hc ha hA).2.more h2 (rv_sup hb)).trans (lf_span hc.grp (rv_sup ha))
section
variable {P : Program} {w : World} {K : PySem.W.Frag} {mg : Str → Option Value} {base : Heap} (B : Bi mg)
def R117 : List PyData → PyData → Prop := fun ds r => ∃ (c : Ck) (p q : Bool) (a b : Row) (t : Bool), CK c ∧ a.length = nn c ∧ b.length = nn c ∧ (∀ x, x ∈ a → x.natAbs ≤ 2 ^ 120) ∧ (∀ x, x ∈ b → x.natAbs ≤ 2 ^ 120) ∧ (t = true ↔ Mfc c (rv a) (rv b)) ∧ ds = [tblD c, SQ p a, SQ q b] ∧ r = .bool t
theorem dn_listQ {X : Cx} {G : Ev} {e : Expr} {p pos : Pos} {q : Bool} {l : Row} (hm : Bt X "list") (h : DE X G e (SQ q l)) (hg : Gl X "list" := by rfl) (hs : starEach [e] X.env = (false, eval e X.env) :: starEach [] X.env := by rfl) : DN X G (.Call (.Name "list" p) [e] [] pos) (il l) := by
  cases q with
  | true => exact dn_listT hm h hg hs
  | false => exact dn_listL hm (DE.dr h) hg hs
include B in
theorem w117 (F : FF K mg "_law_made" "_law_made" 117) (h111 : Cb true P w K mg base 1 "_law_lefts" 2 R111) (h110 : Cb true P w K mg base 1 "_law_rank" 1 R110) : Cb false P w K mg base 2 "_law_made" 3 R117 := by
  refine cb_calm F sc117 rfl bn117 fun f cd A outer s H ds r rm hR hn => ?_
  obtain ⟨c, p, q, a, b, t, hc, ha, hb, hA, hB, ht, rfl, rfl⟩ := hR
  have cb := hc.bd
  obtain ⟨r1, m1⟩ := rk_made hc ha hb hA hB
  obtain ⟨r0, _⟩ := rk_lefts hc ha hA
  have et : t = decide (rkF (nn c) (shRows c a ++ [b]) = rkF (nn c) (shRows c a)) := by
    cases t with
    | true => exact (decide_eq_true (m1.mpr (ht.mp rfl))).symm
    | false => exact (decide_eq_false fun z => Bool.false_ne_true (ht.mpr (m1.mp z))).symm
  refine .inl ?_
  refine dss_cons (ds_set 3 sc117.nd (de_call (h111.cal rm) (da_2 (de_v 0) (de_v 1)) ⟨c, p, a, hc, ha, rfl, rfl⟩)) ?_
  refine dss_one (ds_ret (dec (de_eq (de_call (h110.cal rm) (da_1 (dec (DN.de (dn_cat (ds := (shRows c a).map rwD) (es := [rwD b]) (DE.dc (de_v 3)) (DN.dc (dn_lst (da_1 (DN.de (dn_listQ B.list (de_v 2)))) (szk (by show 1 ≤ 1000; omega)))) (by rw [List.length_map, shR_len]; exact szk (by show nn c + 1 ≤ 1000; omega)))) (q := rlD (shRows c a ++ [b])) ?_)) r1) (de_call (h110.cal rm) (da_1 (de_v 3)) r0)) ?_))
  · unfold rlD; rw [List.map_append]; rfl
  · rw [et]; exact congrArg PyData.bool (decide_eq_decide.mpr (by omega))
/-! ### world -/
def woM (c : Ck) (r : Row) : Row := if gt r 2 % 4 = 3 then onL c (sl r 3) else thL c (sl r 3)
def woB (c : Ck) (ns : List Int) (r : Row) : Row := if gt r 1 % 4 = 3 then wgF c (cellF ns 2) else dzL c (woM c r) (wgF c (cellF ns 1))
def woC (c : Ck) (ns : List Int) (r : Row) : Row := if gt r 1 % 4 = 2 then adL (nn c) (dzL c (thL c (sl r 6)) (wgF c (cellF ns 1))) (woB c ns r) else if gt r 1 % 4 = 1 then wgF c (cellF ns 2) else dzL c (thL c (sl r 6)) (woB c ns r)
def woL (c : Ck) (ns : List Int) (r : Row) (k : Nat) : Row := if k = 0 then wgF c (cellF ns 1) else if k = 1 then woB c ns r else woC c ns r
def woD (c : Ck) (ns : List Int) (r : Row) (k : Nat) : DD := lsF (1 + gt r (9 + k) % 3, woL c ns r k)
theorem l1_gt {n : Nat} {a : Row} {i : Nat} (h : i < n) : (gt a i).natAbs ≤ l1 n a := by
  unfold l1
  induction n with
  | zero => omega
  | succ n ih =>
    rw [List.range_succ, List.map_append, List.sum_append]
    simp only [List.map_cons, List.map_nil, List.sum_cons, List.sum_nil]
    by_cases e : i = n
    · subst e; omega
    · have := ih (by omega); omega
theorem thL_wb (c : Ck) (r : Row) : WB (nn c) 4 (thL c r) := ⟨ofF_length, fun i => by
  by_cases h : i < nn c
  · exact Nat.le_trans (l1_gt h) (thL_l1 c r)
  · rw [gt_ge (by unfold thL; rw [ofF_length]; omega)]; exact Nat.zero_le _⟩
theorem woM_ok {c : Ck} (hc : CK c) (r : Row) : WB (nn c) 4 (woM c r) ∧ l1 (nn c) (woM c r) ≤ 21 := by
  have cb := hc.bd
  unfold woM
  split
  · refine ⟨(onL_wb c _).mono (by omega), Nat.le_trans (l1_le (onL_wb c _).bd) (by omega)⟩
  · exact ⟨thL_wb c _, Nat.le_trans (thL_l1 c _) (by omega)⟩
theorem woB_wb {c : Ck} (hc : CK c) (ns : List Int) (r : Row) : WB (nn c) 1470000 (woB c ns r) := by
  unfold woB
  split
  · exact (wgF_wb hc _).mono (by omega)
  · exact (dzL_wb hc (woM_ok hc r).2 (wgF_wb hc _).bd).mono (by omega)
theorem adL_wb {n M N : Nat} {a b : Row} (ha : WB n M a) (hb : WB n N b) : WB n (M + N) (adL n a b) := ⟨ofF_length, fun i => by
  unfold adL
  rw [gt_ofF]
  have := ha.bd i
  have := hb.bd i
  split <;> omega⟩
theorem woC_wb {c : Ck} (hc : CK c) (ns : List Int) (r : Row) : WB (nn c) 5880000 (woC c ns r) := by
  unfold woC
  repeat' split
  · exact (adL_wb (dzL_wb hc (thL_l1 c _) (wgF_wb hc _).bd) (woB_wb hc ns r)).mono (by omega)
  · exact (wgF_wb hc _).mono (by omega)
  · exact (dzL_wb hc (thL_l1 c _) (woB_wb hc ns r).bd).mono (by omega)
theorem woL_wb {c : Ck} (hc : CK c) (ns : List Int) (r : Row) (k : Nat) : WB (nn c) 5880000 (woL c ns r k) := by
  unfold woL
  repeat' split
  · exact (wgF_wb hc _).mono (by omega)
  · exact (woB_wb hc ns r).mono (by omega)
  · exact woC_wb hc ns r
theorem fdiv_le {x g : Int} (hg : 1 ≤ g) (hd : g ∣ x) : (x.fdiv g).natAbs ≤ x.natAbs := by
  obtain ⟨k, rfl⟩ := hd
  rw [Int.mul_fdiv_cancel_left _ (by omega), Int.natAbs_mul]
  exact Nat.le_mul_of_pos_left _ (by omega)
theorem ls_ok {n M : Nat} {b : Int} {l : Row} (h1 : 1 ≤ b) (hl : l.length = n) (hb : b.natAbs ≤ 2 ^ 26) (h : ∀ x, x ∈ l → x.natAbs ≤ 2 ^ 26) : Can n (lsF (b, l)) ∧ Wt 26 (lsF (b, l)) := by
  have e : lsF (b, l) = settleF (b, l) := by
    unfold lsF settleF
    have : sg b (gcdL (b.natAbs : Int) l) = gcdL b l := by
      unfold sg
      rw [if_neg (by omega), show ((b.natAbs : Nat) : Int) = b by omega]
    show (b.fdiv (gcdL b l), _) = (b.fdiv (sg b (gcdL (b.natAbs : Int) l)), _)
    rw [this]
  refine ⟨by rw [e]; exact (settle_can (by omega) hl).1, ?_⟩
  have g0 : 0 ≤ gcdL b l := gcdL_nn (by omega)
  have g1 : gcdL b l ≠ 0 := gcdL_ne (by omega)
  obtain ⟨d1, d2⟩ := gcdL_dvd (l := l) (g := b)
  have g2 : 1 ≤ gcdL b l := by omega
  refine ⟨Nat.le_trans (fdiv_le g2 d1) hb, fun x hx => ?_⟩
  obtain ⟨y, hy, rfl⟩ := List.mem_map.mp hx
  exact Nat.le_trans (fdiv_le g2 (d2 y hy)) (h y hy)
theorem woD_ok {c : Ck} (hc : CK c) (ns : List Int) (r : Row) (k : Nat) : Can (nn c) (woD c ns r k) ∧ Wt 26 (woD c ns r k) := by
  have hw := woL_wb hc ns r k
  exact ls_ok (M := 0) (by omega) hw.len (by omega) fun x hx => Nat.le_trans (hw.mem hx) (by decide)
def R116 : List PyData → PyData → Prop := fun ds r => ∃ (c : Ck) (ns : List Int) (l : Row), CK c ∧ ns.length ≤ 1000 ∧ R64w l 14 ∧ ds = [scrD ns, ckD c, facD c, tblD c, rwD l] ∧ r = .list ((List.range 3).map fun k => dlD (woD c ns l k))
include B in
theorem w116 (F : FF K mg "_law_world" "_law_world" 116) (h97 : Cb false P w K mg base 1 "_law_cell" 2 R97) (h109 : Cb false P w K mg base 2 "_law_weights" 4 R109) (h114 : Cb false P w K mg base 1 "_law_three" 2 R114) (h107 : Cb false P w K mg base 1 "_law_part" 3 R107) (h108 : Cb false P w K mg base 1 "_law_members" 3 R108)
    (h106 : Cb true P w K mg base 1 "_law_dealt" 3 R106) (h115 : Cb false P w K mg base 1 "_law_added" 2 R115) (h103 : Cb false P w K mg base 2 "_law_settled" 2 R103) : Cb false P w K mg base 3 "_law_world" 5 R116 := by
  refine cb_calm F sc116 rfl bn116 fun f cd A outer s H ds r rm hR hn => ?_
  obtain ⟨c, ns, l, hc, hns, rok, rfl, rfl⟩ := hR
  have cb := hc.bd
  have ll := rok.1
  have s3 := rok.sl (i := 3) (by omega)
  have s6 := rok.sl (i := 6) (by omega)
  refine .inl ?_
  refine dss_cons (ds_set 5 sc116.nd (d := rwD (wgF c (cellF ns 1))) (de_call (h109.cal rm) (da_cons (de_call (h97.cal rm) (da_2 (de_v 0) de_int) ⟨ns, 1, hns, rfl, rfl⟩) (da_3 (de_v 1) (de_v 2) (de_v 3))) ⟨c, cellF ns 1, hc, rfl, rfl⟩)) ?_
  refine dss_cons (ds_set 6 sc116.nd (d := rwD (wgF c (cellF ns 2))) (de_call (h109.cal rm) (da_cons (de_call (h97.cal rm) (da_2 (de_v 0) de_int) ⟨ns, 2, hns, rfl, rfl⟩) (da_3 (de_v 1) (de_v 2) (de_v 3))) ⟨c, cellF ns 2, hc, rfl, rfl⟩)) ?_
  have w1 := wgF_wb hc (cellF ns 1)
  have w2 := wgF_wb hc (cellF ns 2)
  refine dss_cons (ds_set 7 sc116.nd (d := rwD (thL c (sl l 3))) (de_call (h114.cal rm) (da_2 (de_v 3) (dn_sl3 (i := 3) (DE.dr (de_v 4)) de_int de_int (by omega))) ⟨c, sl l 3, hc, s3, rfl, rfl⟩)) ?_
  have mc : ∀ {i : Nat} {G : Ev}, i < 14 → (hG : G[4]? = some (.dat (rwD l))) → True := fun _ _ => trivial
  refine dss_cons (G1 := [.dat (scrD ns), .dat (ckD c), .dat (facD c), .dat (tblD c), .dat (rwD l), .dat (rwD (wgF c (cellF ns 1))), .dat (rwD (wgF c (cellF ns 2))), .dat (rwD (woM c l)), .no, .no, .no]) (ds_if (dtc (dt_eq (de_modP (de_intI B.int (de_ixL (DE.dr (de_v 4)) de_int (gt_at (i := 2) (by omega)))) de_int (by decide)) de_int)) (fun t => ?_) fun t => ?_) ?_
  · unfold woM
    rw [if_pos (of_decide_eq_true t)]
    exact dss_one (ds_set 7 sc116.nd (d := rwD (onL c (sl l 3))) (de_call (h108.cal rm) (da_3 (de_v 1) (de_call (h107.cal rm) (da_3 (de_v 1) (de_v 2) (dn_sl3 (i := 3) (DE.dr (de_v 4)) de_int de_int (by omega))) ⟨c, sl l 3, hc, s3, rfl, rfl⟩) (de_v 2)) ⟨c, sl l 3, hc, s3, rfl, rfl⟩))
  · unfold woM
    rw [if_neg (of_decide_eq_false t)]
    exact dss_nil
  have wm := (woM_ok hc l).1
  refine dss_cons (ds_set 8 sc116.nd (d := rwD (dzL c (woM c l) (wgF c (cellF ns 1)))) (de_dz (h106.cal rm) hc (de_v 3) (de_v 7) (de_v 5) (M := 70000) (wm.mono (by omega)) w1 (by decide))) ?_
  refine dss_cons (G1 := [.dat (scrD ns), .dat (ckD c), .dat (facD c), .dat (tblD c), .dat (rwD l), .dat (rwD (wgF c (cellF ns 1))), .dat (rwD (wgF c (cellF ns 2))), .dat (rwD (woM c l)), .dat (rwD (woB c ns l)), .no, .no]) (ds_if (dtc (dt_eq (de_modP (de_intI B.int (de_ixL (DE.dr (de_v 4)) de_int (gt_at (i := 1) (by omega)))) de_int (by decide)) de_int)) (fun t => ?_) fun t => ?_) ?_
  · unfold woB
    rw [if_pos (of_decide_eq_true t)]
    exact dss_one (ds_set 8 sc116.nd (de_v 6))
  · unfold woB
    rw [if_neg (of_decide_eq_false t)]
    exact dss_nil
  have wb := woB_wb hc ns l
  have wt := thL_wb c (sl l 6)
  refine dss_cons (ds_set 9 sc116.nd (d := rwD (dzL c (thL c (sl l 6)) (woB c ns l))) (de_dz (h106.cal rm) hc (de_v 3) (de_call (h114.cal rm) (da_2 (de_v 3) (dn_sl3 (i := 6) (DE.dr (de_v 4)) de_int de_int (by omega))) ⟨c, sl l 6, hc, s6, rfl, rfl⟩) (de_v 8) (M := 1470000) (wt.mono (by omega)) wb (by decide))) ?_
  refine dss_cons (G1 := [.dat (scrD ns), .dat (ckD c), .dat (facD c), .dat (tblD c), .dat (rwD l), .dat (rwD (wgF c (cellF ns 1))), .dat (rwD (wgF c (cellF ns 2))), .dat (rwD (woM c l)), .dat (rwD (woB c ns l)), .dat (rwD (if gt l 1 % 4 = 1 then wgF c (cellF ns 2) else dzL c (thL c (sl l 6)) (woB c ns l))), .no]) (ds_if (dtc (dt_eq (de_modP (de_intI B.int (de_ixL (DE.dr (de_v 4)) de_int (gt_at (i := 1) (by omega)))) de_int (by decide)) de_int)) (fun t => ?_) fun t => ?_) ?_
  · rw [if_pos (of_decide_eq_true t)]
    exact dss_one (ds_set 9 sc116.nd (de_v 6))
  · rw [if_neg (of_decide_eq_false t)]
    exact dss_nil
  refine dss_cons (G1 := [.dat (scrD ns), .dat (ckD c), .dat (facD c), .dat (tblD c), .dat (rwD l), .dat (rwD (wgF c (cellF ns 1))), .dat (rwD (wgF c (cellF ns 2))), .dat (rwD (woM c l)), .dat (rwD (woB c ns l)), .dat (rwD (woC c ns l)), .no]) (ds_if (dtc (dt_eq (de_modP (de_intI B.int (de_ixL (DE.dr (de_v 4)) de_int (gt_at (i := 1) (by omega)))) de_int (by decide)) de_int)) (fun t => ?_) fun t => ?_) ?_
  · unfold woC
    rw [if_pos (of_decide_eq_true t)]
    have wz := dzL_wb hc (thL_l1 c (sl l 6)) w1.bd
    exact dss_one (ds_set 9 sc116.nd (d := rwD (adL (nn c) (dzL c (thL c (sl l 6)) (wgF c (cellF ns 1))) (woB c ns l))) (de_call (h115.cal rm) (da_2 (de_dz (h106.cal rm) hc (de_v 3) (de_call (h114.cal rm) (da_2 (de_v 3) (dn_sl3 (i := 6) (DE.dr (de_v 4)) de_int de_int (by omega))) ⟨c, sl l 6, hc, s6, rfl, rfl⟩) (de_v 5) (M := 1470000) (wt.mono (by omega)) (w1.mono (by omega)) (by decide)) (de_v 8)) ⟨nn c, _, _, by omega, wz.len, wb.len, rfl, rfl⟩))
  · unfold woC
    rw [if_neg (of_decide_eq_false t)]
    exact dss_nil
  refine dss_one (ds_ret (DN.de (dn_lc (own := [("_law_k", 10)]) (List.range 3) iN (fun k => dlD (woD c ns l k)) cmF sc116.nd (sml (by decide)) bk (di_range B.range 3 de_int (by decide)) fun k hk => ⟨_, _, fun j hj => hj, fun s H C cl fp => ⟨dg_name 10 sc116.nd, ?_⟩⟩)))
  have hk' := List.mem_range.mp hk
  have wl := woL_wb hc ns l k
  have g9 := rok.at (i := 9 + k) (by omega)
  refine de_call (Cal.blk (h103.cal rm) _ _ _ _ _) (da_2 (d1 := .int (1 + gt l (9 + k) % 3)) (d2 := rwD (woL c ns l k)) (de_add de_int (de_modP (de_intI B.int (de_ixL (DE.dr (de_v 4)) (dec (de_add de_int (de_v 10)) (q := iN (9 + k)) (congrArg PyData.int (Int.natCast_add 9 k).symm)) (gt_at (by omega)))) de_int (by decide))) (de_ixL (DN.dr (dn_lst (ds := [rwD (wgF c (cellF ns 1)), rwD (woB c ns l), rwD (woC c ns l)]) (da_3 (de_v 5) (de_v 8) (de_v 9)) (szk (by show 3 ≤ 1000; omega)))) (de_v 10) (atI_nat ?_))) ⟨(1 + gt l (9 + k) % 3, woL c ns l k), by show 1 ≤ 1 + gt l (9 + k) % 3; omega, by show 1 + gt l (9 + k) % 3 ≤ 1000; omega, by show (woL c ns l k).length ≤ 100; rw [wl.len]; omega, rfl, rfl⟩
  match k, hk' with
  | 0, _ => rfl
  | 1, _ => rfl
  | 2, _ => rfl
end
end EL
end
section
set_option maxHeartbeats 1000000
namespace EL
open PySem PySem.Spec PyProof.Rows L2 DL MA MB MD
/-! ### the law's own product test, in vectors -/
theorem dzc {c : Ck} (hc : CK c) (a b : Row) {h : Nat} (hh : h < nn c) : ((dzF c a b h : Int) : Rat) = cvc c (rv a) (rv b) h := by
  rw [dz_sum hc hh]
  show _ = if h < nn c then _ else _
  rw [if_pos hh]
  refine (sm_cast (nn c) fun g => gt a g * gt b (mN c (ivN c g) h)).trans (sm_congr fun i hi => ?_)
  rw [Rat.intCast_mul]; rfl
theorem frac_iff {Z U a b u : Rat} (ha : a ≠ 0) (hb : b ≠ 0) (hu : u ≠ 0) : a⁻¹ * (b⁻¹ * Z) = U * u⁻¹ ↔ Z * u = U * (a * b) := by
  have h1 := Rat.mul_inv_cancel a ha
  have h2 := Rat.mul_inv_cancel b hb
  have h3 := Rat.mul_inv_cancel u hu
  constructor
  · intro h
    have e : a * b * u * (a⁻¹ * (b⁻¹ * Z)) = a * b * u * (U * u⁻¹) := by rw [h]
    have e1 : a * b * u * (a⁻¹ * (b⁻¹ * Z)) = (a * a⁻¹) * (b * b⁻¹) * (Z * u) := by grind
    have e2 : a * b * u * (U * u⁻¹) = U * (a * b) * (u * u⁻¹) := by grind
    rw [e1, e2, h1, h2, h3] at e
    grind
  · intro h
    have e : a⁻¹ * b⁻¹ * u⁻¹ * (Z * u) = a⁻¹ * b⁻¹ * u⁻¹ * (U * (a * b)) := by rw [h]
    have e1 : a⁻¹ * b⁻¹ * u⁻¹ * (Z * u) = (u * u⁻¹) * (a⁻¹ * (b⁻¹ * Z)) := by grind
    have e2 : a⁻¹ * b⁻¹ * u⁻¹ * (U * (a * b)) = (a * a⁻¹) * (b * b⁻¹) * (U * u⁻¹) := by grind
    rw [e1, e2, h1, h2, h3] at e
    grind
theorem vlq (d : DD) (i : Nat) : vl d i = ((gt d.2 i : Int) : Rat) * ((d.1 : Int) : Rat)⁻¹ := Rat.div_def _ _
theorem vl_scl (d : DD) : vl d = scl (((d.1 : Int) : Rat))⁻¹ (rv d.2) := funext fun i => by
  rw [vlq, Rat.mul_comm]; rfl
structure Dl (n : Nat) (d : DD) : Prop where
  len : d.2.length = n
  nz : d.1 ≠ 0
theorem Can.dl {n : Nat} {d : DD} (h : Can n d) : Dl n d := ⟨h.len, by have := h.pos; omega⟩
theorem Dl.sup {n : Nat} {d : DD} (h : Dl n d) : Sup n (vl d) := by rw [vl_scl]; exact (rv_sup h.len).scl
theorem isF_iff {c : Ck} (hc : CK c) {d e u : DD} (hd : Dl (nn c) d) (he : Dl (nn c) e) (hu : Dl (nn c) u) : isF c d e u = true ↔ cvc c (vl d) (vl e) = vl u := by
  have key : ∀ k, k < nn c → (dzF c d.2 e.2 k * u.1 = gt u.2 k * (d.1 * e.1) ↔ cvc c (vl d) (vl e) k = vl u k) := fun k hk => by
    have e1 : cvc c (vl d) (vl e) k = (((d.1 : Int) : Rat))⁻¹ * ((((e.1 : Int) : Rat))⁻¹ * ((dzF c d.2 e.2 k : Int) : Rat)) := by
      rw [vl_scl d, vl_scl e, dzc hc d.2 e.2 hk]
      show cv _ _ _ _ _ k = _
      rw [scl_cv, cv_scl]; rfl
    rw [e1, vlq u k, frac_iff (cne hd.nz) (cne he.nz) (cne hu.nz)]
    constructor
    · intro h
      have := congrArg (fun z : Int => (z : Rat)) h
      simp only [Rat.intCast_mul] at this
      exact this
    · intro h
      refine cinj ?_
      simp only [Rat.intCast_mul]
      exact h
  unfold isF
  rw [List.all_eq_true]
  constructor
  · intro h
    refine Sup.ext (n := nn c) Sup.cv hu.sup fun k hk => (key k hk).mp (of_decide_eq_true (h k (List.mem_range.mpr hk)))
  · intro h k hk
    exact decide_eq_true ((key k (List.mem_range.mp hk)).mpr (by rw [h]))
/-! ### bounds -/
theorem lu_bd {c : Ck} {d : DD} {l : Vc} (hc : CK c) (hd : Can (nn c) d) (hw : Wt 50 d) (h : LUc c (vl d) l) : Bd 3175 l := by
  obtain ⟨_, _, _, out, _, _, _, _, _, _, _, _, _, h1, h2⟩ := lu_ok hc hd hw
  have := MD.LU.uniq hc.grp h h1
  rw [this]
  exact h2
theorem mp_bd {c : Ck} {d : DD} {q : Vc} (hc : CK c) (hd : Can (nn c) d) (hw : Wt 26 d) (h : MPc c (vl d) q) : Bd 3300 q := by
  obtain ⟨_, _, _, _, _, out, _, _, _, _, _, _, _, _, _, _, _, _, _, h1, h2⟩ := recall_ok hc hd hw
  have := MD.MP.uniq hc.grp h h1
  rw [this]
  exact h2
theorem isok {n k : Nat} {d : DD} (hd : Can n d) (hb : Bd k (vl d)) (hk : k ≤ 19000 := by omega) : IsOk n d := by
  obtain ⟨h1, h2⟩ := hb.can hd
  have p : 2 ^ k < 2 ^ 20000 := Nat.pow_lt_pow_right (by omega) (by omega)
  exact ⟨hd.len, Nat.lt_of_le_of_lt h1 p, fun x hx => Nat.lt_of_le_of_lt (h2 x hx) p⟩
theorem Wt.isok {n k : Nat} {d : DD} (hw : Wt k d) (hd : Can n d) (hk : k ≤ 19000 := by omega) : IsOk n d := EL.isok hd (hw.bd hd) hk
/-! ### the numbers alone -/
theorem inz {d : DD} (h : d.1 ≠ 0) : (((d.1 : Int) : Rat))⁻¹ ≠ 0 := fun z => by
  have := Rat.mul_inv_cancel _ (cne h)
  rw [z, Rat.mul_zero] at this
  exact absurd this (by decide)
theorem scl_scl (x y : Rat) (a : Vc) : scl x (scl y a) = scl (x * y) a := funext fun i => (Rat.mul_assoc x y (a i)).symm
theorem rv_scl {d : DD} (h : d.1 ≠ 0) : rv d.2 = scl ((d.1 : Int) : Rat) (vl d) := by
  rw [vl_scl, scl_scl, Rat.mul_inv_cancel _ (cne h)]
  exact funext fun i => (Rat.one_mul _).symm
theorem lu_rv {c : Ck} {d : DD} {l : Vc} (hc : CK c) (h : d.1 ≠ 0) (g : LUc c (vl d) l) : LUc c (rv d.2) l := by
  rw [rv_scl h]
  exact MD.LU.scale hc.grp (cne h) g
theorem mof_scl {c : Ck} {a b : Vc} {x y : Rat} (hx : x ≠ 0) (h : Mfc c a b) : Mfc c (scl x a) (scl y b) := by
  obtain ⟨z, hz, rfl⟩ := h
  refine ⟨scl (y * x⁻¹) z, hz.scl, ?_⟩
  rw [scl_cv, cv_scl, scl_scl, Rat.mul_assoc, Rat.inv_mul_cancel _ hx, Rat.mul_one]
theorem mof_rv {c : Ck} {d e : DD} (hd : d.1 ≠ 0) (he : e.1 ≠ 0) : Mfc c (rv d.2) (rv e.2) ↔ Mfc c (vl d) (vl e) := by
  constructor
  · intro h
    rw [vl_scl d, vl_scl e]
    exact mof_scl (inz hd) h
  · intro h
    rw [rv_scl hd, rv_scl he]
    exact mof_scl (cne hd) h
/-- the rank by the unit -/
theorem rank_lu {c : Ck} {d s : DD} (hc : CK c) (hd : Can (nn c) d) (hw : Wt 26 d) (hs : s.1 ≠ 0) (h : LUc c (vl d) (vl s)) : (nn c : Int) * gt s.2 0 = (rkF (nn c) (shRows c d.2) : Int) * s.1 := by
  have r := (rk_lefts hc hd.len fun x hx => Nat.le_trans (hw.2 x hx) (by decide)).2
  have e := rank_unit hc.grp (rv_sup hd.len) (lu_rv hc hd.dl.nz h) r
  refine cinj ?_
  rw [Rat.intCast_mul, Rat.intCast_mul]
  rw [vlq] at e
  have h1 := Rat.mul_inv_cancel _ (cne hs)
  have e2 : ((rkF (nn c) (shRows c d.2) : Nat) : Rat) = ((rkF (nn c) (shRows c d.2) : Int) : Rat) := rfl
  have e3 : ((nn c : Nat) : Rat) = ((nn c : Int) : Rat) := rfl
  rw [e2, e3] at e
  rw [← e]
  grind
/-- one less a deal -/
def lessF (d : DD) : DD := (d.1, (d.2.map fun x => -x).set 0 (-gt d.2 0 + d.1))
theorem less_ok {n : Nat} {d : DD} (hd : Can n d) (h1 : 1 ≤ n) : Can n (lessF d) ∧ vl (lessF d) = sub one (vl d) := by
  have gl : ∀ i, gt (lessF d).2 i = if i = 0 then -gt d.2 0 + d.1 else -gt d.2 i := fun i => by
    show gt ((d.2.map fun x => -x).set 0 (-gt d.2 0 + d.1)) i = _
    rw [gt_set, gt_map (f := fun x => -x) rfl, List.length_map, hd.len]
    by_cases e : i = 0
    · subst e; rw [if_pos ⟨rfl, by omega⟩, if_pos rfl]
    · rw [if_neg (fun z => e z.1.symm), if_neg e]
  have ll : (lessF d).2.length = n := by
    show ((d.2.map fun x => -x).set 0 _).length = n
    rw [List.length_set, List.length_map, hd.len]
  refine ⟨⟨ll, hd.pos, ?_⟩, ?_⟩
  · refine gcdL_one (by have := hd.pos; show 0 ≤ d.1; omega) fun x h0 hx hy => ?_
    have hx' : x ∣ d.1 := hx
    have each : ∀ i, i < n → x ∣ gt d.2 i := fun i hi => by
      have := hy _ (gt_mem (l := (lessF d).2) (i := i) (by rw [ll]; exact hi))
      rw [gl] at this
      by_cases e : i = 0
      · subst e
        rw [if_pos rfl] at this
        have t2 : x ∣ -gt d.2 0 := (Int.dvd_add_left hx').mp this
        exact (Int.dvd_neg).mp t2
      · rw [if_neg e] at this
        exact (Int.dvd_neg).mp this
    have g := gcdL_max (l := d.2) (g := d.1) (d := x) hx' fun y hy => by
      obtain ⟨i, hi, rfl⟩ := mem_gt hy
      exact each i (by rw [← hd.len]; exact hi)
    rw [hd.gcd] at g
    exact one_of_dvd h0 g
  · have nz : ((d.1 : Int) : Rat) ≠ 0 := cne (by have := hd.pos; omega)
    have h1 := Rat.mul_inv_cancel _ nz
    refine funext fun i => ?_
    rw [vlq, gl]
    show _ = one i - vl d i
    rw [vlq]
    show _ * ((d.1 : Int) : Rat)⁻¹ = _
    unfold one
    by_cases e : i = 0
    · subst e
      rw [if_pos rfl, if_pos rfl, Rat.intCast_add, Rat.intCast_neg]
      grind
    · rw [if_neg e, if_neg e, Rat.intCast_neg]
      grind
theorem mir_self {c : Ck} {d : DD} (hc : CK c) (hd : Can (nn c) d) (h : stc c (vl d) = vl d) : mirF c d = d := by
  obtain ⟨m1, m2⟩ := mir_vl hc hd
  exact can_uniq m1 hd (m2.trans h)
section
variable {P : Program} {w : World} {K : PySem.W.Frag} {mg : Str → Option Value} {base : Heap} (B : Bi mg)
theorem de_ixd {X : Cx} {G : Ev} {e b : Expr} {pos : Pos} {d : DD} (h : DE X G e (dlD d)) (hb : DE X G b (.int 0)) (hs : PlainIx b := by intro _ _; rfl) : DE X G (.Subscript e b pos) (.int d.1) := de_ixT (ds := [.int d.1, .tuple (il d.2)]) h hb rfl hs
theorem de_ixw {X : Cx} {G : Ev} {e b : Expr} {pos : Pos} {d : DD} (h : DE X G e (dlD d)) (hb : DE X G b (.int 1)) (hs : PlainIx b := by intro _ _; rfl) : DE X G (.Subscript e b pos) (.tuple (il d.2)) := de_ixT (ds := [.int d.1, .tuple (il d.2)]) h hb rfl hs
def R118 : List PyData → PyData → Prop := fun ds r => ∃ (c : Ck) (d wt : DD) (l : Vc), CK c ∧ Can (nn c) d ∧ Wt 26 d ∧ Can (nn c) wt ∧ LUc c (vl d) l ∧ vl wt = sub one l ∧ ds = [tblD c, dlD d, dlD wt] ∧ r = .bool true
include B in
theorem w118 (F : FF K mg "_law_witness" "_law_witness" 118) (h102 : Cb true P w K mg base 2 "_law_is_deal" 2 R102) (h112 : Cb true P w K mg base 2 "_law_is" 4 R112) (h113 : Cb true P w K mg base 1 "_law_mirror" 2 R113) (h111 : Cb true P w K mg base 1 "_law_lefts" 2 R111) (h110 : Cb true P w K mg base 1 "_law_rank" 1 R110) : Cb true P w K mg base 3 "_law_witness" 3 R118 := by
  refine cb_both F sc118 rfl bn118 fun f cd A outer s H hb pn ds r hm rm hR hn => ?_
  obtain ⟨c, d, wt, l, hc, hd, hw, hwt, hl, ew, rfl, rfl⟩ := hR
  have cb := hc.bd
  have G := hc.grp
  have bl := lu_bd hc hd ⟨Nat.le_trans hw.1 (by decide), fun x hx => Nat.le_trans (hw.2 x hx) (by decide)⟩ hl
  obtain ⟨cs, vs⟩ := less_ok hwt (by omega)
  have vl1 : vl (lessF wt) = l := by
    rw [vs, ew]
    exact funext fun i => by show one i - (one i - l i) = l i; grind
  have wl : wt.2.length = nn c := hwt.len
  have bw : Bd 3200 (vl (lessF wt)) := by rw [vl1]; exact bl.mono (by omega)
  have ok := isok cs bw
  have okd := hw.isok hd
  refine .inl ?_
  refine dss_cons (ds_ifF (dtc (dt_not (DE.dt (de_call (h102.cal rm) (da_2 (dec (de_lenL B.len (DE.dr (de_v 0))) (q := iN (nn c)) (by rw [tbl_len])) (de_v 2)) ⟨nn c, wt, hwt, rfl, rfl⟩)))) dss_nil) ?_
  refine dss_cons (ds_lc (own := [("_law_worth", 4)]) 3 wt.2 PyData.int (fun x => .int (-x)) (cmM hm) sc118.nd (sml (by omega)) bk (di_tup (de_ixw (de_v 2) de_int)) fun x hx => ⟨_, _, fun j hj => hj, fun s H C cl fp => ⟨dg_name 4 sc118.nd, de_neg (de_v 4)⟩⟩) ?_
  refine dss_cons (ds_inc 3 (m := 0) (y := -gt wt.2 0) rfl de_int (by decide) ?_ (de_ixd (de_v 2) de_int)) ?_
  · rw [List.getElem?_map, getD_get (show 0 < wt.2.length by omega)]; rfl
  refine dss_frz 3 rfl ?_
  have eoff : PyData.list ((wt.2.map fun x => PyData.int (-x)).set 0 (.int (-gt wt.2 0 + wt.1))) = rwD (lessF wt).2 := by
    unfold rwD lessF il
    rw [List.map_set, List.map_map]; rfl
  show DSs _ [_, _, _, .dat (PyData.list _), _, _] _ _
  rw [eoff]
  refine dss_cons (ds_set 5 sc118.nd (dec (de_tup2 (de_ixd (d := wt) (de_v 2) de_int) (de_tupL B.tuple (DE.dr (de_v 3)))) (q := dlD (lessF wt)))) ?_
  have t1 : isF c (lessF wt) (lessF wt) (lessF wt) = true := (isF_iff hc cs.dl cs.dl cs.dl).mpr (by rw [vl1]; exact MD.LU.idem G hl)
  have t2 : mirF c (lessF wt) = lessF wt := mir_self hc cs (by rw [vl1]; exact hl.c)
  have t3 : isF c d (lessF wt) d = true := (isF_iff hc hd.dl cs.dl hd.dl).mpr (by rw [vl1]; exact hl.a)
  refine dss_cons (ds_ifF (dtc (DW.dt (dw_orF (dtc (dt_not (DE.dt (de_call (h112.cal rm) (da_cons (de_v 0) (da_3 (de_v 5) (de_v 5) (de_v 5))) ⟨c, lessF wt, lessF wt, lessF wt, hc, ok, ok, ok, rfl, rfl⟩))) (by rw [t1]; rfl)) (dw_orF (dtc (dt_neD rm.units (de_call (h113.cal rm) (da_2 (de_v 0) (de_v 5)) ⟨c, lessF wt, hc, cs.len, rfl, rfl⟩) (de_v 5) (sh_dl _) (sh_dl _)) (by rw [eqv_dl, t2, decide_eq_true rfl]; try rfl)) (dw_or1 (dtc (dt_not (DE.dt (de_call (h112.cal rm) (da_cons (de_v 0) (da_3 (de_v 1) (de_v 5) (de_v 1))) ⟨c, d, lessF wt, d, hc, okd, ok, okd, rfl, rfl⟩))) (by rw [t3]; try rfl))))))) dss_nil) ?_
  have r0 := (rk_lefts hc hd.len fun x hx => Nat.le_trans (hw.2 x hx) (by decide)).1
  have en := rank_lu hc hd hw cs.dl.nz (s := lessF wt) (by rw [vl1]; exact hl)
  have c1 : (gt (lessF wt).2 0).natAbs < 2 ^ 20000 := ok.b2.gt 0
  have c2 : wt.1.natAbs < 2 ^ 20000 := ok.b1
  refine dss_one (ds_ret (dec (de_eq (de_mul (dec (de_lenL B.len (DE.dr (de_v 0))) (q := iN (nn c)) (by rw [tbl_len])) (de_ixL (DE.dr (de_v 3)) de_int (gt_at (i := 0) (by rw [cs.len]; omega))) (mulS (by omega))) (de_mul (de_call (h110.cal rm) (da_1 (de_call (h111.cal rm) (da_2 (de_v 0) (de_ixw (de_v 1) de_int)) ⟨c, true, d.2, hc, hd.len, rfl, rfl⟩)) r0) (de_ixd (de_v 2) de_int) (mulS ?_))) ?_))
  · have := rank_le (W := nn c) (N := (shRows c d.2).length) (R := fun i => (shRows c d.2).getD i []) (nn c)
    have e : rkF (nn c) (shRows c d.2) ≤ nn c := this.1
    omega
  · exact congrArg PyData.bool (decide_eq_true en)
end
end EL
end
section
set_option maxHeartbeats 1000000
namespace EL
open PySem PySem.Spec PyProof.Rows L2 DL MA MB MD
/-! ### what was asked, what was told -/
structure Told (c : Ck) (d e : DD) (u : Bool) (T : Option DD) : Prop where
  iff : u = true ↔ Mfc c (vl d) (vl e)
  yes : u = true → ∃ t q, T = some t ∧ Can (nn c) t ∧ MPc c (vl d) q ∧ vl t = cvc c (vl e) q
  no : u = false → T = none
def toD : Option DD → PyData
  | none => .none
  | some t => dlD t
theorem told_bd {c : Ck} {d e t : DD} {q : Vc} (hc : CK c) (hd : Can (nn c) d) (he : Can (nn c) e) (wd : Wt 26 d) (we : Wt 26 e) (h : MPc c (vl d) q) (ht : vl t = cvc c (vl e) q) : Bd 3400 (vl t) := by
  have cb := hc.bd
  rw [ht]
  exact (Bd.cv (by omega) (we.bd he) (mp_bd hc hd wd h)).mono (by omega)
/-- what is told makes the other -/
theorem told_makes {c : Ck} {d e t : DD} {q : Vc} (hc : CK c) (hd : Can (nn c) d) (h : MPc c (vl d) q) (ht : vl t = cvc c (vl e) q) (m : Mfc c (vl d) (vl e)) : cvc c (vl t) (vl d) = vl e := by
  have G := hc.grp
  obtain ⟨y, hy, ey⟩ := m
  rw [ht]
  have a := h.a
  show cv _ _ _ (cv _ _ _ _ _) _ = _
  rw [cv_assoc G, ey, cv_assoc G, ← cv_assoc G (vl d) q (vl d), a]
/-! ### deals less their even share -/
theorem ls_deal {c : Ck} {d : DD} (hc : CK c) (hd : Can (nn c) d) (hw : Wt 26 d) : ∃ f, Can (nn c) f ∧ vl f = lsV c (vl d) ∧ Wt 50 f := by
  obtain ⟨_, _, h3, h4⟩ := ev_can hc hd
  obtain ⟨f, cf, vf⟩ := ex43 hc hd h3
  rw [h4] at vf
  refine ⟨f, cf, vf, ?_⟩
  have b := (ev_bd hc hd hw).2
  have b2 : Bd 32 (vl f) := by rw [vf]; exact b
  obtain ⟨x, y⟩ := b2.can cf
  exact ⟨Nat.le_trans x (by decide), fun z hz => Nat.le_trans (y z hz) (by decide)⟩
theorem ls_bd {c : Ck} {d f : DD} {l : Vc} (hc : CK c) (hd : Can (nn c) d) (hw : Wt 26 d) (h : LUc c (lsV c (vl d)) l) (e : vl f = sub one l) : Bd 3200 (vl f) := by
  obtain ⟨a, ca, va, wa⟩ := ls_deal hc hd hw
  rw [← va] at h
  rw [e]
  exact (Bd.sub (bd_one (k := 0)) (lu_bd hc ca wa h)).mono (by omega)
theorem lsV_sup {c : Ck} {d : DD} (hd : Can (nn c) d) : Sup (nn c) (lsV c (vl d)) := fun i hi => by
  show vl d i - evn (nn c) (vl d) i = 0
  unfold evn
  rw [if_neg (by omega), hd.sup i hi]; grind
theorem mof_iff {c : Ck} {a b : Vc} {x y : Rat} (hx : x ≠ 0) (hy : y ≠ 0) : Mfc c (scl x a) (scl y b) ↔ Mfc c a b := by
  constructor
  · intro h
    have z := mof_scl (x := x⁻¹) (y := y⁻¹) (fun z => by have := Rat.mul_inv_cancel _ hx; rw [z, Rat.mul_zero] at this; exact absurd this (by decide)) h
    rw [scl_scl, scl_scl, Rat.inv_mul_cancel _ hx, Rat.inv_mul_cancel _ hy] at z
    have o : ∀ v : Vc, scl 1 v = v := fun v => funext fun i => Rat.one_mul _
    rwa [o, o] at z
  · exact mof_scl hx
theorem leL_rv {c : Ck} {d : DD} (hc : CK c) (hd : Can (nn c) d) : rv (leL d.2) = scl (((nn c : Nat) : Rat) * ((d.1 : Int) : Rat)) (lsV c (vl d)) := by
  have cb := hc.bd
  have p1 := hd.pos
  have ll : (leL d.2).length = nn c := by unfold leL; rw [List.length_map, hd.len]
  refine Sup.ext (n := nn c) (rv_sup ll) (lsV_sup hd).scl fun i hi => ?_
  have e1 : rv (leL d.2) i = ((nn c : Int) : Rat) * ((gt d.2 i : Int) : Rat) - ((d.2.sum : Int) : Rat) := by
    show ((gt (leL d.2) i : Int) : Rat) = _
    have : gt (leL d.2) i = (nn c : Int) * gt d.2 i - d.2.sum := by
      unfold leL gt
      rw [List.getD_eq_getElem?_getD, List.getD_eq_getElem?_getD, List.getElem?_map, List.getElem?_eq_getElem (show i < d.2.length by rw [hd.len]; exact hi)]
      have hn : (d.2.length : Int) = nn c := congrArg (fun z : Nat => (z : Int)) hd.len
      exact congrArg (fun z : Int => z * d.2[i]'(by rw [hd.len]; exact hi) - d.2.sum) hn
    rw [this, Rat.intCast_sub, Rat.intCast_mul]
  have ea := ev_at hc hd hi
  have h1 := Rat.mul_inv_cancel _ (cne (show d.1 ≠ 0 by omega))
  have e3 : ((nn c : Nat) : Rat) = ((nn c : Int) : Rat) := rfl
  rw [e1, ← ea, e3]
  show _ = _ * (vl d i - evn (nn c) (vl d) i)
  rw [vlq]
  generalize ((d.1 : Int) : Rat)⁻¹ = z at h1
  grind
theorem leL_mof {c : Ck} {d e : DD} (hc : CK c) (hd : Can (nn c) d) (he : Can (nn c) e) : Mfc c (rv (leL d.2)) (rv (leL e.2)) ↔ Mfc c (lsV c (vl d)) (lsV c (vl e)) := by
  have p1 := hd.pos
  have p2 := he.pos
  have n0 : ((nn c : Nat) : Rat) ≠ 0 := nnc hc
  rw [leL_rv hc hd, leL_rv hc he]
  exact mof_iff (fun z => (Rat.mul_eq_zero.mp z).elim n0 (cne (by omega))) fun z => (Rat.mul_eq_zero.mp z).elim n0 (cne (by omega))
theorem leL_le {d : DD} {n : Nat} (hw : Wt 26 d) (hl : d.2.length = n) (hn : n ≤ 21) : ∀ x, x ∈ leL d.2 → x.natAbs ≤ 2 ^ 120 := fun x hx => by
  obtain ⟨y, hy, rfl⟩ := List.mem_map.mp hx
  have h1 := hw.2 y hy
  have h2 := sum_abs hw.2
  have h3 : ((d.2.length : Int) * y).natAbs ≤ 21 * 2 ^ 26 := by
    rw [Int.natAbs_mul, Int.natAbs_natCast]
    exact Nat.mul_le_mul (by omega) h1
  have h4 : d.2.length * 2 ^ 26 ≤ 21 * 2 ^ 26 := Nat.mul_le_mul_right _ (by omega)
  refine Nat.le_trans (?_ : _ ≤ 2 ^ 40) (by decide)
  omega
section
variable {P : Program} {w : World} {K : PySem.W.Frag} {mg : Str → Option Value} {base : Heap} (B : Bi mg)
theorem bl_dec {a b : Bool} : decide (scV (.bool a) = scV (.bool b)) = decide (a = b) := decide_eq_decide.mpr ⟨fun h => V.bl.inj h, fun h => by rw [h]⟩
theorem bl_iff {a b : Bool} {p : Prop} (ha : a = true ↔ p) (hb : b = true ↔ p) : a = b := by
  cases a <;> cases b
  · rfl
  · exact (ha.mpr (hb.mp rfl)).symm ▸ rfl
  · exact hb.mpr (ha.mp rfl) ▸ rfl
  · rfl
theorem made_at {c : Ck} {d e : DD} {t : Bool} (hc : CK c) (hd : Can (nn c) d) (he : Can (nn c) e) (wd : Wt 26 d) (we : Wt 26 e) (h : t = true ↔ Mfc c (lsV c (vl d)) (lsV c (vl e))) : R117 [tblD c, SQ false (leL d.2), SQ false (leL e.2)] (.bool t) := by
  have cb := hc.bd
  refine ⟨c, false, false, leL d.2, leL e.2, t, hc, by unfold leL; rw [List.length_map, hd.len], by unfold leL; rw [List.length_map, he.len], leL_le wd hd.len (by omega), leL_le we he.len (by omega), ?_, rfl, rfl⟩
  rw [leL_mof hc hd he]
  exact h
def R121 : List PyData → PyData → Prop := fun ds r => ∃ (c : Ck) (d e : DD), CK c ∧ Can (nn c) d ∧ Can (nn c) e ∧ Wt 26 d ∧ Wt 26 e ∧ ds = [ckD c, tblD c, dlD d, dlD e] ∧ r = .bool true
include B in
theorem w121 (F : FF K mg "_law_eveners" "_law_eveners" 121) (h89 : Cb false P w K mg base 9 "evener_right" 2 R89) (h102 : Cb true P w K mg base 2 "_law_is_deal" 2 R102) (h112 : Cb true P w K mg base 2 "_law_is" 4 R112) (h117 : Cb false P w K mg base 2 "_law_made" 3 R117) (h120 : Cb false P w K mg base 1 "_law_less" 1 R120) : Cb false P w K mg base 10 "_law_eveners" 4 R121 := by
  refine cb_calm F sc121 rfl bn121 fun f cd A outer s H ds r rm hR hn => ?_
  obtain ⟨c, d, e, hc, hd, he, wd, we, rfl, rfl⟩ := hR
  have cb := hc.bd
  have G := hc.grp
  obtain ⟨ld, cld, vld, wld⟩ := ls_deal hc hd wd
  obtain ⟨le, cle, vle, wle⟩ := ls_deal hc he we
  obtain ⟨_, _, _, l0, _, _, _, _, _, _, _, _, cl0, lu1, _⟩ := lu_ok hc cld wld
  obtain ⟨_, _, _, k0, _, _, _, _, _, _, _, _, ck0, lu2, _⟩ := lu_ok hc cle wle
  rw [vld] at lu1
  rw [vle] at lu2
  obtain ⟨fd, cfd, vfd⟩ := ex43 hc (id_can hc).1 cl0
  obtain ⟨fe, cfe, vfe⟩ := ex43 hc (id_can hc).1 ck0
  rw [(id_can hc).2] at vfd vfe
  have b1 := ls_bd hc hd wd lu1 vfd
  have b2 := ls_bd hc he we lu2 vfe
  have ok1 := isok cfd b1
  have ok2 := isok cfe b2
  refine .inl ?_
  refine dss_cons (ds_par 4 5 (.inl rfl) sc121.nd (de_call (h89.cal rm) (da_2 (de_v 0) (de_v 2)) ⟨c, d, fd, _, hc, hd, wd, lu1, cfd, vfd, rfl, rfl⟩) (de_call (h89.cal rm) (da_2 (de_v 0) (de_v 3)) ⟨c, e, fe, _, hc, he, we, lu2, cfe, vfe, rfl, rfl⟩)) ?_
  refine dss_cons (ds_ifF (dtc (DW.dt (dw_orF (dtc (dt_not (DE.dt (de_call (h102.cal rm) (da_2 (dec (de_lenL B.len (DE.dr (de_v 1))) (q := iN (nn c)) (by rw [tbl_len])) (de_v 4)) ⟨nn c, fd, cfd, rfl, rfl⟩)))) (dw_or1 (dtc (dt_not (DE.dt (de_call (h102.cal rm) (da_2 (dec (de_lenL B.len (DE.dr (de_v 1))) (q := iN (nn c)) (by rw [tbl_len])) (de_v 5)) ⟨nn c, fe, cfe, rfl, rfl⟩)))))))) dss_nil) ?_
  have less : ∀ {i : Nat} {G : Ev} {x : DD}, Can (nn c) x → R120 [dlD x] (rwD (leL x.2)) := fun hx => ⟨_, by rw [hx.len]; omega, rfl, rfl⟩
  have i1 : isF c fe fd fd = true ↔ Mfc c (lsV c (vl d)) (lsV c (vl e)) := by
    rw [isF_iff hc cfe.dl cfd.dl cfd.dl, vfd, vfe]
    exact ev_iff G lu1 lu2
  have i2 : isF c fd fe fe = true ↔ Mfc c (lsV c (vl e)) (lsV c (vl d)) := by
    rw [isF_iff hc cfd.dl cfe.dl cfe.dl, vfd, vfe]
    exact ev_iff G lu2 lu1
  refine dss_cons (ds_ifF (dtc (dt_neS (de_call (h112.cal rm) (da_cons (de_v 1) (da_3 (de_v 5) (de_v 4) (de_v 4))) ⟨c, fe, fd, fd, hc, ok2, ok1, ok1, rfl, rfl⟩) (de_call (h117.cal rm) (da_3 (de_v 1) (de_call (h120.cal rm) (da_1 (de_v 2)) (less hd (i := 0) (G := []))) (de_call (h120.cal rm) (da_1 (de_v 3)) (less he (i := 0) (G := [])))) (made_at hc hd he wd we i1))) (by rw [bl_dec, decide_eq_true rfl]; rfl)) dss_nil) ?_
  refine dss_one (ds_ret (dec (de_eqS (de_call (h112.cal rm) (da_cons (de_v 1) (da_3 (de_v 4) (de_v 5) (de_v 5))) ⟨c, fd, fe, fe, hc, ok1, ok2, ok2, rfl, rfl⟩) (de_call (h117.cal rm) (da_3 (de_v 1) (de_call (h120.cal rm) (da_1 (de_v 3)) (less he (i := 0) (G := []))) (de_call (h120.cal rm) (da_1 (de_v 2)) (less hd (i := 0) (G := [])))) (made_at hc he hd we wd i2))) ?_))
  rw [bl_dec, decide_eq_true rfl]
end
end EL
end
section
set_option maxHeartbeats 1000000
namespace EL
open PySem PySem.Spec PyProof.Rows L2 DL MA MB MD
section
variable {P : Program} {w : World} {K : PySem.W.Frag} {mg : Str → Option Value} {base : Heap} (B : Bi mg)
theorem Wt.w50 {d : DD} (h : Wt 26 d) : Wt 50 d := h.mono (by omega)
def R122 : List PyData → PyData → Prop := fun ds r => ∃ (c : Ck) (d e : DD) (u : Bool) (T : Option DD), CK c ∧ Can (nn c) d ∧ Can (nn c) e ∧ Wt 26 d ∧ Wt 26 e ∧ Told c d e u T ∧ ds = [ckD c, tblD c, dlD d, dlD e, toD T] ∧ r = .bool true
include B in
theorem w122 (F : FF K mg "_law_turned" "_law_turned" 122) (h113 : Cb true P w K mg base 1 "_law_mirror" 2 R113) (h74 : Cb false P w K mg base 9 "is_made_right" 3 R74) (h92 : Cb false P w K mg base 8 "made_paper" 4 R92) (h95 : Cb false P w K mg base 8 "lets_made" 5 R95) (h76 : Cb false P w K mg base 8 "made_right" 3 R76) (h102 : Cb true P w K mg base 2 "_law_is_deal" 2 R102) : Cb false P w K mg base 10 "_law_turned" 5 R122 := by
  refine cb_calm F sc122 rfl bn122 fun f cd A outer s H ds r rm hR hn => ?_
  obtain ⟨c, d, e, u, T, hc, hd, he, wd, we, ht, rfl, rfl⟩ := hR
  have cb := hc.bd
  have G := hc.grp
  obtain ⟨cm, vm⟩ := mir_vl hc hd
  obtain ⟨cn, vn⟩ := mir_vl hc he
  have wm := mir_wt hc hd wd cm vm
  have wn := mir_wt hc he we cn vn
  have sd2 : stc c (vl (mirF c d)) = vl d := by rw [vm]; exact st_st G _ hd.sup
  have se2 : stc c (vl (mirF c e)) = vl e := by rw [vn]; exact st_st G _ he.sup
  refine .inl ?_
  refine dss_cons (ds_par 5 6 (.inl rfl) sc122.nd (de_call (h113.cal rm) (da_2 (de_v 1) (de_v 2)) ⟨c, d, hc, hd.len, rfl, rfl⟩) (de_call (h113.cal rm) (da_2 (de_v 1) (de_v 3)) ⟨c, e, hc, he.len, rfl, rfl⟩)) ?_
  refine dss_cons (ds_set 7 sc122.nd (d := .bool u) (de_call (h74.cal rm) (da_3 (de_v 0) (de_v 5) (de_v 6)) ⟨c, mirF c d, mirF c e, u, hc, cm, cn, wm.w50, wn.w50, by rw [sd2, se2]; exact ht.iff, rfl, rfl⟩)) ?_
  cases hu : u with
  | false =>
    subst hu
    have eT := ht.no rfl
    subst eT
    have nm : ¬ Mfc c (vl d) (vl e) := fun z => Bool.false_ne_true (ht.iff.mpr z)
    obtain ⟨_, _, _, l, _, _, _, _, _, _, _, _, cl, lu, bl⟩ := lu_ok hc hd wd.w50
    obtain ⟨x, cx, vx⟩ := ex43 hc (id_can hc).1 cl
    rw [(id_can hc).2] at vx
    have bx : Bd 3200 (vl x) := by rw [vx]; exact (Bd.sub (bd_one (k := 0)) bl).mono (by omega)
    refine dss_cons (ds_ifF (dtc (DW.dt (dw_orF (dtc (dt_not (DE.dt (de_isBB B (de_v 7))))) (dw_or1 (dtc (dt_eqS (d1 := .bool false) (de_v 7) (d2 := .bool true) (de_isN (d := .none) (de_v 4))) (q := false) (by rw [bl_dec]; rfl)))))) dss_nil) ?_
    refine dss_ret (ds_ifT (dtc (dt_isN (d := .none) (de_v 4))) ?_)
    refine dss_cons (ds_set 8 sc122.nd (de_call (h92.cal rm) (w60.da_4 (de_v 0) de_str (de_v 2) (de_v 3)) ⟨c, d, e, x, _, hc, hd, he, cx, wd, we, nm, lu, vx, rfl, rfl⟩)) ?_
    have z1 : cvc c (vl d) (vl x) = zr := by
      rw [vx]
      show cv _ _ _ _ _ = _
      rw [cv_sub, cv_one G _ hd.sup, lu.a]
      exact funext fun i => by show vl d i - vl d i = 0; grind
    have z2 : cvc c (vl e) (vl x) ≠ zr := fun z => by
      rw [vx] at z
      have z' : cv _ _ _ _ _ = _ := z
      rw [cv_sub, cv_one G _ he.sup] at z'
      refine nm ((lu.mof G).mpr (funext fun i => ?_))
      have := congrFun z' i
      have t : vl e i - cv (nn c) (mN c) (ivN c) (vl e) (vl l) i = 0 := this
      grind
    exact dss_one (ds_ret (dec (de_eqS (de_call (h95.cal rm) (da_cons (de_v 0) (w60.da_4 de_str (de_v 2) (de_v 3) (de_v 8))) ⟨c, d, e, x, 3200, "apart", hc, hd, he, cx, wd, we, bx, by omega, .inr ⟨rfl, z1, z2⟩, rfl, rfl⟩) de_str) (q := .bool true) (congrArg PyData.bool (decide_eq_true rfl))))
  | true =>
    subst hu
    obtain ⟨t, q, rfl, ct, hq, vt⟩ := ht.yes rfl
    have m := ht.iff.mp rfl
    have bt := told_bd hc hd he wd we hq vt
    have mk := told_makes hc hd hq vt m
    have hq2 : MPc c (vl (mirF c d)) (stc c q) := by rw [vm]; exact MD.MP.star G hd.sup hq
    obtain ⟨ctm, vtm⟩ := mir_vl hc ct
    have vb : vl (mirF c t) = cvc c (stc c q) (vl (mirF c e)) := by
      rw [vtm, vt, vn]
      exact st_cv G _ _
    refine dss_cons (ds_ifF (dtc (DW.dt (dw_orF (dtc (dt_not (DE.dt (de_isBB B (de_v 7))))) (dw_or1 (dtc (dt_eqS (d1 := .bool true) (de_v 7) (d2 := .bool false) (de_isN (d := dlD t) (de_v 4))) (q := false) (by rw [bl_dec]; rfl)))))) dss_nil) ?_
    refine dss_cons (ds_ifF (dtc (dt_isN (d := dlD t) (de_v 4))) dss_nil) ?_
    refine dss_cons (ds_ifF (dtc (dt_neS (de_call (h95.cal rm) (da_cons (de_v 0) (w60.da_4 de_str (de_v 2) (de_v 3) (de_tup2 de_str (de_v 4)))) ⟨c, d, e, t, 3400, "made", hc, hd, he, ct, wd, we, bt, by omega, .inl ⟨rfl, mk⟩, rfl, rfl⟩) de_str) (q := false) (by rw [decide_eq_true rfl]; rfl)) dss_nil) ?_
    refine dss_cons (ds_set 9 sc122.nd (d := dlD (mirF c t)) (de_call (h76.cal rm) (da_3 (de_v 0) (de_v 5) (de_v 6)) ⟨c, mirF c d, mirF c e, mirF c t, stc c q, hc, cm, cn, ctm, wm, wn, by rw [sd2, se2]; exact m, hq2, vb, rfl, rfl⟩)) ?_
    exact dss_one (ds_ret (dec (de_and (de_call (h102.cal rm) (da_2 (dec (de_lenL B.len (DE.dr (de_v 1))) (q := iN (nn c)) (by rw [tbl_len])) (de_v 9)) ⟨nn c, mirF c t, ctm, rfl, rfl⟩) fun _ => de_one (de_eqD rm.units (de_v 9) (de_call (h113.cal rm) (da_2 (de_v 1) (de_v 4)) ⟨c, t, hc, ct.len, rfl, rfl⟩) (sh_dl _) (sh_dl _))) (q := .bool true) (by rw [eqv_dl, decide_eq_true rfl]; rfl)))
/-! ### sides -/
def pA (k : Nat) : Nat := ([0, 1, 0, 1, 2] : List Nat).getD k 0
def pB (k : Nat) : Nat := ([1, 2, 2, 0, 0] : List Nat).getD k 0
def dlsD (D : Nat → DD) : PyData := .list ((List.range 3).map fun k => dlD (D k))
def duD (u : Nat → Bool) : PyData := .list ((List.range 5).map fun k => .bool (u k))
def tosD (T : Nat → Option DD) : PyData := .list ((List.range 5).map fun k => toD (T k))
def R123 : List PyData → PyData → Prop := fun ds r => ∃ (c : Ck) (D : Nat → DD) (u : Nat → Bool) (T : Nat → Option DD), CK c ∧ (∀ k, k < 3 → Can (nn c) (D k) ∧ Wt 26 (D k)) ∧ (∀ k, k < 5 → Told c (D (pA k)) (D (pB k)) (u k) (T k)) ∧ ds = [ckD c, tblD c, dlsD D, duD u, tosD T] ∧ r = .bool true
theorem at_map {n k : Nat} {γ : Nat → PyData} (h : k < n) : atI ((List.range n).map γ) (k : Int) = some (γ k) := atI_nat (by rw [List.getElem?_map, List.getElem?_range h]; rfl)
include B in
theorem w123 (F : FF K mg "_law_sides" "_law_sides" 123) (h86 : Cb false P w K mg base 8 "left_side" 2 R65) (h87 : Cb false P w K mg base 9 "right_side" 2 R66) (h102 : Cb true P w K mg base 2 "_law_is_deal" 2 R102) (h112 : Cb true P w K mg base 2 "_law_is" 4 R112) (h111 : Cb true P w K mg base 1 "_law_lefts" 2 R111) (h110 : Cb true P w K mg base 1 "_law_rank" 1 R110) : Cb false P w K mg base 10 "_law_sides" 5 R123 := by
  refine cb_calm F sc123 rfl bn123 fun f cd A outer s H ds r rm hR hn => ?_
  obtain ⟨c, D, u, T, hc, hD, hT, rfl, rfl⟩ := hR
  have cb := hc.bd
  have G := hc.grp
  obtain ⟨c0, w0⟩ := hD 0 (by omega)
  obtain ⟨c1, w1⟩ := hD 1 (by omega)
  have okd := w0.isok c0
  obtain ⟨_, _, _, l0, _, _, _, _, _, _, _, _, cl0, lu0, bl0⟩ := lu_ok hc c0 w0.w50
  obtain ⟨_, _, _, l1, _, _, _, _, _, _, _, _, cl1, lu1, _⟩ := lu_ok hc c1 w1.w50
  obtain ⟨_, _, _, _, _, q0, _, _, _, _, _, _, _, _, _, _, _, _, cq0, mp0, bq0⟩ := recall_ok hc c0 w0
  obtain ⟨o, co, vo⟩ := ex41 hc c0 cq0
  have bo : Bd 3400 (vl o) := by rw [vo]; exact (Bd.cv (by omega) (w0.bd c0) bq0).mono (by omega)
  have luo : LUc c (stc c (vl (D 0))) (vl o) := by rw [vo]; exact mp_right hc c0.sup mp0
  have okl := isok cl0 bl0
  have oko := isok co bo
  refine .inl ?_
  refine dss_cons (ds_setN 5 sc123.nd (dn_lst (ds := [dlD l0, dlD l1]) (da_2 (de_call (h86.cal rm) (da_2 (de_v 0) (de_ixL (DE.dr (de_v 2)) de_int (at_map (k := 0) (by omega)))) ⟨c, D 0, l0, hc, c0, w0.w50, cl0, lu0, rfl, rfl⟩) (de_call (h86.cal rm) (da_2 (de_v 0) (de_ixL (DE.dr (de_v 2)) de_int (at_map (k := 1) (by omega)))) ⟨c, D 1, l1, hc, c1, w1.w50, cl1, lu1, rfl, rfl⟩)) (szk (by show 2 ≤ 1000; omega)))) ?_
  have t1 : isF c (D 0) l0 (D 0) = true := (isF_iff hc c0.dl cl0.dl c0.dl).mpr lu0.a
  have d0 : ∀ {G : Ev} {pos p : Pos} {j : Nat}, True := fun {_ _ _ _} => trivial
  refine dss_cons (ds_ifF (dtc (DW.dt (dw_orF (dtc (dt_not (DE.dt (de_call (h102.cal rm) (da_2 (dec (de_lenL B.len (DE.dr (de_v 1))) (q := iN (nn c)) (by rw [tbl_len])) (de_ixL (dr_v 5) de_int (d := dlD l0) rfl)) ⟨nn c, l0, cl0, rfl, rfl⟩)))) (dw_or1 (dtc (dt_not (DE.dt (de_call (h112.cal rm) (da_cons (de_v 1) (da_3 (de_ixL (DE.dr (de_v 2)) de_int (at_map (k := 0) (by omega))) (de_ixL (dr_v 5) de_int (d := dlD l0) rfl) (de_ixL (DE.dr (de_v 2)) de_int (at_map (k := 0) (by omega))))) ⟨c, D 0, l0, D 0, hc, okd, okl, okd, rfl, rfl⟩))) (by rw [t1]; try rfl)))))) dss_nil) ?_
  have e03 : decide (l0 = l1) = (u 0 && u 3) := by
    have i0 := (hT 0 (by omega)).iff
    have i3 := (hT 3 (by omega)).iff
    have k : vl l0 = vl l1 ↔ _ := MD.LU.eq_iff G c0.sup c1.sup lu0 lu1
    refine bl_iff (p := l0 = l1) decide_eq_true_iff ?_
    rw [Bool.and_eq_true]
    constructor
    · rintro ⟨a, b⟩
      exact can_uniq cl0 cl1 (k.mpr ⟨i0.mp a, i3.mp b⟩)
    · intro z
      have := k.mp (by rw [z])
      exact ⟨i0.mpr this.1, i3.mpr this.2⟩
  refine dss_cons (ds_ifF (dtc (dt_neS (d1 := .bool (decide (l0 = l1))) (d2 := .bool (u 0 && u 3)) (dec (de_eqD rm.units (de_ixL (dr_v 5) de_int (d := dlD l0) rfl) (de_ixL (dr_v 5) de_int (d := dlD l1) rfl) (sh_dl _) (sh_dl _)) (by rw [eqv_dl])) (de_and (x := u 0) (y := u 3) (de_ixL (ds := (List.range 5).map fun k => .bool (u k)) (DE.dr (de_v 3)) (i := (0 : Nat)) de_int (at_map (n := 5) (γ := fun k => .bool (u k)) (k := 0) (by omega))) fun _ => de_one (de_ixL (ds := (List.range 5).map fun k => .bool (u k)) (DE.dr (de_v 3)) (i := (3 : Nat)) de_int (at_map (n := 5) (γ := fun k => .bool (u k)) (k := 3) (by omega))))) (q := false) (by rw [bl_dec, e03, decide_eq_true rfl]; rfl)) dss_nil) ?_
  refine dss_cons (ds_set 6 sc123.nd (d := dlD o) (de_call (h87.cal rm) (da_2 (de_v 0) (de_ixL (DE.dr (de_v 2)) de_int (at_map (k := 0) (by omega)))) ⟨c, D 0, o, hc, c0, w0.w50, co, luo, rfl, rfl⟩)) ?_
  have t2 : isF c o (D 0) (D 0) = true := (isF_iff hc co.dl c0.dl c0.dl).mpr (by rw [vo]; exact mp0.a)
  refine dss_cons (ds_ifF (dtc (DW.dt (dw_orF (dtc (dt_not (DE.dt (de_call (h102.cal rm) (da_2 (dec (de_lenL B.len (DE.dr (de_v 1))) (q := iN (nn c)) (by rw [tbl_len])) (de_v 6)) ⟨nn c, o, co, rfl, rfl⟩)))) (dw_or1 (dtc (dt_not (DE.dt (de_call (h112.cal rm) (da_cons (de_v 1) (da_3 (de_v 6) (de_ixL (DE.dr (de_v 2)) de_int (at_map (k := 0) (by omega))) (de_ixL (DE.dr (de_v 2)) de_int (at_map (k := 0) (by omega))))) ⟨c, o, D 0, D 0, hc, oko, okd, okd, rfl, rfl⟩))) (by rw [t2]; try rfl)))))) dss_nil) ?_
  have r0 := (rk_lefts hc c0.len fun x hx => Nat.le_trans (w0.2 x hx) (by decide)).1
  have en : (nn c : Int) * gt o.2 0 = (rkF (nn c) (shRows c (D 0).2) : Int) * o.1 := by
    obtain ⟨m, cmm, vmm⟩ := ex41 hc cq0 c0
    have lum : LUc c (vl (D 0)) (vl m) := by rw [vmm]; exact MD.MP.lu G mp0
    have z := rank_lu hc c0 w0 cmm.dl.nz lum
    have e0 : vl o 0 = vl m 0 := by rw [vo, vmm]; exact tr_comm G _ _
    rw [vlq, vlq] at e0
    have ho := cne co.dl.nz
    have hm := cne cmm.dl.nz
    have h1 := Rat.mul_inv_cancel _ ho
    have h2 := Rat.mul_inv_cancel _ hm
    have z2 := congrArg (fun z : Int => (z : Rat)) z
    simp only [Rat.intCast_mul] at z2
    refine cinj ?_
    rw [Rat.intCast_mul, Rat.intCast_mul]
    have e1 : ((gt m.2 0 : Int) : Rat) = ((gt o.2 0 : Int) : Rat) * ((o.1 : Int) : Rat)⁻¹ * ((m.1 : Int) : Rat) := by rw [e0]; grind
    rw [e1] at z2
    generalize ((o.1 : Int) : Rat)⁻¹ = a at h1 z2
    generalize ((m.1 : Int) : Rat)⁻¹ = b at h2
    generalize ((o.1 : Int) : Rat) = x at *
    generalize ((m.1 : Int) : Rat) = y at *
    generalize ((gt o.2 0 : Int) : Rat) = p at *
    generalize ((nn c : Int) : Rat) = n at *
    generalize (((rkF (nn c) (shRows c (D 0).2) : Nat) : Int) : Rat) = r at *
    have z3 : n * (p * a * y) * (b * x) = r * y * (b * x) := by rw [z2]
    have l3 : n * (p * a * y) * (b * x) = n * p * (x * a) * (y * b) := by grind
    have r3 : r * y * (b * x) = r * x * (y * b) := by grind
    rw [l3, r3, h1, h2] at z3
    grind
  refine dss_cons (ds_ifF (dtc (dt_ne (de_mul (dec (de_lenL B.len (DE.dr (de_v 1))) (q := iN (nn c)) (by rw [tbl_len])) (de_ixT (ds := il o.2) (de_ixw (d := o) (de_v 6) de_int) de_int (gt_at (i := 0) (by rw [co.len]; omega))) (mulS (by omega))) (de_mul (de_call (h110.cal rm) (da_1 (de_call (h111.cal rm) (da_2 (de_v 1) (de_ixw (d := D 0) (de_ixL (ds := (List.range 3).map fun k => dlD (D k)) (DE.dr (de_v 2)) (i := (0 : Nat)) de_int (at_map (n := 3) (γ := fun k => dlD (D k)) (k := 0) (by omega))) de_int)) ⟨c, true, (D 0).2, hc, c0.len, rfl, rfl⟩)) r0) (de_ixd (d := o) (de_v 6) de_int) (mulS ?_))) (q := false) ?_) dss_nil) ?_
  · have := rank_le (W := nn c) (N := (shRows c (D 0).2).length) (R := fun i => (shRows c (D 0).2).getD i []) (nn c)
    have e : rkF (nn c) (shRows c (D 0).2) ≤ nn c := this.1
    omega
  · rw [decide_eq_true en]; rfl
  have kp : ∀ k, k = 0 ∨ k = 2 → k < 5 ∧ pA k = 0 ∧ ∀ t q, MPc c (vl (D 0)) q → vl t = cvc c (vl (D (pB k))) q → isF c t o t = true ∨ ¬ Can (nn c) t := fun k hk => by
    refine ⟨by omega, by rcases hk with rfl | rfl <;> rfl, fun t q hq vt => ?_⟩
    by_cases ct : Can (nn c) t
    · refine .inl ((isF_iff hc ct.dl co.dl ct.dl).mpr ?_)
      have eq : q = vl q0 := MD.MP.uniq G hq mp0
      rw [vt, vo, eq]
      show cv _ _ _ (cv _ _ _ _ _) (cv _ _ _ _ _) = _
      rw [cv_assoc G, ← cv_assoc G (vl q0) (vl (D 0)) (vl q0)]
      exact congrArg (cv (nn c) (mN c) (ivN c) (vl (D (pB k)))) mp0.b
    · exact .inr ct
  have ef : ([0, 2] : List Nat).filter (fun _ => false) = [] := rfl
  refine dss_one (ds_ret (dec (de_eq (de_lenL B.len (DN.dr (dn_lcF (own := [("_law_k", 7)]) [0, 2] iN iN (fun _ => false) cmF sc123.nd (sml (by show 2 ≤ 1000; omega)) bk (di_tup (de_tup2 de_int de_int)) fun k hk => ⟨_, _, fun j hj => hj, fun s H C cl fp => ⟨dg_name 7 sc123.nd, dts_one (DW.dt ?_), fun z => nomatch z⟩⟩))) de_int) (q := .bool true) rfl))
  have hk' : k = 0 ∨ k = 2 := by
    rcases List.mem_cons.mp hk with h | h
    · exact .inl h
    · exact .inr (List.mem_singleton.mp h)
  obtain ⟨k5, ea, kk⟩ := kp k hk'
  have tk := hT k k5
  rw [ea] at tk
  cases hu : u k with
  | false => exact dw_andF (dtc (DE.dt (de_ixL (DE.dr (de_v 3)) (de_v 7) (d := .bool (u k)) (at_map k5))) hu)
  | true =>
    obtain ⟨t, q, et, ct, hq, vt⟩ := tk.yes hu
    have bt := told_bd hc c0 (hD (pB k) (by rcases hk' with rfl | rfl <;> decide)).1 w0 (hD (pB k) (by rcases hk' with rfl | rfl <;> decide)).2 hq vt
    have okt := isok ct bt
    have tt : isF c t o t = true := (kk t q hq vt).resolve_right fun z => z ct
    have at5 : atI ((List.range 5).map fun k => toD (T k)) (k : Int) = some (dlD t) := by rw [at_map k5, et]; rfl
    refine dw_andT (dtc (DE.dt (de_ixL (DE.dr (de_v 3)) (de_v 7) (d := .bool (u k)) (at_map k5))) hu) (dw_and1 (dtc (dt_not (DE.dt (de_call (Cal.blk (h112.cal rm) _ _ _ _ _) (da_cons (de_v 1) (da_3 (de_ixL (DE.dr (de_v 4)) (de_v 7) at5) (de_v 6) (de_ixL (DE.dr (de_v 4)) (de_v 7) at5))) ⟨c, t, o, t, hc, okt, oko, okt, rfl, rfl⟩))) (by rw [tt]; try rfl)))
end
end EL
end
section
set_option maxHeartbeats 1000000
namespace EL
open PySem PySem.Spec PyProof.Rows L2 DL MA MB MD
/-! ### an own exception, made where nothing is handled -/
section
variable {X : Cx} {e : Expr} {es : List Expr} {ta : TA} {p pos : Pos}
theorem mkN {pins : List (Addr × Obj)} {σ : L2.St} {Ha Hb : Hp} {Q : XK} {ha hb hz : Heap} {ga gb : Array GenState} {da db : Drawn} {na nb : Nat} {oa ob : OsState} {a C d : Addr} {fs : List (Str × V)} (tC : Raises X (.ref C)) (Ia : Inv X pins σ Ha ⟨ha, ga, da, na, oa⟩)
    (hle : ha.objs.size ≤ a) (kp : ∀ b o, ha.get? b = some o → hb.get? b = some o) (un : Un (frs X.stack) [] (upd Ha a (exo a C none)) Hb hb hz) (ok : HOk X.prog X.w Hb hz) (eo : ob = oa) (bare : AllBare gb)
    (e1 : Hb a = some (exo a C (some d))) (e2 : Hb d = some (exd d fs)) (e3 : Ha d = none) (q : Q (.ref C) (some d) (upd (L2.del Hb a) d (.xd fs))) : L2N.MkP X pins σ Q (.ref a) ⟨hz, gb, db, nb, ob⟩ := by
  obtain ⟨t0, G, J, kG, ge, hoe, no⟩ := mk_end0 (d2 := db) (t2 := nb) Ia hle kp un ok eo bare e1 e2 e3
  refine ⟨a, _, _, ⟨G, gb, db, nb, ob⟩, _, .ref C, some d, rfl, J, kG, ge, hoe, ⟨rfl, rfl, fun vs hv => ?_⟩, rfl, rfl, no, rfl, bare, tC, q⟩
  cases hv
  rfl
theorem pmkN {Y : CXT} {x : Str} {C fI : Addr} {k : Nat} {fd : FuncData} {ps : List Str} {sp : Sp} (T : OexC X.K C) (iC : PySem.W.findIn X.K (.ref C) "__init__" = some (some (.ref fI))) (tI : PySem.W.typeIn X.K (.ref fI) = some (.type "function"))
    (F1 : FnOk X.prog X.w X.K X.mg X.base Y k fI fd ps sp) (hr : Room (k + 1) X.A) (hb : Binds X.K fd ps []) (hx : Passes Y X (fun _ _ _ => False)) (hg : Gl X x) (hm : X.mg x = some (.ref C)) (ha : PA X (e :: es) ta)
    (hdb : (x == ("__debug__" : Str)) = false := by decide) (he : starEach (e :: es) X.env = (false, eval e X.env) :: starEach es X.env := by rfl) (hpl : (backTo pos (starEach es X.env)).any (·.1) = false := by rfl) : L2N.PMk X (.Call (.Name x p) (e :: es) [] pos) (tMkO C sp [] ta) := by
  intro pins s σ H Q I h
  obtain ⟨nm, q, N, bs, bm, sn, sub, ab, col, dd, k0, k1, k2, k3, k5, hC, hbm⟩ := T.cls
  refine wpAny_Call_Name_kw (ld_glob I hg hm ?_ hdb)
  refine PySem.W.callWith_K (h₀ := X.base) I.ok.mod.kin T.kC (thn (ha.run pos pins s σ H _ I h) fun us s1 ⟨vs, Hn, In, r1, hz, q1⟩ => ⟨In.kIn, ?_⟩) he hpl
  show wpAny _ _ (call (.ref C) us) _ _ _
  obtain ⟨hn, gn, dn, tn, on⟩ := s1
  have le1 : hn.objs.size ≤ hn.objs.size + 1 := Nat.le_succ _
  have fr : Hn (hn.objs.size + 1) = none := In.hok.fresh le1
  have hq := q1 (hn.objs.size + 1) fr
  rw [List.append_nil] at hq
  have kp : ∀ b o, hn.get? b = some o → ((hn.push (PySem.W.kdv_tup us)).push (PySem.HandSPX.excO C hn.objs.size)).get? b = some o := fun b o z => Heap.get?_push_of_some _ (Heap.get?_push_of_some _ z)
  have gt : ((hn.push (PySem.W.kdv_tup us)).push (PySem.HandSPX.excO C hn.objs.size)).get? (hn.objs.size + 1) = some (PySem.HandSPX.excO C hn.objs.size) := by heap_get
  have Im : Inv X pins σ (upd Hn (hn.objs.size + 1) (exo (hn.objs.size + 1) C none)) ⟨(hn.push (PySem.W.kdv_tup us)).push (PySem.HandSPX.excO C hn.objs.size), gn, dn, tn, on⟩ :=
    In.laid (t' := tn) (a := hn.objs.size + 1) (o := exo (hn.objs.size + 1) C none) (h' := (hn.push (PySem.W.kdv_tup us)).push (PySem.HandSPX.excO C hn.objs.size)) kp le1 (exo_ok gt)
  have r2 : Vals (V.ref (hn.objs.size + 1) :: vs) (Value.ref (hn.objs.size + 1) :: us) := .cons rfl r1
  have hl : (Value.ref (hn.objs.size + 1) :: us ++ []).length = ps.length := by
    have z := r2.length
    rw [F1.len _ _ _ _ hq] at z
    rw [List.append_nil]; exact z.symm
  have hus : us.length ≤ sizeLine := by rw [← Paired.length r1, sizeLine_eq]; omega
  have b2 := hb _ (Value.ref (hn.objs.size + 1) :: us) Im.kIn hl
  rw [List.append_nil] at b2
  refine wpAny_call (PySem.HandSPX.call_own F.excBase_ValueError (fun Z => PySem.HandSPX.refsVE_contains Z bm hbm) (In.kIn _ _ hC) (PySem.W.looks_findIn In.kIn iC) (fun self => PySem.W.bind_fn In.kIn self tI) hus
    (codeAny_mono (F1.run _ X.stack _ _ ⟨Value.ref (hn.objs.size + 1) :: us, []⟩ (Value.ref (hn.objs.size + 1) :: us) _ _ (fun _ _ _ => False) (hr.make C us []) (Im.env0.make C us []) b2 r2 hq) fun r s' hq' => ?_))
  match r, hq' with
  | .error er, hq' => exact hx pins σ _ _ er s' Im hq'
  | .ok (.ret u), hq' =>
    obtain ⟨v, Hm, os2, bare2, un2, hok2, rv, ev, d, fs, ea, ed, hd1, q2⟩ := hq'
    subst ev
    obtain ⟨hm2, gm, dm, tm, om⟩ := s'
    exact ⟨rv, mkN (raises_own T.exC T.tyC) In le1 kp un2 hok2 os2 bare2 ea ed hd1 q2⟩
  | .ok .next, hq' => exact False.elim hq'
  | .ok .brk, hq' => exact False.elim hq'
  | .ok .cont, hq' => exact False.elim hq'
end
/-! ### Unmade.__init__ -/
def clB : Stmt → List Stmt
  | .ClassDef _ _ _ b .. => b
  | _ => []
def iniS : Stmt := (clB (top 7)).getD 0 (.Pass ⟨0, 0, 0, 0⟩)
theorem scI : FnScope ["self", "witness"] ["self", "witness"] (defScope iniS) := ⟨rfl, rfl, rfl, by decide +kernel, rfl, by decide +kernel, by decide +kernel⟩
theorem bnI (kV doc pm : Value) (an : Option Addr) (cdv ct : Value) (us : List Value) (hl : us.length = (["self", "witness"] : List Str).length) : bindArgs (PySem.W.fnOf "__init__" "Unmade.__init__" (defArgs iniS) (defBody iniS) (defScope iniS) .none kV doc pm an cdv ct) ⟨us, []⟩ = pure ((["self", "witness"] : List Str).zip us) := match us, hl with | [_, _], _ => rfl
def spI (K : PySem.W.Frag) (C : Addr) : Sp := fun vs H Q _ => ∃ (a : Addr) (v : V), vs = [.ref a, v] ∧ H a = some (exo a C none) ∧ ∀ dx, H dx = none → dx ≠ a → Q .non (upd (upd H dx (exd dx [("witness", v)])) a (exo a C (some dx)))
/-- what is told of Unmade and DealError -/
structure Um (K : PySem.W.Frag) (mg : Str → Option Value) (C D fI : Addr) : Prop where
  gC : mg "Unmade" = some (.ref C)
  gD : mg "DealError" = some (.ref D)
  ox : OexC K C
  xf : XfC K C
  wit : PySem.W.findIn K (.ref C) "witness" = some none
  ini : PySem.W.findIn K (.ref C) "__init__" = some (some (.ref fI))
  tI : PySem.W.typeIn K (.ref fI) = some (.type "function")
  exm : PySem.W.exmOne K (.ref C) (.ref C) = some true
  cla : PySem.W.findIn K (.ref C) "__class__" = some (some (.builtin "object.__class__"))
  obj : PySem.W.mroIn K C (.type "object") = some true
  kit : PySem.W.kitOne K (.ref C) (.ref D) = some true
  fi : ∃ fd, Fun K "__init__" "Unmade.__init__" iniS fI fd
section
variable {P : Program} {w : World} {K : PySem.W.Frag} {mg : Str → Option Value} {base : Heap}
theorem ini_ok {C D fI : Addr} (U : Um K mg C D fI) : ∃ fd, FnOk P w K mg base CX0 1 fI fd ["self", "witness"] (spI K C) ∧ Binds K fd ["self", "witness"] [] := by
  obtain ⟨fd, F⟩ := U.fi
  refine ⟨fd, F.ok scI (fun vs H Q E ⟨a, v, e, _⟩ => by rw [e]; rfl) fun cdv A outer s H vs Q E hr ⟨a, v, ev, ea, k⟩ => ?_, F.binds bnI⟩
  subst ev
  let X := (cxOf CX0 P w K mg base ["self", "witness"] "Unmade.__init__" (defScope iniS) fI cdv A outer s H E).nox
  have p0 : ∀ {pos : Pos}, PE X (.Name "self" pos) _ := fun {pos} => pe_var (X := X) (i := 0) (x := "self") rfl (.inl rfl) (by decide) (by decide)
  have p1 : ∀ {pos : Pos}, PE X (.Name "witness" pos) _ := fun {pos} => pe_var (X := X) (i := 1) (x := "witness") rfl (.inl rfl) (by decide) (by decide)
  refine ⟨_, pss_one (ps_ost p0 p1), ⟨v, rfl, .ref a, rfl, a, C, rfl, U.ox, U.wit, .inl ⟨ea, fun dx n ne => k dx n ne⟩⟩⟩
end
end EL
end
section
set_option maxHeartbeats 1000000
namespace EL
open PySem PySem.Spec PyProof.Rows L2 DL MA MB MD
/-! ### a body that ends in an exception, H0 given -/
def DX (X : Cx) (H0 : Hp) (G : Ev) (sts : List Stmt) : Prop := ∃ t, PSs X sts t ∧ ∀ σ H D, StR X.K H0 G σ H → t D σ H
section
variable {X : Cx} {H0 : Hp} {G G1 : Ev} {st : Stmt} {sts x y : List Stmt} {c : Expr} {pos : Pos}
theorem dx_cons (h : DS X G st (.nx G1)) (h2 : DX X H0 G1 sts) : DX X H0 G (st :: sts) := by
  obtain ⟨t, p, q⟩ := h
  obtain ⟨u, p2, q2⟩ := h2
  exact ⟨_, pss_cons p p2, fun σ H D r => q H0 σ H _ r fun σ1 H1 r1 => q2 σ1 H1 D r1⟩
theorem dx_if (h : DT X G c true) (h2 : DX X H0 G x) : DX X H0 G (.If c x y pos :: sts) := by
  obtain ⟨t, p, q⟩ := h
  obtain ⟨u, p2, q2⟩ := h2
  exact ⟨_, pss_cons (ps_if p p2 pss_never) pss_never, fun σ H D r => q H0 σ H _ r fun H1 s1 => iteT (q2 σ H1 _ (r.step s1))⟩
/-- raise Unmade(e) -/
theorem dx_raise {C D fI : Addr} {fi : FuncData} {W : WX} {e : Expr} {d : PyData} {p pos' : Pos} (U : Um X.K X.mg C D fI) (FI : FnOk X.prog X.w X.K X.mg X.base CX0 1 fI fi ["self", "witness"] (spI X.K C)) (BI : L2.Binds X.K fi ["self", "witness"] []) (hc : X.calm = true) (tk : L2N.Takes X W) (hr : Room 2 X.A)
    (ar : DE X G e d) (hW : ∀ σ dd H' x, Same H0 H' → Rep X.K H' x d → H' dd = some (.xd [("witness", x)]) → W (.ref C) (some dd) σ H') (hg : Gl X "Unmade" := by rfl) (he : starEach [e] X.env = (false, eval e X.env) :: starEach [] X.env := by rfl) (hpl : (backTo pos (starEach [] X.env)).any (·.1) = false := by rfl) :
    DX X H0 G [.Raise (some (.Call (.Name "Unmade" p) [e] [] pos)) none pos'] := by
  obtain ⟨ta, pa, qa⟩ := da_1 ar he
  refine ⟨_, pss_one (L2N.ps_raise hc tk (pmkN U.ox U.ini U.tI FI hr BI pass0 hg U.gC pa (by decide) he hpl)), fun σ H1 D r => qa H0 σ H1 _ r fun vs H2 s2 r2 => ⟨by rw [r2.length]; show 1 ≤ 1000; omega, fun a na => ?_⟩⟩
  match vs, r2 with
  | [v], .cons rv2 _ =>
    refine ⟨a, v, rfl, upd_same, fun dx nd nda => ⟨rfl, dx, [("witness", v)], upd_same, ?_, ?_, ?_⟩⟩
    · rw [upd_ne nda, upd_same]
    · rw [upd_ne nda] at nd; exact nd
    · have nd2 : H2 dx = none := by rw [upd_ne nda] at nd; exact nd
      have sm : Same H2 (upd (L2.del (upd (upd (upd H2 a (exo a C none)) dx (exd dx [("witness", v)])) a (exo a C (some dx))) a) dx (.xd [("witness", v)])) := fun b u z => by
        have hba : b ≠ a := ne_of_none z na
        have hbd : b ≠ dx := ne_of_none z nd2
        rw [upd_ne hbd, L2.del_ne hba, upd_ne hba, upd_ne hbd, upd_ne hba]
        exact z
      exact hW σ dx _ v (r.same.trans (s2.trans sm)) (rv2.same sm) upd_same
end
/-! ### made_left where it cannot be made -/
def spM (K : PySem.W.Frag) (C : Addr) : Sp := fun vs H Q E => ∃ (c : Ck) (d e wt : DD) (l : Vc), CK c ∧ Can (nn c) d ∧ Can (nn c) e ∧ Wt 26 d ∧ Wt 26 e ∧ ¬ Mfc c (vl d) (vl e) ∧ LUc c (vl d) l ∧ Can (nn c) wt ∧ vl wt = sub one l ∧ Reps K H vs [ckD c, dlD d, dlD e] ∧
  ∀ (dd : Addr) (H' : Hp) (x : V), Same H H' → Rep K H' x (dlD wt) → H' dd = some (.xd [("witness", x)]) → E (.ref C) (some dd) H'
section
variable {P : Program} {w : World} {K : PySem.W.Frag} {mg : Str → Option Value} {base : Heap}
theorem passN {X : Cx} {W : WX} : Passes CX0 X (fun _ _ _ => False) := pass0
theorem m75 {C D fI : Addr} (U : Um K mg C D fI) (F : FF K mg "made_left" "made_left" 75) (h70 : Cb false P w K mg base 5 "need_deals" 3 R29) (h64 : Cb false P w K mg base 7 "recall_made" 2 R64) (h41 : Cb false P w K mg base 6 "dealt" 3 R41)
    (h43 : Cb false P w K mg base 6 "taken" 3 R43) (h38 : Cb false P w K mg base 3 "idle_deal" 1 (Rck fun c => dlD (idF (nn c)))) :
    ∃ f fd, mg "made_left" = some (.ref f) ∧ FnOk P w K mg base (L2N.CX P w) 8 f fd ["clock", "one", "other"] (spM K C) ∧ Binds K fd ["clock", "one", "other"] [] ∧ PySem.W.keepIn K (.ref f) = true := by
  obtain ⟨f, fd, hm, F⟩ := F
  obtain ⟨fi, FI, BI⟩ := ini_ok (P := P) (w := w) (base := base) U
  have bd := F.binds bn75
  obtain ⟨oc, od, kV, doc, pm, an, cdv, ct, osl, rfl, lk, hcd⟩ := F.ex
  refine ⟨f, _, hm, fn_of lk hcd sc75 (fun vs H Q E ⟨c, d, e, wt, l, _, _, _, _, _, _, _, _, _, hr, _⟩ => by rw [hr.length]; rfl) fun A outer s H vs Q E hr ⟨c, d, e, wt, l, hc, hd, he, hw, hw2, nm, lu, cw, vw, rv, hE⟩ => ?_, bd, F.kp⟩
  let X := cxOf (L2N.CX P w) P w K mg base ["clock", "one", "other", "recall", "left"] "made_left" (defScope (top 75)) f cdv A outer s H E
  have rm : RmX false 7 X := .inl hr
  have G := hc.grp
  obtain ⟨_, _, _, _, _, o, _, _, _, _, _, _, _, _, _, _, _, _, co, mo, bo⟩ := recall_ok hc hd hw
  obtain ⟨lf, cl, vlf⟩ := ex41 hc co hd
  have bl : Bd 3331 (vl lf) := by rw [vlf]; exact bo.cv (by have := hc.bd; omega) (hw.bd hd)
  have lu2 : LUc c (vl d) (vl lf) := by rw [vlf]; exact mo.lu G
  have el : l = vl lf := MD.LU.uniq G lu lu2
  obtain ⟨el2, cel, vel⟩ := ex41 hc he cl
  have ne : ¬ el2 = e := fun z => nm ((MD.LU.mof G lu2).mpr (by rw [← z]; rw [z] at vel ⊢; exact vel.symm))
  have tk : L2N.Takes X (fun cls d _ H => E cls d H) := L2N.takes_of (E₁ := fun e' s'' => L2N.CX P w outer H s E e' s'') rfl rfl rfl rfl
  have key : DX X H (startG ["clock", "one", "other", "recall", "left"] [ckD c, dlD d, dlD e]) (defBody (top 75)) := by
    refine dx_cons (ds_expr (de_call (h70.cal rm) (da_3 (de_v 0) (de_v 1) (de_v 2)) ⟨c, d, e, hc, hd, he, rfl, rfl⟩)) ?_
    refine dx_cons (ds_set 3 sc75.nd (de_call (h64.cal rm) (da_2 (de_v 0) (de_v 1)) ⟨c, d, o, hc, hd, hw, co, mo, rfl, rfl⟩)) ?_
    refine dx_cons (ds_set 4 sc75.nd (de_call (h41.cal rm) (da_3 (de_v 0) (de_v 3) (de_v 1)) (r41 hc co hd cl vlf bo (hw.bd hd)))) ?_
    refine dx_if (dtc (dt_neD rm.units (de_call (h41.cal rm) (da_3 (de_v 0) (de_v 2) (de_v 4)) (r41 hc he cl cel vel (hw2.bd he) bl)) (de_v 2) (sh_dl el2) (sh_dl e)) (by rw [eqv_dl, decide_eq_false ne]; rfl)) ?_
    exact dx_raise (X := X) U FI BI rfl tk (hr.mono (by omega)) (de_call (h43.cal rm) (da_3 (de_v 0) (de_call (h38.cal rm) (da_1 (de_v 0)) ⟨c, hc, rfl, rfl⟩) (de_v 4)) (r43 hc (id_can hc).1 cl cw (by rw [vw, (id_can hc).2, el]) (by rw [(id_can hc).2]; exact bd_one (k := 0)) bl)) fun σ dd H' x s1 r1 e1 => hE dd H' x s1 r1 e1
  obtain ⟨t, p, q⟩ := key
  exact ⟨t, p, q _ _ _ (start_str rv)⟩
end
end EL
end
section
set_option maxHeartbeats 1000000
namespace EL
open PySem PySem.Spec PyProof.Rows L2 DL MA MB MD
/-! ### isinstance of a caught own exception that has its dict -/
def rIsO (K : PySem.W.Frag) (C a dd : Addr) : List V → Hp → VK → Prop := fun xs H Q => ∃ (c : V) (cv : Value) (b : Bool) (fs : List (Str × V)), xs = [.ref a, c] ∧ (∀ u, RelV c u → u = cv) ∧ PySem.W.kitOne K (.ref C) cv = some b ∧ H dd = some (.xd fs) ∧ Q (.bl b) H
theorem isO_n (K : PySem.W.Frag) : PySem.W.specialIn K (.builtin "object.__class__") "__get__" = some (some (.builtin "getset_descriptor.__get__")) := by kernel_rfl
theorem isO_t (K : PySem.W.Frag) : PySem.W.takesIn K (.builtin "object.__class__") = some true := by kernel_rfl
theorem call_isO {X : Cx} {a C D fI dd : Addr} {oe : Obj} {pn : List (Addr × Obj)} (U : Um X.K X.mg C D fI) (hz : L2N.Zn (.ref C) (some dd) oe) (hf : ∃ vs, oe.data = .fields vs) : CallR (X.suite a ((a, oe) :: pn)) (.builtin "isinstance") (rIsO X.K C a dd) := by
  intro pins s σ H xs us Q I r h
  obtain ⟨c, cv, b, fs, rfl, hcv, e, ed, q⟩ := h
  match us, r with
  | _, .cons rx (.cons rt .nil) =>
    cases rx
    have ec := hcv _ rt
    subst ec
    obtain ⟨hget, _⟩ := I.pin (a, oe) (List.mem_append.mpr (.inl List.mem_cons_self))
    have hx : ObjOk X.prog X.w H s.heap dd (.xd fs) := I.hok dd _ ed
    obtain ⟨mA, hns, _⟩ := hx
    obtain ⟨od, ho, _⟩ := lookIn_ns hns
    obtain ⟨vs, hv⟩ := hf
    have J : PySem.W.InstAt s.heap a oe C (some od) := ⟨hget, hz.1, by unfold PySem.W.notCls; rw [hv] <;> rfl, by rw [hz.2.1]; exact ho⟩
    have hcl : (PySem.W.clsIn X.K C).isSome = true := by obtain ⟨cd, h1, _⟩ := PySem.W.any_some U.xf.hdC; rw [h1]; rfl
    exact PySem.W.kia_one (PySem.W.kitx_exc hcl U.xf.ga U.xf.gg U.xf.exC U.cla (isO_n _) (isO_t _) U.obj) I.kIn J e (fun z => nomatch z) fun tk => ⟨.bl b, H, I.kept (t' := tk) fun _ _ z => z, rfl, q⟩
theorem StR.putNo {K : PySem.W.Frag} {H0 H : Hp} {G : Ev} {σ : L2.St} {i : Nat} {v : Option V} (r : StR K H0 G σ H) (hG : G[i]? = some .no) : StR K H0 G (σ.set i v) H := by
  have ne : ∀ {j : Nat} {g : Sl}, G[j]? = some g → g ≠ .no → i ≠ j := fun {j g} h n z => by
    subst z
    rw [hG] at h
    exact n (Option.some.inj h).symm
  refine ⟨r.same, by rw [List.length_set]; exact r.len, fun j d h => ?_, fun j ds h => ?_, fun j k ds es p h1 h2 h3 h4 => ?_⟩
  · rw [List.getElem?_set_ne (ne h (fun z => nomatch z))]; exact r.slot j d h
  · rw [List.getElem?_set_ne (ne h (fun z => nomatch z))]; exact r.own j ds h
  · rw [List.getElem?_set_ne (ne h1 (fun z => nomatch z))] at h3
    rw [List.getElem?_set_ne (ne h2 (fun z => nomatch z))] at h4
    exact r.apart j k ds es p h1 h2 h3 h4
/-! ### values at states that keep Φ -/
def DV (X : Cx) (Φ : L2.St → Hp → Prop) (e : Expr) (d : PyData) : Prop := ∃ te, PE X e te ∧ ∀ σ H (Q : VK), Φ σ H → (∀ v H', Same H H' → Rep X.K H' v d → Q v H') → te σ H Q
def DVs (X : Cx) (Φ : L2.St → Hp → Prop) (es : List Expr) (ds : List PyData) : Prop := ∃ te, PA X es te ∧ ∀ σ H (Q : List V → Hp → Prop), Φ σ H → (∀ vs H', Same H H' → Reps X.K H' vs ds → Q vs H') → te σ H Q
section
variable {X : Cx} {Φ : L2.St → Hp → Prop} {e a b : Expr} {es : List Expr} {d : PyData} {ds : List PyData} {pos p : Pos} {x : Str} {n : Nat} {r : PyData} {R : List PyData → PyData → Prop}
theorem dv_one {op} (h : DV X Φ a d) : DV X Φ (.BoolOp op [a] pos) d := by
  obtain ⟨te, p, q⟩ := h
  exact ⟨_, pe_one p, q⟩
theorem dv_and (hΦ : ∀ σ H H', Φ σ H → Same H H' → Φ σ H') {rest : List Expr} (h : DV X Φ a (.bool true)) (h2 : DV X Φ (.BoolOp .And (b :: rest) pos) d) : DV X Φ (.BoolOp .And (a :: b :: rest) pos) d := by
  obtain ⟨te, p, q⟩ := h
  obtain ⟨te2, p2, q2⟩ := h2
  exact ⟨_, pe_and p p2, fun σ H Q f k => q σ H _ f fun v H1 s1 r1 => ⟨true, r1.bl_eq, iteT (q2 σ H1 Q (hΦ _ _ _ f s1) fun u H2 s2 r2 => k u H2 (s1.trans s2) r2)⟩⟩
theorem dvs_nil : DVs X Φ [] [] := ⟨_, pa_nil, fun σ H Q f k => k [] H (.refl H) .nil⟩
theorem dvs_cons (hΦ : ∀ σ H H', Φ σ H → Same H H' → Φ σ H') (h : DV X Φ e d) (h2 : DVs X Φ es ds) (hs : starEach (e :: es) X.env = (false, eval e X.env) :: starEach es X.env := by rfl) : DVs X Φ (e :: es) (d :: ds) := by
  obtain ⟨te, p, q⟩ := h
  obtain ⟨te2, p2, q2⟩ := h2
  exact ⟨_, pa_cons p p2 hs, fun σ H Q f k => q σ H _ f fun v H1 s1 r1 => q2 σ H1 _ (hΦ _ _ _ f s1) fun vs H2 s2 r2 => k _ H2 (s1.trans s2) (.cons (r1.same s2) r2)⟩
theorem dv_call (C : Cal X x n R) (ha : DVs X Φ (e :: es) ds) (hR : R ds r) (hn : ds.length = n := by rfl) (hg : Gl X x := by rfl) (hdb : (x == ("__debug__" : Str)) = false := by decide)
    (he : starEach (e :: es) X.env = (false, eval e X.env) :: starEach es X.env := by rfl) (hpl : (backTo pos (starEach es X.env)).any (·.1) = false := by rfl) : DV X Φ (.Call (.Name x p) (e :: es) [] pos) r := by
  obtain ⟨ta, pa, qa⟩ := ha
  obtain ⟨hot, k, f, fd, ps, hm, F, rm⟩ := C
  have fin : ∀ (σ : L2.St) (H : Hp) (Q : VK) (E : XK), Φ σ H → (∀ v H', Same H H' → Rep X.K H' v r → Q v H') → ta σ H fun vs H1 => spD X.K n R vs H1 Q E := fun σ H Q E f k =>
    qa σ H _ f fun vs H1 s1 r1 => ⟨ds, r, r1, hn, hR, fun v H' s2 r2 => k v H' (s1.trans s2) r2⟩
  rcases rm with hr | ⟨hh, hr, hc⟩
  · refine ⟨_, pe_call F.ok hr hg hm F.kp F.bd .nil pass0 pa hdb he hpl, fun σ H Q f k => ?_⟩
    have z := fin σ H Q E0 f k
    show ta σ H fun vs H1 => spD X.K n R (vs ++ []) H1 Q E0
    rw [show (fun vs H1 => spD X.K n R (vs ++ []) H1 Q E0) = fun vs H1 => spD X.K n R vs H1 Q E0 from funext fun vs => by rw [List.append_nil]]
    exact z
  · exact ⟨_, L2H.pe_callH (E := fun _ => E0) (F.hh hh) hr hc hg hm F.kp F.bd (fun _ _ _ _ _ _ _ h => h.elim) pa hdb he hpl, fun σ H Q f k => fin σ H Q E0 f k⟩
/-- a list of two, frozen -/
theorem dv_lst (h : DVs X Φ es ds) (hz : ds.length ≤ sizeLine) : DV X Φ (.List es pos) (.list ds) := by
  obtain ⟨te, p, q⟩ := h
  refine ⟨fun σ H Q => tLst te σ H fun v H2 => ∃ a xs, v = .ref a ∧ H2 a = some (.lst xs) ∧ ∀ o, Q v (upd H2 a (.frz o (.lst xs))), ⟨fun pins s σ H Q I h => ?_⟩, fun σ H Q f k => q σ H _ f fun vs H1 s1 r1 => ⟨by rw [r1.length]; exact hz, fun a ha => ⟨a, vs, rfl, upd_same, fun o => k _ _ (fun b u z => ?_) (.lst upd_same ((r1.same (Same.newp ha)).kp (.upd upd_same)))⟩⟩⟩
  · refine thn ((pe_lst (pos := pos) p).run pins s σ H _ I h) fun u s1 ⟨v, H1, I1, r1, a, xs, ev, e1, k1⟩ => ?_
    obtain ⟨o, I2⟩ := I1.lock e1 True.intro
    exact ⟨v, _, I2, r1, k1 o⟩
  · have z1 := s1 _ _ z
    rw [upd_ne (ne_of_none z1 ha), upd_ne (ne_of_none z1 ha)]
    exact z1
end
end EL
end
section
set_option maxHeartbeats 1000000
namespace EL
open PySem PySem.Spec PyProof.Rows L2 DL MA MB MD
def tryB : Stmt → List Stmt
  | .Try b .. => b
  | _ => []
def hdB : Stmt → List Stmt
  | .Try _ (.ExceptHandler _ _ b _ :: _) .. => b
  | _ => []
def retE : List Stmt → Expr
  | [.Return (some e) _] => e
  | _ => .Constant .none 0 ⟨0, 0, 0, 0⟩
def st119 : Stmt := (defBody (top 119)).getD 0 (.Pass ⟨0, 0, 0, 0⟩)
theorem ds_try0 {X : Cx} {G : Ev} {body : List Stmt} {h0 : ExceptHandler} {hs : List ExceptHandler} {pos : Pos} {o : Out} (h : DSs X.nox G body o) : DS X G (.Try body (h0 :: hs) [] [] pos) o := by
  obtain ⟨t, p, q⟩ := h
  exact ⟨t, ps_try_thru0 p, q⟩
theorem tk0 {X : Cx} : L2N.Takes X (fun _ _ _ _ => False) := fun _ _ x => by
  obtain ⟨_, _, _, _, _, _, _, _, _, _, _, _, _, _, _, _, z⟩ := x
  exact z.elim
def N119 : List Str := ["_law_clock_here", "_law_table_here", "_law_one", "_law_other", "_law_due", "_law_told", "e"]
section
variable {P : Program} {w : World} {K : PySem.W.Frag} {mg : Str → Option Value} {base : Heap} (B : Bi mg)
include B in
/-- the except suite -/
theorem suite_dv {C D fI a dd : Addr} {oe : Obj} {pn : List (Addr × Obj)} {f : Addr} {cd : Value} {A : Around} {outer : List Env} {s : Shared} {H : Hp} {H0 : Hp} {xw : V} {c : Ck} {d e wt : DD} {l : Vc} (U : Um K mg C D fI) (h118 : Cb true P w K mg base 3 "_law_witness" 3 R118)
    (hr : Room 8 (cxB P w K mg base N119 "_law_ask" (defScope (top 119)) f cd A outer s H true []).A) (hz : L2N.Zn (.ref C) (some dd) oe) (hf : ∃ vs, oe.data = .fields vs)
    (hc : CK c) (hd : Can (nn c) d) (hw : Wt 26 d) (cw : Can (nn c) wt) (lu : LUc c (vl d) l) (vw : vl wt = sub one l) :
    DV ((cxB P w K mg base N119 "_law_ask" (defScope (top 119)) f cd A outer s H true []).suite a ((a, oe) :: pn)) (fun σ H => StR K H0 [.dat (ckD c), .dat (tblD c), .dat (dlD d), .dat (dlD e), .dat (.bool false), .no, .no] σ H ∧ σ[6]? = some (some (.ref a)) ∧ H dd = some (.xd [("witness", xw)]) ∧ Rep K H xw (dlD wt))
      (retE (hdB st119)) (.list [.bool true, .none]) := by
  let Y := (cxB P w K mg base N119 "_law_ask" (defScope (top 119)) f cd A outer s H true []).suite a ((a, oe) :: pn)
  let Φ : L2.St → Hp → Prop := fun σ H => StR K H0 [.dat (ckD c), .dat (tblD c), .dat (dlD d), .dat (dlD e), .dat (.bool false), .no, .no] σ H ∧ σ[6]? = some (some (.ref a)) ∧ H dd = some (.xd [("witness", xw)]) ∧ Rep K H xw (dlD wt)
  have hΦ : ∀ σ H H', Φ σ H → Same H H' → Φ σ H' := fun σ H H' ⟨h1, h2, h3, h4⟩ sm => ⟨h1.step sm, h2, sm _ _ h3, h4.same sm⟩
  have lift : ∀ {x : Expr} {v : PyData}, DE Y [.dat (ckD c), .dat (tblD c), .dat (dlD d), .dat (dlD e), .dat (.bool false), .no, .no] x v → DV Y Φ x v := fun {x v} ⟨te, p, q⟩ => ⟨te, p, fun σ H Q h k => q H0 σ H Q h.1 k⟩
  have hot : L2H.HotC Y := by
    obtain ⟨vs, hv⟩ := hf
    exact ⟨(a, oe), ⟨rfl, vs, hv, hz.2.2 vs hv⟩, List.mem_cons_self⟩
  have rm : RmX true 8 Y := .inr ⟨rfl, ⟨hr.dp, hr.un⟩, hot⟩
  have pv : ∀ {pos : Pos}, PE Y (.Name "e" pos) (tVar 6) := fun {pos} => pe_var (X := Y) (i := 6) (x := "e") rfl (.inl rfl) (by decide) (by decide)
  refine dv_lst (dvs_cons hΦ (dv_and hΦ (lift (dec (de_not (de_v (X := Y) (d := .bool false) 4)) (q := .bool true))) (dv_and hΦ ?_ (dv_one (dv_call (h118.cal (X := Y) rm) (dvs_cons hΦ (lift (de_v (X := Y) 1)) (dvs_cons hΦ (lift (de_v (X := Y) 2)) (dvs_cons hΦ (d := dlD wt) ?_ dvs_nil))) ⟨c, d, wt, l, hc, hd, hw, cw, lu, vw, rfl, rfl⟩)))) (dvs_cons hΦ (lift de_non) dvs_nil)) sz2
  · refine ⟨_, pe_callB (call_isO U hz hf) rfl B.isi (by decide +kernel) (pa_cons pv (pa_cons (pe_glob (v := .ref D) (X := Y) rfl U.gD rfl) pa_nil)) (by decide) (by decide), fun σ H Q h k => ⟨.ref a, h.2.1, ?_⟩⟩
    exact ⟨.ref D, .ref D, true, [("witness", xw)], rfl, fun u hu => hu, U.kit, h.2.2.1, k _ H (.refl H) (.bl true)⟩
  · refine ⟨_, pe_xf U.xf U.wit hz.zc hf pv, fun σ H Q h k => ⟨.ref a, h.2.1, rfl, rfl, dd, _, xw, rfl, h.2.2.1, rfl, k xw H (.refl H) h.2.2.2⟩⟩
end
end EL
end
section
set_option maxHeartbeats 1000000
namespace EL
open PySem PySem.Spec PyProof.Rows L2 DL MA MB MD
section
variable {P : Program} {w : World} {K : PySem.W.Frag} {mg : Str → Option Value} {base : Heap} (B : Bi mg)
def R119 : List PyData → PyData → Prop := fun ds r => ∃ (c : Ck) (d e : DD) (u : Bool) (T : Option DD), CK c ∧ Can (nn c) d ∧ Can (nn c) e ∧ Wt 26 d ∧ Wt 26 e ∧ Told c d e u T ∧ ds = [ckD c, tblD c, dlD d, dlD e, .bool u] ∧ r = .list [.bool true, toD T]
include B in
theorem w119 {C D fI : Addr} (U : Um K mg C D fI) (F : FF K mg "_law_ask" "_law_ask" 119) (h75 : Cb false P w K mg base 8 "made_left" 3 R75)
    (n75 : ∃ f fd, mg "made_left" = some (.ref f) ∧ FnOk P w K mg base (L2N.CX P w) 8 f fd ["clock", "one", "other"] (spM K C) ∧ Binds K fd ["clock", "one", "other"] [] ∧ PySem.W.keepIn K (.ref f) = true)
    (h102 : Cb true P w K mg base 2 "_law_is_deal" 2 R102) (h112 : Cb true P w K mg base 2 "_law_is" 4 R112) (h118 : Cb true P w K mg base 3 "_law_witness" 3 R118) : Cb false P w K mg base 9 "_law_ask" 5 R119 := by
  refine cb_calm F sc119 rfl bn119 fun f cd A outer s H ds r rm hR hn => ?_
  obtain ⟨c, d, e, u, T, hc, hd, he, wd, we, ht, rfl, rfl⟩ := hR
  have cb := hc.bd
  have G := hc.grp
  cases hu : u with
  | true =>
    subst hu
    obtain ⟨t, q, rfl, ct, hq, vt⟩ := ht.yes rfl
    have m := ht.iff.mp rfl
    have okt := isok ct (told_bd hc hd he wd we hq vt)
    have mk := told_makes hc hd hq vt m
    have t1 : isF c t d e = true := (isF_iff hc ct.dl hd.dl he.dl).mpr mk
    refine .inl (dss_cons (ds_try0 (dss_one (ds_set 5 sc119.nd (de_call (h75.cal (X := (cxB P w K mg base N119 "_law_ask" (defScope (top 119)) f cd A outer s H true []).nox) rm) (da_3 (de_v 0) (de_v 2) (de_v 3)) ⟨c, d, e, t, q, hc, hd, he, ct, wd, we, m, hq, vt, rfl, rfl⟩)))) ?_)
    refine dss_one (ds_ret (DN.de (dn_lst (da_2 (dec (de_andT (de_v (d := .bool true) 4) (de_andT (de_call (h102.cal rm) (da_2 (dec (de_lenL B.len (DE.dr (de_v 1))) (q := iN (nn c)) (by rw [tbl_len])) (de_v 5)) ⟨nn c, t, ct, rfl, rfl⟩) (de_one (de_call (h112.cal rm) (da_cons (de_v 1) (da_3 (de_v 5) (de_v 2) (de_v 3))) ⟨c, t, d, e, hc, okt, wd.isok hd, we.isok he, rfl, rfl⟩)))) (q := .bool true) (by rw [t1])) (de_v 5)) sz2)))
  | false =>
    subst hu
    have eT := ht.no rfl
    subst eT
    have nm : ¬ Mfc c (vl d) (vl e) := fun z => Bool.false_ne_true (ht.iff.mpr z)
    obtain ⟨_, _, _, lu0, _, _, _, _, _, _, _, _, cl, lu, bl⟩ := lu_ok hc hd wd.w50
    obtain ⟨x, cx, vx⟩ := ex43 hc (id_can hc).1 cl
    rw [(id_can hc).2] at vx
    have hr : Room 8 (cxB P w K mg base N119 "_law_ask" (defScope (top 119)) f cd A outer s H true []).A := rm.elim id fun z => Bool.noConfusion z.1
    obtain ⟨fm, fdm, gm, FM, BM, km⟩ := n75
    refine .inl (dss_ret ?_)
    let X := cxB P w K mg base N119 "_law_ask" (defScope (top 119)) f cd A outer s H true []
    refine ⟨_, L2N.ps_try_as (X := X) (i := 6) (c := .ref C) (Wout := fun _ _ _ _ => False) (tb := fun W D σ H => ∀ pn xe, L2N.Takes (X.tr pn xe) W → uSs (X.tr pn xe) (tryB st119) D σ H)
      (ts := fun a cls d D σ H => ∀ oe pn, L2N.Zn cls d oe → (∃ vs, oe.data = .fields vs) → uSs (X.suite a ((a, oe) :: pn)) (hdB st119) D σ H) rfl rfl sc119.nd rfl rfl ⟨rfl, by decide, .inl U.gC⟩ tk0
      (fun W pn xe tk po => ⟨fun pins s σ H D I h => pss_u.run pins s σ H D I (h pn xe tk)⟩) (fun a oe cls d pn hz hf => ⟨fun pins s σ H D I h => pss_u.run pins s σ H D I (h oe pn hz hf)⟩), fun H0 σ Hs D st wn pn xe tk => ?_⟩
    have ar : DA (X.tr pn xe) [.dat (ckD c), .dat (tblD c), .dat (dlD d), .dat (dlD e), .dat (.bool false), .no, .no] [.Name "_law_clock_here" ⟨0, 0, 0, 0⟩, .Name "_law_one" ⟨0, 0, 0, 0⟩, .Name "_law_other" ⟨0, 0, 0, 0⟩] [ckD c, dlD d, dlD e] := da_3 (de_v 0) (de_v 2) (de_v 3)
    have pv : ∀ {i : Nat} {y : Str} {pos : Pos}, X.N[i]? = some y → Vis X.env.scope y → (y == ("__debug__" : Str)) = false → (y == ("__classdict__" : Str)) = false → PE (X.tr pn xe) (.Name y pos) (tVar i) := fun {i y pos} h1 h2 h3 h4 => pe_var (X := X.tr pn xe) h1 h2 h3 h4
    refine ⟨_, pss_one (ps_set (X := X.tr pn xe) (i := 5) sc119.nd rfl (.inl rfl) (pe_callS (CX := L2N.CX P w) FM hr rfl gm km BM (L2N.passAt tk) (pa_cons (pv (i := 0) rfl (.inl rfl) (by decide) (by decide)) (pa_cons (pv (i := 2) rfl (.inl rfl) (by decide) (by decide)) (pa_cons (pv (i := 3) rfl (.inl rfl) (by decide) (by decide)) pa_nil))))), ?_⟩
    obtain ⟨v0, e0, r0⟩ := st.slot 0 (ckD c) rfl
    obtain ⟨v2, e2, r2⟩ := st.slot 2 (dlD d) rfl
    obtain ⟨v3, e3, r3⟩ := st.slot 3 (dlD e) rfl
    refine ⟨v0, e0, v2, e2, v3, e3, c, d, e, x, _, hc, hd, he, wd, we, nm, lu, cx, vx, .cons r0 (.cons r2 (.cons r3 .nil)), fun dd H' xw sm rx ed => ⟨true, U.exm, fun _ a na oe pn2 hz hf => ?_, fun z => nomatch z⟩⟩
    obtain ⟨te, pe, qe⟩ := suite_dv B (H0 := H0) (xw := xw) (e := e) (pn := pn2) U h118 hr hz hf hc hd wd cx lu vx
    refine ⟨_, pss_one (ps_ret pe), qe _ H' _ ⟨StR.putNo (st.step sm) rfl, ?_, ed, rx⟩ fun v H2 s2 rv => wn v H2 (st.same.trans (sm.trans s2)) rv⟩
    exact List.getElem?_set_self (by rw [← st.len]; exact (show 6 < 7 by decide))
end
end EL
end
section
set_option maxHeartbeats 1000000
namespace EL
open PySem PySem.Spec PyProof.Rows L2 DL MA MB MD
theorem told_ex {c : Ck} {d e : DD} (hc : CK c) (hd : Can (nn c) d) (he : Can (nn c) e) (wd : Wt 26 d) : ∃ (z : Bool × Option DD), Told c d e z.1 z.2 := by
  by_cases m : Mfc c (vl d) (vl e)
  · obtain ⟨_, _, _, _, _, o, _, _, _, _, _, _, _, _, _, _, _, _, co, mo, _⟩ := recall_ok hc hd wd
    obtain ⟨t, ct, vt⟩ := ex41 hc he co
    exact ⟨(true, some t), ⟨⟨fun _ => m, fun _ => rfl⟩, fun _ => ⟨t, vl o, rfl, ct, mo, vt⟩, fun z => nomatch z⟩⟩
  · exact ⟨(false, none), ⟨⟨fun z => Bool.noConfusion z, fun z => absurd z m⟩, fun z => Bool.noConfusion z, fun _ => rfl⟩⟩
theorem pA_lt (k : Nat) : pA k < 3 := by
  unfold pA
  match k with
  | 0 | 1 | 2 | 3 | 4 => decide
  | k + 5 => exact (by decide : 0 < 3)
theorem pB_lt (k : Nat) : pB k < 3 := by
  unfold pB
  match k with
  | 0 | 1 | 2 | 3 | 4 => decide
  | k + 5 => exact (by decide : 0 < 3)
theorem three_told {c : Ck} {a b e t0 t1 t2 : DD} {q0 q1 q2 : Vc} (hc : CK c) (m : Mfc c (vl b) (vl e)) (h0 : MPc c (vl a) q0) (h1 : MPc c (vl b) q1) (h2 : MPc c (vl a) q2) (e0 : vl t0 = cvc c (vl b) q0) (e1 : vl t1 = cvc c (vl e) q1) (e2 : vl t2 = cvc c (vl e) q2) : cvc c (vl t1) (vl t0) = vl t2 := by
  have G := hc.grp
  have eq : q2 = q0 := MD.MP.uniq G h2 h0
  obtain ⟨y, hy, ey⟩ := m
  rw [e0, e1, e2, eq]
  show cv _ _ _ (cv _ _ _ _ _) (cv _ _ _ _ _) = cv _ _ _ _ _
  rw [← cv_assoc G (cv (nn c) (mN c) (ivN c) (vl e) q1) (vl b) q0, ey, cv_assoc G y (vl b) q1, cv_assoc G y _ (vl b)]
  exact congrArg (fun z => cv (nn c) (mN c) (ivN c) (cv (nn c) (mN c) (ivN c) y z) q0) h1.a
section
variable {P : Program} {w : World} {K : PySem.W.Frag} {mg : Str → Option Value} {base : Heap} (B : Bi mg)
def R124 : List PyData → PyData → Prop := fun ds r => ∃ ns : List Int, ns.length ≤ 1000 ∧ ds = [scrD ns] ∧ r = .bool true
def prD : PyData := .list ((List.range 5).map fun k => .tuple [iN (pA k), iN (pB k)])
include B in
theorem b124 {f : Addr} {fd : FuncData} (F : Fun K "law" "law" (top 124) f fd) (h97 : Cb false P w K mg base 1 "_law_cell" 2 R97) (h98 : Cb false P w K mg base 1 "_law_row" 3 R98) (h99 : Cb false P w K mg base 1 "_law_clock" 1 R99) (h104 : Cb false P w K mg base 1 "_law_factors" 1 (Rck facD)) (h105 : Cb false P w K mg base 1 "_law_table" 2 R105)
    (h116 : Cb false P w K mg base 3 "_law_world" 5 R116) (h117 : Cb false P w K mg base 2 "_law_made" 3 R117) (h119 : Cb false P w K mg base 9 "_law_ask" 5 R119) (h112 : Cb true P w K mg base 2 "_law_is" 4 R112) (h73 : Cb false P w K mg base 8 "is_made_left" 3 R73)
    (h122 : Cb false P w K mg base 10 "_law_turned" 5 R122) (h123 : Cb false P w K mg base 10 "_law_sides" 5 R123) (h121 : Cb false P w K mg base 10 "_law_eveners" 4 R121) : FnB false P w K mg base 11 f fd ["_law_script"] (spD K 1 R124) := by
  refine def_calm F sc124 (F.binds bn124) rfl fun cd A outer s H ds r rm hR hn => ?_
  obtain ⟨ns, hns, rfl, rfl⟩ := hR
  refine .inl ?_
  refine dss_cons (ds_set 1 sc124.nd (de_call (h98.cal rm) (da_3 (de_call (h97.cal rm) (da_2 (de_v 0) de_int) ⟨ns, 0, hns, rfl, rfl⟩) de_int de_int) ⟨cellF ns 0, 14, by omega, rfl, rfl⟩)) ?_
  have rok : R64w (rwF (cellF ns 0) 14) 14 := rwF_ok _ _
  generalize rwF (cellF ns 0) 14 = row at rok
  have rl := rok.1
  have g0 := rok.at (i := 0) (by omega)
  have hi : (gt row 0).toNat / 2 < 32 := by omega
  refine dss_cons (ds_set 2 sc124.nd (de_call (h99.cal rm) (da_1 (dec (de_div (de_ixL (DE.dr (de_v 1)) de_int (gt_at (i := 0) (by omega))) de_int (cdvS (by decide) (by decide))) (q := iN ((gt row 0).toNat / 2)) ?_)) ⟨_, hi, rfl, rfl⟩)) ?_
  · have e1 : gt row 0 = ((gt row 0).toNat : Int) := (Int.toNat_of_nonneg g0.1).symm
    rw [e1]
    exact congrArg PyData.int (Int.ofNat_fdiv _ 2).symm
  have hc := clk_ok hi
  generalize clkL.getD ((gt row 0).toNat / 2) ⟨1, []⟩ = c at hc
  have cb := hc.bd
  have G := hc.grp
  refine dss_cons (ds_set 3 sc124.nd (d := facD c) (de_call (h104.cal rm) (da_1 (de_v 2)) ⟨c, hc, rfl, rfl⟩)) ?_
  refine dss_cons (ds_set 4 sc124.nd (de_call (h105.cal rm) (da_2 (de_ixT (d := iN c.b) (de_v 2) de_int rfl) (de_v 3)) ⟨c, hc, rfl, rfl⟩)) ?_
  refine dss_cons (ds_set 5 sc124.nd (d := dlsD (woD c ns row)) (de_call (h116.cal rm) (da_cons (de_v 0) (w60.da_4 (de_v 2) (de_v 3) (de_v 4) (de_v 1))) ⟨c, ns, row, hc, hns, rok, rfl, rfl⟩)) ?_
  have hD : ∀ k, Can (nn c) (woD c ns row k) ∧ Wt 26 (woD c ns row k) := fun k => woD_ok hc ns row k
  generalize woD c ns row = D at hD
  have tex : ∀ k, ∃ z : Bool × Option DD, Told c (D (pA k)) (D (pB k)) z.1 z.2 := fun k => told_ex hc (hD _).1 (hD _).1 (hD _).2
  obtain ⟨z, hz⟩ := Classical.axiomOfChoice tex
  have hT : ∀ k, Told c (D (pA k)) (D (pB k)) ((fun k => (z k).1) k) ((fun k => (z k).2) k) := hz
  generalize (fun k => (z k).1) = u at hT
  generalize (fun k => (z k).2) = T at hT
  refine dss_cons (ds_setN 6 sc124.nd (dn_lst (ds := (List.range 5).map fun k => .tuple [iN (pA k), iN (pB k)]) (da_cons (de_tup2 de_int de_int) (da_cons (de_tup2 de_int de_int) (da_cons (de_tup2 de_int de_int) (da_cons (de_tup2 de_int de_int) (da_cons (de_tup2 de_int de_int) da_nil))))) (szk (by show 5 ≤ 1000; omega)))) ?_
  refine dss_frz 6 rfl ?_
  have hw120 : ∀ k, ∀ x, x ∈ (D k).2 → x.natAbs ≤ 2 ^ 120 := fun k x hx => Nat.le_trans ((hD k).2.2 x hx) (by decide)
  refine dss_cons (ds_lc (own := [("_law_pair", 8)]) 7 (List.range 5) (fun k => .tuple [iN (pA k), iN (pB k)]) (fun k => .bool (u k)) cmF sc124.nd (sml (by decide)) bk (di_list (de_v 6)) fun k hk => ⟨_, _, fun j hj => hj, fun s H C cl fp => ⟨dg_name 8 sc124.nd, ?_⟩⟩) ?_
  · refine de_call (Cal.blk (h117.cal rm) _ _ _ _ _) (da_3 (de_v 4) (d2 := SQ true (D (pA k)).2) (d3 := SQ true (D (pB k)).2) (de_ixw (d := D (pA k)) (de_ixL (ds := (List.range 3).map fun k => dlD (D k)) (DE.dr (de_v 5)) (de_ixT (ds := [iN (pA k), iN (pB k)]) (d := iN (pA k)) (de_v 8) de_int rfl) (at_map (pA_lt k))) de_int) (de_ixw (d := D (pB k)) (de_ixL (ds := (List.range 3).map fun k => dlD (D k)) (DE.dr (de_v 5)) (de_ixT (ds := [iN (pA k), iN (pB k)]) (d := iN (pB k)) (de_v 8) de_int rfl) (at_map (pB_lt k))) de_int)) ⟨c, true, true, (D (pA k)).2, (D (pB k)).2, u k, hc, (hD _).1.len, (hD _).1.len, hw120 _, hw120 _, ?_, rfl, rfl⟩
    rw [mof_rv (hD _).1.dl.nz (hD _).1.dl.nz]
    exact (hT k).iff
  refine dss_frz 7 rfl ?_
  refine dss_cons (ds_setN 9 sc124.nd dn_nil) ?_
  have key := dfor_inv (X := cxB P w K mg base ["_law_script", "_law_row_here", "_law_clock_here", "_law_factors_here", "_law_table_here", "_law_deals", "_law_pairs", "_law_dues", "_law_pair", "_law_told", "_law_k", "_law_heard", "_law_at", "_law_one", "_law_other"] "law" (defScope (top 124)) f cd A outer s H true []) (tg := fT 124 8) (body := fB 124 8) (List.range 5) iN (fun m => [.dat (scrD ns), .dat (rwD row), .dat (ckD c), .dat (facD c), .dat (tblD c), .dat (dlsD D), .dat prD, .dat (duD u), .no, .own ((List.range m).map fun k => toD (T k)), .no, .no, .no, .no, .no]) fun k k' hk => ?_
  · rw [List.length_range] at key
    refine dss_cons (ds_for cmF PassesOwn.never (di_range B.range 5 de_int (by decide)) key) ?_
    refine dss_frz 9 rfl ?_
    have atu : ∀ {k : Nat}, k < 5 → atI ((List.range 5).map fun k => PyData.bool (u k)) (k : Int) = some (.bool (u k)) := fun h => at_map h
    have att : ∀ {k : Nat} {t : DD}, k < 5 → T k = some t → atI ((List.range 5).map fun k => toD (T k)) (k : Int) = some (dlD t) := fun h e => by rw [at_map h, e]; rfl
    refine dss_cons (G1 := [.dat (scrD ns), .dat (rwD row), .dat (ckD c), .dat (facD c), .dat (tblD c), .dat (dlsD D), .dat prD, .dat (duD u), .no, .dat (tosD T), .no, .no, .no, .no, .no]) (ds_if (DW.dt (dw_and (x := u 0) (y := u 1) (DE.dt (de_ixL (ds := (List.range 5).map fun k => .bool (u k)) (i := (0 : Nat)) (DE.dr (de_v 7)) de_int (atu (by omega)))) fun _ => dw_and1 (DE.dt (de_ixL (ds := (List.range 5).map fun k => .bool (u k)) (i := (1 : Nat)) (DE.dr (de_v 7)) de_int (atu (by omega)))))) (fun h => ?_) fun _ => dss_nil) ?_
    · obtain ⟨u0, u1⟩ := Bool.and_eq_true_iff.mp h
      have T0 : Told c (D 0) (D 1) (u 0) (T 0) := hT 0
      have T1 : Told c (D 1) (D 2) (u 1) (T 1) := hT 1
      have T2 : Told c (D 0) (D 2) (u 2) (T 2) := hT 2
      have m0 := T0.iff.mp u0
      have m1 := T1.iff.mp u1
      have u2 : u 2 = true := T2.iff.mpr (MD.Mof.trans G m0 m1)
      obtain ⟨t0, q0, e0, c0, p0, v0⟩ := T0.yes u0
      obtain ⟨t1, q1, e1, c1, p1, v1⟩ := T1.yes u1
      obtain ⟨t2, q2, e2, c2, p2, v2⟩ := T2.yes u2
      have o0 := isok c0 (told_bd hc (hD 0).1 (hD 1).1 (hD 0).2 (hD 1).2 p0 v0)
      have o1 := isok c1 (told_bd hc (hD 1).1 (hD 2).1 (hD 1).2 (hD 2).2 p1 v1)
      have o2 := isok c2 (told_bd hc (hD 0).1 (hD 2).1 (hD 0).2 (hD 2).2 p2 v2)
      have t3 : isF c t1 t0 t2 = true := (isF_iff hc c1.dl c0.dl c2.dl).mpr (three_told hc m1 p0 p1 p2 v0 v1 v2)
      exact dss_one (ds_ifF (dtc (DW.dt (dw_orF (dtc (dt_not (DE.dt (de_ixL (ds := (List.range 5).map fun k => .bool (u k)) (d := .bool (u 2)) (i := (2 : Nat)) (DE.dr (de_v 7)) de_int (atu (by omega))))) (by rw [u2]; rfl)) (dw_or1 (dtc (dt_not (DE.dt (de_call (h112.cal rm) (da_cons (de_v 4) (da_3 (de_ixL (ds := (List.range 5).map fun k => toD (T k)) (i := (1 : Nat)) (DE.dr (de_v 9)) de_int (att (by omega) e1)) (de_ixL (ds := (List.range 5).map fun k => toD (T k)) (i := (0 : Nat)) (DE.dr (de_v 9)) de_int (att (by omega) e0)) (de_ixL (ds := (List.range 5).map fun k => toD (T k)) (i := (2 : Nat)) (DE.dr (de_v 9)) de_int (att (by omega) e2)))) ⟨c, t1, t0, t2, hc, o1, o0, o2, rfl, rfl⟩))) (q := false) (by rw [t3]; rfl)))))) dss_nil)
    · have g12 := rok.at (i := 12) (by omega)
      refine dss_cons (ds_set 12 sc124.nd (d := iN (gt row 12 % 5).toNat) (dec (de_modP (de_intI B.int (de_ixL (DE.dr (de_v 1)) de_int (gt_at (i := 12) (by omega)))) de_int (by decide)) (congrArg PyData.int (by omega)))) ?_
      have a5 : (gt row 12 % 5).toNat < 5 := by omega
      generalize (gt row 12 % 5).toNat = a at a5
      refine dss_cons (ds_par 13 14 (.inl rfl) sc124.nd (d1 := dlD (D (pA a))) (d2 := dlD (D (pB a))) (de_ixL (ds := (List.range 3).map fun k => dlD (D k)) (i := pA a) (DE.dr (de_v 5)) (de_ixT (ds := [iN (pA a), iN (pB a)]) (d := iN (pA a)) (de_ixL (ds := (List.range 5).map fun k => .tuple [iN (pA k), iN (pB k)]) (i := a) (DE.dr (de_v 6)) (de_v 12) (at_map a5)) de_int rfl) (at_map (pA_lt a))) (de_ixL (ds := (List.range 3).map fun k => dlD (D k)) (i := pB a) (DE.dr (de_v 5)) (de_ixT (ds := [iN (pA a), iN (pB a)]) (d := iN (pB a)) (de_ixL (ds := (List.range 5).map fun k => .tuple [iN (pA k), iN (pB k)]) (i := a) (DE.dr (de_v 6)) (de_v 12) (at_map a5)) de_int rfl) (at_map (pB_lt a)))) ?_
      refine dss_cons (ds_set 11 sc124.nd (d := .bool (u a)) (de_call (h73.cal rm) (da_3 (de_v 2) (de_v 13) (de_v 14)) ⟨c, D (pA a), D (pB a), u a, hc, (hD _).1, (hD _).1, (hD _).2.w50, (hD _).2.w50, (hT a).iff, rfl, rfl⟩)) ?_
      refine dss_cons (ds_ifF (dtc (DW.dt (dw_orF (dtc (dt_not (DE.dt (de_isBB B (de_v (d := .bool (u a)) 11))))) (dw_orF (dtc (dt_neS (d1 := .bool (u a)) (d2 := .bool (u a)) (de_v 11) (de_ixL (ds := (List.range 5).map fun k => .bool (u k)) (i := a) (DE.dr (de_v 7)) (de_v 12) (atu a5))) (by rw [decide_eq_true rfl]; rfl)) (dw_or1 (dtc (dt_not (DE.dt (de_call (h122.cal rm) (da_cons (de_v 2) (w60.da_4 (de_v 4) (de_v 13) (de_v 14) (de_ixL (ds := (List.range 5).map fun k => toD (T k)) (i := a) (DE.dr (de_v 9)) (de_v 12) (at_map a5)))) ⟨c, D (pA a), D (pB a), u a, T a, hc, (hD _).1, (hD _).1, (hD _).2, (hD _).2, hT a, rfl, rfl⟩))) (q := false))))))) dss_nil) ?_
      refine dss_cons (ds_ifF (dtc (dt_not (DE.dt (de_call (h123.cal rm) (da_cons (de_v 2) (w60.da_4 (de_v 4) (de_v 5) (de_v 7) (de_v 9))) ⟨c, D, u, T, hc, fun k _ => hD k, fun k _ => hT k, rfl, rfl⟩)))) dss_nil) ?_
      exact dss_one (ds_ret (de_call (h121.cal rm) (w60.da_4 (de_v 2) (de_v 4) (de_ixL (ds := (List.range 3).map fun k => dlD (D k)) (i := (0 : Nat)) (DE.dr (de_v 5)) de_int (at_map (n := 3) (γ := fun k => dlD (D k)) (k := 0) (by omega))) (de_ixL (ds := (List.range 3).map fun k => dlD (D k)) (i := (1 : Nat)) (DE.dr (de_v 5)) de_int (at_map (n := 3) (γ := fun k => dlD (D k)) (k := 1) (by omega)))) ⟨c, D 0, D 1, hc, (hD 0).1, (hD 1).1, (hD 0).2, (hD 1).2, rfl, rfl⟩))
  · obtain ⟨rfl, hlt⟩ := range_get hk
    refine ⟨_, _, dg_name 10 sc124.nd, ?_⟩
    refine dss_cons (ds_set 11 sc124.nd (d := .list [.bool true, toD (T k')]) (de_call (h119.cal rm) (da_cons (de_v 2) (w60.da_4 (de_v 4) (de_ixL (ds := (List.range 3).map fun k => dlD (D k)) (i := pA k') (DE.dr (de_v 5)) (de_ixT (ds := [iN (pA k'), iN (pB k')]) (d := iN (pA k')) (de_ixL (ds := (List.range 5).map fun k => .tuple [iN (pA k), iN (pB k)]) (i := k') (DE.dr (de_v 6)) (de_v 10) (at_map hlt)) de_int rfl) (at_map (pA_lt k'))) (de_ixL (ds := (List.range 3).map fun k => dlD (D k)) (i := pB k') (DE.dr (de_v 5)) (de_ixT (ds := [iN (pA k'), iN (pB k')]) (d := iN (pB k')) (de_ixL (ds := (List.range 5).map fun k => .tuple [iN (pA k), iN (pB k)]) (i := k') (DE.dr (de_v 6)) (de_v 10) (at_map hlt)) de_int rfl) (at_map (pB_lt k'))) (de_ixL (ds := (List.range 5).map fun k => .bool (u k)) (i := k') (DE.dr (de_v 7)) (de_v 10) (at_map hlt)))) ⟨c, D (pA k'), D (pB k'), u k', T k', hc, (hD _).1, (hD _).1, (hD _).2, (hD _).2, hT k', rfl, rfl⟩)) ?_
    refine dss_cons (ds_ifF (dtc (dt_not (DE.dt (de_ixL (ds := [.bool true, toD (T k')]) (d := .bool true) (DE.dr (de_v 11)) de_int rfl)))) dss_nil) ?_
    refine DSs.less (dss_one (ds_app 9 rfl (de_ixL (ds := [.bool true, toD (T k')]) (d := toD (T k')) (DE.dr (de_v 11)) de_int rfl) (by rw [List.length_map, List.length_range]; exact sml (by omega)))) ?_
    have e5 : (List.range k').map (fun k => toD (T k)) ++ [toD (T k')] = (List.range (k' + 1)).map fun k => toD (T k) := by rw [List.range_succ, List.map_append]; rfl
    show Less [_, _, _, _, _, _, _, _, _, .own _, _, _, _, _, _] _
    rw [e5]
    exact .keep (.keep (.keep (.keep (.keep (.keep (.keep (.keep (.keep (.keep (.drop (.drop (.keep (.keep (.keep .nil))))))))))))))
end
end EL
end
section
set_option maxHeartbeats 1000000
namespace EL
open PySem PySem.Spec PyProof.Rows L2 DL EH
/-! ### what the head tells -/
section
variable {K : PySem.W.Frag} {h : Heap} {mg : Str → Option Value}
theorem fun_ofD {x qual : Str} {st : Stmt} {f : Addr} {fd : FuncData} (F : FunD K x qual (defArgs st) (defBody st) (defScope st) [] [] f fd) : Fun K x qual st f fd := by
  obtain ⟨⟨oc, od, dV, kV, doc, pm, an, cdv, ct, osl, e, lk, cd, dv, _⟩, kp⟩ := F
  have e0 : dV = .none := dv.elim (fun z => z.2) fun z => absurd rfl z.1
  subst e0
  exact ⟨⟨oc, od, kV, doc, pm, an, cdv, ct, osl, e, lk, cd⟩, kp⟩
theorem ff_of (X : K.In h) (G : h.Ns mainGlobals mg) (c : He.SaysD fa fn K) {g x : Str} {i : Nat} (j : Nat) (h1 : fa[j]? = some (.glo g) := by rfl) (h2 : fn[j]? = some (mkD g x i) := by rfl) : FF K mg g x i := by
  obtain ⟨fd, F⟩ := c.def_ j h2
  exact ⟨_, fd, He.glo_ok X G (c.fact j h1), fun_ofD F⟩
theorem ob_says (e : obK K = He.valD fn) : He.SaysD fa fn K ∧ (moreB K (cU K) (cE K) (He.ma K (cU K) "__init__")).all id = true := by
  have e1 : ((He.obsD fa fn K).1 && (moreB K (cU K) (cE K) (He.ma K (cU K) "__init__")).all id) = true := congrArg (fun z : He.AlD => z.1) e
  have e2 : (He.obsD fa fn K).2 = fn.map He.DefD.val := congrArg (fun z : He.AlD => z.2) e
  obtain ⟨a, b⟩ := Bool.and_eq_true_iff.mp e1
  exact ⟨Prod.ext a e2, b⟩
theorem bi_of (X : K.In h) (G : h.Ns mainGlobals mg) (c : He.SaysD fa fn K) (hg : PySem.W.nsIn K mainGlobals "gcd" = some (some (.builtin "math.gcd"))) : Bi mg := {
  len := He.free_ok X G (c.fact 95 (f := .free "len") rfl)
  range := He.free_ok X G (c.fact 96 (f := .free "range") rfl)
  isi := He.free_ok X G (c.fact 97 (f := .free "isinstance") rfl)
  int := He.free_ok X G (c.fact 98 (f := .free "int") rfl)
  bool := He.free_ok X G (c.fact 99 (f := .free "bool") rfl)
  tuple := He.free_ok X G (c.fact 100 (f := .free "tuple") rfl)
  str := He.free_ok X G (c.fact 101 (f := .free "str") rfl)
  abs := He.free_ok X G (c.fact 102 (f := .free "abs") rfl)
  list := He.free_ok X G (c.fact 103 (f := .free "list") rfl)
  enum := He.free_ok X G (c.fact 104 (f := .free "enumerate") rfl)
  zip := He.free_ok X G (c.fact 105 (f := .free "zip") rfl)
  rev := He.free_ok X G (c.fact 106 (f := .free "reversed") rfl)
  sum := He.free_ok X G (c.fact 107 (f := .free "sum") rfl)
  all := He.free_ok X G (c.fact 108 (f := .free "all") rfl)
  any := He.free_ok X G (c.fact 109 (f := .free "any") rfl)
  gcd := PySem.W.mg_of X G hg }
theorem oex_of {C : Addr} (e : oexB K C = true) (h1 : PySem.W.findIn K (.ref C) "__setattr__" = some (some (.builtin "object.__setattr__"))) (h2 : PySem.W.subIn K (.ref C) (.type "BaseException") = some true) (h3 : PySem.W.typeIn K (.ref C) = some (.type "type")) (h4 : PySem.W.keepIn K (.ref C) = true) : OexC K C := by
  refine ⟨?_, h1, h2, h3, h4⟩
  unfold oexB at e
  split at e
  · rename_i t d cd sl lk
    obtain ⟨e1, e2⟩ := Bool.and_eq_true_iff.mp e
    have et := of_decide_eq_true e1
    subst et
    split at e2
    · rename_i C' bm a0 a1 a2 a3 nb a5 hm hs
      obtain ⟨f1, f2⟩ := Bool.and_eq_true_iff.mp e2
      obtain ⟨f3, f4⟩ := Bool.and_eq_true_iff.mp f2
      obtain ⟨f5, f6⟩ := Bool.and_eq_true_iff.mp f4
      obtain ⟨f7, f8⟩ := Bool.and_eq_true_iff.mp f6
      have g1 := of_decide_eq_true f1
      have g3 := of_decide_eq_true f3
      subst g1
      subst g3
      obtain ⟨nm, bs, mro, ns, qn, hd, sn, sb, ab, col, del⟩ := cd
      dsimp only at hm f5 f7
      subst hm f5
      have f7' : del = false := by cases del <;> first | rfl | cases f7
      subst f7'
      have es : sl = #[a0, a1, a2, a3, some (.builtin "ValueError.__new__"), a5] := Array.toList_inj.mp hs
      subst es
      exact ⟨nm, qn, ns, bs, bm, sn, sb, ab, col, d, a0, a1, a2, a3, a5, lk, f8⟩
    · cases e2
  · cases e
theorem um_of (X : K.In h) (G : h.Ns mainGlobals mg) (c : He.SaysD fa fn K) (b : (moreB K (cU K) (cE K) (He.ma K (cU K) "__init__")).all id = true) : Um K mg (cU K) (cE K) (He.ma K (cU K) "__init__") ∧ PySem.W.nsIn K mainGlobals "gcd" = some (some (.builtin "math.gcd")) := by
  have al := List.all_eq_true.mp b
  have mem : ∀ {q : Bool} (i : Nat), (moreB K (cU K) (cE K) (He.ma K (cU K) "__init__"))[i]? = some q → q = true := fun {q} i e => al q (List.mem_of_getElem? e)
  have d : ∀ {p : Prop} [inst : Decidable p] (i : Nat), (moreB K (cU K) (cE K) (He.ma K (cU K) "__init__"))[i]? = some (decide p) → p := fun {p} inst i e => of_decide_eq_true (mem i e)
  obtain ⟨fd, F⟩ := c.def_ 93 (d := uD) rfl
  exact ⟨⟨He.glo_ok X G (c.fact 93 (f := .glo "Unmade") rfl), He.glo_ok X G (c.fact 94 (f := .glo "DealError") rfl), oex_of (mem 0 rfl) (d 1 rfl) (d 2 rfl) (d 3 rfl) (mem 4 rfl), xfB_ok (mem 5 rfl), d 6 rfl, d 7 rfl, d 8 rfl, d 9 rfl, d 10 rfl, d 11 rfl, d 12 rfl, ⟨fd, fun_ofD (st := iniS) F⟩⟩, d 13 rfl⟩
theorem law_fn {P : Program} {w : World} {base : Heap} {f : Addr} {fd : FuncData} (X : K.In h) (G : h.Ns mainGlobals mg) (c : He.SaysD fa fn K) (b : (moreB K (cU K) (cE K) (He.ma K (cU K) "__init__")).all id = true) (FL : Fun K "law" "law" (top 124) f fd) : FnB false P w K mg base 11 f fd ["_law_script"] (spD K 1 R124) := by
  obtain ⟨U, hg⟩ := um_of X G c b
  have B := bi_of X G c hg
  have h97 := w97 (P := P) (w := w) (K := K) (mg := mg) (base := base) (B := B) (F := ff_of X G c 65)
  have h98 := w98 (P := P) (w := w) (K := K) (mg := mg) (base := base) (B := B) (F := ff_of X G c 66)
  have h99 := w99 (P := P) (w := w) (K := K) (mg := mg) (base := base) (F := ff_of X G c 67)
  have h104 := w104 (P := P) (w := w) (K := K) (mg := mg) (base := base) (B := B) (F := ff_of X G c 72)
  have h105 := w105 (P := P) (w := w) (K := K) (mg := mg) (base := base) (B := B) (F := ff_of X G c 73)
  have h107 := w107 (P := P) (w := w) (K := K) (mg := mg) (base := base) (B := B) (F := ff_of X G c 75)
  have h108 := w108 (P := P) (w := w) (K := K) (mg := mg) (base := base) (B := B) (F := ff_of X G c 76)
  have h106 := w106 (P := P) (w := w) (K := K) (mg := mg) (base := base) (B := B) (F := ff_of X G c 74)
  have h109 := w109 (P := P) (w := w) (K := K) (mg := mg) (base := base) (B := B) (F := ff_of X G c 77) (h98 := h98) (h107 := h107) (h108 := h108) (h106 := h106)
  have h114 := w114 (P := P) (w := w) (K := K) (mg := mg) (base := base) (B := B) (F := ff_of X G c 82)
  have h115 := w115 (P := P) (w := w) (K := K) (mg := mg) (base := base) (B := B) (F := ff_of X G c 83)
  have h101 := w101 (P := P) (w := w) (K := K) (mg := mg) (base := base) (B := B) (F := ff_of X G c 69)
  have h103 := w103 (P := P) (w := w) (K := K) (mg := mg) (base := base) (B := B) (F := ff_of X G c 71) (h101 := h101)
  have h116 := w116 (P := P) (w := w) (K := K) (mg := mg) (base := base) (B := B) (F := ff_of X G c 84) (h97 := h97) (h109 := h109) (h114 := h114) (h107 := h107) (h108 := h108) (h106 := h106) (h115 := h115) (h103 := h103)
  have h111 := w111 (P := P) (w := w) (K := K) (mg := mg) (base := base) (B := B) (F := ff_of X G c 79)
  have h110 := w110 (P := P) (w := w) (K := K) (mg := mg) (base := base) (B := B) (F := ff_of X G c 78)
  have h117 := w117 (P := P) (w := w) (K := K) (mg := mg) (base := base) (B := B) (F := ff_of X G c 85) (h111 := h111) (h110 := h110)
  have h10 := w10 (P := P) (w := w) (K := K) (mg := mg) (base := base) (B := B) (F := ff_of X G c 1)
  have h18 := w18 (P := P) (w := w) (K := K) (mg := mg) (base := base) (F := ff_of X G c 8) (h10 := h10)
  have h13 := w13 (P := P) (w := w) (K := K) (mg := mg) (base := base) (B := B) (F := ff_of X G c 4)
  have h23 := w23 (P := P) (w := w) (K := K) (mg := mg) (base := base) (F := ff_of X G c 12) (h13 := h13)
  have h26 := w26 (P := P) (w := w) (K := K) (mg := mg) (base := base) (B := B) (F := ff_of X G c 14) (h18 := h18) (h23 := h23)
  have h28 := w28 (P := P) (w := w) (K := K) (mg := mg) (base := base) (F := ff_of X G c 15) (h26 := h26)
  have h29 := w29 (P := P) (w := w) (K := K) (mg := mg) (base := base) (F := ff_of X G c 16) (h28 := h28)
  have h37 := w37 (P := P) (w := w) (K := K) (mg := mg) (base := base) (B := B) (F := ff_of X G c 22) (h18 := h18) (h23 := h23)
  have h43 := w43 (P := P) (w := w) (K := K) (mg := mg) (base := base) (B := B) (F := ff_of X G c 26) (h29 := h29) (h37 := h37)
  have h38 := w38 (P := P) (w := w) (K := K) (mg := mg) (base := base) (B := B) (F := ff_of X G c 23) (h23 := h23)
  have h68 := w68 (P := P) (w := w) (K := K) (mg := mg) (base := base) (F := ff_of X G c 46) (h26 := h26)
  have h70 := w70 (P := P) (w := w) (K := K) (mg := mg) (base := base) (F := ff_of X G c 47) (h68 := h68)
  have h9 := w9 (P := P) (w := w) (K := K) (mg := mg) (base := base) (F := ff_of X G c 0)
  have h48 := w48 (P := P) (w := w) (K := K) (mg := mg) (base := base) (hB := B.gcd) (F := ff_of X G c 29) (h9 := h9) (h10 := h10)
  have h62 := w62 (P := P) (w := w) (K := K) (mg := mg) (base := base) (F := ff_of X G c 41) (h48 := h48)
  have h63 := w63 (P := P) (w := w) (K := K) (mg := mg) (base := base) (B := B) (F := ff_of X G c 42) (h62 := h62)
  have h11 := w11 (P := P) (w := w) (K := K) (mg := mg) (base := base) (B := B) (F := ff_of X G c 2)
  have h19 := w19 (P := P) (w := w) (K := K) (mg := mg) (base := base) (F := ff_of X G c 9) (h10 := h10)
  have h21 := w21 (P := P) (w := w) (K := K) (mg := mg) (base := base) (F := ff_of X G c 11) (h11 := h11) (h19 := h19) (h13 := h13)
  have h34 := w34 (P := P) (w := w) (K := K) (mg := mg) (base := base) (F := ff_of X G c 20) (h9 := h9) (h21 := h21)
  have h14 := w14 (P := P) (w := w) (K := K) (mg := mg) (base := base) (B := B) (F := ff_of X G c 5)
  have h16 := w16 (P := P) (w := w) (K := K) (mg := mg) (base := base) (B := B) (F := ff_of X G c 7) (h14 := h14) (h13 := h13)
  have h33 := w33 (P := P) (w := w) (K := K) (mg := mg) (base := base) (F := ff_of X G c 19) (h9 := h9) (h21 := h21) (h16 := h16)
  have h15 := w15 (P := P) (w := w) (K := K) (mg := mg) (base := base) (B := B) (F := ff_of X G c 6) (h13 := h13)
  have h35 := w35 (P := P) (w := w) (K := K) (mg := mg) (base := base) (hB := B.tuple) (F := ff_of X G c 21) (h15 := h15)
  have h46 := w46 (P := P) (w := w) (K := K) (mg := mg) (base := base) (B := B) (F := ff_of X G c 28) (h28 := h28) (h34 := h34) (h33 := h33) (h35 := h35)
  have h24 := w24 (P := P) (w := w) (K := K) (mg := mg) (base := base) (F := ff_of X G c 13) (h13 := h13)
  have h32 := w32 (P := P) (w := w) (K := K) (mg := mg) (base := base) (F := ff_of X G c 18) (h9 := h9) (h19 := h19) (h13 := h13) (h14 := h14)
  have h41 := w41 (P := P) (w := w) (K := K) (mg := mg) (base := base) (B := B) (F := ff_of X G c 25) (h29 := h29) (h24 := h24) (h32 := h32) (h37 := h37)
  have h59 := w59 (P := P) (w := w) (K := K) (mg := mg) (base := base) (B := B) (F := ff_of X G c 38)
  have h60 := w60 (P := P) (w := w) (K := K) (mg := mg) (base := base) (B := B) (F := ff_of X G c 39) (h24 := h24) (h32 := h32) (h59 := h59)
  have h50 := w50 (P := P) (w := w) (K := K) (mg := mg) (base := base) (B := B) (F := ff_of X G c 30) (h18 := h18)
  have h51 := w51 (P := P) (w := w) (K := K) (mg := mg) (base := base) (B := B) (F := ff_of X G c 31) (h50 := h50)
  have h52 := w52 (P := P) (w := w) (K := K) (mg := mg) (base := base) (B := B) (F := ff_of X G c 32)
  have h53 := w53 (P := P) (w := w) (K := K) (mg := mg) (base := base) (B := B) (F := ff_of X G c 33) (h52 := h52)
  have h54 := w54 (P := P) (w := w) (K := K) (mg := mg) (base := base) (B := B) (F := ff_of X G c 34)
  have h55 := w55 (P := P) (w := w) (K := K) (mg := mg) (base := base) (B := B) (F := ff_of X G c 35) (h52 := h52) (h53 := h53) (h54 := h54)
  have h56 := w56 (P := P) (w := w) (K := K) (mg := mg) (base := base) (B := B) (F := ff_of X G c 36)
  have h57 := w57 (P := P) (w := w) (K := K) (mg := mg) (base := base) (B := B) (F := ff_of X G c 37) (h50 := h50) (h51 := h51) (h55 := h55) (h56 := h56)
  have h61 := w61 (P := P) (w := w) (K := K) (mg := mg) (base := base) (B := B) (F := ff_of X G c 40) (h60 := h60) (h57 := h57) (h37 := h37)
  have h20 := w20 (P := P) (w := w) (K := K) (mg := mg) (base := base) (B := B) (F := ff_of X G c 10) (h10 := h10) (h11 := h11)
  have h30 := w30 (P := P) (w := w) (K := K) (mg := mg) (base := base) (F := ff_of X G c 17) (h20 := h20)
  have h44 := w44 (P := P) (w := w) (K := K) (mg := mg) (base := base) (B := B) (F := ff_of X G c 27) (h28 := h28) (h30 := h30) (h37 := h37)
  have h64 := w64 (P := P) (w := w) (K := K) (mg := mg) (base := base) (F := ff_of X G c 43) (h63 := h63) (h62 := h62) (h46 := h46) (h41 := h41) (h61 := h61) (h44 := h44)
  have h75 := w75 (P := P) (w := w) (K := K) (mg := mg) (base := base) (F := ff_of X G c 51) (h70 := h70) (h64 := h64) (h41 := h41)
  have n75 := m75 (P := P) (w := w) (base := base) U (ff_of X G c 51) h70 h64 h41 h43 h38
  have h100 := w100 (P := P) (w := w) (K := K) (mg := mg) (base := base) (B := B) (F := ff_of X G c 68)
  have h102 := w102 (P := P) (w := w) (K := K) (mg := mg) (base := base) (B := B) (F := ff_of X G c 70) (h100 := h100) (h101 := h101)
  have h112 := w112 (P := P) (w := w) (K := K) (mg := mg) (base := base) (B := B) (F := ff_of X G c 80) (h106 := h106)
  have h113 := w113 (P := P) (w := w) (K := K) (mg := mg) (base := base) (B := B) (F := ff_of X G c 81)
  have h118 := w118 (P := P) (w := w) (K := K) (mg := mg) (base := base) (B := B) (F := ff_of X G c 86) (h102 := h102) (h112 := h112) (h113 := h113) (h111 := h111) (h110 := h110)
  have h119 := w119 (P := P) (w := w) (K := K) (mg := mg) (base := base) (B := B) (U := U) (F := ff_of X G c 87) (h75 := h75) (n75 := n75) (h102 := h102) (h112 := h112) (h118 := h118)
  have h65 := w65 (P := P) (w := w) (K := K) (mg := mg) (base := base) (F := ff_of X G c 44) (h63 := h63) (h46 := h46) (h41 := h41) (h61 := h61)
  have h73 := w73 (P := P) (w := w) (K := K) (mg := mg) (base := base) (F := ff_of X G c 49) (h70 := h70) (h65 := h65) (h41 := h41)
  have h66 := w66 (P := P) (w := w) (K := K) (mg := mg) (base := base) (F := ff_of X G c 45) (h46 := h46) (h65 := h65)
  have h74 := w74 (P := P) (w := w) (K := K) (mg := mg) (base := base) (F := ff_of X G c 50) (h70 := h70) (h66 := h66) (h41 := h41)
  have h71 := w71 (P := P) (w := w) (K := K) (mg := mg) (base := base) (B := B) (F := ff_of X G c 48)
  have h91 := w91 (P := P) (w := w) (K := K) (mg := mg) (base := base) (F := ff_of X G c 60) (h41 := h41)
  have h92 := w92 (P := P) (w := w) (K := K) (mg := mg) (base := base) (F := ff_of X G c 61) (h71 := h71) (h70 := h70) (h64 := h64) (h91 := h91) (h43 := h43) (h38 := h38)
  have h94 := w94 (P := P) (w := w) (K := K) (mg := mg) (base := base) (B := B) (F := ff_of X G c 63) (h26 := h26)
  have h93 := w93 (P := P) (w := w) (K := K) (mg := mg) (base := base) (B := B) (F := ff_of X G c 62)
  have h95 := w95 (P := P) (w := w) (K := K) (mg := mg) (base := base) (B := B) (F := ff_of X G c 64) (h71 := h71) (h70 := h70) (h94 := h94) (h91 := h91) (h93 := h93)
  have h76 := w76 (P := P) (w := w) (K := K) (mg := mg) (base := base) (F := ff_of X G c 52) (h70 := h70) (h64 := h64) (h41 := h41)
  have h122 := w122 (P := P) (w := w) (K := K) (mg := mg) (base := base) (B := B) (F := ff_of X G c 90) (h113 := h113) (h74 := h74) (h92 := h92) (h95 := h95) (h76 := h76) (h102 := h102)
  have h86 := w86 (P := P) (w := w) (K := K) (mg := mg) (base := base) (F := ff_of X G c 57) (h68 := h68) (h65 := h65)
  have h87 := w87 (P := P) (w := w) (K := K) (mg := mg) (base := base) (F := ff_of X G c 58) (h68 := h68) (h66 := h66)
  have h123 := w123 (P := P) (w := w) (K := K) (mg := mg) (base := base) (B := B) (F := ff_of X G c 91) (h86 := h86) (h87 := h87) (h102 := h102) (h112 := h112) (h111 := h111) (h110 := h110)
  have h82 := w82 (P := P) (w := w) (K := K) (mg := mg) (base := base) (F := ff_of X G c 55) (h26 := h26)
  have h39 := w39 (P := P) (w := w) (K := K) (mg := mg) (base := base) (B := B) (F := ff_of X G c 24) (h30 := h30) (h23 := h23) (h37 := h37)
  have h12 := w12 (P := P) (w := w) (K := K) (mg := mg) (base := base) (B := B) (F := ff_of X G c 3)
  have h78 := w78 (P := P) (w := w) (K := K) (mg := mg) (base := base) (F := ff_of X G c 53) (h9 := h9) (h10 := h10) (h12 := h12)
  have h80 := w80 (P := P) (w := w) (K := K) (mg := mg) (base := base) (hS := B.sum) (F := ff_of X G c 54) (h28 := h28) (h78 := h78) (hT := B.tuple)
  have h84 := w84 (P := P) (w := w) (K := K) (mg := mg) (base := base) (F := ff_of X G c 56) (h43 := h43) (h39 := h39) (h80 := h80)
  have h89 := w89 (P := P) (w := w) (K := K) (mg := mg) (base := base) (F := ff_of X G c 59) (h82 := h82) (h84 := h84) (h43 := h43) (h38 := h38) (h86 := h86)
  have h120 := w120 (P := P) (w := w) (K := K) (mg := mg) (base := base) (B := B) (F := ff_of X G c 88)
  have h121 := w121 (P := P) (w := w) (K := K) (mg := mg) (base := base) (B := B) (F := ff_of X G c 89) (h89 := h89) (h102 := h102) (h112 := h112) (h117 := h117) (h120 := h120)
  exact b124 B FL h97 h98 h99 h104 h105 h116 h117 h119 h112 h73 h122 h123 h121
end
end EL
end
set_option maxHeartbeats 0
namespace EL
open PySem PySem.Spec PyProof.Rows L2 DL EH
theorem scr_at {K : PySem.W.Frag} {H : Hp} {a : Addr} {ns : List Int} (hO : Only H) (hS : SqL K H a (ns.map V.int)) : ScrAt K H a ns := by
  rcases hS with (e | ⟨o, e⟩) | h
  · rcases hO a with z | ⟨o, xs, z⟩
    · rw [z] at e; cases e
    · rw [z] at e; cases e
  · exact .inl ⟨o, e⟩
  · exact .inr fun H' => .inr h
theorem law_facts {P : Program} {w : World} {h : Heap} {mg : Str → Option Value} {fa' : Addr} {K : PySem.W.Frag} (X : K.In h) (e : obK K = He.valD fn) (G : h.Ns mainGlobals mg) (hm : mg "law" = some (.ref fa')) :
    ∃ fd : FuncData, (∀ (s : Shared) (u : Value), BindsTo s fd ⟨[u], []⟩ [("_law_script", u)]) ∧ ∀ base : Heap, K.In base → base.Ns mainGlobals mg → FnOk P w K mg base CX0 11 fa' fd ["_law_script"] (spD K 1 R124) := by
  obtain ⟨c, b⟩ := ob_says e
  obtain ⟨fd, F⟩ := c.def_ 92 (d := mkD "law" "law" 124) rfl
  have e2 := hm.symm.trans (He.glo_ok X G (c.fact 92 (f := .glo "law") rfl))
  cases e2
  have bd := FunD.bindsA (ps := ["_law_script"]) F fun _ _ _ _ _ _ us hl => match us, hl with | [_], _ => rfl
  exact ⟨fd, fun s v => bd s [v] rfl, fun base _ _ => (law_fn (P := P) (w := w) (base := base) X G c b (fun_ofD F)).ok⟩
end EL
open PySem PySem.W PySem.Calls PyProof.Rows
theorem PySem.Challenge.cw_evenlater_k67_whole_made_of_goes_on_holds : PySem.Challenge.rw_evenlater_k67_whole_made_of_goes_on.Holds := by
  w_on; o_law
  refine HandSHeadRun.head_imp (r := EH.R) (q := EH.qv) (H := EH.hk) (ob := EH.ob) (M := 8000) (loose := EH.ls) (d := HandSHeadRun.topDef EH.R.prog 124) (kwd := []) EH.ob_eq EH.run (by kernel_rfl) (by kernel_rfl) (by kernel_rfl) (by rfl) (by first | assumption | decide +kernel) (by decide +kernel) ⟨rfl, rfl, rfl, rfl, rfl, by decide +kernel⟩ ?hw ?hc
  case hw => w_witness2
  case hc =>
    refine L2.walk_ofE (l := PySem.Challenge.rw_evenlater_k67_whole_made_of_goes_on) (n := 63) (k := 11) (x := "_law_script") (CX := L2.CX0) rfl (by decide) (by kernel_rfl) ⟨rfl, by decide, by decide⟩ ?F (fun _ _ _ _ z => z)
    rintro w mg fa h ⟨K, KX, c⟩ G hmg0
    have hmg : mg ("law" : PySem.Str) = some (.ref fa) := by
      have e : (HandSHeadRun.topDef EH.R.prog 124).name = ("law" : PySem.Str) := by kernel_rfl
      rw [← e]
      exact hmg0
    obtain ⟨fd, hb, hF⟩ := EL.law_facts (P := PySem.Challenge.rw_evenlater_k67_whole_made_of_goes_on.prog) (w := w) KX c G hmg
    exact ⟨K, fd, _, KX, hb, fun H a ns hl hO hS => ⟨[DL.scrD ns], .bool true, .cons (.scr (EL.scr_at hO hS)) .nil, rfl, ⟨ns, Nat.le_trans hl (by decide), rfl, rfl⟩, fun v H' _ rv => rv.bl_eq⟩, hF⟩
