import PyProof.Rows.All
import Wide.All
import OpenK.AllK
import Wide.FinOn
import HandS.ForMost
import HandS.Hot
import HandS.HotCalls
import HandS.ExcIs
import HandS.ExcField
import HandS.Lambda
import HandS.Style
import HandS.IsInst
import HandS.TupAny
import HandS.Wide
import HandS.Steps
import HandS.RaiseMore
import HandS.More
import HandS.ExcInit
import HandS.ExcCtx
import HandS.Defaults
import KE.KExcIs
import HandS.EndTab
import HandS.Star
import HandS.HeadHook4
import PyProof.StrOps2
import HandS.Text
import PyProof.Rows.StrSplitJoin
import PyProof.Rows.StrSplitAre
import HandS.Head0
import HandS.Head1
import HandS.Head2
import HandS.HeadEnd
import HandS.HeadHook1
import HandS.HeadHook2
import HandS.HeadWalk
import PySem.Challenge.RW_zonesclose_k83_deeds_and_their_lines
/-! ## the run -/
set_option Elab.async false
set_option linter.all false
set_option maxRecDepth 100000
set_option maxHeartbeats 0
namespace K83
open PySem PySem.Spec PyProof.Rows L2
def top (i : Nat) : Stmt := PySem.Challenge.pw_zonesclose_k83_deeds_and_their_lines.main.body.getD i (.Pass ⟨0, 0, 0, 0⟩)
abbrev s_whole : Stmt := top 6
abbrev s_least_part : Stmt := top 12
abbrev s_is_deed : Stmt := top 13
abbrev s_asked_text : Stmt := top 19
abbrev s_lines_of : Stmt := top 20
abbrev s_words_of : Stmt := top 21
abbrev s_asked_lines : Stmt := top 22
abbrev s_number_of : Stmt := top 23
abbrev s_asked_end : Stmt := top 24
abbrev s_row_text : Stmt := top 25
abbrev s_price_text : Stmt := top 26
abbrev s_deed_text : Stmt := top 28
abbrev s_part_of_deed : Stmt := top 29
abbrev s_deed_of : Stmt := top 30
abbrev s_read_deed : Stmt := top 31
abbrev s_law_zq_is_whole : Stmt := top 33
abbrev s_law_zq_same : Stmt := top 34
abbrev s_law_pool : Stmt := top 35
abbrev s_law_take : Stmt := top 36
abbrev s_law_one : Stmt := top 37
abbrev s_law_zt_number : Stmt := top 38
abbrev s_law_zt_price : Stmt := top 39
abbrev s_law_zt_price_word : Stmt := top 40
abbrev s_law_zt_line : Stmt := top 41
abbrev s_law_zt_lines : Stmt := top 42
abbrev s_law_zt_wrong : Stmt := top 43
abbrev s_law_zt_end : Stmt := top 44
abbrev s_law_zt_deed_sorts : Stmt := top 45
abbrev s_law_zt_deed : Stmt := top 46
abbrev s_law_zt_deed_in : Stmt := top 47
abbrev s_law_zt_deed_read : Stmt := top 48
abbrev s_law_zt_word_drawn : Stmt := top 49
abbrev s_law_zt_otherwise : Stmt := top 50
abbrev s_law_zt_deed_drawn : Stmt := top 51
abbrev s_law_dl_heard : Stmt := top 52
abbrev s_law_dl_is_own : Stmt := top 53
abbrev s_law_dl_bent : Stmt := top 54
abbrev s_law_dl_thing_right : Stmt := top 55
abbrev s_law_dl_text_right : Stmt := top 56
abbrev s_law_dl_planted_right : Stmt := top 57
abbrev s_law : Stmt := top 58
abbrev s_init : Stmt := inClass (top 1) 0
def sizeL : List (Str × Nat) := [("add", 4), ("drop", 1), ("price", 2), ("budget", 1), ("floor", 3), ("unfloor", 2)]
def pricedL : List Str := ["add", "price"]
def errN : List Str := ["BadDeed", "BadText", "TooMany", "WrongLine"]
def oexB (K : PySem.W.Frag) (C : Addr) : Bool := (match K.lookup C with
  | some ⟨.type "type", _, .cls ⟨_, _, .ref C' :: bm, _, _, true, _, _, _, _, false⟩, ⟨[_, _, _, _, some (.builtin n), _]⟩⟩ => decide (C' = C) && (decide (n = "ValueError.__new__") && PySem.HandSPX.refsVE bm)
  | _ => false) && (decide (PySem.W.findIn K (.ref C) "__setattr__" = some (some (.builtin "object.__setattr__"))) && (decide (PySem.W.subIn K (.ref C) (.type "BaseException") = some true) && (decide (PySem.W.typeIn K (.ref C) = some (.type "type")) && PySem.W.keepIn K (.ref C))))
def excB (K : PySem.W.Frag) (C : Addr) : Bool := decide (PySem.W.findIn K (.ref C) "__getattribute__" = some (some (.builtin "BaseException.__getattribute__"))) && (decide (PySem.W.findIn K (.ref C) "__getattr__" = some none) && (decide (PySem.W.subIn K (.ref C) (.type "BaseException") = some true) && (PySem.W.hasDictIn K C &&
  (decide (PySem.W.findIn K (.ref C) "__class__" = some (some (.builtin "object.__class__"))) && (decide (PySem.W.specialIn K (.builtin "object.__class__") "__get__" = some (some (.builtin "getset_descriptor.__get__"))) && (decide (PySem.W.takesIn K (.builtin "object.__class__") = some true) && decide (PySem.W.mroIn K C (.type "object") = some true)))))))
abbrev fI (K : PySem.W.Frag) : Addr := He.fAd K ("Refused", some "__init__")
def errB (K : PySem.W.Frag) (n : Str) : Bool := oexB K (He.ga K n) && (decide (PySem.W.findIn K (.ref (He.ga K n)) "what" = some none) && (decide (PySem.W.findIn K (.ref (He.ga K n)) "__init__" = some (some (.ref (fI K)))) && (excB K (He.ga K n) && (xfB K (He.ga K n) &&
  (decide (PySem.W.exmOne K (.ref (He.ga K n)) (.ref (He.ga K "Refused")) = some true) && errN.all fun m => decide (PySem.W.kitOne K (.ref (He.ga K n)) (.ref (He.ga K m)) = some (decide (n = m))))))))
def sizeDv : List (Str × He.Dv) := sizeL.map fun p => (p.1, .int p.2)
def tabP (K : PySem.W.Frag) (f : Str) : Addr := (He.cT K (f, none)).2
def exB (K : PySem.W.Frag) : Bool := errN.all (errB K) && (decide (PySem.W.typeIn K (.ref (fI K)) = some (.type "function")) && ((match PySem.W.findCls K (.type "ValueError") (.type "type") "__init__" with
  | some (.val (.builtin n)) => decide (n = "ValueError.__init__")
  | _ => false) &&
  (He.valsB K (He.ga K "DEED_SIZES") sizeDv && (He.tupB K "PRICED_DEEDS" (pricedL.map He.Dv.str) && (decide (tabP K "_law_dl_thing_right" ≠ tabP K "_law_dl_text_right") && (decide (tabP K "_law_dl_thing_right" ≠ tabP K "law") && decide (tabP K "_law_dl_text_right" ≠ tabP K "law")))))))
def fn : List He.DefD := [⟨("whole", none), "whole", "whole", defArgs s_whole, defBody s_whole, defScope s_whole, [], []⟩,
  ⟨("least_part", none), "least_part", "least_part", defArgs s_least_part, defBody s_least_part, defScope s_least_part, [], []⟩,
  ⟨("is_deed", none), "is_deed", "is_deed", defArgs s_is_deed, defBody s_is_deed, defScope s_is_deed, [], []⟩,
  ⟨("asked_text", none), "asked_text", "asked_text", defArgs s_asked_text, defBody s_asked_text, defScope s_asked_text, [], []⟩,
  ⟨("lines_of", none), "lines_of", "lines_of", defArgs s_lines_of, defBody s_lines_of, defScope s_lines_of, [], []⟩,
  ⟨("words_of", none), "words_of", "words_of", defArgs s_words_of, defBody s_words_of, defScope s_words_of, [], []⟩,
  ⟨("asked_lines", none), "asked_lines", "asked_lines", defArgs s_asked_lines, defBody s_asked_lines, defScope s_asked_lines, [], []⟩,
  ⟨("number_of", none), "number_of", "number_of", defArgs s_number_of, defBody s_number_of, defScope s_number_of, [], []⟩,
  ⟨("asked_end", none), "asked_end", "asked_end", defArgs s_asked_end, defBody s_asked_end, defScope s_asked_end, [], []⟩,
  ⟨("row_text", none), "row_text", "row_text", defArgs s_row_text, defBody s_row_text, defScope s_row_text, [], []⟩,
  ⟨("price_text", none), "price_text", "price_text", defArgs s_price_text, defBody s_price_text, defScope s_price_text, [], []⟩,
  ⟨("deed_text", none), "deed_text", "deed_text", defArgs s_deed_text, defBody s_deed_text, defScope s_deed_text, [], []⟩,
  ⟨("part_of_deed", none), "part_of_deed", "part_of_deed", defArgs s_part_of_deed, defBody s_part_of_deed, defScope s_part_of_deed, [], []⟩,
  ⟨("deed_of", none), "deed_of", "deed_of", defArgs s_deed_of, defBody s_deed_of, defScope s_deed_of, [], []⟩,
  ⟨("read_deed", none), "read_deed", "read_deed", defArgs s_read_deed, defBody s_read_deed, defScope s_read_deed, [], []⟩,
  ⟨("_law_zq_is_whole", none), "_law_zq_is_whole", "_law_zq_is_whole", defArgs s_law_zq_is_whole, defBody s_law_zq_is_whole, defScope s_law_zq_is_whole, [], []⟩,
  ⟨("_law_zq_same", none), "_law_zq_same", "_law_zq_same", defArgs s_law_zq_same, defBody s_law_zq_same, defScope s_law_zq_same, [], []⟩,
  ⟨("_law_pool", none), "_law_pool", "_law_pool", defArgs s_law_pool, defBody s_law_pool, defScope s_law_pool, [], []⟩,
  ⟨("_law_take", none), "_law_take", "_law_take", defArgs s_law_take, defBody s_law_take, defScope s_law_take, [], []⟩,
  ⟨("_law_one", none), "_law_one", "_law_one", defArgs s_law_one, defBody s_law_one, defScope s_law_one, [], []⟩,
  ⟨("_law_zt_number", none), "_law_zt_number", "_law_zt_number", defArgs s_law_zt_number, defBody s_law_zt_number, defScope s_law_zt_number, [], []⟩,
  ⟨("_law_zt_price", none), "_law_zt_price", "_law_zt_price", defArgs s_law_zt_price, defBody s_law_zt_price, defScope s_law_zt_price, [], []⟩,
  ⟨("_law_zt_price_word", none), "_law_zt_price_word", "_law_zt_price_word", defArgs s_law_zt_price_word, defBody s_law_zt_price_word, defScope s_law_zt_price_word, [], []⟩,
  ⟨("_law_zt_line", none), "_law_zt_line", "_law_zt_line", defArgs s_law_zt_line, defBody s_law_zt_line, defScope s_law_zt_line, [], []⟩,
  ⟨("_law_zt_lines", none), "_law_zt_lines", "_law_zt_lines", defArgs s_law_zt_lines, defBody s_law_zt_lines, defScope s_law_zt_lines, [], []⟩,
  ⟨("_law_zt_wrong", none), "_law_zt_wrong", "_law_zt_wrong", defArgs s_law_zt_wrong, defBody s_law_zt_wrong, defScope s_law_zt_wrong, [], []⟩,
  ⟨("_law_zt_end", none), "_law_zt_end", "_law_zt_end", defArgs s_law_zt_end, defBody s_law_zt_end, defScope s_law_zt_end, [], []⟩,
  ⟨("_law_zt_deed_sorts", none), "_law_zt_deed_sorts", "_law_zt_deed_sorts", defArgs s_law_zt_deed_sorts, defBody s_law_zt_deed_sorts, defScope s_law_zt_deed_sorts, [], []⟩,
  ⟨("_law_zt_deed", none), "_law_zt_deed", "_law_zt_deed", defArgs s_law_zt_deed, defBody s_law_zt_deed, defScope s_law_zt_deed, [], []⟩,
  ⟨("_law_zt_deed_in", none), "_law_zt_deed_in", "_law_zt_deed_in", defArgs s_law_zt_deed_in, defBody s_law_zt_deed_in, defScope s_law_zt_deed_in, [], []⟩,
  ⟨("_law_zt_deed_read", none), "_law_zt_deed_read", "_law_zt_deed_read", defArgs s_law_zt_deed_read, defBody s_law_zt_deed_read, defScope s_law_zt_deed_read, [], []⟩,
  ⟨("_law_zt_word_drawn", none), "_law_zt_word_drawn", "_law_zt_word_drawn", defArgs s_law_zt_word_drawn, defBody s_law_zt_word_drawn, defScope s_law_zt_word_drawn, [], []⟩,
  ⟨("_law_zt_otherwise", none), "_law_zt_otherwise", "_law_zt_otherwise", defArgs s_law_zt_otherwise, defBody s_law_zt_otherwise, defScope s_law_zt_otherwise, [], []⟩,
  ⟨("_law_zt_deed_drawn", none), "_law_zt_deed_drawn", "_law_zt_deed_drawn", defArgs s_law_zt_deed_drawn, defBody s_law_zt_deed_drawn, defScope s_law_zt_deed_drawn, [], []⟩,
  ⟨("_law_dl_heard", none), "_law_dl_heard", "_law_dl_heard", defArgs s_law_dl_heard, defBody s_law_dl_heard, defScope s_law_dl_heard, [], []⟩,
  ⟨("_law_dl_is_own", none), "_law_dl_is_own", "_law_dl_is_own", defArgs s_law_dl_is_own, defBody s_law_dl_is_own, defScope s_law_dl_is_own, [], []⟩,
  ⟨("_law_dl_bent", none), "_law_dl_bent", "_law_dl_bent", defArgs s_law_dl_bent, defBody s_law_dl_bent, defScope s_law_dl_bent, [], []⟩,
  ⟨("_law_dl_thing_right", none), "_law_dl_thing_right", "_law_dl_thing_right", defArgs s_law_dl_thing_right, defBody s_law_dl_thing_right, defScope s_law_dl_thing_right, [], []⟩,
  ⟨("_law_dl_text_right", none), "_law_dl_text_right", "_law_dl_text_right", defArgs s_law_dl_text_right, defBody s_law_dl_text_right, defScope s_law_dl_text_right, [], []⟩,
  ⟨("_law_dl_planted_right", none), "_law_dl_planted_right", "_law_dl_planted_right", defArgs s_law_dl_planted_right, defBody s_law_dl_planted_right, defScope s_law_dl_planted_right, [], []⟩,
  ⟨("law", none), "law", "law", defArgs s_law, defBody s_law, defScope s_law, [], []⟩,
  ⟨("Refused", some "__init__"), "__init__", "Refused.__init__", defArgs s_init, defBody s_init, defScope s_init, [], []⟩]
def fa : List He.Fa := [.glo "whole", .glo "least_part", .glo "is_deed", .glo "asked_text", .glo "lines_of", .glo "words_of", .glo "asked_lines", .glo "number_of", .glo "asked_end", .glo "row_text", .glo "price_text", .glo "deed_text", .glo "part_of_deed", .glo "deed_of", .glo "read_deed", .glo "_law_zq_is_whole", .glo "_law_zq_same", .glo "_law_pool", .glo "_law_take", .glo "_law_one", .glo "_law_zt_number", .glo "_law_zt_price", .glo "_law_zt_price_word", .glo "_law_zt_line", .glo "_law_zt_lines", .glo "_law_zt_wrong", .glo "_law_zt_end", .glo "_law_zt_deed_sorts", .glo "_law_zt_deed", .glo "_law_zt_deed_in", .glo "_law_zt_deed_read", .glo "_law_zt_word_drawn", .glo "_law_zt_otherwise", .glo "_law_zt_deed_drawn", .glo "_law_dl_heard", .glo "_law_dl_is_own", .glo "_law_dl_bent", .glo "_law_dl_thing_right", .glo "_law_dl_text_right", .glo "_law_dl_planted_right", .glo "law", .glo "Refused", .glo "TooMany", .glo "BadDeed", .glo "BadText", .glo "WrongLine", .free "all", .free "bool", .free "int", .free "isinstance", .free "len", .free "list", .free "max", .free "min", .free "range", .free "str", .free "tuple", .free "ValueError", .int "FIRM" (-1), .int "MOST_DEED_NUMBER" 99999999999999999999, .glo "DEED_SIZES", .glo "PRICED_DEEDS", .int "MOST_SIGNS" 200000, .int "MOST_FIGURES" 20, .str "FIGURES" "0123456789", .str "FIRM_WORD" "firm"]
def tsD : List He.Tab := [(fun K => He.ga K "DEED_SIZES", sizeL.map (·.1))]
def tfD : List He.Defn := [("_law_dl_thing_right", none), ("_law_dl_text_right", none), ("law", none)]
abbrev R : PySem.W.OpenRow := PySem.W.OpenLaw.row PySem.Challenge.rw_zonesclose_k83_deeds_and_their_lines
abbrev hk : PySem.W.Hook := He.hookX 5 fa fn tsD tfD exB
def ob (s : PySem.W.SharedT) : He.AlX := He.obsX 5 fa fn tsD tfD exB (HandSHeadRun.getT s)
def loose1 : List Str := ["__name__", "Refused", "TooMany", "BadDeed", "BadText", "WrongLine", "whole", "FIRM", "MOST_DEED_NUMBER", "DEED_SIZES", "PRICED_DEEDS", "least_part", "is_deed", "MOST_SIGNS", "MOST_FIGURES", "FIGURES", "FIRM_WORD", "asked_text", "lines_of", "words_of", "asked_lines", "number_of", "asked_end", "row_text", "price_text", "deed_text", "part_of_deed"]
def loose2 : List Str := ["deed_of", "read_deed", "_law_zq_is_whole", "_law_zq_same", "_law_pool", "_law_take", "_law_one", "_law_zt_number", "_law_zt_price", "_law_zt_price_word", "_law_zt_line", "_law_zt_lines", "_law_zt_wrong", "_law_zt_end", "_law_zt_deed_sorts", "_law_zt_deed", "_law_zt_deed_in", "_law_zt_deed_read", "_law_zt_word_drawn", "_law_zt_otherwise", "_law_zt_deed_drawn", "_law_dl_heard", "_law_dl_is_own", "_law_dl_bent", "_law_dl_thing_right", "_law_dl_text_right", "_law_dl_planted_right"]
abbrev loose : List Str := loose1 ++ loose2
theorem run (w : World) : HandSHeadRun.RunEq R (PySem.W.view R.prog [58]) hk ob 4000 loose w :=
  PySem.W.byRow2 "special-get-raises" (P := fun w => HandSHeadRun.RunEq R (PySem.W.view R.prog [58]) hk ob 4000 loose w) (fun w os => by kernel_rfl) (fun w os => by kernel_rfl) w
end K83
/-! ## ZdH1 -/
set_option Elab.async false
set_option linter.all false
set_option maxRecDepth 100000
set_option maxHeartbeats 4000000
/-! Loops that end while an exception is handled. -/
namespace ZdH
open PySem PySem.Spec PyProof.Rows L2 HotX
section
variable {prog : Program} {w : World} {A : Around} {E : Value → Shared → Prop} {s : Shared}
theorem list_end_hot {it l x1 : Addr} {i : Nat} {items} {Q : Option Value → Shared → Prop} (hot : HotAt A x1 s.heap) (nx : x1 ≠ it)
    (hit : s.heap.IsListIter it l i) (hl : s.heap.IsList l items) (hx : items[i]? = none)
    (hQ : ∀ h', Heap.ExtBut it s.heap h' → Q none { s with heap := h' }) : wpAny (model prog w) A (pyNext (.ref it)) Q E s := by
  obtain ⟨o, ho, hc, hd⟩ := id hit
  obtain ⟨ol, hol, _, nl, hdl⟩ := hl
  obtain ⟨hh, o1, vs1, g1, d1, c1⟩ := hot
  unfold pyNext
  refine wpAny_bind (wpAny_attempt (wpAny_callSpecial?_slot (name := Str.ofString "__next__") hit.typeIs slot_listiter_next
    (wpAny_call_entry slot_listiter_next hit.typeIs entry_listiter_next ?_ (args_listiter_next _))))
  show wpAny _ _ (field (.ref it) 0 >>= _) _ _ s
  refine wpAny_bind (wpAny_field ho hd (x := .ref l) rfl ?_)
  show wpAny _ _ (if (Value.ref l == Value.none) = true then _ else _) _ _ s
  rw [if_neg (show ¬ ((Value.ref l == Value.none) = true) from Bool.false_ne_true)]
  show wpAny _ _ (field (.ref it) 1 >>= _) _ _ s
  refine wpAny_bind (wpAny_field ho hd (x := .int i 0) rfl ?_)
  show wpAny _ _ (seqItems? (.ref l) >>= _) _ _ s
  refine wpAny_bind (wpAny_seqItems hol hdl ?_)
  simp only [Int.toNat_natCast, hx]
  refine wpAny_bind (wpAny_rule (wpAny_bind (wpAny_setField ho hd (by simp) ?_)))
  show wpAny _ _ (newExc (.type "StopIteration") [] >>= _) _ _ _
  refine wpAny_bind ?_
  simp only [newExc, newTuple]
  refine wpAny_bind (wpAny_newObj_type ?_ (by size_fits))
  refine wpAny_bind (m := firstArgMember _ _) (wpAny_of_eq (a := Value.none) (by first | rfl | (simp only [firstArgMember]; rfl)) ?_)
  refine wpAny_newObj_type ?_ (by size_fits)
  have u1 : (s.heap.update it (Obj.mapFields (·.setIfInBounds 0 .none))).get? x1 = some o1 := by rw [Heap.get?_update_other _ _ (Ne.symm nx)]; exact g1
  refine raiseNew_hot ⟨hh, o1, vs1, Heap.get?_push_of_some _ (Heap.get?_push_of_some _ u1), d1, c1⟩ (Nat.ne_of_lt (Heap.lt_size (Heap.get?_push_of_some _ u1))) (Heap.get?_push_size _ rfl) rfl (by first | (simp; done) | (simp; omega) | (simp only [Array.size_append]; simp; omega)) ?_
  refine wpAny_bind (wpAny_isInstance (T := "StopIteration") (b := true) ⟨_, Heap.get?_update_self _ (Heap.get?_push_size _ rfl) rfl, rfl⟩ isSubtype_stop ?_)
  refine wpAny_pure (hQ _ fun b ob hb e => ?_)
  have e1 : (s.heap.update it (Obj.mapFields (·.setIfInBounds 0 .none))).get? b = some ob := by rw [Heap.get?_update_other _ _ (Ne.symm hb)]; exact e
  rw [Heap.get?_update_other _ _ (Nat.ne_of_gt (Heap.lt_size (Heap.get?_push_of_some _ e1)))]
  exact Heap.get?_push_of_some _ (Heap.get?_push_of_some _ e1)
theorem tup_end_hot {it t x1 : Addr} {i : Nat} {items : Array Value} {Q : Option Value → Shared → Prop} (hot : HotAt A x1 s.heap) (nx : x1 ≠ it)
    (hit : IsTupIter s.heap it t i) (ht : IsTup s.heap t items) (hx : items[i]? = none)
    (hQ : ∀ h', Heap.ExtBut it s.heap h' → Q none { s with heap := h' }) : wpAny (model prog w) A (pyNext (.ref it)) Q E s := by
  obtain ⟨o, ho, hc, hd⟩ := id hit
  obtain ⟨ol, hol, _, nl, hdl⟩ := ht
  obtain ⟨hh, o1, vs1, g1, d1, c1⟩ := hot
  unfold pyNext
  refine wpAny_bind (wpAny_attempt (wpAny_callSpecial?_slot (name := Str.ofString "__next__") hit.typeIs slot_tupleiter_next
    (wpAny_call_entry slot_tupleiter_next hit.typeIs entry_tupleiter_next ?_ (args_tupleiter_next _))))
  show wpAny _ _ (field (.ref it) 0 >>= _) _ _ s
  refine wpAny_bind (wpAny_field ho hd (x := .ref t) rfl ?_)
  show wpAny _ _ (if (Value.ref t == Value.none) = true then _ else _) _ _ s
  rw [if_neg (show ¬ ((Value.ref t == Value.none) = true) from Bool.false_ne_true)]
  show wpAny _ _ (field (.ref it) 1 >>= _) _ _ s
  refine wpAny_bind (wpAny_field ho hd (x := .int i 0) rfl ?_)
  show wpAny _ _ (seqItems? (.ref t) >>= _) _ _ s
  refine wpAny_bind (wpAny_seqItems hol hdl ?_)
  simp only [Int.toNat_natCast, hx]
  refine wpAny_bind (wpAny_rule (wpAny_bind (wpAny_setField ho hd (by simp) ?_)))
  show wpAny _ _ (newExc (.type "StopIteration") [] >>= _) _ _ _
  refine wpAny_bind ?_
  simp only [newExc, newTuple]
  refine wpAny_bind (wpAny_newObj_type ?_ (by size_fits))
  refine wpAny_bind (m := firstArgMember _ _) (wpAny_of_eq (a := Value.none) (by first | rfl | (simp only [firstArgMember]; rfl)) ?_)
  refine wpAny_newObj_type ?_ (by size_fits)
  have u1 : (s.heap.update it (Obj.mapFields (·.setIfInBounds 0 .none))).get? x1 = some o1 := by rw [Heap.get?_update_other _ _ (Ne.symm nx)]; exact g1
  refine raiseNew_hot ⟨hh, o1, vs1, Heap.get?_push_of_some _ (Heap.get?_push_of_some _ u1), d1, c1⟩ (Nat.ne_of_lt (Heap.lt_size (Heap.get?_push_of_some _ u1))) (Heap.get?_push_size _ rfl) rfl (by first | (simp; done) | (simp; omega) | (simp only [Array.size_append]; simp; omega)) ?_
  refine wpAny_bind (wpAny_isInstance (T := "StopIteration") (b := true) ⟨_, Heap.get?_update_self _ (Heap.get?_push_size _ rfl) rfl, rfl⟩ isSubtype_stop ?_)
  refine wpAny_pure (hQ _ fun b ob hb e => ?_)
  have e1 : (s.heap.update it (Obj.mapFields (·.setIfInBounds 0 .none))).get? b = some ob := by rw [Heap.get?_update_other _ _ (Ne.symm hb)]; exact e
  rw [Heap.get?_update_other _ _ (Nat.ne_of_gt (Heap.lt_size (Heap.get?_push_of_some _ e1)))]
  exact Heap.get?_push_of_some _ (Heap.get?_push_of_some _ e1)
theorem unpackItems_hot {t x1 : Addr} {items : Array Value} {Q : List Value → Shared → Prop} (hot : HotAt A x1 s.heap) (ht : IsTup s.heap t items)
    (hQ : ∀ h', Heap.ExtBut s.heap.objs.size s.heap h' → Q items.toList { s with heap := h' }) : wpAny (model prog w) A (unpackItems (.ref t) items.size none) Q E s := by
  have hlt : t ≠ s.heap.objs.size := by obtain ⟨o, ho, _⟩ := ht; exact Nat.ne_of_lt (Heap.lt_size ho)
  obtain ⟨hh, o1, vs1, g1, d1, c1⟩ := hot
  have nx : x1 ≠ s.heap.objs.size := Nat.ne_of_lt (Heap.lt_size g1)
  unfold unpackItems
  refine wpAny_bind ?_
  · unfold notIterableAtAll
    refine wpAny_bind (wpAny_specialOf ht.typeIs slot_tuple_iter.lookup ?_)
    refine wpAny_pure ?_
    simp only [Bool.false_eq_true, if_false]
    refine wpAny_bind (wpAny_holding (iter_tuple ht ?_))
    refine wpAny_bind (wpAny_holding (draw_tuple hlt items.size 0 _ _ ⟨_, Heap.get?_push_size _ rfl, rfl, rfl⟩ (ht.push _) (by omega) fun h₁ hit₁ hs₁ => ?_))
    have hall : List.take items.size (List.drop 0 items.toList) = items.toList := by
      rw [List.drop_zero]; exact List.take_of_length_le (by simp)
    rw [hall]
    rw [if_neg (by simp)]
    have ht₁ : IsTup h₁ t items := (ht.push _).extBut hs₁.extBut hlt
    have k1 : h₁.get? x1 = some o1 := hs₁.extBut x1 o1 nx (Heap.get?_push_of_some _ g1)
    refine wpAny_bind (wpAny_holding (tup_end_hot ⟨hh, o1, vs1, k1, d1, c1⟩ nx hit₁ ht₁ (by simp) fun h₂ he₂ => ?_))
    simp only [Option.isSome_none, Bool.false_eq_true, if_false]
    refine wpAny_pure (hQ h₂ fun b o hb e => he₂ b o hb (hs₁.extBut b o hb (Heap.get?_push_of_some _ e)))
theorem assign_Tuple_hot {env : Env} {elts : List Expr} {k : Nat} {pos : Pos} {t x1 : Addr} {items : Array Value} {Q : Unit → Shared → Prop} (hot : HotAt A x1 s.heap) (ht : IsTup s.heap t items)
    (hn : (assignEach elts env).length = items.size) (hstar : (assignEach elts env).findIdx? (·.1) = none)
    (h : ∀ h', Heap.ExtBut s.heap.objs.size s.heap h' → wpAny (model prog w) A (assignInOrder ((assignEach elts env).map (·.2)) items.toList) Q E { s with heap := h' }) :
    wpAny (model prog w) A (assign (.Tuple elts k pos) env (.ref t)) Q E s := by
  rw [assign_Tuple]
  refine wpAny_bind (wpAny_standAt ?_)
  unfold unpack
  rw [hn, hstar]
  exact wpAny_bind (wpAny_holding (unpackItems_hot hot ht h))
end
/-- the exception x1 that is handled, as a block within the suite has it -/
def HotB (X : Cx) : Prop := ∃ (x1 : Addr) (o : Obj) (vs : Array Value), X.A.handled = some (.ref x1) ∧ X.s_0.heap.get? x1 = some o ∧ X.H_0 x1 = none ∧ x1 ∉ X.fs ∧ x1 ∉ X.ex ∧ o.data = .fields vs ∧ vs[2]? = some .none
theorem HotB.at {X : Cx} (h : HotB X) {pins : List (Addr × Obj)} {σ : L2.St} {H : Hp} {s : Shared} (I : Inv X pins σ H s) : ∃ x1, HotAt X.A x1 s.heap ∧ x1 ∉ X.ex := by
  obtain ⟨x1, o, vs, h1, h2, h3, h4, h5, h6, h7⟩ := h
  exact ⟨x1, ⟨h1, o, vs, I.base.keep x1 o h2 h3 h4 h5, h6, h7⟩, h5⟩
/-- (a, b, ..) = a tuple, within such a block -/
theorem pg_tupH {X : Cx} {pos : Pos} {es : List Expr} {k : Nat} {t : TGs} {n : Nat} (hot : HotB X) (h : PGs X es t)
    (hn : (assignEach es X.env).length = n := by rfl) (hst : (assignEach es X.env).findIdx? (·.1) = none := by rfl) : PG X (.Tuple es k pos) (gTup X.K n t) := by
  refine ⟨fun pins s σ H v u Q I r hw => ?_⟩
  obtain ⟨a, xs, e1, hq, hl, hw⟩ := hw
  subst e1
  cases r
  obtain ⟨its, rv, ht, hz⟩ := I.tuple hq
  obtain ⟨x1, h1, _⟩ := hot.at I
  refine assign_Tuple_hot h1 ht (by simp [hn, ← hl, rv.length]) hst fun h' hx => ?_
  have I1 : Inv X pins σ H { s with heap := h' } := I.kept (t' := s.toks) fun b o e => hx b o (Nat.ne_of_lt (Heap.lt_size e)) e
  exact h.run pins _ σ H xs _ Q I1 (by simpa using rv) hw
end ZdH

/-! ## ZdH2 -/
set_option Elab.async false
set_option linter.all false
set_option maxRecDepth 100000
set_option maxHeartbeats 4000000
namespace ZdH
open PySem PySem.Spec PyProof.Rows L2 L2H
/-- a list's comprehension within an except suite: its turns end while the exception is handled -/
theorem pe_lcH {X : Cx} {elt tg iter : Expr} {ifs : List Expr} {scope : Scope} {own : List (Str × Nat)} {pos : Pos} {ti : TE} {g : TG} {tt : TT} {te : TE} (hc : HotC X) (hN : X.N.Nodup) (hi : PE X iter ti) (ok : BlkOk X.N X.env.scope scope own)
    (hg : ∀ (s : Shared) (H : Hp) (C : Addr) (cl : List (Str × Addr)) (fp : List Addr), HotB (X.blk s H scope (compEnvC scope cl C X.env) fp) → PG (X.blk s H scope (compEnvC scope cl C X.env) fp) tg g)
    (ht : ∀ (s : Shared) (H : Hp) (C : Addr) (cl : List (Str × Addr)) (fp : List Addr), PTs (X.blk s H scope (compEnvC scope cl C X.env) fp) ifs tt)
    (he : ∀ (s : Shared) (H : Hp) (C : Addr) (cl : List (Str × Addr)) (fp : List Addr), PE (X.blk s H scope (compEnvC scope cl C X.env) fp) elt te) (hs : ∀ x, foldedSetIterable iter X.env x = pure x := by intro _; rfl) :
    PE X (.ListComp elt [⟨tg, iter, ifs, 0⟩] scope pos) (tLc (iList X.K ti) g tt te (own.map (·.2))) := by
  refine ⟨fun pins s σ H Q I h => ?_⟩
  rw [eval_ListComp]
  have hfree : ∀ y ∈ scope.names, y.2 = .free → ∃ c, X.env.cells.lookup y.1 = some c := fun y hy e =>
    (ok.free y hy e).elim (fun k => I.ok.has _ (.inl k)) (fun k => I.ok.has _ (.inr k))
  refine wpAny_comprehension_free rfl hs (closure_ok hfree) ok.kind (fun y hy e => by rw [ok.uniq y hy, e])
    (thn (hi.run pins s σ H _ I h) fun xv s1 ⟨x, H1, I1, r1, a, ex, ⟨xs, hq⟩, q⟩ => ?_)
  subst ex
  cases r1
  obtain ⟨its, rv, pl, hz⟩ := I1.list hq
  refine wpAny_pyIter_list pl.isList ?_
  -- the iterator
  generalize hit : s1.heap.objs.size = it
  generalize hs2 : ({ s1 with heap := s1.heap.push { cls := .type "list_iterator", data := .fields #[.ref a, .int 0 0] } } : Shared) = s2
  have h2 : s2.heap = s1.heap.push { cls := .type "list_iterator", data := .fields #[.ref a, .int 0 0] } := by rw [← hs2]
  have I2 : Inv X pins σ H1 s2 := by
    rw [← hs2]
    exact I1.kept (t' := s1.toks) fun b o e => Heap.get?_push_of_some _ e
  have f2 : FpOk X pins H1 it := I1.fpOk (Nat.le_of_eq hit) (I1.hok.fresh (Nat.le_of_eq hit))
  have st2 : s2.heap.IsListIter it a 0 := by
    rw [h2, ← hit]
    exact ⟨_, Heap.get?_push_size _ rfl, rfl, rfl⟩
  refine wpAny_newObj_type (newEnv_comp ?_) (by show 0 ≤ sizeLine; decide)
  generalize hD : s2.heap.objs.size = D
  have hDn : H1 D = none := I2.hok.fresh (Nat.le_of_eq hD)
  obtain ⟨W, ⟨m0, w0⟩, turn⟩ := q D hDn
  generalize hs3 : ({ s2 with heap := s2.heap.push { cls := .type "list", data := .seq ([] : List Value).toArray } } : Shared) = s3
  have h3 : s3.heap = s2.heap.push { cls := .type "list", data := .seq ([] : List Value).toArray } := by rw [← hs3]
  have I3 : Inv X pins σ (upd H1 D (.lst [])) s3 := by
    rw [← hs3]
    refine I2.laid (t' := s2.toks) (fun b o e => Heap.get?_push_of_some _ e) (Nat.le_of_eq hD) ⟨Nat.zero_le _, [], 0, .nil, ?_⟩
    rw [← hD]
    exact Heap.get?_push_size _ rfl
  have hlt : it < s2.heap.objs.size := by
    obtain ⟨o, e, _⟩ := st2
    exact Heap.lt_size e
  have f3 : FpOk X pins (upd H1 D (.lst [])) it := ⟨by rw [upd_ne (by rw [← hD]; exact Nat.ne_of_lt hlt)]; exact f2.1, f2.2⟩
  have lt3 : it < s3.heap.objs.size := by rw [h3, Heap.size_push]; exact Nat.lt_succ_of_lt hlt
  have st3 : s3.heap.IsListIter it a 0 := st2.at fun o e => by rw [h3]; exact Heap.get?_push_of_some _ e
  have I4 := block_start (fp := [it]) I3 ok hN (fun b hb => by
    have e : b = it := by simpa using hb
    subst e
    exact ⟨f3, lt3⟩)
  -- what is handled
  have hot : ∀ ce : Env, HotB (X.blk s3 (upd H1 D (.lst [])) scope ce [it]) := fun ce => by
    obtain ⟨p, ⟨hh, v1, e1, c1⟩, hp⟩ := hc
    obtain ⟨g1, g2, g3, g4, _⟩ := I3.pin p (List.mem_append_left _ hp)
    refine ⟨p.1, p.2, v1, hh, g1, g2, fun z => ?_, fun z => ?_, e1, c1⟩
    · rcases List.mem_cons.mp (I3.stkSub _ z) with y | y
      · exact g3 y
      · exact g4 y
    · have e : p.1 = it := by simpa using (show p.1 ∈ [it] from z)
      exact f3.2.2.2.2.2 p (List.mem_append_left _ hp) e
  have pg := hg s3 (upd H1 D (.lst [])) s3.heap.objs.size (cellsFrom (s3.heap.objs.size + 1) scope.names (cloFrom X.env.cells scope.names [])) [it] (hot _)
  have pt := ht s3 (upd H1 D (.lst [])) s3.heap.objs.size (cellsFrom (s3.heap.objs.size + 1) scope.names (cloFrom X.env.cells scope.names [])) [it]
  have pe := he s3 (upd H1 D (.lst [])) s3.heap.objs.size (cellsFrom (s3.heap.objs.size + 1) scope.names (cloFrom X.env.cells scope.names [])) [it]
  have hotb := hot (compEnvC scope (cellsFrom (s3.heap.objs.size + 1) scope.names (cloFrom X.env.cells scope.names [])) s3.heap.objs.size X.env)
  show codeAny _ _ (.compStart (.ListComp elt [⟨tg, iter, ifs, 0⟩] scope pos) 0 (.ref it) (.ref D) (compEnvC scope (cellsFrom (s3.heap.objs.size + 1) scope.names (cloFrom X.env.cells scope.names [])) s3.heap.objs.size X.env)) (compPost (model X.prog X.w) X.A X.xe none _ (.ref D) s3.heap.objs.size) { s3 with heap := pushCells (s3.heap.push { cls := .type "dict", data := .dict #[] }) scope.names }
  generalize hce : compEnvC scope (cellsFrom (s3.heap.objs.size + 1) scope.names (cloFrom X.env.cells scope.names [])) s3.heap.objs.size X.env = ce at I4 pg pt pe hotb ⊢
  have cL : ce.locals = s3.heap.objs.size := by subst hce; rfl
  have nit : (upd H1 D (.lst [])) it = none := f3.1
  generalize hH3 : upd H1 D (.lst []) = H3 at I3 I4 pg pt pe w0 nit f3 hotb
  generalize hs4 : ({ s3 with heap := pushCells (s3.heap.push { cls := .type "dict", data := .dict #[] }) scope.names } : Shared) = s4 at I4 ⊢
  have st4 : s4.heap.IsListIter it a 0 := st3.at fun o e => by rw [← hs4]; exact pushCells_keeps _ _ _ _ (Heap.get?_push_of_some _ e)
  have stat : ∀ {σ' : L2.St} {H' : Hp} {s' : Shared}, Inv (X.blk s3 H3 scope ce [it]) [] σ' H' s' → H' it = none → FpOk (X.blk s3 H3 scope ce [it]) [] H' it := fun {σ' H' s'} I' hn =>
    ⟨hn, (I'.ok.exf it (by simp)).1, I'.ok.exfs it (by simp), .inl (by simp), fun x c e => (I'.ok.exf it (by simp)).2 x c e, fun p hp => absurd (show p ∈ ([] : List (Addr × Obj)) ++ [] from hp) (by simp)⟩
  have loop : codeAny (model X.prog X.w) X.A (.compLoop (.ListComp elt [⟨tg, iter, ifs, 0⟩] scope pos) 0 (.ref it) (.ref D) ce) (compPost (model X.prog X.w) X.A X.xe none (EP X pins σ Q) (.ref D) s3.heap.objs.size) s4 := by
    refine compLoop_any (fun n s' => ∃ i H', Inv (X.blk s3 H3 scope ce [it]) [] (wipe σ (own.map (·.2))) H' s' ∧ s'.heap.IsListIter it a i ∧ H' it = none ∧ W i n H') ?_ m0 ⟨0, H3, I4, st4, nit, w0⟩
    rintro n s5 ⟨i, H5, I5, st5, n5, w5⟩
    rcases turn i n H5 w5 with ⟨⟨ys, hys, hlen⟩, qq⟩ | ⟨⟨ys, y0, hys, hy0⟩, Nx, hNx, step⟩
    · obtain ⟨jts, rj, pj, hzj⟩ := I5.list (X := X.blk s3 H3 scope ce [it]) hys
      obtain ⟨x1, h1, nx1⟩ := hotb.at I5
      obtain ⟨k0, k1, k2, k3, k4, k5⟩ := stat I5 n5
      refine list_end_hot h1 (fun z => nx1 (by rw [z]; exact List.mem_cons_self)) st5 pj.isList (by have := rj.length; simp; omega) fun h' eb => ?_
      have I6 : Inv (X.blk s3 H3 scope ce [it]) [] (wipe σ (own.map (·.2))) H5 { s5 with heap := h' } := I5.turned (t' := s5.toks) (fun b o hb e => eb b o hb e) k0 k1 k3 k4 k5
      have I7 : Inv X pins σ H5 { s5 with heap := h' } := I3.call' (ch := [it]) I6.os I6.base I6.hok I6.bare fun b hb => by
        have e : b = it := by simpa using hb
        subst e
        exact ⟨f3.2.2.2.1, f3.2.1, f3.2.2.2.2.1, f3.2.2.2.2.2⟩
      have nC : H5 s3.heap.objs.size = none := by
        have z : H5 ce.locals = none := I6.free
        rw [cL] at z
        exact z
      obtain ⟨m, hn, _⟩ := I6.loc
      have hn : h'.Ns ce.locals m := hn
      rw [cL] at hn
      refine ⟨m, hn, fun h'' sb => ?_⟩
      obtain ⟨g0, g1, g2, g3, g4, g5⟩ := I3.fpOk (Nat.le_refl _) nC
      exact ⟨.ref D, H5, I7.turned (t' := s5.toks) (fun b o hb e => (sb.2 b hb).trans e) g0 g1 g3 g4 g5, rfl, qq⟩
    · obtain ⟨jts, rj, pj, hzj⟩ := I5.list (X := X.blk s3 H3 scope ce [it]) hys
      obtain ⟨u, hu, ru⟩ := rj.get hy0
      obtain ⟨k0, k1, k2, k3, k4, k5⟩ := stat I5 n5
      refine wpAny_pyNext_list_item st5 pj.isList (x := u) (by simpa using hu) fun h' st' sb => ?_
      have I6 : Inv (X.blk s3 H3 scope ce [it]) [] (wipe σ (own.map (·.2))) H5 { s5 with heap := h' } := I5.turned (t' := s5.toks) (fun b o hb e => (sb.2 b hb).trans e) k0 k1 k3 k4 k5
      obtain ⟨oi, ei, ci, di⟩ := id st'
      refine go_of (s := { s5 with heap := h' }) ei ci di (by decide) ?_
      have I7 := I6.pinned (fp := [it]) (fun b hb => by
        have e : b = it := by simpa using hb
        subst e
        exact stat I6 n5) (fun b hb => by
        have e : b = it := by simpa using hb
        subst e
        exact ⟨oi, ei, fun v z => by rw [di] at z; cases z⟩)
      refine thnF (pg.run _ { s5 with heap := h' } _ H5 y0 u _ I7 ru (step y0 H5 ⟨rfl, fun zs hzs => by rw [I5.list_inj (X := X.blk s3 H3 scope ce [it]) hzs hys]; exact hy0⟩)) fun _ s8 ⟨σ8, H8, I8, hw8, q8⟩ => ?_
      refine thnF (pt.run _ s8 σ8 H8 _ I8 q8) fun b s9 ⟨H9, I9, q9⟩ => ?_
      have fin : ∀ {s' : Shared} {H' : Hp}, Inv (X.blk s3 H3 scope ce [it]) ([] ++ pinsAt [it] h') σ8 H' s' → Nx H' → ∃ m, m < n ∧ ∃ i H', Inv (X.blk s3 H3 scope ce [it]) [] (wipe σ (own.map (·.2))) H' s' ∧ s'.heap.IsListIter it a i ∧ H' it = none ∧ W i m H' := fun {s' H'} I' nx => by
        obtain ⟨m', hm, w'⟩ := hNx H' nx
        have pin' := I'.pin (it, oi) (List.mem_append_right _ (List.mem_append_right _ (mem_pinsAt (List.mem_cons_self ..) ei)))
        have hl : (wipe σ (own.map (·.2))).length = σ8.length := by rw [← hw8, wipe_length]
        refine ⟨m', hm, i + 1, H', (I'.unpinned (pins := [])).weak hl (fun j v e => ?_), st'.at fun o e => ?_, pin'.2.1, w'⟩
        · rw [← hw8] at e
          exact (wipe_some e).1
        · have eo : o = oi := Option.some.inj (e.symm.trans ei)
          rw [eo]
          exact pin'.1
      cases b with
      | false =>
        simp only [Bool.false_eq_true, if_false] at q9 ⊢
        exact fin I9 q9
      | true =>
        simp only [if_true] at q9 ⊢
        refine thnF (pe.run _ s9 σ8 H9 _ I9 q9) fun z s10 ⟨yv, H10, I10, r10, acc, hD10, hz10, nx⟩ => ?_
        exact app_ok (X := X.blk s3 H3 scope ce [it]) I10 hD10 hz10 r10 fun s11 I11 => fin I11 nx
  exact codeAny_compStart_list loop (wpAny_pyIter_listiter st4 loop)
end ZdH

/-! ## Zd1 -/
set_option Elab.async false
set_option linter.all false
set_option maxRecDepth 100000
set_option maxHeartbeats 4000000
/-! Data without a heap: what values stand for, and a weakest-precondition calculus over it. -/
namespace Zd
open PySem L2

inductive D where
  | non | bl (b : Bool) | int (i : Int) | str (s : Str) | tup (xs : List D) | lst (xs : List D) | dic (ks : List Key) (ds : List D)

abbrev Ex (H H' : Hp) : Prop := ∀ a o, H a = some o → H' a = some o

mutual
/-- v stands for d, as the heap G has it -/
def Rp (K : PySem.W.Frag) (G : Hp) : D → V → Prop
  | .non, v => v = .non
  | .bl b, v => v = .bl b
  | .int i, v => v = .int i
  | .str s, v => v = .str s
  | .tup ds, v => ∃ a vs, v = .ref a ∧ SqT K G a vs ∧ Rps K G ds vs
  | .lst ds, v => ∃ a vs, v = .ref a ∧ G a = some (.lst vs) ∧ Rps K G ds vs
  | .dic ks ds, v => ∃ a vs, v = .ref a ∧ G a = some (.dK (ks.zip vs)) ∧ ks.length = ds.length ∧ Rps K G ds vs
def Rps (K : PySem.W.Frag) (G : Hp) : List D → List V → Prop
  | [], vs => vs = []
  | d :: ds, vs => ∃ v r, vs = v :: r ∧ Rp K G d v ∧ Rps K G ds r
end

theorem rd_ex {G G' : Hp} (e : Ex G G') {a : Addr} {o : HO} (h : Rd G a o) : Rd G' a o := by
  rcases h with h | ⟨u, h⟩
  · exact .inl (e _ _ h)
  · exact .inr ⟨u, e _ _ h⟩
theorem sqt_ex {K : PySem.W.Frag} {G G' : Hp} (e : Ex G G') {a : Addr} {vs : List V} (h : SqT K G a vs) : SqT K G' a vs := by
  rcases h with h | h
  · exact .inl (rd_ex e h)
  · exact .inr h
theorem sql_ex {K : PySem.W.Frag} {G G' : Hp} (e : Ex G G') {a : Addr} {vs : List V} (h : SqL K G a vs) : SqL K G' a vs := by
  rcases h with h | h
  · exact .inl (rd_ex e h)
  · exact .inr h

mutual
theorem Rp.ex {K : PySem.W.Frag} {G G' : Hp} (e : Ex G G') : ∀ {d : D} {v : V}, Rp K G d v → Rp K G' d v
  | .non, _, h => h
  | .bl _, _, h => h
  | .int _, _, h => h
  | .str _, _, h => h
  | .tup _, _, ⟨a, vs, h1, h2, h3⟩ => ⟨a, vs, h1, sqt_ex e h2, Rps.ex e h3⟩
  | .lst _, _, ⟨a, vs, h1, h2, h3⟩ => ⟨a, vs, h1, e _ _ h2, Rps.ex e h3⟩
  | .dic _ _, _, ⟨a, vs, h1, h2, h3, h4⟩ => ⟨a, vs, h1, e _ _ h2, h3, Rps.ex e h4⟩
theorem Rps.ex {K : PySem.W.Frag} {G G' : Hp} (e : Ex G G') : ∀ {ds : List D} {vs : List V}, Rps K G ds vs → Rps K G' ds vs
  | [], _, h => h
  | _ :: _, _, ⟨v, r, h1, h2, h3⟩ => ⟨v, r, h1, Rp.ex e h2, Rps.ex e h3⟩
end
section
variable {K : PySem.W.Frag} {G : Hp}
theorem Rps.len : ∀ {ds : List D} {vs : List V}, Rps K G ds vs → vs.length = ds.length
  | [], _, h => by subst h; rfl
  | _ :: _, _, ⟨v, r, h1, _, h3⟩ => by subst h1; simp [Rps.len h3]
theorem Rps.get : ∀ {ds : List D} {vs : List V} {i : Nat} {d : D}, Rps K G ds vs → ds[i]? = some d → ∃ v, vs[i]? = some v ∧ Rp K G d v
  | [], _, i, d, _, h => by simp at h
  | x :: xs, _, 0, d, ⟨v, r, h1, h2, _⟩, h => by
    subst h1
    simp at h
    subst h
    exact ⟨v, rfl, h2⟩
  | x :: xs, _, i + 1, d, ⟨v, r, h1, _, h3⟩, h => by
    subst h1
    obtain ⟨w, e1, e2⟩ := Rps.get (i := i) (d := d) h3 (by simpa using h)
    exact ⟨w, by simpa using e1, e2⟩
theorem Rps.app : ∀ {ds es : List D} {vs ws : List V}, Rps K G ds vs → Rps K G es ws → Rps K G (ds ++ es) (vs ++ ws)
  | [], _, _, _, h, h' => by subst h; exact h'
  | _ :: _, _, _, _, ⟨v, r, h1, h2, h3⟩, h' => by subst h1; exact ⟨v, _, rfl, h2, Rps.app h3 h'⟩
theorem Rps.one {d : D} {v : V} (h : Rp K G d v) : Rps K G [d] [v] := ⟨v, [], rfl, h, rfl⟩
theorem Rps.take : ∀ {ds : List D} {vs : List V} (n : Nat), Rps K G ds vs → Rps K G (ds.take n) (vs.take n)
  | _, _, 0, _ => by simp; rfl
  | [], _, n + 1, h => by subst h; rfl
  | _ :: _, _, n + 1, ⟨v, r, h1, h2, h3⟩ => by subst h1; exact ⟨v, _, rfl, h2, Rps.take n h3⟩
theorem Rps.drop : ∀ {ds : List D} {vs : List V} (n : Nat), Rps K G ds vs → Rps K G (ds.drop n) (vs.drop n)
  | _, _, 0, h => by simpa using h
  | [], _, n + 1, h => by subst h; rfl
  | _ :: _, _, n + 1, ⟨v, r, h1, h2, h3⟩ => by subst h1; exact Rps.drop n h3
theorem Rps.rev : ∀ {ds : List D} {vs : List V}, Rps K G ds vs → Rps K G ds.reverse vs.reverse
  | [], _, h => by subst h; rfl
  | _ :: _, _, ⟨v, r, h1, h2, h3⟩ => by
    subst h1
    rw [List.reverse_cons, List.reverse_cons]
    exact Rps.app (Rps.rev h3) (Rps.one h2)
theorem Rps.set : ∀ {ds : List D} {vs : List V} {d : D} {v : V} (i : Nat), Rps K G ds vs → Rp K G d v → Rps K G (ds.set i d) (vs.set i v)
  | [], _, _, _, i, h, _ => by subst h; simp; rfl
  | _ :: _, _, _, _, 0, ⟨w, r, h1, h2, h3⟩, h => by subst h1; exact ⟨_, r, rfl, h, h3⟩
  | _ :: _, _, _, _, i + 1, ⟨w, r, h1, h2, h3⟩, h => by subst h1; exact ⟨w, _, rfl, h2, Rps.set i h3 h⟩
theorem Rps.ints : ∀ {ns : List Int} {vs : List V}, Rps K G (ns.map D.int) vs → vs = ns.map V.int
  | [], _, h => h
  | n :: ns, _, ⟨v, r, h1, h2, h3⟩ => by
    subst h1
    have e : v = .int n := h2
    rw [e, Rps.ints h3]
    rfl
theorem Rps.ofInts : ∀ (ns : List Int), Rps K G (ns.map D.int) (ns.map V.int)
  | [] => rfl
  | n :: ns => ⟨_, _, rfl, rfl, Rps.ofInts ns⟩
theorem Rps.strs : ∀ {ns : List Str} {vs : List V}, Rps K G (ns.map D.str) vs → vs = ns.map V.str
  | [], _, h => h
  | n :: ns, _, ⟨v, r, h1, h2, h3⟩ => by
    subst h1
    have e : v = .str n := h2
    rw [e, Rps.strs h3]
    rfl
theorem Rps.ofStrs : ∀ (ns : List Str), Rps K G (ns.map D.str) (ns.map V.str)
  | [] => rfl
  | n :: ns => ⟨_, _, rfl, rfl, Rps.ofStrs ns⟩
end

/-! ### what may change -/
def NT (o : HO) : Prop := ∀ ps, o ≠ .tbl ps
theorem nt_lst {xs : List V} : NT (.lst xs) := fun _ z => by cases z
theorem nt_tup {xs : List V} : NT (.tup xs) := fun _ z => by cases z
theorem nt_dK {xs : List (Key × V)} : NT (.dK xs) := fun _ z => by cases z
theorem nt_xd {xs : List (Str × V)} : NT (.xd xs) := fun _ z => by cases z
abbrev Tb := List (Addr × Str)
def NoT (G : Hp) : Prop := ∀ a ps, G a ≠ some (.tbl ps)
def TabOk (T : Tb) (G H : Hp) : Prop := LamX.Tabs T H ∧ (∀ p ∈ T, G p.1 = none) ∧ NoT G
theorem NoT.upd {G : Hp} (h : NoT G) {p : Addr} {o : HO} (n : NT o) : NoT (upd G p o) := fun a ps z => by
  by_cases e : a = p
  · rw [e, upd_same] at z
    exact n ps (Option.some.inj z)
  · rw [upd_ne e] at z
    exact h a ps z
structure Mv (T : Tb) (S : Addr → Prop) (G H G' H' : Hp) : Prop where
  oh : Ex G H
  gg : Ex G G'
  gh : Ex G' H'
  st : ∀ a o, H a = some o → NT o → G a = none → G' a = none ∧ ∃ o', H' a = some o' ∧ NT o' ∧ (¬ S a → o' = o)
  tb : TabOk T G H → TabOk T G' H'
theorem Mv.refl {T : Tb} {S : Addr → Prop} {G H : Hp} (e : Ex G H) : Mv T S G H G H := ⟨e, fun _ _ h => h, e, fun a o h n g => ⟨g, o, h, n, fun _ => rfl⟩, fun h => h⟩
theorem Mv.trans {T : Tb} {S : Addr → Prop} {G H G1 H1 G2 H2 : Hp} (a : Mv T S G H G1 H1) (b : Mv T S G1 H1 G2 H2) : Mv T S G H G2 H2 where
  oh := a.oh
  gg := fun x o h => b.gg x o (a.gg x o h)
  gh := b.gh
  st := fun x o h n g => by
    obtain ⟨g1, o1, h1, n1, e1⟩ := a.st x o h n g
    obtain ⟨g2, o2, h2, n2, e2⟩ := b.st x o1 h1 n1 g1
    exact ⟨g2, o2, h2, n2, fun z => (e2 z).trans (e1 z)⟩
  tb := fun h => b.tb (a.tb h)
theorem Mv.mono {T : Tb} {S S' : Addr → Prop} {G H G1 H1 : Hp} (a : Mv T S G H G1 H1) (h : ∀ x, S x → S' x) : Mv T S' G H G1 H1 :=
  ⟨a.oh, a.gg, a.gh, fun x o q n g => let ⟨g1, o1, h1, n1, e1⟩ := a.st x o q n g; ⟨g1, o1, h1, n1, fun z => e1 fun y => z (h x y)⟩, a.tb⟩

theorem Mv.ggh {T : Tb} {S : Addr → Prop} {G H G' H' : Hp} (m : Mv T S G H G' H') {a : Addr} {u o : HO} (g : G a = some u) (h : H a = some o) : u = o := by
  have z := m.oh a u g
  rw [h] at z
  exact (Option.some.inj z).symm
/-- a name's worth: data, or a list of one's own at an address -/
inductive DV where
  | dat (d : D) | own (p : Addr) (ds : List D) | fn (a : Addr)
abbrev Rho := List (Option DV)

/-- a def's running -/
structure Cd where
  K : PySem.W.Frag
  T : Tb
  S : Addr → Prop
  G0 : Hp
  H0 : Hp
  E : XK
  RZ : Addr → D → Prop
variable {c : Cd}
def Wr (c : Cd) (p : Addr) : Prop := ∀ o, c.H0 p = some o → NT o → c.S p
def RpV (c : Cd) (G H : Hp) : DV → V → Prop
  | .dat d, v => Rp c.K G d v
  | .own p ds, v => v = .ref p ∧ G p = none ∧ Wr c p ∧ ∃ vs, H p = some (.lst vs) ∧ Rps c.K G ds vs
  | .fn a, v => v = .ref a
/-- p was nothing there -/
def New (H : Hp) (p : Addr) : Prop := ∀ o, H p = some o → ¬ NT o
abbrev whatD (v : V) : HO := .xd [(("what" : Str), v)]
structure Sv (c : Cd) (G H : Hp) (σ : St) (ρ : Rho) : Prop where
  mv : Mv c.T c.S c.G0 c.H0 G H
  tb : TabOk c.T G H
  len : ρ.length = σ.length
  env : ∀ (i : Nat) (x : DV), ρ[i]? = some (some x) → ∃ v, σ[i]? = some (some v) ∧ RpV c G H x v
  inj : ∀ (i j : Nat) (p : Addr) (ds es : List D), ρ[i]? = some (some (.own p ds)) → ρ[j]? = some (some (.own p es)) → i = j
  xc : ∀ C dd dx v G' H', c.RZ C dd → Mv c.T c.S c.G0 c.H0 G' H' → New c.H0 dx → H' dx = some (whatD v) → Rp c.K G' dd v → c.E (.ref C) (some dx) H'
theorem Sv.ex {G H : Hp} {σ : St} {ρ : Rho} (s : Sv c G H σ ρ) : Ex G H := s.mv.gh

/-- a pure step: nothing that was is changed -/
structure Nx (G H G' H' : Hp) : Prop where
  oh : Ex G H
  gg : Ex G G'
  gh : Ex G' H'
  hh : Ex H H'
  nw : ∀ a o, H a = some o → G a = none → G' a = none
  nt : NoT G → NoT G'
theorem Nx.refl {G H : Hp} (e : Ex G H) : Nx G H G H := ⟨e, fun _ _ h => h, e, fun _ _ h => h, fun _ _ _ g => g, id⟩
theorem Nx.trans {G H G1 H1 G2 H2 : Hp} (a : Nx G H G1 H1) (b : Nx G1 H1 G2 H2) : Nx G H G2 H2 :=
  ⟨a.oh, fun x o h => b.gg x o (a.gg x o h), b.gh, fun x o h => b.hh x o (a.hh x o h), fun x o h g => b.nw x o (a.hh x o h) (a.nw x o h g), fun h => b.nt (a.nt h)⟩
theorem Nx.mv {T : Tb} {S : Addr → Prop} {G H G' H' : Hp} (n : Nx G H G' H') : Mv T S G H G' H' :=
  ⟨n.oh, n.gg, n.gh, fun a o h nt g => ⟨n.nw a o h g, o, n.hh a o h, nt, fun _ => rfl⟩, fun ⟨t1, t2, t3⟩ => ⟨t1.ext n.hh, fun p hp => by
    obtain ⟨ps, h1, _⟩ := t1 p hp
    exact n.nw _ _ h1 (t2 p hp), n.nt t3⟩⟩
theorem RpV.nx {G H G' H' : Hp} (n : Nx G H G' H') {x : DV} {v : V} (h : RpV c G H x v) : RpV c G' H' x v := by
  cases x with
  | dat d => exact Rp.ex n.gg h
  | fn a => exact h
  | own p ds =>
    obtain ⟨h1, h2, h3, vs, h4, h5⟩ := h
    exact ⟨h1, n.nw p _ h4 h2, h3, vs, n.hh _ _ h4, Rps.ex n.gg h5⟩
theorem Sv.nx {G H G' H' : Hp} {σ : St} {ρ : Rho} (s : Sv c G H σ ρ) (n : Nx G H G' H') : Sv c G' H' σ ρ :=
  ⟨s.mv.trans n.mv, (n.mv (T := c.T) (S := c.S)).tb s.tb, s.len, fun i x h => let ⟨v, e1, e2⟩ := s.env i x h; ⟨v, e1, e2.nx n⟩, s.inj, s.xc⟩
/-- a new object, known from now on -/
theorem Nx.new {G H : Hp} (e : Ex G H) {p : Addr} {o : HO} (hp : H p = none) (nt : NT o := by first | exact nt_lst | exact nt_tup | exact nt_dK | exact nt_xd) : Nx G H (upd G p o) (upd H p o) where
  oh := e
  gg := fun a u h => by
    rw [upd_ne (ne_of_none (e _ _ h) hp)]
    exact h
  gh := fun a u h => by
    by_cases z : a = p
    · rw [z, upd_same] at h ⊢
      exact h
    · rw [upd_ne z] at h ⊢
      exact e _ _ h
  hh := fun a u h => by
    rw [upd_ne (ne_of_none h hp)]
    exact h
  nw := fun a u h g => by
    rw [upd_ne (ne_of_none h hp)]
    exact g
  nt := fun h => h.upd nt
/-- a new object, one's own -/
theorem Nx.own {G H : Hp} (e : Ex G H) {p : Addr} {o : HO} (hp : H p = none) : Nx G H G (upd H p o) where
  oh := e
  gg := fun _ _ h => h
  gh := fun a u h => by
    rw [upd_ne (ne_of_none (e _ _ h) hp)]
    exact e _ _ h
  hh := fun a u h => by
    rw [upd_ne (ne_of_none h hp)]
    exact h
  nw := fun _ _ _ g => g
  nt := id
/-- an own object becomes known -/
theorem Nx.frz {G H : Hp} (e : Ex G H) {p : Addr} {o : HO} (hp : H p = some o) (hg : G p = none) : Ex G (upd G p o) ∧ Ex (upd G p o) H := by
  refine ⟨fun a u h => ?_, fun a u h => ?_⟩
  · rw [upd_ne (ne_of_none h hg)]
    exact h
  · by_cases z : a = p
    · rw [z, upd_same] at h
      rw [z, ← h]
      exact hp
    · rw [upd_ne z] at h
      exact e _ _ h
theorem wr_of {G H : Hp} {p : Addr} (m : Mv c.T c.S c.G0 c.H0 G H) (hp : H p = none) : Wr c p := fun o ho hn => by
  cases g : c.G0 p with
  | some u =>
    have z := m.gh p u (m.gg p u g)
    rw [hp] at z
    cases z
  | none =>
    obtain ⟨_, o', h', _⟩ := m.st p o ho hn g
    rw [hp] at h'
    cases h'
end Zd

/-! ## Zd2 -/
set_option Elab.async false
set_option linter.all false
set_option maxRecDepth 100000
set_option maxHeartbeats 4000000
namespace Zd
open PySem L2
variable {c : Cd}

/-! ### states -/
section
variable {G H : Hp} {σ : St} {ρ : Rho}
theorem Sv.lt (s : Sv c G H σ ρ) {i : Nat} {x : Option DV} (h : ρ[i]? = some x) : i < σ.length := by
  rw [← s.len]
  exact (List.getElem?_eq_some_iff.mp h).1
theorem Sv.dat (s : Sv c G H σ ρ) {i : Nat} {d : D} (h : ρ[i]? = some (some (.dat d))) : ∃ v, σ[i]? = some (some v) ∧ Rp c.K G d v := s.env i _ h
theorem Sv.own (s : Sv c G H σ ρ) {i : Nat} {p : Addr} {ds : List D} (h : ρ[i]? = some (some (.own p ds))) : σ[i]? = some (some (.ref p)) ∧ G p = none ∧ Wr c p ∧ ∃ vs, H p = some (.lst vs) ∧ Rps c.K G ds vs := by
  obtain ⟨v, e, h1, h2, h3, h4⟩ := s.env i _ h
  exact ⟨by rw [e, h1], h2, h3, h4⟩
theorem Sv.set (s : Sv c G H σ ρ) {i : Nat} {d : D} {v : V} (h : Rp c.K G d v) (hi : i < ρ.length) : Sv c G H (σ.set i (some v)) (ρ.set i (some (.dat d))) := by
  have hi' : i < σ.length := by rw [← s.len]; exact hi
  refine ⟨s.mv, s.tb, by simpa using s.len, fun j x hx => ?_, fun j k p ds es h1 h2 => ?_, s.xc⟩
  · by_cases e : i = j
    · subst e
      rw [List.getElem?_set_self hi] at hx
      cases hx
      exact ⟨v, by rw [List.getElem?_set_self hi'], h⟩
    · rw [List.getElem?_set_ne e] at hx ⊢
      exact s.env j x hx
  · have n1 : i ≠ j := fun e => by
      subst e
      rw [List.getElem?_set_self hi] at h1
      cases h1
    have n2 : i ≠ k := fun e => by
      subst e
      rw [List.getElem?_set_self hi] at h2
      cases h2
    rw [List.getElem?_set_ne n1] at h1
    rw [List.getElem?_set_ne n2] at h2
    exact s.inj j k p ds es h1 h2
theorem Sv.setN (s : Sv c G H σ ρ) {i : Nat} {p : Addr} {ds : List D} {vs : List V} (hg : G p = none) (hw : Wr c p) (hp : H p = some (.lst vs)) (h : Rps c.K G ds vs)
    (hn : ∀ (j : Nat) es, ρ[j]? ≠ some (some (.own p es))) (hi : i < ρ.length) : Sv c G H (σ.set i (some (.ref p))) (ρ.set i (some (.own p ds))) := by
  have hi' : i < σ.length := by rw [← s.len]; exact hi
  refine ⟨s.mv, s.tb, by simpa using s.len, fun j x hx => ?_, fun j k q es fs h1 h2 => ?_, s.xc⟩
  · by_cases e : i = j
    · subst e
      rw [List.getElem?_set_self hi] at hx
      cases hx
      exact ⟨_, by rw [List.getElem?_set_self hi'], rfl, hg, hw, vs, hp, h⟩
    · rw [List.getElem?_set_ne e] at hx ⊢
      exact s.env j x hx
  · by_cases e1 : i = j
    · subst e1
      rw [List.getElem?_set_self hi] at h1
      cases h1
      by_cases e2 : i = k
      · exact e2
      · rw [List.getElem?_set_ne e2] at h2
        exact absurd h2 (hn k _)
    · rw [List.getElem?_set_ne e1] at h1
      by_cases e2 : i = k
      · subst e2
        rw [List.getElem?_set_self hi] at h2
        cases h2
        exact absurd h1 (hn j _)
      · rw [List.getElem?_set_ne e2] at h2
        exact s.inj j k q es fs h1 h2
theorem tab_upd {T : Tb} {p : Addr} {u o : HO} (h : TabOk T G H) (hp : H p = some u) (nt : NT u) (nc : ∀ q, u ≠ LamX.CodeO p q) : TabOk T G (upd H p o) := by
  refine ⟨fun x hx => ?_, h.2⟩
  obtain ⟨ps, h1, h2, h3⟩ := h.1 x hx
  have n1 : x.1 ≠ p := fun e => by
    rw [e, hp] at h1
    exact nt ps (Option.some.inj h1)
  refine ⟨ps, by rw [upd_ne n1]; exact h1, h2, fun pos cv hc => ?_⟩
  obtain ⟨q, e1, e2⟩ := h3 pos cv hc
  have n2 : q ≠ p := fun e => by
    subst e
    rw [hp] at e2
    exact nc _ (Option.some.inj e2)
  exact ⟨q, e1, by rw [upd_ne n2]; exact e2⟩
theorem lst_ne_code {vs : List V} {p : Addr} (q : Str) : HO.lst vs ≠ LamX.CodeO p q := fun z => by
  unfold LamX.CodeO at z
  cases z
/-- one's own list is written -/
theorem Sv.mut (s : Sv c G H σ ρ) {i : Nat} {p : Addr} {ds es : List D} {ws : List V} (h : ρ[i]? = some (some (.own p ds))) (hr : Rps c.K G es ws) : Sv c G (upd H p (.lst ws)) σ (ρ.set i (some (.own p es))) := by
  obtain ⟨h1, h2, h3, vs, h4, h5⟩ := s.own h
  have hi : i < ρ.length := (List.getElem?_eq_some_iff.mp h).1
  refine ⟨⟨s.mv.oh, s.mv.gg, fun a o e => ?_, fun a o e nt g => ?_, fun t => tab_upd (s.mv.tb t) h4 nt_lst lst_ne_code⟩, tab_upd s.tb h4 nt_lst lst_ne_code, by simpa using s.len, fun j x hx => ?_, fun j k q fs gs e1 e2 => ?_, s.xc⟩
  · rw [upd_ne (ne_of_none e h2)]
    exact s.mv.gh a o e
  · obtain ⟨g1, o', e1, n1, k1⟩ := s.mv.st a o e nt g
    refine ⟨g1, ?_⟩
    by_cases z : a = p
    · subst z
      exact ⟨_, upd_same, nt_lst, fun y => absurd (h3 o e nt) y⟩
    · exact ⟨o', by rw [upd_ne z]; exact e1, n1, k1⟩
  · by_cases e : i = j
    · subst e
      rw [List.getElem?_set_self hi] at hx
      cases hx
      exact ⟨_, h1, rfl, h2, h3, ws, upd_same, hr⟩
    · rw [List.getElem?_set_ne e] at hx
      obtain ⟨v, e1, e2⟩ := s.env j x hx
      refine ⟨v, e1, ?_⟩
      cases x with
      | dat d => exact e2
      | fn a => exact e2
      | own q fs =>
        obtain ⟨f1, f2, f3, us, f4, f5⟩ := e2
        have n : q ≠ p := fun y => by
          subst y
          exact e (s.inj i j _ _ _ h hx)
        exact ⟨f1, f2, f3, us, by rw [upd_ne n]; exact f4, f5⟩
  · by_cases n1 : i = j
    · by_cases n2 : i = k
      · exact n1.symm.trans n2
      · subst n1
        rw [List.getElem?_set_self hi] at e1
        cases e1
        rw [List.getElem?_set_ne n2] at e2
        exact absurd (s.inj i k _ _ _ h e2) n2
    · rw [List.getElem?_set_ne n1] at e1
      by_cases n2 : i = k
      · subst n2
        rw [List.getElem?_set_self hi] at e2
        cases e2
        exact absurd (s.inj i j _ _ _ h e1) n1
      · rw [List.getElem?_set_ne n2] at e2
        exact s.inj j k q fs gs e1 e2
/-- G has more than it had, nothing else changed: what is one's own is not in it -/
theorem Sv.more {G' : Hp} (s : Sv c G H σ ρ) (e1 : Ex G G') (e2 : Ex G' H) (hn : ∀ a o, c.H0 a = some o → NT o → c.G0 a = none → G' a = none) (ht : ∀ p ∈ c.T, G' p.1 = none) (hnt : NoT G')
    (ho : ∀ (j : Nat) q es, ρ[j]? = some (some (.own q es)) → G' q = none) : Sv c G' H σ ρ := by
  refine ⟨⟨s.mv.oh, fun a o h => e1 a o (s.mv.gg a o h), e2, fun a o h n g => ⟨hn a o h n g, (s.mv.st a o h n g).2⟩, fun t => ⟨(s.mv.tb t).1, ht, hnt⟩⟩, ⟨s.tb.1, ht, hnt⟩, s.len, fun j x hx => ?_, s.inj, s.xc⟩
  obtain ⟨v, f1, f2⟩ := s.env j x hx
  refine ⟨v, f1, ?_⟩
  cases x with
  | dat d => exact Rp.ex e1 f2
  | fn a => exact f2
  | own q es =>
    obtain ⟨k1, k2, k3, us, k4, k5⟩ := f2
    exact ⟨k1, ho j q es hx, k3, us, k4, Rps.ex e1 k5⟩
/-- a list of one's own that stands nowhere becomes data -/
theorem Sv.know (s : Sv c G H σ ρ) {p : Addr} {vs : List V} (hp : H p = some (.lst vs)) (hg : G p = none) (hw : ∀ o, c.H0 p = some o → ¬ NT o) (hn : ∀ (j : Nat) es, ρ[j]? ≠ some (some (.own p es))) :
    Sv c (upd G p (.lst vs)) H σ ρ := by
  obtain ⟨e1, e2⟩ := Nx.frz s.ex hp hg
  refine s.more e1 e2 (fun a o h n g => ?_) (fun x hx => ?_) (s.tb.2.2.upd nt_lst) fun j q es h => ?_
  · have z : a ≠ p := fun y => by
      subst y
      exact hw o h n
    rw [upd_ne z]
    exact (s.mv.st a o h n g).1
  · have z : x.1 ≠ p := fun y => by
      obtain ⟨ps, h1, _⟩ := s.tb.1 x hx
      rw [y, hp] at h1
      cases h1
    rw [upd_ne z]
    exact s.tb.2.1 x hx
  · have z : q ≠ p := fun y => by
      subst y
      exact hn j es h
    rw [upd_ne z]
    exact (s.own h).2.1
/-- a name's own list becomes data -/
theorem Sv.frz (s : Sv c G H σ ρ) {i : Nat} {p : Addr} {ds : List D} (h : ρ[i]? = some (some (.own p ds))) (hs : ∀ o, c.H0 p = some o → ¬ NT o) : ∃ G', Sv c G' H σ (ρ.set i (some (.dat (.lst ds)))) ∧ Ex G G' := by
  obtain ⟨h1, h2, h3, vs, h4, h5⟩ := s.own h
  have hi : i < ρ.length := (List.getElem?_eq_some_iff.mp h).1
  have z : Sv c G H σ (ρ.set i none) := by
    refine ⟨s.mv, s.tb, by simpa using s.len, fun j x hx => ?_, fun j k q fs gs e1 e2 => ?_, s.xc⟩
    · by_cases e : i = j
      · subst e
        rw [List.getElem?_set_self hi] at hx
        cases hx
      · rw [List.getElem?_set_ne e] at hx
        exact s.env j x hx
    · have n1 : i ≠ j := fun e => by
        subst e
        rw [List.getElem?_set_self hi] at e1
        cases e1
      have n2 : i ≠ k := fun e => by
        subst e
        rw [List.getElem?_set_self hi] at e2
        cases e2
      rw [List.getElem?_set_ne n1] at e1
      rw [List.getElem?_set_ne n2] at e2
      exact s.inj j k q fs gs e1 e2
  have y := z.know h4 h2 hs fun j es e => by
    by_cases n : i = j
    · subst n
      rw [List.getElem?_set_self hi] at e
      cases e
    · rw [List.getElem?_set_ne n] at e
      exact n (s.inj i j p ds es h e)
  have w := y.set (i := i) (d := .lst ds) (v := .ref p) ⟨p, vs, rfl, upd_same, Rps.ex (Nx.frz s.ex h4 h2).1 h5⟩ (by simpa using hi)
  have e1 : (ρ.set i none).set i (some (.dat (.lst ds))) = ρ.set i (some (.dat (.lst ds))) := by simp
  have e2 : σ.set i (some (.ref p)) = σ := by
    apply List.ext_getElem?
    intro j
    by_cases n : i = j
    · subst n
      rw [List.getElem?_set_self (s.lt h), h1]
    · rw [List.getElem?_set_ne n]
  rw [e1, e2] at w
  exact ⟨_, w, (Nx.frz s.ex h4 h2).1⟩
theorem Sv.fresh (s : Sv c G H σ ρ) {p : Addr} (hp : H p = none) : G p = none ∧ (∀ o, c.H0 p = some o → ¬ NT o) ∧ ∀ (j : Nat) es, ρ[j]? ≠ some (some (.own p es)) := by
  refine ⟨?_, fun o h n => ?_, fun j es h => ?_⟩
  · cases g : G p with
    | none => rfl
    | some o =>
      rw [s.ex p o g] at hp
      cases hp
  · cases g : c.G0 p with
    | some u =>
      rw [s.ex p u (s.mv.gg p u g)] at hp
      cases hp
    | none =>
      obtain ⟨_, o', h', _⟩ := s.mv.st p o h n g
      rw [hp] at h'
      cases h'
  · obtain ⟨_, _, _, vs, h4, _⟩ := s.own h
    rw [hp] at h4
    cases h4
end
/-- not at the entry -/
def Nw (c : Cd) (p : Addr) : Prop := ∀ o, c.H0 p = some o → ¬ NT o
theorem Nw.wr {p : Addr} (h : Nw c p) : Wr c p := fun o e n => absurd n (h o e)

/-- what an evaluation may do: it knows more; what is nobody's here stays as it is -/
def NotOwn (ρ : Rho) (a : Addr) : Prop := ∀ (j : Nat) es, ρ[j]? ≠ some (some (.own a es))
structure Tr (ρ : Rho) (G H : Hp) (ρ' : Rho) (G' H' : Hp) : Prop where
  ex : Ex G G'
  dm : ∀ a o, H a = some o → NT o → ∃ o', H' a = some o' ∧ NT o'
  fr : ∀ a o, H a = some o → NT o → G a = none → NotOwn ρ a → H' a = some o ∧ G' a = none ∧ NotOwn ρ' a
theorem Tr.refl {ρ : Rho} {G H : Hp} : Tr ρ G H ρ G H := ⟨fun _ _ z => z, fun a o h n => ⟨o, h, n⟩, fun a o h n g k => ⟨h, g, k⟩⟩
theorem Tr.trans {ρ ρ1 ρ2 : Rho} {G H G1 H1 G2 H2 : Hp} (x : Tr ρ G H ρ1 G1 H1) (y : Tr ρ1 G1 H1 ρ2 G2 H2) : Tr ρ G H ρ2 G2 H2 :=
  ⟨fun a o z => y.ex a o (x.ex a o z), fun a o h n => let ⟨o', h', n'⟩ := x.dm a o h n; y.dm a o' h' n', fun a o h n g k => let ⟨h1, g1, k1⟩ := x.fr a o h n g k; y.fr a o h1 n g1 k1⟩
theorem Tr.nx {ρ : Rho} {G H G' H' : Hp} (n : Nx G H G' H') : Tr ρ G H ρ G' H' := ⟨n.gg, fun a o h nt => ⟨o, n.hh a o h, nt⟩, fun a o h nt g k => ⟨n.hh a o h, n.nw a o h g, k⟩⟩
theorem Tr.new {ρ ρ1 : Rho} {G H G1 H1 : Hp} (x : Tr ρ G H ρ1 G1 H1) {p : Addr} (h : New H1 p) : New H p := fun o ho n => by
  obtain ⟨o', h', n'⟩ := x.dm p o ho n
  exact h o' h' n'
theorem New.of {H : Hp} {p : Addr} (h : H p = none) : New H p := fun o ho _ => by
  rw [h] at ho
  cases ho

/-! ### the calculus: expressions -/
def EvD (c : Cd) (te : TE) (ρ : Rho) (P : D → Rho → Prop) : Prop := ∀ (σ : St) (G H : Hp) (Q : VK), Sv c G H σ ρ → (∀ v d ρ' G' H', P d ρ' → Sv c G' H' σ ρ' → Tr ρ G H ρ' G' H' → Rp c.K G' d v → Q v H') → te σ H Q
def EvT (c : Cd) (tt : TT) (ρ : Rho) (P : Bool → Rho → Prop) : Prop := ∀ (σ : St) (G H : Hp) (Q : Bool → Hp → Prop), Sv c G H σ ρ → (∀ b ρ' G' H', P b ρ' → Sv c G' H' σ ρ' → Tr ρ G H ρ' G' H' → Q b H') → tt σ H Q
def EvA (c : Cd) (ta : TA) (ρ : Rho) (P : List D → Rho → Prop) : Prop := ∀ (σ : St) (G H : Hp) (Q : List V → Hp → Prop), Sv c G H σ ρ → (∀ vs ds ρ' G' H', P ds ρ' → Sv c G' H' σ ρ' → Tr ρ G H ρ' G' H' → Rps c.K G' ds vs → Q vs H') → ta σ H Q
/-- a new list, not yet data -/
def EvN (c : Cd) (te : TE) (ρ : Rho) (P : List D → Rho → Prop) : Prop := ∀ (σ : St) (G H : Hp) (Q : VK), Sv c G H σ ρ →
  (∀ p ds vs ρ' G' H', P ds ρ' → Sv c G' H' σ ρ' → Tr ρ G H ρ' G' H' → H' p = some (.lst vs) → G' p = none → Rps c.K G' ds vs → Nw c p ∧ New H p → (∀ (j : Nat) es, ρ'[j]? ≠ some (some (.own p es))) → Q (.ref p) H') → te σ H Q
section
variable {te ta tb : TE} {ρ : Rho} {P P' : D → Rho → Prop}
theorem EvD.imp (h : EvD c te ρ P) (k : ∀ d ρ', P d ρ' → P' d ρ') : EvD c te ρ P' := fun σ G H Q s q => h σ G H Q s fun v d ρ' G' H' p => q v d ρ' G' H' (k d ρ' p)
theorem EvD.of_N {PN : List D → Rho → Prop} (h : EvN c te ρ PN) (k : ∀ ds ρ', PN ds ρ' → P (.lst ds) ρ') : EvD c te ρ P := fun σ G H Q s q => h σ G H Q s fun p ds vs ρ' G' H' hp s' e h1 h2 h3 h4 h5 =>
  q (.ref p) (.lst ds) ρ' _ H' (k ds ρ' hp) (s'.know h1 h2 h4.1 h5) ⟨fun a o z => (Nx.frz s'.ex h1 h2).1 a o (e.ex a o z), e.dm, fun a o x1 x2 x3 x4 => by
      obtain ⟨y1, y2, y3⟩ := e.fr a o x1 x2 x3 x4
      refine ⟨y1, ?_, y3⟩
      rw [upd_ne (fun z => by rw [z] at x1; exact h4.2 o x1 x2)]
      exact y2⟩ ⟨p, vs, rfl, upd_same, Rps.ex (Nx.frz s'.ex h1 h2).1 h3⟩
theorem w_var {i : Nat} {d : D} (h : ρ[i]? = some (some (.dat d))) (k : P d ρ) : EvD c (tVar i) ρ P := fun σ G H Q s q => by
  obtain ⟨v, e, r⟩ := s.dat h
  exact ⟨v, e, q v d ρ G H k s .refl r⟩
def ofV : V → D
  | .bl b => .bl b
  | .int i => .int i
  | .str s => .str s
  | _ => .non
def plainV : V → Bool
  | .non => true
  | .bl _ => true
  | .int _ => true
  | .str _ => true
  | _ => false
theorem rp_ofV {K : PySem.W.Frag} {G : Hp} : ∀ {v : V}, plainV v = true → Rp K G (ofV v) v
  | .non, _ => rfl
  | .bl _, _ => rfl
  | .int _, _ => rfl
  | .str _, _ => rfl
theorem w_c {v : V} (hv : plainV v = true) (k : P (ofV v) ρ) : EvD c (tC v) ρ P := fun σ G H Q s q => q v _ ρ G H k s .refl (rp_ofV hv)
theorem w_int {i : Int} (k : P (.int i) ρ) : EvD c (tC (.int i)) ρ P := w_c rfl k
theorem w_str {i : Str} (k : P (.str i) ρ) : EvD c (tC (.str i)) ρ P := w_c rfl k
theorem w_bl {i : Bool} (k : P (.bl i) ρ) : EvD c (tC (.bl i)) ρ P := w_c rfl k
theorem w_non (k : P .non ρ) : EvD c (tC .non) ρ P := w_c rfl k
/-! ### by values -/
def RD (K : PySem.W.Frag) (r : R2) (d1 d2 : D) (P : D → Prop) : Prop := ∀ v1 v2 (G H : Hp) (Q : VK), Ex G H → Rp K G d1 v1 → Rp K G d2 v2 → (∀ v d G' H', P d → Nx G H G' H' → Rp K G' d v → Q v H') → r v1 v2 H Q
def RN (K : PySem.W.Frag) (r : R2) (d1 d2 : D) (P : List D → Prop) : Prop := ∀ v1 v2 (G H : Hp) (Q : VK), Ex G H → Rp K G d1 v1 → Rp K G d2 v2 → (∀ p ds vs, P ds → H p = none → Rps K G ds vs → Q (.ref p) (upd H p (.lst vs))) → r v1 v2 H Q
theorem w_op {r : R2} (h : EvD c ta ρ fun d1 ρ1 => EvD c tb ρ1 fun d2 ρ2 => RD c.K r d1 d2 fun d => P d ρ2) : EvD c (tOp r ta tb) ρ P := fun σ G H Q s q =>
  h σ G H _ s fun v1 d1 ρ1 G1 H1 h1 s1 e1 r1 => h1 σ G1 H1 _ s1 fun v2 d2 ρ2 G2 H2 h2 s2 e2 r2 =>
    h2 v1 v2 G2 H2 Q s2.ex (Rp.ex e2.ex r1) r2 fun v d G3 H3 p n r3 => q v d ρ2 G3 H3 p (s2.nx n) ((e1.trans e2).trans (.nx n)) r3
theorem w_opN {r : R2} {PN : List D → Rho → Prop} (h : EvD c ta ρ fun d1 ρ1 => EvD c tb ρ1 fun d2 ρ2 => RN c.K r d1 d2 fun d => PN d ρ2) : EvN c (tOp r ta tb) ρ PN := fun σ G H Q s q =>
  h σ G H _ s fun v1 d1 ρ1 G1 H1 h1 s1 e1 r1 => h1 σ G1 H1 _ s1 fun v2 d2 ρ2 G2 H2 h2 s2 e2 r2 =>
    h2 v1 v2 G2 H2 Q s2.ex (Rp.ex e2.ex r1) r2 fun p ds vs hp hn hr => by
      obtain ⟨f1, f2, f3⟩ := s2.fresh hn
      exact q p ds vs ρ2 G2 _ hp (s2.nx (Nx.own s2.ex hn)) ((e1.trans e2).trans (.nx (Nx.own s2.ex hn))) upd_same f1 hr ⟨f2, (e1.trans e2).new (.of hn)⟩ f3
theorem RD.of_N {K : PySem.W.Frag} {r : R2} {d1 d2 : D} {P : D → Prop} (h : RN K r d1 d2 fun ds => P (.lst ds)) : RD K r d1 d2 P := fun v1 v2 G H Q e r1 r2 q => h v1 v2 G H Q e r1 r2 fun p ds vs hp hn hr =>
  q _ _ _ _ hp (Nx.new e hn) ⟨p, vs, rfl, upd_same, Rps.ex (Nx.new e hn).gg hr⟩
end
section
variable {K : PySem.W.Frag} {P : D → Prop} {i j : Int} {d1 d2 : D}
theorem RD.val {r : R2} {d : D} (k : P d) (h : ∀ v1 v2 (G H : Hp) (Q : VK), Ex G H → Rp K G d1 v1 → Rp K G d2 v2 → (∀ v, Rp K G d v → Q v H) → r v1 v2 H Q) : RD K r d1 d2 P :=
  fun v1 v2 G H Q e r1 r2 q => h v1 v2 G H Q e r1 r2 fun v rv => q v d G H k (Nx.refl e) rv
theorem r_I0 {g : Int → Int → V} (hg : plainV (g i j) = true) (k : P (ofV (g i j))) : RD K (rI0 g) (.int i) (.int j) P := RD.val k fun v1 v2 G H Q e r1 r2 q => by
  cases r1
  cases r2
  exact ⟨i, j, rfl, rfl, q _ (rp_ofV hg)⟩
theorem r_I {C : Int → Int → Prop} {g : Int → Int → V} (hc : C i j) (hg : plainV (g i j) = true) (k : P (ofV (g i j))) : RD K (rI C g) (.int i) (.int j) P := RD.val k fun v1 v2 G H Q e r1 r2 q => by
  cases r1
  cases r2
  exact ⟨i, j, rfl, rfl, hc, q _ (rp_ofV hg)⟩
/-- == of things without parts -/
def scalD : D → D → Bool
  | .non, .non => true
  | .non, .int _ => true
  | .int _, .non => true
  | .non, .bl _ => true
  | .bl _, .non => true
  | .non, .str _ => true
  | .str _, .non => true
  | .int _, .int _ => true
  | .bl _, .bl _ => true
  | .str _, .str _ => true
  | .int _, .str _ => true
  | .str _, .int _ => true
  | _, _ => false
end
end Zd

/-! ## Zd3 -/
set_option Elab.async false
set_option linter.all false
set_option maxRecDepth 100000
set_option maxHeartbeats 4000000
namespace Zd
open PySem L2
variable {c : Cd}
section
variable {K : PySem.W.Frag} {P : D → Prop} {PN : List D → Prop} {i j : Int} {d1 d2 : D}
/-! ### operators -/
theorem r_add (k : P (.int (i + j))) : RD K (rI0 fun i j => .int (i + j)) (.int i) (.int j) P := r_I0 rfl k
theorem r_sub (k : P (.int (i - j))) : RD K (rI0 fun i j => .int (i - j)) (.int i) (.int j) P := r_I0 rfl k
theorem r_lt (k : P (.bl (decide (i < j)))) : RD K (rI0 fun i j => .bl (decide (i < j))) (.int i) (.int j) P := r_I0 rfl k
theorem r_le (k : P (.bl (decide (i ≤ j)))) : RD K (rI0 fun i j => .bl (decide (i ≤ j))) (.int i) (.int j) P := r_I0 rfl k
theorem r_gt (k : P (.bl (decide (j < i)))) : RD K (rI0 fun i j => .bl (decide (j < i))) (.int i) (.int j) P := r_I0 rfl k
theorem r_ge (k : P (.bl (decide (j ≤ i)))) : RD K (rI0 fun i j => .bl (decide (j ≤ i))) (.int i) (.int j) P := r_I0 rfl k
theorem r_mul (h : CMul i j) (k : P (.int (i * j))) : RD K (rI CMul fun i j => .int (i * j)) (.int i) (.int j) P := r_I h rfl k
theorem r_mulW (h : CMulW i j) (k : P (.int (i * j))) : RD K (rI CMulW fun i j => .int (i * j)) (.int i) (.int j) P := r_I h rfl k
theorem r_fdiv (h : CDiv i j) (k : P (.int (i / j))) : RD K (rI CDiv fun i j => .int (i / j)) (.int i) (.int j) P := r_I h rfl k
theorem r_mod (h : 0 < j) (k : P (.int (i % j))) : RD K (rI (fun _ j => 0 < j) fun i j => .int (i % j)) (.int i) (.int j) P := r_I h rfl k
theorem r_pow (h : CPow i j) (k : P (.int (i ^ j.toNat))) : RD K (rI CPow fun i j => .int (i ^ j.toNat)) (.int i) (.int j) P := r_I h rfl k
def eqS : D → D → Bool
  | .non, .non => true
  | .int i, .int j => decide (i = j)
  | .bl i, .bl j => decide (i = j)
  | .str i, .str j => decide (i = j)
  | _, _ => false
theorem dec_iff {a b : Prop} [Decidable a] [Decidable b] (h : a ↔ b) : decide a = decide b := by
  by_cases x : a
  · rw [decide_eq_true x, decide_eq_true (h.mp x)]
  · rw [decide_eq_false x, decide_eq_false fun y => x (h.mpr y)]
theorem scal_ok {G : Hp} {v1 v2 : V} (h : scalD d1 d2 = true) (r1 : Rp K G d1 v1) (r2 : Rp K G d2 v2) : scal v1 v2 = true ∧ decide (v1 = v2) = eqS d1 d2 := by
  cases d1 <;> cases d2 <;> first
    | exact absurd h Bool.false_ne_true
    | (cases r1; cases r2; exact ⟨rfl, by first | rfl | exact decide_eq_false (fun z => by cases z) | exact dec_iff ⟨fun z => by injection z, fun z => by rw [z]⟩⟩)
theorem r_eq (h : scalD d1 d2 = true) (k : P (.bl (eqS d1 d2))) : RD K rEq d1 d2 P := RD.val k fun v1 v2 G H Q e r1 r2 q => by
  obtain ⟨h1, h2⟩ := scal_ok h r1 r2
  exact ⟨h1, by rw [h2]; exact q _ rfl⟩
theorem r_ne (h : scalD d1 d2 = true) (k : P (.bl (!eqS d1 d2))) : RD K rNe d1 d2 P := RD.val k fun v1 v2 G H Q e r1 r2 q => by
  obtain ⟨h1, h2⟩ := scal_ok h r1 r2
  exact ⟨h1, by rw [h2]; exact q _ rfl⟩
def isNon : D → Bool
  | .non => true
  | _ => false
theorem dec_non {G : Hp} {d : D} {v : V} (r : Rp K G d v) : decide (v = .non) = isNon d := by
  cases d with
  | non => cases r; rfl
  | bl b => cases r; exact decide_eq_false (fun z => by cases z)
  | int i => cases r; exact decide_eq_false (fun z => by cases z)
  | str x => cases r; exact decide_eq_false (fun z => by cases z)
  | tup ds => obtain ⟨a, vs, e, _⟩ := r; subst e; exact decide_eq_false (fun z => by cases z)
  | lst ds => obtain ⟨a, vs, e, _⟩ := r; subst e; exact decide_eq_false (fun z => by cases z)
  | dic ks ds => obtain ⟨a, vs, e, _⟩ := r; subst e; exact decide_eq_false (fun z => by cases z)
theorem r_isN {d : D} (k : P (.bl (isNon d))) : RD K rIsN d .non P := RD.val k fun v1 v2 G H Q e r1 r2 q => ⟨r2, by rw [dec_non r1]; exact q _ rfl⟩
theorem r_notN {d : D} (k : P (.bl (!isNon d))) : RD K rNotN d .non P := RD.val k fun v1 v2 G H Q e r1 r2 q => ⟨r2, by rw [dec_non r1]; exact q _ rfl⟩
theorem r_isB {a b : Bool} (k : P (.bl (decide (a = b)))) : RD K rIsB (.bl a) (.bl b) P := RD.val k fun v1 v2 G H Q e r1 r2 q => ⟨a, b, r1, r2, q _ rfl⟩
/-! ### items -/
theorem atI_map {α β : Type} (f : α → β) (xs : List α) (i : Int) : atI (xs.map f) i = (atI xs i).map f := by
  unfold atI
  rw [List.length_map]
  cases ixN xs.length i with
  | none => rfl
  | some j => simp
theorem atI_rp {G : Hp} {ds : List D} {vs : List V} {i : Int} {d : D} (r : Rps K G ds vs) (h : atI ds i = some d) : ∃ v, atI vs i = some v ∧ Rp K G d v := by
  unfold atI at h ⊢
  rw [r.len]
  cases e : ixN ds.length i with
  | none =>
    rw [e] at h
    cases h
  | some j =>
    rw [e] at h
    exact r.get (i := j) h
theorem r_ixL {ds : List D} {d : D} (h : atI ds i = some d) (k : P d) : RD K (rIxL K) (.lst ds) (.int i) P := RD.val k fun v1 v2 G H Q e r1 r2 q => by
  obtain ⟨a, vs, rfl, h1, h2⟩ := r1
  obtain ⟨v, e1, e2⟩ := atI_rp h2 h
  exact ⟨a, vs, i, v, rfl, r2, SqL.of (e _ _ h1), e1, q v e2⟩
theorem r_ixT {ds : List D} {d : D} (h : atI ds i = some d) (k : P d) : RD K (rIxT K) (.tup ds) (.int i) P := RD.val k fun v1 v2 G H Q e r1 r2 q => by
  obtain ⟨a, vs, rfl, h1, h2⟩ := r1
  obtain ⟨v, e1, e2⟩ := atI_rp h2 h
  exact ⟨a, vs, i, v, rfl, r2, sqt_ex e h1, e1, q v e2⟩
theorem r_ixS {s : Str} {n : Nat} (hl : s.length ≤ sizeLine) (h : atI s.cps.toList i = some n) (k : P (.str ⟨#[n]⟩)) : RD K rIxS (.str s) (.int i) P := RD.val k fun v1 v2 G H Q e r1 r2 q =>
  ⟨s, i, n, r1, r2, hl, h, q _ rfl⟩
/-- t[i], xs[i], s[i] -/
theorem r_ix {r : R2} {d : D} (h : RD K (rIxL K) d1 d2 P ∨ RD K (rIxT K) d1 d2 P ∨ RD K rIxS d1 d2 P) : RD K (rIx K) d1 d2 P := fun v1 v2 G H Q e r1 r2 q => by
  rcases h with h | h | h
  · exact .inl (h v1 v2 G H Q e r1 r2 q)
  · exact .inr (.inl (h v1 v2 G H Q e r1 r2 q))
  · exact .inr (.inr (h v1 v2 G H Q e r1 r2 q))
/-! ### joined -/
def rAddS0 : R2 := fun x y H Q => ∃ i j, x = .str i ∧ y = .str j ∧ i.length + j.length ≤ sizeLine ∧ Q (.str (i ++ j)) H
theorem o_addS {X : Cx} : OpR X (binaryOp .Add) rAddS0 := op_add_str
theorem r_addS {s t : Str} (h : s.length + t.length ≤ sizeLine) (k : P (.str (s ++ t))) : RD K rAddS0 (.str s) (.str t) P := RD.val k fun v1 v2 G H Q e r1 r2 q => ⟨s, t, r1, r2, h, q _ rfl⟩
theorem r_cat {ds es : List D} (h : ds.length + es.length ≤ sizeLine) (k : PN (ds ++ es)) : RN K rCat (.lst ds) (.lst es) PN := fun v1 v2 G H Q e r1 r2 q => by
  obtain ⟨a, vs, rfl, h1, h2⟩ := r1
  obtain ⟨b, ws, rfl, h3, h4⟩ := r2
  exact ⟨a, b, vs, ws, rfl, rfl, e _ _ h1, e _ _ h3, by rw [h2.len, h4.len]; exact h, fun p hp => q p _ _ k hp (h2.app h4)⟩
theorem r_catD {ds es : List D} (h : ds.length + es.length ≤ sizeLine) (k : P (.lst (ds ++ es))) : RD K rCat (.lst ds) (.lst es) P := RD.of_N (r_cat h k)
/-- a sign in a text -/
theorem r_inS {n : Nat} {s : Str} (k : P (.bl (decide (n ∈ s.cps.toList)))) : RD K rInS (.str ⟨#[n]⟩) (.str s) P := RD.val k fun v1 v2 G H Q e r1 r2 q => ⟨n, s, r1, r2, q _ rfl⟩
theorem r_notInS {n : Nat} {s : Str} (k : P (.bl (!decide (n ∈ s.cps.toList)))) : RD K rNotInS (.str ⟨#[n]⟩) (.str s) P := RD.val k fun v1 v2 G H Q e r1 r2 q => ⟨n, s, r1, r2, q _ rfl⟩
/-! ### == at any depth -/
mutual
def toPy : D → PyData
  | .non => .none
  | .bl b => .bool b
  | .int i => .int i
  | .str s => .str s
  | .tup ds => .tuple (toPys ds)
  | .lst ds => .list (toPys ds)
  | .dic _ _ => .none
def toPys : List D → List PyData
  | [] => []
  | d :: ds => toPy d :: toPys ds
end
mutual
def noDic : D → Bool
  | .tup ds => noDics ds
  | .lst ds => noDics ds
  | .dic _ _ => false
  | _ => true
def noDics : List D → Bool
  | [] => true
  | d :: ds => noDic d && noDics ds
end
mutual
theorem dp_of {G : Hp} : ∀ {d : D} {v : V}, Rp K G d v → noDic d = true → Dp K G v (toPy d)
  | .non, _, h, _ => by cases h; exact .non
  | .bl _, _, h, _ => by cases h; exact .bl _
  | .int _, _, h, _ => by cases h; exact .int _
  | .str _, _, h, _ => by cases h; exact .str _
  | .tup _, _, ⟨a, vs, h1, h2, h3⟩, n => by subst h1; exact .tup h2 (dps_of h3 (by unfold noDic at n; exact n))
  | .lst _, _, ⟨a, vs, h1, h2, h3⟩, n => by subst h1; exact .lst (SqL.of h2) (dps_of h3 (by unfold noDic at n; exact n))
  | .dic _ _, _, _, n => by unfold noDic at n; cases n
theorem dps_of {G : Hp} : ∀ {ds : List D} {vs : List V}, Rps K G ds vs → noDics ds = true → DpAll K G vs (toPys ds)
  | [], _, h, _ => by cases h; exact .nil
  | _ :: _, _, ⟨v, r, h1, h2, h3⟩, n => by
    subst h1
    unfold noDics at n
    obtain ⟨n1, n2⟩ := Bool.and_eq_true_iff.mp n
    exact .cons (dp_of h2 n1) (dps_of h3 n2)
end
theorem r_eqD (n1 : noDic d1 = true) (n2 : noDic d2 = true) (s1 : SeqAt.shaped (toPy d1) = true) (s2 : SeqAt.shaped (toPy d2) = true) (k : P (.bl (PyData.eqv (toPy d1) (toPy d2)))) : RD K (rEqD K) d1 d2 P :=
  RD.val k fun v1 v2 G H Q e r1 r2 q => ⟨_, _, dp_of (Rp.ex e r1) n1, dp_of (Rp.ex e r2) n2, s1, s2, q _ rfl⟩
theorem r_neD (n1 : noDic d1 = true) (n2 : noDic d2 = true) (s1 : SeqAt.shaped (toPy d1) = true) (s2 : SeqAt.shaped (toPy d2) = true) (k : P (.bl (!PyData.eqv (toPy d1) (toPy d2)))) : RD K (rNeD K) d1 d2 P :=
  RD.val k fun v1 v2 G H Q e r1 r2 q => ⟨_, _, dp_of (Rp.ex e r1) n1, dp_of (Rp.ex e r2) n2, s1, s2, q _ rfl⟩
end

/-! ### expressions made of expressions -/
section
variable {te ta tb tc : TE} {tt tu : TT} {ρ : Rho} {P : D → Rho → Prop} {PB : Bool → Rho → Prop} {PA : List D → Rho → Prop} {PN : List D → Rho → Prop}
theorem w_un {r : V → Hp → VK → Prop} {f : D → D → Prop} (hr : ∀ v d G H (Q : VK), Rp c.K G d v → (∀ v' d', f d d' → Rp c.K G d' v' → Q v' H) → r v H Q) (h : EvD c ta ρ fun d ρ1 => ∀ d', f d d' → P d' ρ1) : EvD c (tUn r ta) ρ P := fun σ G H Q s q =>
  h σ G H _ s fun v d ρ1 G1 H1 h1 s1 e1 r1 => hr v d G1 H1 Q r1 fun v' d' hd r' => q v' d' ρ1 G1 H1 (h1 d' hd) s1 e1 r'
theorem w_test (h : EvD c te ρ fun d ρ1 => ∃ b, d = .bl b ∧ PB b ρ1) : EvT c (tTest te) ρ PB := fun σ G H Q s q =>
  h σ G H _ s fun v d ρ1 G1 H1 h1 s1 e1 r1 => by
    obtain ⟨b, rfl, p⟩ := h1
    cases r1
    exact ⟨b, rfl, q b ρ1 G1 H1 p s1 e1⟩
theorem w_tB (h : EvD c te ρ fun d ρ1 => ∃ b, d = .bl b ∧ PB b ρ1) : EvT c (tB te) ρ PB := w_test h
theorem w_and (h : EvT c tt ρ fun b ρ1 => (b = true → EvT c tu ρ1 PB) ∧ (b = false → PB false ρ1)) : EvT c (tAnd tt tu) ρ PB := fun σ G H Q s q =>
  h σ G H _ s fun b ρ1 G1 H1 h1 s1 e1 => by
    cases b with
    | true => exact h1.1 rfl σ G1 H1 Q s1 fun b ρ2 G2 H2 p s2 e2 => q b ρ2 G2 H2 p s2 (e1.trans e2)
    | false => exact q false ρ1 G1 H1 (h1.2 rfl) s1 e1
theorem w_or (h : EvT c tt ρ fun b ρ1 => (b = false → EvT c tu ρ1 PB) ∧ (b = true → PB true ρ1)) : EvT c (tOr tt tu) ρ PB := fun σ G H Q s q =>
  h σ G H _ s fun b ρ1 G1 H1 h1 s1 e1 => by
    cases b with
    | false => exact h1.1 rfl σ G1 H1 Q s1 fun b ρ2 G2 H2 p s2 e2 => q b ρ2 G2 H2 p s2 (e1.trans e2)
    | true => exact q true ρ1 G1 H1 (h1.2 rfl) s1 e1
theorem w_not (h : EvT c tt ρ fun b ρ1 => PB (!b) ρ1) : EvT c (tNot tt) ρ PB := fun σ G H Q s q => h σ G H _ s fun b ρ1 G1 H1 h1 s1 e1 => q (!b) ρ1 G1 H1 h1 s1 e1
theorem w_if (h : EvT c tt ρ fun b ρ1 => (b = true → EvD c ta ρ1 P) ∧ (b = false → EvD c tb ρ1 P)) : EvD c (tIf tt ta tb) ρ P := fun σ G H Q s q =>
  h σ G H _ s fun b ρ1 G1 H1 h1 s1 e1 => by
    cases b with
    | true => exact h1.1 rfl σ G1 H1 Q s1 fun v d ρ2 G2 H2 p s2 e2 r => q v d ρ2 G2 H2 p s2 (e1.trans e2) r
    | false => exact h1.2 rfl σ G1 H1 Q s1 fun v d ρ2 G2 H2 p s2 e2 r => q v d ρ2 G2 H2 p s2 (e1.trans e2) r
theorem w_ifN (h : EvT c tt ρ fun b ρ1 => (b = true → EvN c ta ρ1 PN) ∧ (b = false → EvN c tb ρ1 PN)) : EvN c (tIf tt ta tb) ρ PN := fun σ G H Q s q =>
  h σ G H _ s fun b ρ1 G1 H1 h1 s1 e1 => by
    cases b with
    | true => exact h1.1 rfl σ G1 H1 Q s1 fun p ds vs ρ2 G2 H2 hp s2 e2 k1 k2 k3 k4 k5 => q p ds vs ρ2 G2 H2 hp s2 (e1.trans e2) k1 k2 k3 ⟨k4.1, e1.new k4.2⟩ k5
    | false => exact h1.2 rfl σ G1 H1 Q s1 fun p ds vs ρ2 G2 H2 hp s2 e2 k1 k2 k3 k4 k5 => q p ds vs ρ2 G2 H2 hp s2 (e1.trans e2) k1 k2 k3 ⟨k4.1, e1.new k4.2⟩ k5
theorem w_andV (h : EvD c ta ρ fun d ρ1 => ∃ b, d = .bl b ∧ (b = true → EvD c tb ρ1 P) ∧ (b = false → P (.bl false) ρ1)) : EvD c (tAndV ta tb) ρ P := fun σ G H Q s q =>
  h σ G H _ s fun v d ρ1 G1 H1 h1 s1 e1 r1 => by
    obtain ⟨b, rfl, h2, h3⟩ := h1
    cases r1
    refine ⟨b, rfl, ?_⟩
    cases b with
    | true => exact h2 rfl σ G1 H1 Q s1 fun v d ρ2 G2 H2 p s2 e2 r => q v d ρ2 G2 H2 p s2 (e1.trans e2) r
    | false => exact q _ _ ρ1 G1 H1 (h3 rfl) s1 e1 rfl
theorem w_orV (h : EvD c ta ρ fun d ρ1 => ∃ b, d = .bl b ∧ (b = false → EvD c tb ρ1 P) ∧ (b = true → P (.bl true) ρ1)) : EvD c (tOrV ta tb) ρ P := fun σ G H Q s q =>
  h σ G H _ s fun v d ρ1 G1 H1 h1 s1 e1 r1 => by
    obtain ⟨b, rfl, h2, h3⟩ := h1
    cases r1
    refine ⟨b, rfl, ?_⟩
    cases b with
    | false => exact h2 rfl σ G1 H1 Q s1 fun v d ρ2 G2 H2 p s2 e2 r => q v d ρ2 G2 H2 p s2 (e1.trans e2) r
    | true => exact q _ _ ρ1 G1 H1 (h3 rfl) s1 e1 rfl
theorem w_notV (h : EvD c ta ρ fun d ρ1 => ∃ b, d = .bl b ∧ P (.bl (!b)) ρ1) : EvD c (tNotV ta) ρ P := fun σ G H Q s q =>
  h σ G H _ s fun v d ρ1 G1 H1 h1 s1 e1 r1 => by
    obtain ⟨b, rfl, p⟩ := h1
    cases r1
    exact ⟨b, rfl, q _ _ ρ1 G1 H1 p s1 e1 rfl⟩
theorem w_nil (k : PA [] ρ) : EvA c tNil ρ PA := fun σ G H Q s q => q [] [] ρ G H k s .refl rfl
theorem w_cons {tr : TA} (h : EvD c ta ρ fun d ρ1 => EvA c tr ρ1 fun ds ρ2 => PA (d :: ds) ρ2) : EvA c (tCons ta tr) ρ PA := fun σ G H Q s q =>
  h σ G H _ s fun v d ρ1 G1 H1 h1 s1 e1 r1 => h1 σ G1 H1 _ s1 fun vs ds ρ2 G2 H2 h2 s2 e2 r2 => q _ _ ρ2 G2 H2 h2 s2 (e1.trans e2) ⟨v, vs, rfl, Rp.ex e2.ex r1, r2⟩
theorem w_tup {t : TA} (h : EvA c t ρ fun ds ρ1 => ds.length ≤ sizeLine ∧ P (.tup ds) ρ1) : EvD c (tTup t) ρ P := fun σ G H Q s q =>
  h σ G H _ s fun vs ds ρ1 G1 H1 h1 s1 e1 r1 => ⟨by rw [r1.len]; exact h1.1, fun p hp => q _ _ ρ1 _ _ h1.2 (s1.nx (Nx.new s1.ex hp)) (e1.trans (.nx (Nx.new s1.ex hp))) ⟨p, vs, rfl, SqT.of upd_same, Rps.ex (Nx.new s1.ex hp).gg r1⟩⟩
theorem w_lstN {t : TA} (h : EvA c t ρ fun ds ρ1 => ds.length ≤ sizeLine ∧ PN ds ρ1) : EvN c (tLst t) ρ PN := fun σ G H Q s q =>
  h σ G H _ s fun vs ds ρ1 G1 H1 h1 s1 e1 r1 => ⟨by rw [r1.len]; exact h1.1, fun p hp => by
    obtain ⟨f1, f2, f3⟩ := s1.fresh hp
    exact q p ds vs ρ1 G1 _ h1.2 (s1.nx (Nx.own s1.ex hp)) (e1.trans (.nx (Nx.own s1.ex hp))) upd_same f1 r1 ⟨f2, e1.new (.of hp)⟩ f3⟩
theorem w_lst {t : TA} (h : EvA c t ρ fun ds ρ1 => ds.length ≤ sizeLine ∧ P (.lst ds) ρ1) : EvD c (tLst t) ρ P := EvD.of_N (PN := fun ds ρ' => P (.lst ds) ρ') (w_lstN h) fun _ _ h => h
/-- a < b < c -/
theorem w_chain {r r' : R2} (h : EvD c ta ρ fun d1 ρ1 => EvD c tb ρ1 fun d2 ρ2 => RD c.K r d1 d2 fun d => ∃ b, d = .bl b ∧ (b = true → EvD c tc ρ2 fun d3 ρ3 => RD c.K r' d2 d3 fun d => P d ρ3) ∧ (b = false → P (.bl false) ρ2)) : EvD c (tChain r r' ta tb tc) ρ P := fun σ G H Q s q =>
  h σ G H _ s fun v1 d1 ρ1 G1 H1 h1 s1 e1 r1 => h1 σ G1 H1 _ s1 fun v2 d2 ρ2 G2 H2 h2 s2 e2 r2 => h2 v1 v2 G2 H2 _ s2.ex (Rp.ex e2.ex r1) r2 fun v d G3 H3 p n r3 => by
    obtain ⟨b, rfl, k1, k2⟩ := p
    cases r3
    have s3 := s2.nx n
    have e3 := (e1.trans e2).trans (Tr.nx (ρ := ρ2) n)
    refine ⟨b, rfl, ?_⟩
    cases b with
    | true => exact k1 rfl σ G3 H3 _ s3 fun v4 d4 ρ4 G4 H4 h4 s4 e4 r4 => h4 v2 v4 G4 H4 Q s4.ex (Rp.ex e4.ex (Rp.ex n.gg r2)) r4 fun v d G5 H5 p5 n5 r5 => q v d ρ4 G5 H5 p5 (s4.nx n5) ((e3.trans e4).trans (.nx n5)) r5
    | false => exact q _ _ ρ2 G3 H3 (k2 rfl) s3 e3 rfl
end
end Zd

/-! ## Zd4 -/
set_option Elab.async false
set_option linter.all false
set_option maxRecDepth 100000
set_option maxHeartbeats 4000000
namespace Zd
open PySem L2
variable {c : Cd}

/-! ### targets -/
def WpG (c : Cd) (g : TG) (d : D) (ρ : Rho) (N : Rho → Prop) : Prop := ∀ v (σ : St) (G H : Hp) (Q : St → Hp → Prop), Sv c G H σ ρ → Rp c.K G d v → (∀ σ' ρ' G' H', N ρ' → Sv c G' H' σ' ρ' → Tr ρ G H ρ' G' H' → Q σ' H') → g v σ H Q
def WpGs (c : Cd) (g : TGs) (ds : List D) (ρ : Rho) (N : Rho → Prop) : Prop := ∀ vs (σ : St) (G H : Hp) (Q : St → Hp → Prop), Sv c G H σ ρ → Rps c.K G ds vs → (∀ σ' ρ' G' H', N ρ' → Sv c G' H' σ' ρ' → Tr ρ G H ρ' G' H' → Q σ' H') → g vs σ H Q
section
variable {ρ : Rho} {N : Rho → Prop} {d : D} {ds : List D}
theorem notOwn_set {ρ : Rho} {i : Nat} {d : D} {a : Addr} (h : NotOwn ρ a) : NotOwn (ρ.set i (some (.dat d))) a := fun j es z => by
  rw [List.getElem?_set] at z
  split at z
  · split at z
    · cases z
    · cases z
  · exact h j es z
theorem g_name {i : Nat} (hi : i < ρ.length) (k : N (ρ.set i (some (.dat d)))) : WpG c (gName i) d ρ N := fun v σ G H Q s r q => q _ _ G H k (s.set r hi) ⟨fun _ _ z => z, fun a o h n => ⟨o, h, n⟩, fun a o h n g k => ⟨h, g, notOwn_set k⟩⟩
theorem g_nil (h : ds = []) (k : N ρ) : WpGs c gNil ds ρ N := fun vs σ G H Q s r q => by
  subst h
  exact ⟨r, q σ ρ G H k s .refl⟩
theorem g_cons {t : TG} {u : TGs} (h : ∃ d r, ds = d :: r ∧ WpG c t d ρ fun ρ1 => WpGs c u r ρ1 N) : WpGs c (gCons t u) ds ρ N := fun vs σ G H Q s r q => by
  obtain ⟨d, rr, rfl, h1⟩ := h
  obtain ⟨v, w, rfl, r1, r2⟩ := r
  exact ⟨v, w, rfl, h1 v σ G H _ s r1 fun σ1 ρ1 G1 H1 h2 s1 e1 => h2 w σ1 G1 H1 _ s1 (Rps.ex e1.ex r2) fun σ2 ρ2 G2 H2 n s2 e2 => q σ2 ρ2 G2 H2 n s2 (e1.trans e2)⟩
theorem g_tup {n : Nat} {t : TGs} (h : ∃ ds, d = .tup ds ∧ ds.length = n ∧ WpGs c t ds ρ N) : WpG c (gTup c.K n t) d ρ N := fun v σ G H Q s r q => by
  obtain ⟨ds, rfl, hl, h1⟩ := h
  obtain ⟨a, vs, rfl, r1, r2⟩ := r
  exact ⟨a, vs, rfl, sqt_ex s.ex r1, by rw [r2.len]; exact hl, h1 vs σ G H Q s r2 q⟩
end

/-! ### what is walked -/
def IsW (K : PySem.W.Frag) (J : It) (ds : List D) (G : Hp) : Prop := ∀ G1 H1, Ex G G1 → Ex G1 H1 → ∀ i : Nat, (∀ d, ds[i]? = some d → J.go i H1 ∧ ∀ x H2, J.yld i H1 x H2 → ∃ G2, Nx G1 H1 G2 H2 ∧ Rp K G2 d x) ∧ (ds.length ≤ i → J.stop i H1)
def EvI (c : Cd) (ti : TI) (ρ : Rho) (P : List D → Rho → Prop) : Prop := ∀ (σ : St) (G H : Hp) (R : It → Hp → Prop), Sv c G H σ ρ → (∀ J ds ρ' G' H', P ds ρ' → Sv c G' H' σ ρ' → Tr ρ G H ρ' G' H' → IsW c.K J ds G' → R J H') → ti σ H R
section
variable {ρ : Rho} {PA : List D → Rho → Prop} {te : TE} {ta : TA}
theorem i_list (h : EvD c te ρ fun d ρ1 => ∃ ds, d = .lst ds ∧ PA ds ρ1) : EvI c (iList c.K te) ρ PA := fun σ G H R s q =>
  h σ G H _ s fun v d ρ1 G1 H1 h1 s1 e1 r1 => by
    obtain ⟨ds, rfl, p⟩ := h1
    obtain ⟨a, vs, rfl, r2, r3⟩ := r1
    refine ⟨a, rfl, ⟨vs, SqL.of (s1.ex _ _ r2)⟩, q _ ds ρ1 G1 H1 p s1 e1 fun G2 H2 f1 f2 i => ⟨fun d hd => ?_, fun hi => ⟨vs, SqL.of (f2 _ _ (f1 _ _ r2)), by rw [r3.len]; exact hi⟩⟩⟩
    obtain ⟨v, g1, g2⟩ := r3.get hd
    refine ⟨⟨vs, v, SqL.of (f2 _ _ (f1 _ _ r2)), g1⟩, fun x H3 y => ?_⟩
    obtain ⟨rfl, y2⟩ := y
    refine ⟨G2, Nx.refl f2, ?_⟩
    have z := y2 vs (SqL.of (f2 _ _ (f1 _ _ r2)))
    rw [g1] at z
    cases z
    exact Rp.ex f1 g2
theorem i_tup (h : EvD c te ρ fun d ρ1 => ∃ ds, d = .tup ds ∧ PA ds ρ1) : EvI c (iTup c.K te) ρ PA := fun σ G H R s q =>
  h σ G H _ s fun v d ρ1 G1 H1 h1 s1 e1 r1 => by
    obtain ⟨ds, rfl, p⟩ := h1
    obtain ⟨a, vs, rfl, r2, r3⟩ := r1
    refine ⟨a, rfl, ⟨vs, sqt_ex s1.ex r2⟩, q _ ds ρ1 G1 H1 p s1 e1 fun G2 H2 f1 f2 i => ⟨fun d hd => ?_, fun hi => ⟨vs, sqt_ex f2 (sqt_ex f1 r2), by rw [r3.len]; exact hi⟩⟩⟩
    obtain ⟨v, g1, g2⟩ := r3.get hd
    refine ⟨⟨vs, v, sqt_ex f2 (sqt_ex f1 r2), g1⟩, fun x H3 y => ?_⟩
    obtain ⟨rfl, y2⟩ := y
    refine ⟨G2, Nx.refl f2, ?_⟩
    have z := y2 vs (sqt_ex f2 (sqt_ex f1 r2))
    rw [g1] at z
    cases z
    exact Rp.ex f1 g2
def upto (lo : Int) (n : Nat) : List D := (List.range n).map fun (k : Nat) => D.int (lo + (k : Int))
theorem upto_get {lo : Int} {n i : Nat} {d : D} (h : (upto lo n)[i]? = some d) : i < n ∧ d = .int (lo + (i : Int)) := by
  unfold upto at h
  rw [List.getElem?_map] at h
  by_cases hi : i < n
  · rw [List.getElem?_range hi] at h
    cases h
    exact ⟨hi, rfl⟩
  · rw [List.getElem?_eq_none (by simpa using hi)] at h
    cases h
theorem upto_len {lo : Int} {n : Nat} : (upto lo n).length = n := by
  unfold upto
  simp
theorem isW_rng {K : PySem.W.Frag} {lo : Int} {n : Nat} {G : Hp} : IsW K (Itr lo n) (upto lo n) G := fun G2 H2 f1 f2 i => ⟨fun d hd => by
  obtain ⟨hi, rfl⟩ := upto_get hd
  refine ⟨hi, fun x H3 y => ?_⟩
  obtain ⟨rfl, rfl⟩ := y
  exact ⟨G2, Nx.refl f2, rfl⟩, fun hi => by rw [upto_len] at hi; exact hi⟩
theorem i_rng1 (h : EvA c ta ρ fun ds ρ1 => ∃ j : Int, ds = [.int j] ∧ (-(2 ^ 62) ≤ j ∧ j < 2 ^ 62) ∧ PA (upto 0 j.toNat) ρ1) : EvI c (iRng1 ta) ρ PA := fun σ G H R s q =>
  h σ G H _ s fun vs ds ρ1 G1 H1 h1 s1 e1 r1 => by
    obtain ⟨j, rfl, hj, p⟩ := h1
    obtain ⟨v, w, rfl, r2, r3⟩ := r1
    cases r2
    cases r3
    exact ⟨j, rfl, hj.1, hj.2, q _ _ ρ1 G1 H1 p s1 e1 isW_rng⟩
theorem i_rng2 (h : EvA c ta ρ fun ds ρ1 => ∃ i j : Int, ds = [.int i, .int j] ∧ (-(2 ^ 62) ≤ i ∧ i < 2 ^ 62 ∧ -(2 ^ 62) ≤ j ∧ j < 2 ^ 62) ∧ PA (upto i (j - i).toNat) ρ1) : EvI c (iRng2 ta) ρ PA := fun σ G H R s q =>
  h σ G H _ s fun vs ds ρ1 G1 H1 h1 s1 e1 r1 => by
    obtain ⟨i, j, rfl, hj, p⟩ := h1
    obtain ⟨v, w, rfl, r2, r3⟩ := r1
    obtain ⟨v', w', rfl, r4, r5⟩ := r3
    cases r2
    cases r4
    cases r5
    exact ⟨i, j, rfl, hj, q _ _ ρ1 G1 H1 p s1 e1 isW_rng⟩
def signs (x : Str) : List D := x.cps.toList.map fun n => .str ⟨#[n]⟩
theorem i_str (h : EvD c te ρ fun d ρ1 => ∃ x, d = .str x ∧ PA (signs x) ρ1) : EvI c (iStr te) ρ PA := fun σ G H R s q =>
  h σ G H _ s fun v d ρ1 G1 H1 h1 s1 e1 r1 => by
    obtain ⟨x, rfl, p⟩ := h1
    cases r1
    refine ⟨x, rfl, q _ _ ρ1 G1 H1 p s1 e1 fun G2 H2 f1 f2 i => ⟨fun d hd => ?_, fun hi => by
      unfold signs at hi
      rw [List.length_map, Array.length_toList] at hi
      exact hi⟩⟩
    unfold signs at hd
    rw [List.getElem?_map] at hd
    cases g : x.cps.toList[i]? with
    | none =>
      rw [g] at hd
      cases hd
    | some n =>
      rw [g] at hd
      cases hd
      have g' : x.cps[i]? = some n := by simpa using g
      have hi : i < x.cps.size := (Array.getElem?_eq_some_iff.mp g').1
      refine ⟨hi, fun y H3 z => ?_⟩
      obtain ⟨rfl, m, z1, rfl⟩ := z
      rw [g'] at z1
      cases z1
      exact ⟨G2, Nx.refl f2, rfl⟩
end

/-! ### statements -/
structure En where
  nx : Rho → Prop
  rt : DV → Rho → Prop
  bk : Rho → Prop := fun _ => False
  ct : Rho → Prop := fun _ => False
/-- a result that is a list of one's own stands at no name, and is new -/
def Out1 (c : Cd) (r : DV) (ρ : Rho) : Prop := ∀ p ds, r = .own p ds → Nw c p ∧ ∀ (j : Nat) es, ρ[j]? ≠ some (some (.own p es))
structure Kn (c : Cd) (G : Hp) (e : En) (Dd : Ends) : Prop where
  nx : ∀ σ ρ G' H, e.nx ρ → Sv c G' H σ ρ → Ex G G' → Dd.nx σ H
  rt : ∀ v r σ ρ G' H, e.rt r ρ → Sv c G' H σ ρ → Ex G G' → RpV c G' H r v → Out1 c r ρ → Dd.rt v H
  bk : ∀ σ ρ G' H, e.bk ρ → Sv c G' H σ ρ → Ex G G' → Dd.bk σ H
  ct : ∀ σ ρ G' H, e.ct ρ → Sv c G' H σ ρ → Ex G G' → Dd.ct σ H
theorem Kn.ex {G G' : Hp} {e : En} {Dd : Ends} (k : Kn c G e Dd) (x : Ex G G') : Kn c G' e Dd :=
  ⟨fun σ ρ G2 H a b z => k.nx σ ρ G2 H a b fun p o y => z p o (x p o y), fun v r σ ρ G2 H a b z => k.rt v r σ ρ G2 H a b fun p o y => z p o (x p o y), fun σ ρ G2 H a b z => k.bk σ ρ G2 H a b fun p o y => z p o (x p o y), fun σ ρ G2 H a b z => k.ct σ ρ G2 H a b fun p o y => z p o (x p o y)⟩
def WpS (c : Cd) (t : TS) (e : En) (ρ : Rho) : Prop := ∀ (σ : St) (G H : Hp) (Dd : Ends), Sv c G H σ ρ → Kn c G e Dd → t Dd σ H
section
variable {ρ : Rho} {e : En} {te ta tb : TE} {tt : TT} {t u : TS} {g : TG}
theorem s_next (k : e.nx ρ) : WpS c tNext e ρ := fun σ G H Dd s kn => kn.nx σ ρ G H k s fun _ _ z => z
theorem s_break (k : e.bk ρ) : WpS c tBreak e ρ := fun σ G H Dd s kn => kn.bk σ ρ G H k s fun _ _ z => z
theorem s_cont (k : e.ct ρ) : WpS c tCont e ρ := fun σ G H Dd s kn => kn.ct σ ρ G H k s fun _ _ z => z
theorem s_never (h : False) : WpS c tNever e ρ := h.elim
theorem s_seq (h : WpS c t { e with nx := fun ρ1 => WpS c u e ρ1 } ρ) : WpS c (tSeq t u) e ρ := fun σ G H Dd s kn =>
  h σ G H _ s ⟨fun σ1 ρ1 G1 H1 h1 s1 e1 => h1 σ1 G1 H1 Dd s1 (kn.ex e1), kn.rt, kn.bk, kn.ct⟩
theorem s_set {i : Nat} (h : EvD c te ρ fun d ρ1 => i < ρ1.length ∧ e.nx (ρ1.set i (some (.dat d)))) : WpS c (tAsg te (gName i)) e ρ := fun σ G H Dd s kn =>
  h σ G H _ s fun v d ρ1 G1 H1 h1 s1 e1 r1 => kn.nx _ _ G1 H1 h1.2 (s1.set r1 h1.1) e1.ex
theorem s_asg (h : EvD c te ρ fun d ρ1 => WpG c g d ρ1 e.nx) : WpS c (tAsg te g) e ρ := fun σ G H Dd s kn =>
  h σ G H _ s fun v d ρ1 G1 H1 h1 s1 e1 r1 => h1 v σ G1 H1 _ s1 r1 fun σ2 ρ2 G2 H2 n s2 e2 => kn.nx _ _ G2 H2 n s2 (e1.trans e2).ex
/-- a name that holds a new list of its own -/
theorem s_setN {i : Nat} (h : EvN c te ρ fun ds ρ1 => i < ρ1.length ∧ ∀ p, e.nx (ρ1.set i (some (.own p ds)))) : WpS c (tAsg te (gName i)) e ρ := fun σ G H Dd s kn =>
  h σ G H _ s fun p ds vs ρ1 G1 H1 h1 s1 e1 k1 k2 k3 k4 k5 => kn.nx _ _ G1 H1 (h1.2 p) (s1.setN k2 k4.1.wr k1 k3 k5 h1.1) e1.ex
theorem s_par {i j : Nat} {ts : TA} (h : EvA c ts ρ fun ds ρ1 => ∃ d f, ds = [d, f] ∧ i < ρ1.length ∧ j < ρ1.length ∧ e.nx ((ρ1.set i (some (.dat d))).set j (some (.dat f)))) : WpS c (tPar i j ts) e ρ := fun σ G H Dd s kn =>
  h σ G H _ s fun vs ds ρ1 G1 H1 h1 s1 e1 r1 => by
    obtain ⟨d, f, rfl, hi, hj, k⟩ := h1
    obtain ⟨v, w, rfl, r2, r3⟩ := r1
    obtain ⟨v', w', rfl, r4, r5⟩ := r3
    cases r5
    exact ⟨v, v', rfl, kn.nx _ _ G1 H1 k ((s1.set r2 hi).set r4 (by simpa using hj)) e1.ex⟩
/-- x, y = .., [..]: the second one a new list of its own -/
theorem s_parN {i j : Nat} (h : EvD c ta ρ fun d ρ1 => EvN c tb ρ1 fun ds ρ2 => i < ρ2.length ∧ j < ρ2.length ∧ (∀ p es, ρ2[i]? ≠ some (some (.own p es))) ∧ ∀ p, e.nx ((ρ2.set i (some (.dat d))).set j (some (.own p ds)))) : WpS c (tPar i j (tCons ta (tCons tb tNil))) e ρ := fun σ G H Dd s kn =>
  h σ G H _ s fun v d ρ1 G1 H1 h1 s1 e1 r1 => h1 σ G1 H1 _ s1 fun p ds vs ρ2 G2 H2 h2 s2 e2 k1 k2 k3 k4 k5 => by
    refine ⟨v, .ref p, rfl, kn.nx _ _ G2 H2 (h2.2.2.2 p) ((s2.set (Rp.ex e2.ex r1) h2.1).setN k2 k4.1.wr k1 k3 (fun n es z => ?_) (by simpa using h2.2.1)) (e1.trans e2).ex⟩
    by_cases n1 : i = n
    · subst n1
      rw [List.getElem?_set_self h2.1] at z
      cases z
    · rw [List.getElem?_set_ne n1] at z
      exact k5 n es z
theorem s_drop (h : EvD c te ρ fun _ ρ1 => e.nx ρ1) : WpS c (tDrop te) e ρ := fun σ G H Dd s kn => h σ G H _ s fun v d ρ1 G1 H1 h1 s1 e1 r1 => kn.nx _ _ G1 H1 h1 s1 e1.ex
theorem s_ret (h : EvD c te ρ fun d ρ1 => e.rt (.dat d) ρ1) : WpS c (tRet te) e ρ := fun σ G H Dd s kn => h σ G H _ s fun v d ρ1 G1 H1 h1 s1 e1 r1 => kn.rt v _ σ ρ1 G1 H1 h1 s1 e1.ex r1 fun _ _ z => by cases z
theorem s_retN (h : EvN c te ρ fun ds ρ1 => ∀ p, e.rt (.own p ds) ρ1) : WpS c (tRet te) e ρ := fun σ G H Dd s kn => h σ G H _ s fun p ds vs ρ1 G1 H1 h1 s1 e1 k1 k2 k3 k4 k5 =>
  kn.rt _ _ σ ρ1 G1 H1 (h1 p) s1 e1.ex ⟨rfl, k2, k4.1.wr, vs, k1, k3⟩ fun _ _ z => by cases z; exact ⟨k4.1, k5⟩
theorem s_retNon (h : e.rt (.dat .non) ρ) : WpS c tRetN e ρ := fun σ G H Dd s kn => kn.rt .non _ σ ρ G H h s (fun _ _ z => z) rfl fun _ _ z => by cases z
theorem s_if (h : EvT c tt ρ fun b ρ1 => (b = true → WpS c t e ρ1) ∧ (b = false → WpS c u e ρ1)) : WpS c (tIfS tt t u) e ρ := fun σ G H Dd s kn =>
  h σ G H _ s fun b ρ1 G1 H1 h1 s1 e1 => by
    cases b with
    | true => exact h1.1 rfl σ G1 H1 Dd s1 (kn.ex e1.ex)
    | false => exact h1.2 rfl σ G1 H1 Dd s1 (kn.ex e1.ex)
/-- a name's own list is data from now on -/
theorem s_frz (i : Nat) {p : Addr} {ds : List D} (h : ρ[i]? = some (some (.own p ds))) (hw : ∀ q, c.S q → ∃ k : Nat, k ≠ i ∧ ∃ es, ρ[k]? = some (some (.own q es))) (k : WpS c t e (ρ.set i (some (.dat (.lst ds))))) : WpS c t e ρ := fun σ G H Dd s kn => by
  have ns : ¬ c.S p := fun z => by
    obtain ⟨n, hn, es, q⟩ := hw p z
    exact hn (s.inj n i p es ds q h)
  have hn : ∀ o, c.H0 p = some o → ¬ NT o := fun o z y => ns ((s.own h).2.2.1 o z y)
  obtain ⟨G', s', e'⟩ := s.frz h hn
  exact k σ G' H Dd s' (kn.ex e')
/-- for: what holds of the names behind each turn -/
theorem s_for {ti : TI} (h : EvI c ti ρ fun ds ρ1 => ∃ In : Nat → Rho → Prop, In 0 ρ1 ∧ (∀ i d ρ2, ds[i]? = some d → In i ρ2 → WpG c g d ρ2 fun ρ3 => WpS c t { nx := In (i + 1), rt := e.rt, bk := e.nx, ct := In (i + 1) } ρ3) ∧ ∀ ρ2, In ds.length ρ2 → e.nx ρ2) :
    WpS c (tFor ti g t) e ρ := fun σ G H Dd s kn =>
  h σ G H _ s fun J ds ρ1 G1 H1 h1 s1 e1 w => by
    obtain ⟨In, i0, st, en⟩ := h1
    refine ⟨fun i m σ H => m = ds.length - i ∧ i ≤ ds.length ∧ ∃ ρ2 G2, In i ρ2 ∧ Sv c G2 H σ ρ2 ∧ Ex G1 G2, ⟨ds.length, by simp, Nat.zero_le _, ρ1, G1, i0, s1, fun _ _ z => z⟩, ?_⟩
    rintro i m σ2 H2 ⟨rfl, hi, ρ2, G2, hin, s2, e2⟩
    obtain ⟨w1, w2⟩ := w G2 H2 e2 s2.ex i
    have e12 : Ex G G2 := fun a o z => e2 a o (e1.ex a o z)
    by_cases hlt : i < ds.length
    · have hd : ds[i]? = some ds[i] := List.getElem?_eq_getElem hlt
      obtain ⟨w3, w4⟩ := w1 _ hd
      refine .inr ⟨w3, fun σ' H' => ∃ ρ' G', In (i + 1) ρ' ∧ Sv c G' H' σ' ρ' ∧ Ex G1 G', fun σ' H' ⟨ρ', G', a1, a2, a3⟩ => ⟨ds.length - (i + 1), by omega, rfl, hlt, ρ', G', a1, a2, a3⟩, fun x H3 y => ?_⟩
      obtain ⟨G3, n3, r3⟩ := w4 x H3 y
      have s3 := s2.nx n3
      refine st i _ ρ2 hd hin x σ2 G3 H3 _ s3 r3 fun σ4 ρ4 G4 H4 h4 s4 e4 => ?_
      have e14 : Ex G1 G4 := fun a o z => e4.ex a o (n3.gg a o (e2 a o z))
      have e04 : Ex G G4 := fun a o z => e14 a o (e1.ex a o z)
      exact h4 σ4 G4 H4 _ s4 ⟨fun σ ρ G' H a b z => ⟨ρ, G', a, b, fun p o y => z p o (e14 p o y)⟩, fun v r σ ρ G' H a b z => kn.rt v r σ ρ G' H a b fun p o y => z p o (e04 p o y),
        fun σ ρ G' H a b z => kn.nx σ ρ G' H a b fun p o y => z p o (e04 p o y), fun σ ρ G' H a b z => ⟨ρ, G', a, b, fun p o y => z p o (e14 p o y)⟩⟩
    · have ei : i = ds.length := by omega
      exact .inl ⟨w2 (by omega), kn.nx σ2 ρ2 G2 H2 (en ρ2 (by rw [← ei]; exact hin)) s2 e12⟩
theorem s_while (In : Nat → Rho → Prop) (m : Nat) (h0 : In m ρ) (h : ∀ m ρ2, In m ρ2 → EvT c tt ρ2 fun b ρ3 => (b = true → WpS c t { nx := fun ρ4 => ∃ k, k < m ∧ In k ρ4, rt := e.rt, bk := e.nx, ct := fun ρ4 => ∃ k, k < m ∧ In k ρ4 } ρ3) ∧ (b = false → e.nx ρ3)) : WpS c (tWhile tt t) e ρ := fun σ G H Dd s kn => by
  refine ⟨fun m σ H => ∃ ρ2 G2, In m ρ2 ∧ Sv c G2 H σ ρ2 ∧ Ex G G2, ⟨m, ρ, G, h0, s, fun _ _ z => z⟩, fun m σ2 H2 ⟨ρ2, G2, a1, a2, a3⟩ => ?_⟩
  refine h m ρ2 a1 σ2 G2 H2 _ a2 fun b ρ3 G3 H3 h3 s3 e3 => ?_
  have e03 : Ex G G3 := fun a o z => e3.ex a o (a3 a o z)
  cases b with
  | true => exact ⟨fun σ' H' => ∃ k, k < m ∧ ∃ ρ' G', In k ρ' ∧ Sv c G' H' σ' ρ' ∧ Ex G G', fun σ' H' ⟨k, b1, ρ', G', b2, b3, b4⟩ => ⟨k, b1, ρ', G', b2, b3, b4⟩, h3.1 rfl σ2 G3 H3 _ s3
      ⟨fun σ ρ G' H ⟨k, b1, b2⟩ b z => ⟨k, b1, ρ, G', b2, b, fun p o y => z p o (e03 p o y)⟩, fun v r σ ρ G' H a b z => kn.rt v r σ ρ G' H a b fun p o y => z p o (e03 p o y), fun σ ρ G' H a b z => kn.nx σ ρ G' H a b fun p o y => z p o (e03 p o y),
        fun σ ρ G' H ⟨k, b1, b2⟩ b z => ⟨k, b1, ρ, G', b2, b, fun p o y => z p o (e03 p o y)⟩⟩⟩
  | false => exact kn.nx σ2 ρ3 G3 H3 (h3.2 rfl) s3 e03
end
end Zd

/-! ## Zd5 -/
set_option Elab.async false
set_option linter.all false
set_option maxRecDepth 100000
set_option maxHeartbeats 4000000
namespace Zd
open PySem L2
variable {c : Cd}

/-! ### defs' promises -/
def SpP (K : PySem.W.Frag) (T : Tb) (pre : List D → Prop) (post : List D → D → Prop) (exc : List D → Addr → D → Prop) : Sp := fun vs H Q E => ∃ G ds, Ex G H ∧ TabOk T G H ∧ Rps K G ds vs ∧ pre ds ∧
  (∀ v d G' H', post ds d → Mv T (fun _ => False) G H G' H' → Rp K G' d v → Q v H') ∧
  ∀ C dd dx v G' H', exc ds C dd → Mv T (fun _ => False) G H G' H' → New H dx → H' dx = some (whatD v) → Rp K G' dd v → E (.ref C) (some dx) H'
def SpN (K : PySem.W.Frag) (T : Tb) (pre : List D → Prop) (post : List D → List D → Prop) : Sp := fun vs H Q E => ∃ G ds, Ex G H ∧ TabOk T G H ∧ Rps K G ds vs ∧ pre ds ∧
  ∀ p es ws G' H', post ds es → Mv T (fun _ => False) G H G' H' → (∀ o, H p = some o → ¬ NT o) → G' p = none → H' p = some (.lst ws) → Rps K G' es ws → Q (.ref p) H'
def SpJ (K : PySem.W.Frag) (T : Tb) (pre : List D → List D → Prop) (post : List D → List D → D → List D → Prop) : Sp := fun vs H Q E => ∃ G p js ws ds us, vs = .ref p :: us ∧ Ex G H ∧ TabOk T G H ∧ G p = none ∧ H p = some (.lst ws) ∧
  Rps K G js ws ∧ Rps K G ds us ∧ pre js ds ∧
  ∀ v d js' ws' G' H', post js ds d js' → Mv T (fun q => q = p) G H G' H' → G' p = none → H' p = some (.lst ws') → Rps K G' js' ws' → Rp K G' d v → Q v H'
abbrev noExc : List D → Addr → D → Prop := fun _ _ _ => False
def args (ds : List D) (n : Nat) : Rho := ds.map (fun d => some (DV.dat d)) ++ List.replicate n none
theorem args_own {ds : List D} {n i : Nat} {p : Addr} {es : List D} : (args ds n)[i]? ≠ some (some (.own p es)) := fun h => by
  unfold args at h
  have m := List.mem_of_getElem? h
  rcases List.mem_append.mp m with m | m
  · obtain ⟨d, _, e⟩ := List.mem_map.mp m
    cases e
  · have e := List.eq_of_mem_replicate m
    cases e
theorem start_len {N : List Str} {vs : List V} (h : vs.length ≤ N.length) : (L2.start N vs).length = N.length := by
  unfold L2.start
  rw [List.length_append, List.length_map, List.length_replicate]
  omega
theorem args_env {K : PySem.W.Frag} {G : Hp} : ∀ {ds : List D} {vs : List V} {n m i : Nat} {x : DV}, Rps K G ds vs → (args ds n)[i]? = some (some x) → ∃ v d, (vs.map some ++ List.replicate m none)[i]? = some (some v) ∧ x = .dat d ∧ Rp K G d v
  | [], _, n, m, i, x, _, h => by
    have q := List.mem_of_getElem? h
    have e := List.eq_of_mem_replicate (show some x ∈ List.replicate n none from q)
    cases e
  | d :: ds, _, n, m, 0, x, ⟨v, r, h1, h2, h3⟩, h => by
    subst h1
    have e : some (some (DV.dat d)) = some (some x) := h
    cases e
    exact ⟨v, d, rfl, rfl, h2⟩
  | d :: ds, _, n, m, i + 1, x, ⟨v, r, h1, h2, h3⟩, h => by
    subst h1
    exact args_env (i := i) (n := n) (m := m) h3 h
section
variable {K : PySem.W.Frag} {T : Tb} {N : List Str} {t : TS} {Q : VK} {E : XK} {vs : List V} {H : Hp}
/-- a def's body, from its promise -/
theorem fn_P {pre : List D → Prop} {post : List D → D → Prop} {exc : List D → Addr → D → Prop} (h : SpP K T pre post exc vs H Q E) (hN : vs.length ≤ N.length)
    (b : ∀ G ds, pre ds → WpS ⟨K, T, fun _ => False, G, H, E, exc ds⟩ t { nx := fun _ => post ds .non, rt := fun r _ => ∃ d, r = .dat d ∧ post ds d } (args ds (N.length - ds.length))) :
    t { nx := fun _ H' => Q .non H', rt := Q } (L2.start N vs) H := by
  obtain ⟨G, ds, e, tb, r, hp, q, qx⟩ := h
  refine b G ds hp (L2.start N vs) G H _ ⟨Mv.refl e, tb, ?_, fun i x hx => ?_, fun i j p xs ys h1 _ => absurd h1 args_own, fun C dd dx v G' H' z m nw hx rv => qx C dd dx v G' H' z m nw hx rv⟩ ⟨fun σ ρ G' H' z s _ => q _ _ G' H' z s.mv rfl, fun v r σ ρ G' H' ⟨d, z1, z2⟩ s _ rv _ => ?_, fun _ _ _ _ z => z.elim, fun _ _ _ _ z => z.elim⟩
  · rw [start_len hN]
    unfold args
    rw [List.length_append, List.length_map, List.length_replicate, ← r.len]
    omega
  · obtain ⟨v, d, h1, rfl, h2⟩ := args_env (m := N.length - vs.length) r hx
    exact ⟨v, h1, h2⟩
  · subst z1
    exact q v d G' H' z2 s.mv rv
theorem fn_N {pre : List D → Prop} {post : List D → List D → Prop} (h : SpN K T pre post vs H Q E) (hN : vs.length ≤ N.length)
    (b : ∀ G ds, pre ds → WpS ⟨K, T, fun _ => False, G, H, E0, fun _ _ => False⟩ t { nx := fun _ => False, rt := fun r _ => ∃ p es, r = .own p es ∧ post ds es } (args ds (N.length - ds.length))) :
    t { nx := fun _ H' => Q .non H', rt := Q } (L2.start N vs) H := by
  obtain ⟨G, ds, e, tb, r, hp, q⟩ := h
  refine b G ds hp (L2.start N vs) G H _ ⟨Mv.refl e, tb, ?_, fun i x hx => ?_, fun i j p xs ys h1 _ => absurd h1 args_own, fun _ _ _ _ _ _ z => z.elim⟩ ⟨fun _ _ _ _ z => z.elim, fun v r σ ρ G' H' ⟨p, es, z1, z2⟩ s _ rv o => ?_, fun _ _ _ _ z => z.elim, fun _ _ _ _ z => z.elim⟩
  · rw [start_len hN]
    unfold args
    rw [List.length_append, List.length_map, List.length_replicate, ← r.len]
    omega
  · obtain ⟨v, d, h1, rfl, h2⟩ := args_env (m := N.length - vs.length) r hx
    exact ⟨v, h1, h2⟩
  · subst z1
    obtain ⟨rfl, r2, r3, ws, r4, r5⟩ := rv
    exact q p es ws G' H' z2 s.mv (o p es rfl).1 r2 r4 r5
theorem fn_J {pre : List D → List D → Prop} {post : List D → List D → D → List D → Prop} (h : SpJ K T pre post vs H Q E) (hN : vs.length ≤ N.length)
    (b : ∀ G p js ds, pre js ds → WpS ⟨K, T, fun q => q = p, G, H, E0, fun _ _ => False⟩ t { nx := fun ρ => ∃ js', ρ[0]? = some (some (.own p js')) ∧ post js ds .non js', rt := fun r ρ => ∃ d js', r = .dat d ∧ ρ[0]? = some (some (.own p js')) ∧ post js ds d js' } (some (.own p js) :: args ds (N.length - (ds.length + 1)))) :
    t { nx := fun _ H' => Q .non H', rt := Q } (L2.start N vs) H := by
  obtain ⟨G, p, js, ws, ds, us, rfl, e, tb, gp, hp, rj, r, hpre, q⟩ := h
  refine b G p js ds hpre (L2.start N _) G H _ ⟨Mv.refl e, tb, ?_, fun i x hx => ?_, fun i j a xs ys h1 h2 => ?_, fun _ _ _ _ _ _ z => z.elim⟩ ⟨fun σ ρ G' H' ⟨js', z1, z2⟩ s _ => ?_, fun v r σ ρ G' H' ⟨d, js', z0, z1, z2⟩ s _ rv _ => ?_, fun _ _ _ _ z => z.elim, fun _ _ _ _ z => z.elim⟩
  · rw [start_len hN]
    have := r.len
    unfold args
    rw [List.length_cons, List.length_append, List.length_map, List.length_replicate]
    rw [List.length_cons] at hN
    omega
  · cases i with
    | zero =>
      have z : some (some (DV.own p js)) = some (some x) := hx
      cases z
      exact ⟨.ref p, rfl, rfl, gp, fun o _ _ => rfl, ws, hp, rj⟩
    | succ i =>
      obtain ⟨v, d, h1, rfl, h2⟩ := args_env (i := i) (m := N.length - (V.ref p :: us).length) r hx
      exact ⟨v, h1, h2⟩
  · cases i with
    | zero =>
      cases j with
      | zero => rfl
      | succ j => exact absurd (show (args ds (N.length - (ds.length + 1)))[j]? = some (some (.own a ys)) from h2) args_own
    | succ i => exact absurd (show (args ds (N.length - (ds.length + 1)))[i]? = some (some (.own a xs)) from h1) args_own
  · obtain ⟨_, g2, _, ws', g4, g5⟩ := s.own z1
    exact q .non .non js' ws' G' H' z2 s.mv g2 g4 g5 rfl
  · subst z0
    obtain ⟨_, g2, _, ws', g4, g5⟩ := s.own z1
    exact q v d js' ws' G' H' z2 s.mv g2 g4 g5 rv
end
/-! ### calls of defs -/
theorem Sv.call {G H G' H' : Hp} {σ : St} {ρ : Rho} (s : Sv c G H σ ρ) (m : Mv c.T (fun _ => False) G H G' H') : Sv c G' H' σ ρ := by
  refine ⟨s.mv.trans (m.mono fun _ z => z.elim), m.tb s.tb, s.len, fun i x hx => ?_, s.inj, s.xc⟩
  obtain ⟨v, e1, e2⟩ := s.env i x hx
  refine ⟨v, e1, ?_⟩
  cases x with
  | dat d => exact Rp.ex m.gg e2
  | fn a => exact e2
  | own p ds =>
    obtain ⟨k1, k2, k3, vs, k4, k5⟩ := e2
    obtain ⟨g, o', h', _, e⟩ := m.st p _ k4 nt_lst k2
    exact ⟨k1, g, k3, vs, by rw [h', e id], Rps.ex m.gg k5⟩
theorem Sv.newAt {G H : Hp} {σ : St} {ρ : Rho} (s : Sv c G H σ ρ) {p : Addr} (h : New H p) : New c.H0 p := fun o ho n => by
  cases g0 : c.G0 p with
  | some u =>
    have y := s.mv.gh p u (s.mv.gg p u g0)
    have z := s.mv.ggh g0 ho
    subst z
    exact h _ y n
  | none =>
    obtain ⟨_, o', h', n', _⟩ := s.mv.st p o ho n g0
    exact h o' h' n'
theorem Tr.mv {T : Tb} {ρ : Rho} {G H G' H' : Hp} (m : Mv T (fun _ => False) G H G' H') : Tr ρ G H ρ G' H' := ⟨m.gg, fun a o h n => by
  cases g : G a with
  | none =>
    obtain ⟨_, o', h', n', _⟩ := m.st a o h n g
    exact ⟨o', h', n'⟩
  | some u =>
    have z := m.ggh g h
    subst z
    exact ⟨u, m.gh a u (m.gg a u g), n⟩, fun a o h n g k => by
  obtain ⟨g', o', h', _, e⟩ := m.st a o h n g
  exact ⟨by rw [h', e id], g', k⟩⟩
theorem Tr.mvJ {T : Tb} {ρ : Rho} {G H G' H' : Hp} {j : Nat} {p : Addr} {js js' : List D} (hj : ρ[j]? = some (some (.own p js))) (m : Mv T (fun q => q = p) G H G' H') : Tr ρ G H (ρ.set j (some (.own p js'))) G' H' := ⟨m.gg, fun a o h n => by
  cases g : G a with
  | none =>
    obtain ⟨_, o', h', n', _⟩ := m.st a o h n g
    exact ⟨o', h', n'⟩
  | some u =>
    have z := m.ggh g h
    subst z
    exact ⟨u, m.gh a u (m.gg a u g), n⟩, fun a o h n g k => by
  obtain ⟨g', o', h', _, e⟩ := m.st a o h n g
  have ap : a ≠ p := fun z => by
    subst z
    exact k j js hj
  refine ⟨by rw [h', e ap], g', fun i es z => ?_⟩
  rw [List.getElem?_set] at z
  split at z
  · split at z
    · cases z
      exact ap rfl
    · cases z
  · exact k i es z⟩
theorem Sv.callJ {G H G' H' : Hp} {σ : St} {ρ : Rho} {j : Nat} {p : Addr} {js js' : List D} {ws' : List V} (s : Sv c G H σ ρ) (hj : ρ[j]? = some (some (.own p js))) (m : Mv c.T (fun q => q = p) G H G' H') (hg : G' p = none) (hp : H' p = some (.lst ws')) (hr : Rps c.K G' js' ws') :
    Sv c G' H' σ (ρ.set j (some (.own p js'))) := by
  obtain ⟨k1, k2, k3, vs, k4, k5⟩ := s.own hj
  have hi : j < ρ.length := (List.getElem?_eq_some_iff.mp hj).1
  refine ⟨⟨s.mv.oh, fun a o z => m.gg a o (s.mv.gg a o z), m.gh, fun a o h n g => ?_, fun t => m.tb (s.mv.tb t)⟩, m.tb s.tb, by simpa using s.len, fun i x hx => ?_, fun i k q xs ys h1 h2 => ?_, s.xc⟩
  · obtain ⟨g1, o1, h1, n1, e1⟩ := s.mv.st a o h n g
    obtain ⟨g2, o2, h2, n2, e2⟩ := m.st a o1 h1 n1 g1
    refine ⟨g2, o2, h2, n2, fun z => ?_⟩
    by_cases y : a = p
    · subst y
      exact absurd (k3 o h n) z
    · exact (e2 y).trans (e1 z)
  · by_cases e : j = i
    · subst e
      rw [List.getElem?_set_self hi] at hx
      cases hx
      exact ⟨_, k1, rfl, hg, k3, ws', hp, hr⟩
    · rw [List.getElem?_set_ne e] at hx
      obtain ⟨v, e1, e2⟩ := s.env i x hx
      refine ⟨v, e1, ?_⟩
      cases x with
      | dat d => exact Rp.ex m.gg e2
      | fn a => exact e2
      | own q ds =>
        obtain ⟨f1, f2, f3, us, f4, f5⟩ := e2
        have n : q ≠ p := fun y => by
          subst y
          exact e (s.inj j i _ _ _ hj hx)
        obtain ⟨g, o', h', _, e'⟩ := m.st q _ f4 nt_lst f2
        exact ⟨f1, g, f3, us, by rw [h', e' n], Rps.ex m.gg f5⟩
  · by_cases n1 : j = i
    · by_cases n2 : j = k
      · exact n1.symm.trans n2
      · subst n1
        rw [List.getElem?_set_self hi] at h1
        cases h1
        rw [List.getElem?_set_ne n2] at h2
        exact absurd (s.inj j k _ _ _ hj h2) n2
    · rw [List.getElem?_set_ne n1] at h1
      by_cases n2 : j = k
      · subst n2
        rw [List.getElem?_set_self hi] at h2
        cases h2
        exact absurd (s.inj j i _ _ _ hj h1) n1
      · rw [List.getElem?_set_ne n2] at h2
        exact s.inj i k q xs ys h1 h2
section
variable {ρ : Rho} {P : D → Rho → Prop} {PN : List D → Rho → Prop} {te ta' : TE} {ta : TA} {E : XK}
/-- f(..), nothing is raised -/
theorem w_call {pre : List D → Prop} {post : List D → D → Prop} {exc : List D → Addr → D → Prop} (h : EvA c ta ρ fun ds ρ1 => pre ds ∧ (∀ C d, ¬ exc ds C d) ∧ ∀ d, post ds d → P d ρ1) : EvD c (tCall (SpP c.K c.T pre post exc) [] E ta) ρ P := fun σ G H Q s q =>
  h σ G H _ s fun vs ds ρ1 G1 H1 h1 s1 e1 r1 => ⟨G1, ds, s1.ex, s1.tb, by rw [List.append_nil]; exact r1, h1.1, fun v d G' H' p m r => q v d ρ1 G' H' (h1.2.2 d p) (s1.call m) (e1.trans (.mv m)) r, fun C dd _ _ _ _ z => absurd z (h1.2.1 C dd)⟩
/-- f(..), what it raises leaves this def too -/
theorem w_callX {pre : List D → Prop} {post : List D → D → Prop} {exc : List D → Addr → D → Prop} (h : EvA c ta ρ fun ds ρ1 => pre ds ∧ (∀ C d, exc ds C d → c.RZ C d) ∧ ∀ d, post ds d → P d ρ1) : EvD c (tCall (SpP c.K c.T pre post exc) [] c.E ta) ρ P := fun σ G H Q s q =>
  h σ G H _ s fun vs ds ρ1 G1 H1 h1 s1 e1 r1 => ⟨G1, ds, s1.ex, s1.tb, by rw [List.append_nil]; exact r1, h1.1, fun v d G' H' p m r => q v d ρ1 G' H' (h1.2.2 d p) (s1.call m) (e1.trans (.mv m)) r,
    fun C dd dx v G' H' z m nw hx rv => s1.xc C dd dx v G' H' (h1.2.1 C dd z) (s1.mv.trans (m.mono fun _ y => y.elim)) (s1.newAt nw) hx rv⟩
theorem w_callN {pre : List D → Prop} {post : List D → List D → Prop} (h : EvA c ta ρ fun ds ρ1 => pre ds ∧ ∀ es, post ds es → PN es ρ1) : EvN c (tCall (SpN c.K c.T pre post) [] E ta) ρ PN := fun σ G H Q s q =>
  h σ G H _ s fun vs ds ρ1 G1 H1 h1 s1 e1 r1 => ⟨G1, ds, s1.ex, s1.tb, by rw [List.append_nil]; exact r1, h1.1, fun p es ws G' H' z m hn g hp r => by
    have nw1 : New H1 p := hn
    have nw : Nw c p := fun o ho n => by
      cases g0 : c.G0 p with
      | some u =>
        have y := s1.mv.gg p u g0
        rw [m.gg p u y] at g
        cases g
      | none =>
        obtain ⟨_, o', h', n', _⟩ := s1.mv.st p o ho n g0
        exact hn o' h' n'
    refine q p es ws ρ1 G' H' (h1.2 es z) (s1.call m) (e1.trans (.mv m)) hp g r ⟨nw, e1.new nw1⟩ fun j fs y => ?_
    obtain ⟨_, _, _, us, k4, _⟩ := s1.own y
    exact hn _ k4 nt_lst⟩
/-- f(jar, ..) -/
theorem w_callJ {i : Nat} {pre : List D → List D → Prop} {post : List D → List D → D → List D → Prop} {tr : TA} (h : EvA c tr ρ fun ds ρ1 => ∃ p js, ρ[i]? = some (some (.own p js)) ∧ ∃ js', ρ1[i]? = some (some (.own p js')) ∧ pre js' ds ∧ ∀ d es, post js' ds d es → P d (ρ1.set i (some (.own p es)))) :
    (∃ p js, ρ[i]? = some (some (.own p js))) → EvD c (tCall (SpJ c.K c.T pre post) [] E (tCons (tVar i) tr)) ρ P := fun ⟨p0, js0, hj⟩ σ G H Q s q => by
  obtain ⟨k1, _⟩ := s.own hj
  refine ⟨.ref p0, k1, ?_⟩
  refine h σ G H _ s fun vs ds ρ1 G1 H1 h1 s1 e1 r1 => ?_
  obtain ⟨p, js, f1, js', f2, f3, f4⟩ := h1
  rw [hj] at f1
  cases f1
  obtain ⟨_, g2, _, ws, g4, g5⟩ := s1.own f2
  refine ⟨G1, p0, js', ws, ds, vs, by rw [List.append_nil], s1.ex, s1.tb, g2, g4, g5, r1, f3, fun v d es ws' G' H' z m g hp rw_ rv => q v d _ G' H' (f4 d es z) (s1.callJ f2 m g hp rw_) (e1.trans (.mvJ f2 m)) rv⟩
/-! ### built-in functions, by values -/
def CD (K : PySem.W.Frag) (r : List V → Hp → VK → Prop) (ds : List D) (P : D → Prop) : Prop := ∀ vs (G H : Hp) (Q : VK), Ex G H → Rps K G ds vs → (∀ v d G' H', P d → Nx G H G' H' → Rp K G' d v → Q v H') → r vs H Q
theorem w_cb {r : List V → Hp → VK → Prop} (h : EvA c ta ρ fun ds ρ1 => CD c.K r ds fun d => P d ρ1) : EvD c (tCB r ta) ρ P := fun σ G H Q s q =>
  h σ G H _ s fun vs ds ρ1 G1 H1 h1 s1 e1 r1 => h1 vs G1 H1 Q s1.ex r1 fun v d G2 H2 p n r2 => q v d ρ1 G2 H2 p (s1.nx n) (e1.trans (.nx n)) r2
def CN (K : PySem.W.Frag) (r : List V → Hp → VK → Prop) (ds : List D) (P : List D → Prop) : Prop := ∀ vs (G H : Hp) (Q : VK), Ex G H → Rps K G ds vs → (∀ p es ws, P es → H p = none → Rps K G es ws → Q (.ref p) (upd H p (.lst ws))) → r vs H Q
theorem w_cbN {r : List V → Hp → VK → Prop} (h : EvA c ta ρ fun ds ρ1 => CN c.K r ds fun d => PN d ρ1) : EvN c (tCB r ta) ρ PN := fun σ G H Q s q =>
  h σ G H _ s fun vs ds ρ1 G1 H1 h1 s1 e1 r1 => h1 vs G1 H1 Q s1.ex r1 fun p es ws hp hn r2 => by
    obtain ⟨f1, f2, f3⟩ := s1.fresh hn
    exact q p es ws ρ1 G1 _ hp (s1.nx (Nx.own s1.ex hn)) (e1.trans (.nx (Nx.own s1.ex hn))) upd_same f1 r2 ⟨f2, e1.new (.of hn)⟩ f3
theorem CD.of_N {K : PySem.W.Frag} {r : List V → Hp → VK → Prop} {ds : List D} {P : D → Prop} (h : CN K r ds fun es => P (.lst es)) : CD K r ds P := fun vs G H Q e r1 q => h vs G H Q e r1 fun p es ws hp hn hr =>
  q _ _ _ _ hp (Nx.new e hn) ⟨p, ws, rfl, upd_same, Rps.ex (Nx.new e hn).gg hr⟩
theorem CD.val {K : PySem.W.Frag} {r : List V → Hp → VK → Prop} {ds : List D} {d : D} {P : D → Prop} (k : P d) (h : ∀ vs (G H : Hp) (Q : VK), Ex G H → Rps K G ds vs → (∀ v, Rp K G d v → Q v H) → r vs H Q) : CD K r ds P :=
  fun vs G H Q e r1 q => h vs G H Q e r1 fun v rv => q v d G H k (Nx.refl e) rv
end
section
variable {K : PySem.W.Frag} {P : D → Prop} {PN : List D → Prop}
theorem rps1 {G : Hp} {d : D} {vs : List V} (r : Rps K G [d] vs) : ∃ v, vs = [v] ∧ Rp K G d v := by
  obtain ⟨v, w, rfl, r1, r2⟩ := r
  cases r2
  exact ⟨v, rfl, r1⟩
theorem rps2 {G : Hp} {d f : D} {vs : List V} (r : Rps K G [d, f] vs) : ∃ v w, vs = [v, w] ∧ Rp K G d v ∧ Rp K G f w := by
  obtain ⟨v, w, rfl, r1, r2⟩ := r
  obtain ⟨u, rfl, r3⟩ := rps1 r2
  exact ⟨v, u, rfl, r1, r3⟩
def rLenV (K : PySem.W.Frag) : List V → Hp → VK → Prop := fun xs H Q => ∃ x n, xs = [x] ∧ LenV K x H n ∧ Q (.int n) H
theorem c_len {X : Cx} : CallR X (.builtin "len") (rLenV X.K) := call_len
def lenD : D → Option Nat
  | .str s => some s.length
  | .tup ds => some ds.length
  | .lst ds => some ds.length
  | _ => none
theorem k_len {d : D} {n : Nat} (h : lenD d = some n) (hs : ∀ s, d = .str s → s.length ≤ sizeLine) (k : P (.int n)) : CD K (rLenV K) [d] P := CD.val k fun vs G H Q e r0 q => by
  obtain ⟨v, e0, r⟩ := rps1 r0
  clear r0
  subst e0
  refine ⟨v, n, rfl, ?_, q _ rfl⟩
  cases d with
  | str s =>
    have ev : v = .str s := r
    subst ev
    cases h
    exact ⟨hs s rfl, rfl⟩
  | tup ds =>
    obtain ⟨a, ws, ev, r1, r2⟩ := r
    subst ev
    cases h
    exact .inr ⟨ws, sqt_ex e r1, r2.len.symm⟩
  | lst ds =>
    obtain ⟨a, ws, ev, r1, r2⟩ := r
    subst ev
    cases h
    exact .inl ⟨ws, SqL.of (e _ _ r1), r2.len.symm⟩
  | _ => cases h
def rInt1 : List V → Hp → VK → Prop := fun xs H Q => (∃ i, xs = [.int i] ∧ Q (.int i) H) ∨ ∃ k, xs = [.bl k] ∧ Q (.int (if k then 1 else 0)) H
theorem c_int {X : Cx} : CallR X (.type "int") rInt1 := call_int1
theorem k_int {i : Int} (k : P (.int i)) : CD K rInt1 [.int i] P := CD.val k fun vs G H Q e r0 q => by
  obtain ⟨v, rfl, r⟩ := rps1 r0
  cases r
  exact .inl ⟨i, rfl, q _ rfl⟩
theorem k_intB {b : Bool} (k : P (.int (if b then 1 else 0))) : CD K rInt1 [.bl b] P := CD.val k fun vs G H Q e r0 q => by
  obtain ⟨v, rfl, r⟩ := rps1 r0
  cases r
  exact .inr ⟨b, rfl, q _ rfl⟩
def rIntS : List V → Hp → VK → Prop := fun xs H Q => ∃ a n, xs = [.str a] ∧ PySem.intText? a = some n ∧ a.length ≤ 640 ∧ Q (.int n) H
theorem c_intS {X : Cx} : CallR X (.type "int") rIntS := call_int_str
theorem k_intS {a : Str} {n : Int} (h : PySem.intText? a = some n) (hl : a.length ≤ 640) (k : P (.int n)) : CD K rIntS [.str a] P := CD.val k fun vs G H Q e r0 q => by
  obtain ⟨v, rfl, r⟩ := rps1 r0
  cases r
  exact ⟨a, n, rfl, h, hl, q _ rfl⟩
/-- str(x): of an int, or of a text -/
def rStr : List V → Hp → VK → Prop := fun xs H Q => (∃ i, xs = [.int i] ∧ i.natAbs.log2 < 1920 ∧ Q (.str (toString i)) H) ∨ ∃ a, xs = [.str a] ∧ Q (.str a) H
theorem c_str {X : Cx} : CallR X (.type "str") rStr := fun pins s σ H xs us Q I r h => by
  rcases h with h | h
  · exact call_str_int pins s σ H xs us Q I r h
  · exact SkE.call_str_str pins s σ H xs us Q I r h
theorem k_strI {i : Int} (h : i.natAbs.log2 < 1920) (k : P (.str (toString i))) : CD K rStr [.int i] P := CD.val k fun vs G H Q e r0 q => by
  obtain ⟨v, rfl, r⟩ := rps1 r0
  cases r
  exact .inl ⟨i, rfl, h, q _ rfl⟩
theorem k_strS {a : Str} (k : P (.str a)) : CD K rStr [.str a] P := CD.val k fun vs G H Q e r0 q => by
  obtain ⟨v, rfl, r⟩ := rps1 r0
  cases r
  exact .inr ⟨a, rfl, q _ rfl⟩
def rMx2 : List V → Hp → VK → Prop := fun xs H Q => ∃ i j, xs = [.int i, .int j] ∧ Q (.int (if j > i then j else i)) H
theorem c_max2 {X : Cx} (hc : X.calm = true) : CallR X (.builtin "max") rMx2 := call_max2 hc
theorem k_max2 {i j : Int} (k : P (.int (max i j))) : CD K rMx2 [.int i, .int j] P := CD.val k fun vs G H Q e r0 q => by
  obtain ⟨v, w, rfl, r, r'⟩ := rps2 r0
  cases r
  cases r'
  have z : (if j > i then j else i) = max i j := by split <;> omega
  exact ⟨i, j, rfl, by rw [z]; exact q _ rfl⟩
def rMi2 : List V → Hp → VK → Prop := fun xs H Q => ∃ i j, xs = [.int i, .int j] ∧ Q (.int (if j < i then j else i)) H
theorem c_min2 {X : Cx} (hc : X.calm = true) : CallR X (.builtin "min") rMi2 := call_min2 hc
theorem k_min2 {i j : Int} (k : P (.int (min i j))) : CD K rMi2 [.int i, .int j] P := CD.val k fun vs G H Q e r0 q => by
  obtain ⟨v, w, rfl, r, r'⟩ := rps2 r0
  cases r
  cases r'
  have z : (if j < i then j else i) = min i j := by split <;> omega
  exact ⟨i, j, rfl, by rw [z]; exact q _ rfl⟩
theorem rps_bls {G : Hp} : ∀ {bs : List Bool} {vs : List V}, Rps K G (bs.map D.bl) vs → vs = bs.map V.bl
  | [], _, h => h
  | b :: bs, _, ⟨v, r, h1, h2, h3⟩ => by
    subst h1
    cases h2
    rw [rps_bls h3]
    rfl
theorem k_all {bs : List Bool} (k : P (.bl (bs.all id))) : CD K (rAll K) [.lst (bs.map D.bl)] P := CD.val k fun vs G H Q e r0 q => by
  obtain ⟨v, rfl, a, ws, rfl, r1, r2⟩ := rps1 r0
  exact ⟨a, bs, rfl, SqL.of (by rw [← rps_bls r2]; exact e _ _ r1), q _ rfl⟩
def rTupO (K : PySem.W.Frag) : List V → Hp → VK → Prop := fun xs H Q => ∃ p ys, xs = [.ref p] ∧ ((SqL K H p ys ∧ ∀ l, H l = none → Q (.ref l) (upd H l (.tup ys))) ∨ (SqT K H p ys ∧ Q (.ref p) H))
theorem c_tup {X : Cx} : CallR X (.type "tuple") (rTupO X.K) := call_tuple_of
theorem k_tup {ds : List D} (k : P (.tup ds)) : CD K (rTupO K) [.lst ds] P := fun vs G H Q e r0 q => by
  obtain ⟨v, rfl, a, ws, rfl, r1, r2⟩ := rps1 r0
  exact ⟨a, ws, rfl, .inl ⟨SqL.of (e _ _ r1), fun l hl => q _ _ _ _ k (Nx.new e hl) ⟨l, ws, rfl, SqT.of upd_same, Rps.ex (Nx.new e hl).gg r2⟩⟩⟩
theorem k_tupT {ds : List D} (k : P (.tup ds)) : CD K (rTupO K) [.tup ds] P := CD.val k fun vs G H Q e r0 q => by
  obtain ⟨v, rfl, a, ws, rfl, r1, r2⟩ := rps1 r0
  exact ⟨a, ws, rfl, .inr ⟨sqt_ex e r1, q _ ⟨a, ws, rfl, r1, r2⟩⟩⟩
def rLstO (K : PySem.W.Frag) : List V → Hp → VK → Prop := fun xs H Q => ∃ p ys, xs = [.ref p] ∧ (SqL K H p ys ∨ SqT K H p ys) ∧ ∀ l, H l = none → Q (.ref l) (upd H l (.lst ys))
theorem c_lst {X : Cx} : CallR X (.type "list") (rLstO X.K) := call_list_of
theorem k_lst {ds : List D} (k : PN ds) : CN K (rLstO K) [.lst ds] PN := fun vs G H Q e r0 q => by
  obtain ⟨v, rfl, a, ws, rfl, r1, r2⟩ := rps1 r0
  exact ⟨a, ws, rfl, .inl (SqL.of (e _ _ r1)), fun l hl => q l ds ws k hl r2⟩
theorem k_lstT {ds : List D} (k : PN ds) : CN K (rLstO K) [.tup ds] PN := fun vs G H Q e r0 q => by
  obtain ⟨v, rfl, a, ws, rfl, r1, r2⟩ := rps1 r0
  exact ⟨a, ws, rfl, .inr (sqt_ex e r1), fun l hl => q l ds ws k hl r2⟩
end
end Zd

/-! ## Zd6 -/
set_option Elab.async false
set_option linter.all false
set_option maxRecDepth 100000
set_option maxHeartbeats 4000000
namespace Zd
open PySem L2
variable {c : Cd}

/-! ### comprehensions -/
def wipeR (ρ : Rho) : List Nat → Rho
  | [] => ρ
  | v :: vs => (wipeR ρ vs).set v none
theorem wipeR_len (ρ : Rho) : ∀ vs : List Nat, (wipeR ρ vs).length = ρ.length
  | [] => rfl
  | v :: vs => by unfold wipeR; rw [List.length_set, wipeR_len ρ vs]
theorem wipeR_some {ρ : Rho} {i : Nat} {x : DV} : ∀ {vs : List Nat}, (wipeR ρ vs)[i]? = some (some x) → ρ[i]? = some (some x) ∧ i ∉ vs
  | [], h => ⟨h, by simp⟩
  | v :: vs, h => by
    unfold wipeR at h
    rw [List.getElem?_set] at h
    split at h
    · split at h <;> cases h
    · rename_i n
      obtain ⟨h1, h2⟩ := wipeR_some h
      refine ⟨h1, fun m => ?_⟩
      rcases List.mem_cons.mp m with e | m
      · exact n e.symm
      · exact h2 m
theorem wipe_get {σ : St} {i : Nat} : ∀ {vs : List Nat}, i ∉ vs → (wipe σ vs)[i]? = σ[i]?
  | [], _ => rfl
  | v :: vs, h => by
    unfold wipe
    rw [List.getElem?_set_ne (fun e => h (by rw [e]; exact List.mem_cons_self))]
    exact wipe_get fun m => h (List.mem_cons_of_mem _ m)
theorem wipe_idem {σ : St} (vs : List Nat) : wipe (wipe σ vs) vs = wipe σ vs := by
  apply List.ext_getElem?
  intro i
  by_cases h : i ∈ vs
  · have key : ∀ (τ : St) (ws : List Nat), τ.length = σ.length → i ∈ ws → (wipe τ ws)[i]? = if i < σ.length then some none else none := by
      intro τ ws ht
      induction ws with
      | nil => intro m; cases m
      | cons w ws ih =>
        intro m
        unfold wipe
        rw [List.getElem?_set, wipe_length, ht]
        by_cases e : w = i
        · rw [if_pos e]
          subst e
          rfl
        · rw [if_neg e]
          rcases List.mem_cons.mp m with z | z
          · exact absurd z.symm e
          · exact ih z
    rw [key _ vs (wipe_length σ vs) h, key σ vs rfl h]
  · rw [wipe_get h]
section
variable {G H : Hp} {σ σ2 : St} {ρ ρ2 : Rho}
theorem Sv.wipe (s : Sv c G H σ ρ) (vs : List Nat) : Sv c G H (L2.wipe σ vs) (wipeR ρ vs) := by
  refine ⟨s.mv, s.tb, by rw [wipeR_len, wipe_length, s.len], fun i x hx => ?_, fun i j p ds es h1 h2 => s.inj i j p ds es (wipeR_some h1).1 (wipeR_some h2).1, s.xc⟩
  obtain ⟨h1, h2⟩ := wipeR_some hx
  obtain ⟨v, e1, e2⟩ := s.env i x h1
  exact ⟨v, by rw [wipe_get h2]; exact e1, e2⟩
theorem Sv.unwipe (s : Sv c G H σ2 ρ2) {vs : List Nat} (h : L2.wipe σ2 vs = L2.wipe σ vs) : Sv c G H σ (wipeR ρ2 vs) := by
  refine ⟨s.mv, s.tb, ?_, fun i x hx => ?_, fun i j p ds es h1 h2 => s.inj i j p ds es (wipeR_some h1).1 (wipeR_some h2).1, s.xc⟩
  · have e := congrArg List.length h
    rw [wipe_length, wipe_length] at e
    rw [wipeR_len, s.len, e]
  · obtain ⟨h1, h2⟩ := wipeR_some hx
    obtain ⟨v, e1, e2⟩ := s.env i x h1
    refine ⟨v, ?_, e2⟩
    rw [← wipe_get (σ := σ) h2, ← h, wipe_get h2]
    exact e1
/-- a list that stands at no name is written -/
theorem Sv.hid (s : Sv c G H σ ρ) {p : Addr} {vs ws : List V} (hp : H p = some (.lst vs)) (hg : G p = none) (hn : Nw c p) (ho : NotOwn ρ p) : Sv c G (upd H p (.lst ws)) σ ρ := by
  refine ⟨⟨s.mv.oh, s.mv.gg, fun a o e => ?_, fun a o e nt g => ?_, fun t => tab_upd (s.mv.tb t) hp nt_lst lst_ne_code⟩, tab_upd s.tb hp nt_lst lst_ne_code, s.len, fun j x hx => ?_, s.inj, s.xc⟩
  · rw [upd_ne (ne_of_none e hg)]
    exact s.mv.gh a o e
  · obtain ⟨g1, o', e1, n1, k1⟩ := s.mv.st a o e nt g
    have z : a ≠ p := fun y => by
      subst y
      exact hn o e nt
    exact ⟨g1, o', by rw [upd_ne z]; exact e1, n1, k1⟩
  · obtain ⟨v, e1, e2⟩ := s.env j x hx
    refine ⟨v, e1, ?_⟩
    cases x with
    | dat d => exact e2
    | fn a => exact e2
    | own q fs =>
      obtain ⟨f1, f2, f3, us, f4, f5⟩ := e2
      have n : q ≠ p := fun y => by
        subst y
        exact ho j fs hx
      exact ⟨f1, f2, f3, us, by rw [upd_ne n]; exact f4, f5⟩
end
theorem Tr.hid {ρ1 ρ2 : Rho} {G1 H1 G2 H2 : Hp} {p : Addr} {ws : List V} (x : Tr ρ1 G1 H1 ρ2 G2 H2) (hp : H1 p = none) : Tr ρ1 G1 H1 ρ2 G2 (upd H2 p (.lst ws)) :=
  ⟨x.ex, fun a o h n => by
    rw [upd_ne (ne_of_none h hp)]
    exact x.dm a o h n, fun a o h n g k => by
    rw [upd_ne (ne_of_none h hp)]
    exact x.fr a o h n g k⟩
theorem NotOwn.wipe {ρ : Rho} {a : Addr} (h : NotOwn ρ a) (vs : List Nat) : NotOwn (wipeR ρ vs) a := fun j es z => h j es (wipeR_some z).1
theorem Tr.wipe {ρ1 ρ2 : Rho} {G1 H1 G2 H2 : Hp} (x : Tr ρ1 G1 H1 ρ2 G2 H2) (vs : List Nat) : Tr ρ1 G1 H1 (wipeR ρ2 vs) G2 H2 := ⟨x.ex, x.dm, fun a o h n g k => let ⟨h1, h2, h3⟩ := x.fr a o h n g k; ⟨h1, h2, h3.wipe vs⟩⟩
/-- a target whose names are the block's own -/
def WpGv (c : Cd) (vs : List Nat) (g : TG) (d : D) (ρ : Rho) (N : Rho → Prop) : Prop := ∀ v (σ : St) (G H : Hp) (Q : St → Hp → Prop), Sv c G H σ ρ → Rp c.K G d v → (∀ σ' ρ' G' H', N ρ' → Sv c G' H' σ' ρ' → Tr ρ G H ρ' G' H' → wipe σ' vs = wipe σ vs → Q σ' H') → g v σ H Q
def WpGvs (c : Cd) (vs : List Nat) (g : TGs) (ds : List D) (ρ : Rho) (N : Rho → Prop) : Prop := ∀ ws (σ : St) (G H : Hp) (Q : St → Hp → Prop), Sv c G H σ ρ → Rps c.K G ds ws → (∀ σ' ρ' G' H', N ρ' → Sv c G' H' σ' ρ' → Tr ρ G H ρ' G' H' → wipe σ' vs = wipe σ vs → Q σ' H') → g ws σ H Q
theorem wipe_set {σ : St} {j : Nat} {x : Option V} : ∀ {vs : List Nat}, j ∈ vs → wipe (σ.set j x) vs = wipe σ vs := fun {vs} hj => by
  have key : ∀ ws : List Nat, (∀ i, i ≠ j → (wipe (σ.set j x) ws)[i]? = (wipe σ ws)[i]?) ∧ (j ∈ ws → (wipe (σ.set j x) ws)[j]? = (wipe σ ws)[j]?) := by
    intro ws
    induction ws with
    | nil => exact ⟨fun i hi => by unfold wipe; rw [List.getElem?_set_ne (Ne.symm hi)], fun m => by cases m⟩
    | cons w ws ih =>
      unfold wipe
      refine ⟨fun i hi => ?_, fun m => ?_⟩
      · rw [List.getElem?_set, List.getElem?_set, wipe_length, wipe_length, List.length_set, ih.1 i hi]
      · rw [List.getElem?_set, List.getElem?_set, wipe_length, wipe_length, List.length_set]
        by_cases e : w = j
        · rw [if_pos e, if_pos e]
        · rw [if_neg e, if_neg e]
          rcases List.mem_cons.mp m with z | z
          · exact absurd z.symm e
          · exact ih.2 z
  apply List.ext_getElem?
  intro i
  by_cases e : i = j
  · subst e
    exact (key vs).2 hj
  · exact (key vs).1 i e
section
variable {ρ : Rho} {N : Rho → Prop} {d : D} {ds : List D} {vs : List Nat}
theorem v_name {i : Nat} (hv : i ∈ vs) (hi : i < ρ.length) (k : N (ρ.set i (some (.dat d)))) : WpGv c vs (gName i) d ρ N := fun v σ G H Q s r q => q _ _ G H k (s.set r hi) ⟨fun _ _ z => z, fun a o h n => ⟨o, h, n⟩, fun a o h n g k => ⟨h, g, notOwn_set k⟩⟩ (wipe_set hv)
theorem v_nil (h : ds = []) (k : N ρ) : WpGvs c vs gNil ds ρ N := fun ws σ G H Q s r q => by
  subst h
  exact ⟨r, q σ ρ G H k s .refl rfl⟩
theorem v_cons {t : TG} {u : TGs} (h : ∃ d r, ds = d :: r ∧ WpGv c vs t d ρ fun ρ1 => WpGvs c vs u r ρ1 N) : WpGvs c vs (gCons t u) ds ρ N := fun ws σ G H Q s r q => by
  obtain ⟨d, rr, rfl, h1⟩ := h
  obtain ⟨v, w, rfl, r1, r2⟩ := r
  exact ⟨v, w, rfl, h1 v σ G H _ s r1 fun σ1 ρ1 G1 H1 h2 s1 e1 w1 => h2 w σ1 G1 H1 _ s1 (Rps.ex e1.ex r2) fun σ2 ρ2 G2 H2 n s2 e2 w2 => q σ2 ρ2 G2 H2 n s2 (e1.trans e2) (w2.trans w1)⟩
theorem v_tup {n : Nat} {t : TGs} (h : ∃ ds, d = .tup ds ∧ ds.length = n ∧ WpGvs c vs t ds ρ N) : WpGv c vs (gTup c.K n t) d ρ N := fun v σ G H Q s r q => by
  obtain ⟨ds, rfl, hl, h1⟩ := h
  obtain ⟨a, ws, rfl, r1, r2⟩ := r
  exact ⟨a, ws, rfl, sqt_ex s.ex r1, by rw [r2.len]; exact hl, h1 ws σ G H Q s r2 q⟩
end
section
variable {ρ : Rho} {PN : List D → Rho → Prop} {P : D → Rho → Prop} {wi : TI} {g : TG} {tt : TT} {te : TE} {vs : List Nat}
theorem t_yes {PB : Bool → Rho → Prop} (k : PB true ρ) : EvT c tYes ρ PB := fun σ G H Q s q => q true ρ G H k s .refl
theorem w_lcN (h : EvI c wi ρ fun ds ρ1 => ds.length ≤ sizeLine ∧ ∃ In : Nat → List D → Rho → Prop, In 0 [] ρ1 ∧
      (∀ i d acc ρ2, ds[i]? = some d → In i acc ρ2 → acc.length ≤ i → WpGv c vs g d (wipeR ρ2 vs) fun ρ3 => EvT c tt ρ3 fun b ρ4 => (b = true → EvD c te ρ4 fun d' ρ5 => In (i + 1) (acc ++ [d']) (wipeR ρ5 vs)) ∧ (b = false → In (i + 1) acc (wipeR ρ4 vs))) ∧
      ∀ acc ρ2, In ds.length acc ρ2 → acc.length ≤ ds.length → PN acc ρ2) : EvN c (tLc wi g tt te vs) ρ PN := fun σ G H Q s q =>
  h σ G H _ s fun J ds ρ1 G1 H1 h1 s1 e1 w => by
    obtain ⟨hz, In, i0, st, en⟩ := h1
    intro Dl hD
    obtain ⟨f1, f2, f3⟩ := s1.fresh hD
    refine ⟨fun i m H2 => m = ds.length - i ∧ i ≤ ds.length ∧ ∃ ρ2 G2 acc ws, In i acc ρ2 ∧ acc.length ≤ i ∧ Sv c G2 H2 σ ρ2 ∧ Tr ρ1 G1 H1 ρ2 G2 H2 ∧ H2 Dl = some (.lst ws) ∧ G2 Dl = none ∧ NotOwn ρ2 Dl ∧ Rps c.K G2 acc ws,
      ⟨ds.length, by simp, Nat.zero_le _, ρ1, G1, [], [], i0, Nat.le_refl _, s1.nx (Nx.own s1.ex hD), .nx (Nx.own s1.ex hD), upd_same, f1, f3, rfl⟩, ?_⟩
    rintro i m H2 ⟨rfl, hi, ρ2, G2, acc, ws, hin, hl, s2, e2, k1, k2, k3, k4⟩
    obtain ⟨w1, w2⟩ := w G2 H2 e2.ex s2.ex i
    by_cases hlt : i < ds.length
    · have hd : ds[i]? = some ds[i] := List.getElem?_eq_getElem hlt
      obtain ⟨w3, w4⟩ := w1 _ hd
      refine .inr ⟨w3, fun H' => ∃ ρ2 G2 acc ws, In (i + 1) acc ρ2 ∧ acc.length ≤ i + 1 ∧ Sv c G2 H' σ ρ2 ∧ Tr ρ1 G1 H1 ρ2 G2 H' ∧ H' Dl = some (.lst ws) ∧ G2 Dl = none ∧ NotOwn ρ2 Dl ∧ Rps c.K G2 acc ws, fun H' ⟨ρ', G', acc', ws', a⟩ => ⟨ds.length - (i + 1), by omega, rfl, hlt, ρ', G', acc', ws', a⟩, fun x H3 y => ?_⟩
      obtain ⟨G3, n3, r3⟩ := w4 x H3 y
      have s3 := (s2.nx n3).wipe vs
      have t3 : Tr ρ2 G2 H2 (wipeR ρ2 vs) G3 H3 := (Tr.nx n3).wipe vs
      refine st i _ acc ρ2 hd hin hl x (wipe σ vs) G3 H3 _ s3 r3 fun σ4 ρ4 G4 H4 h4 s4 t4 ew => ?_
      rw [wipe_idem] at ew
      refine ⟨ew, h4 σ4 G4 H4 _ s4 fun b ρ5 G5 H5 h5 s5 t5 => ?_⟩
      have t25 := (t3.trans t4).trans t5
      obtain ⟨d1, d2, d3⟩ := t25.fr Dl _ k1 nt_lst k2 k3
      cases b with
      | true =>
        refine h5.1 rfl σ4 G5 H5 _ s5 fun v d' ρ6 G6 H6 h6 s6 t6 r6 => ?_
        obtain ⟨d1', d2', d3'⟩ := t6.fr Dl _ d1 nt_lst d2 d3
        have t26 := t25.trans t6
        refine ⟨ws, d1', by rw [k4.len]; omega, wipeR ρ6 vs, G6, acc ++ [d'], ws ++ [v], h6, by rw [List.length_append]; show acc.length + 1 ≤ i + 1; omega, (s6.hid d1' d2' f2 d3').unwipe ew, ((e2.trans t26).hid hD).wipe vs, upd_same, d2', d3'.wipe vs, (Rps.ex t26.ex k4).app (Rps.one r6)⟩
      | false =>
        exact ⟨wipeR ρ5 vs, G5, acc, ws, h5.2 rfl, by omega, s5.unwipe ew, (e2.trans t25).wipe vs, d1, d2, d3.wipe vs, Rps.ex t25.ex k4⟩
    · have ei : i = ds.length := by omega
      refine .inl ⟨w2 (by omega), ?_⟩
      exact q Dl acc ws ρ2 G2 H2 (en acc ρ2 (by rw [← ei]; exact hin) (by omega)) s2 (e1.trans e2) k1 k2 k4 ⟨f2, e1.new (.of hD)⟩ k3
theorem w_lc (h : EvI c wi ρ fun ds ρ1 => ds.length ≤ sizeLine ∧ ∃ In : Nat → List D → Rho → Prop, In 0 [] ρ1 ∧
      (∀ i d acc ρ2, ds[i]? = some d → In i acc ρ2 → acc.length ≤ i → WpGv c vs g d (wipeR ρ2 vs) fun ρ3 => EvT c tt ρ3 fun b ρ4 => (b = true → EvD c te ρ4 fun d' ρ5 => In (i + 1) (acc ++ [d']) (wipeR ρ5 vs)) ∧ (b = false → In (i + 1) acc (wipeR ρ4 vs))) ∧
      ∀ acc ρ2, In ds.length acc ρ2 → acc.length ≤ ds.length → P (.lst acc) ρ2) : EvD c (tLc wi g tt te vs) ρ P := EvD.of_N (PN := fun ds ρ' => P (.lst ds) ρ') (w_lcN h) fun _ _ h => h
/-- nothing but the new list changes: what each item gives (none: it is left out) -/
def lcF (f : D → Option D) (ds : List D) : List D := ds.filterMap f
theorem w_lcP (f : D → Option D) (h : EvI c wi ρ fun ds ρ1 => ds.length ≤ sizeLine ∧ wipeR ρ1 vs = ρ1 ∧
      (∀ d, d ∈ ds → WpGv c vs g d ρ1 fun ρ3 => wipeR ρ3 vs = ρ1 ∧ EvT c tt ρ3 fun b ρ4 => ρ4 = ρ3 ∧ (b = true → EvD c te ρ3 fun d' ρ5 => ρ5 = ρ3 ∧ f d = some d') ∧ (b = false → f d = none)) ∧
      PN (ds.filterMap f) ρ1) : EvN c (tLc wi g tt te vs) ρ PN := w_lcN fun σ G H R s q => h σ G H R s fun J ds ρ1 G1 H1 ⟨h1, h2, h3, h4⟩ s1 e1 w => q J ds ρ1 G1 H1 ⟨h1, fun i acc ρ2 => ρ2 = ρ1 ∧ acc = (ds.take i).filterMap f, ⟨rfl, by simp⟩, fun i d acc ρ2 hd ⟨e2, e3⟩ _ => by
    subst e2 e3
    rw [h2]
    intro v σ' G' H' Q' s' r' q'
    refine h3 d (List.mem_of_getElem? hd) v σ' G' H' Q' s' r' fun σ2 ρ3 G2 H2 ⟨g1, g2⟩ s2 t2 w2 => q' σ2 ρ3 G2 H2 ?_ s2 t2 w2
    have step : ∀ o, f d = o → (ds.take (i + 1)).filterMap f = (ds.take i).filterMap f ++ o.toList := fun o ho => by
      rw [List.take_add_one, hd, List.filterMap_append]
      cases o with
      | none => simp [ho]
      | some y => simp [ho]
    intro σ3 G3 H3 Q3 s3 q3
    refine g2 σ3 G3 H3 Q3 s3 fun b ρ4 G4 H4 ⟨k1, k2, k3⟩ s4 t4 => q3 b ρ4 G4 H4 ⟨fun hb => ?_, fun hb => ?_⟩ s4 t4
    · subst k1
      intro σ5 G5 H5 Q5 s5 q5
      refine k2 hb σ5 G5 H5 Q5 s5 fun v d' ρ6 G6 H6 ⟨m1, m2⟩ s6 t6 r6 => q5 v d' ρ6 G6 H6 ?_ s6 t6 r6
      subst m1
      exact ⟨g1, by rw [step _ m2]; rfl⟩
    · subst k1
      exact ⟨g1, by rw [step _ (k3 hb)]; simp⟩, fun acc ρ2 ⟨e2, e3⟩ _ => by
    subst e2 e3
    rw [List.take_length]
    exact h4⟩ s1 e1 w
end
end Zd

/-! ## Zd7 -/
set_option Elab.async false
set_option linter.all false
set_option maxRecDepth 100000
set_option maxHeartbeats 4000000
namespace Zd
open PySem L2
variable {c : Cd}
/-! ### isinstance -/
def tyN : D → String
  | .non => "NoneType"
  | .bl _ => "bool"
  | .int _ => "int"
  | .str _ => "str"
  | .tup _ => "tuple"
  | .lst _ => "list"
  | .dic _ _ => "dict"
theorem tyX_of {K : PySem.W.Frag} {G H : Hp} (e : Ex G H) {d : D} {v : V} (r : Rp K G d v) : TyX K H v (.type (tyN d)) := by
  cases d with
  | non => have z : v = .non := r; subst z; exact .base .non
  | bl b => have z : v = .bl b := r; subst z; exact .base (.bl b)
  | int i => have z : v = .int i := r; subst z; exact .base (.int i)
  | str s => have z : v = .str s := r; subst z; exact .base (.str s)
  | tup ds =>
    obtain ⟨a, vs, z, h, _⟩ := r
    subst z
    rcases h with (h | ⟨o, h⟩) | ⟨o, its, n, h1, h2, _⟩
    · exact .base (.tup (e _ _ h))
    · exact .fTuple (e _ _ h)
    · exact .kTuple h1 h2
  | lst ds =>
    obtain ⟨a, vs, z, h, _⟩ := r
    subst z
    exact .base (.lst (e _ _ h))
  | dic ks ds =>
    obtain ⟨a, vs, z, h, _⟩ := r
    subst z
    exact .base (.dK (e _ _ h))
section
variable {ρ : Rho} {P : D → Rho → Prop} {PN : List D → Rho → Prop} {te ta to ti : TE} {tl th : TO} {i : Nat}
theorem w_isi {T : String} (f : D → Bool) (hk : ∀ d, kitB (tyN d) T = some (f d)) (h : EvD c ta ρ fun d ρ1 => P (.bl (f d)) ρ1) : EvD c (tCB (rIsi c.K) (tCons ta (tCons (tC (.ty T)) tNil))) ρ P := fun σ G H Q s q =>
  h σ G H _ s fun v d ρ1 G1 H1 h1 s1 e1 r1 => ⟨v, .ty T, _, _, f d, rfl, .ty T, tyX_of s1.ex r1, kit_ty (hk d), q _ _ ρ1 G1 H1 h1 s1 e1 rfl⟩
def isIntD : D → Bool
  | .int _ => true
  | .bl _ => true
  | _ => false
def isBlD : D → Bool
  | .bl _ => true
  | _ => false
def isStrD : D → Bool
  | .str _ => true
  | _ => false
def isTupD : D → Bool
  | .tup _ => true
  | _ => false
def isLstD : D → Bool
  | .lst _ => true
  | _ => false
theorem kitAll {T : String} {f : D → Bool} {b1 b2 b3 b4 b5 b6 b7 : Bool} (h1 : kitB "NoneType" T = some b1) (h2 : kitB "bool" T = some b2) (h3 : kitB "int" T = some b3) (h4 : kitB "str" T = some b4) (h5 : kitB "tuple" T = some b5) (h6 : kitB "list" T = some b6) (h7 : kitB "dict" T = some b7)
    (e1 : f .non = b1) (e2 : ∀ b, f (.bl b) = b2) (e3 : ∀ b, f (.int b) = b3) (e4 : ∀ b, f (.str b) = b4) (e5 : ∀ b, f (.tup b) = b5) (e6 : ∀ b, f (.lst b) = b6) (e7 : ∀ a b, f (.dic a b) = b7) : ∀ d, kitB (tyN d) T = some (f d)
  | .non => by rw [e1]; exact h1
  | .bl _ => by rw [e2]; exact h2
  | .int _ => by rw [e3]; exact h3
  | .str _ => by rw [e4]; exact h4
  | .tup _ => by rw [e5]; exact h5
  | .lst _ => by rw [e6]; exact h6
  | .dic _ _ => by rw [e7]; exact h7
theorem kit_int : ∀ d, kitB (tyN d) "int" = some (isIntD d) := kitAll (b1 := false) (b2 := true) (b3 := true) (b4 := false) (b5 := false) (b6 := false) (b7 := false) (by decide +kernel) (by decide +kernel) (by decide +kernel) (by decide +kernel) (by decide +kernel) (by decide +kernel) (by decide +kernel) rfl (fun _ => rfl) (fun _ => rfl) (fun _ => rfl) (fun _ => rfl) (fun _ => rfl) (fun _ _ => rfl)
theorem kit_bool : ∀ d, kitB (tyN d) "bool" = some (isBlD d) := kitAll (b1 := false) (b2 := true) (b3 := false) (b4 := false) (b5 := false) (b6 := false) (b7 := false) (by decide +kernel) (by decide +kernel) (by decide +kernel) (by decide +kernel) (by decide +kernel) (by decide +kernel) (by decide +kernel) rfl (fun _ => rfl) (fun _ => rfl) (fun _ => rfl) (fun _ => rfl) (fun _ => rfl) (fun _ _ => rfl)
theorem kit_str : ∀ d, kitB (tyN d) "str" = some (isStrD d) := kitAll (b1 := false) (b2 := false) (b3 := false) (b4 := true) (b5 := false) (b6 := false) (b7 := false) (by decide +kernel) (by decide +kernel) (by decide +kernel) (by decide +kernel) (by decide +kernel) (by decide +kernel) (by decide +kernel) rfl (fun _ => rfl) (fun _ => rfl) (fun _ => rfl) (fun _ => rfl) (fun _ => rfl) (fun _ _ => rfl)
theorem kit_tuple : ∀ d, kitB (tyN d) "tuple" = some (isTupD d) := kitAll (b1 := false) (b2 := false) (b3 := false) (b4 := false) (b5 := true) (b6 := false) (b7 := false) (by decide +kernel) (by decide +kernel) (by decide +kernel) (by decide +kernel) (by decide +kernel) (by decide +kernel) (by decide +kernel) rfl (fun _ => rfl) (fun _ => rfl) (fun _ => rfl) (fun _ => rfl) (fun _ => rfl) (fun _ _ => rfl)
theorem kit_list : ∀ d, kitB (tyN d) "list" = some (isLstD d) := kitAll (b1 := false) (b2 := false) (b3 := false) (b4 := false) (b5 := false) (b6 := true) (b7 := false) (by decide +kernel) (by decide +kernel) (by decide +kernel) (by decide +kernel) (by decide +kernel) (by decide +kernel) (by decide +kernel) rfl (fun _ => rfl) (fun _ => rfl) (fun _ => rfl) (fun _ => rfl) (fun _ => rfl) (fun _ _ => rfl)
theorem w_isInt (h : EvD c ta ρ fun d ρ1 => P (.bl (isIntD d)) ρ1) : EvD c (tCB (rIsi c.K) (tCons ta (tCons (tC (.ty "int")) tNil))) ρ P := w_isi _ kit_int h
theorem w_isBool (h : EvD c ta ρ fun d ρ1 => P (.bl (isBlD d)) ρ1) : EvD c (tCB (rIsi c.K) (tCons ta (tCons (tC (.ty "bool")) tNil))) ρ P := w_isi _ kit_bool h
theorem w_isStr (h : EvD c ta ρ fun d ρ1 => P (.bl (isStrD d)) ρ1) : EvD c (tCB (rIsi c.K) (tCons ta (tCons (tC (.ty "str")) tNil))) ρ P := w_isi _ kit_str h
theorem w_isTup (h : EvD c ta ρ fun d ρ1 => P (.bl (isTupD d)) ρ1) : EvD c (tCB (rIsi c.K) (tCons ta (tCons (tC (.ty "tuple")) tNil))) ρ P := w_isi _ kit_tuple h
theorem w_isLst (h : EvD c ta ρ fun d ρ1 => P (.bl (isLstD d)) ρ1) : EvD c (tCB (rIsi c.K) (tCons ta (tCons (tC (.ty "list")) tNil))) ρ P := w_isi _ kit_list h

/-! ### methods of texts -/
def MD (K : PySem.W.Frag) (r : V → List V → Hp → VK → Prop) (d : D) (ds : List D) (P : D → Prop) : Prop := ∀ v vs (G H : Hp) (Q : VK), Ex G H → Rp K G d v → Rps K G ds vs → (∀ v d G' H', P d → Nx G H G' H' → Rp K G' d v → Q v H') → r v vs H Q
def MN (K : PySem.W.Frag) (r : V → List V → Hp → VK → Prop) (d : D) (ds : List D) (P : List D → Prop) : Prop := ∀ v vs (G H : Hp) (Q : VK), Ex G H → Rp K G d v → Rps K G ds vs → (∀ p es ws, P es → H p = none → Rps K G es ws → Q (.ref p) (upd H p (.lst ws))) → r v vs H Q
theorem MD.of_N {K : PySem.W.Frag} {r : V → List V → Hp → VK → Prop} {d : D} {ds : List D} {P : D → Prop} (h : MN K r d ds fun es => P (.lst es)) : MD K r d ds P := fun v vs G H Q e r1 r2 q => h v vs G H Q e r1 r2 fun p es ws hp hn hr =>
  q _ _ _ _ hp (Nx.new e hn) ⟨p, ws, rfl, upd_same, Rps.ex (Nx.new e hn).gg hr⟩
theorem w_m1 {r : V → List V → Hp → VK → Prop} (h : EvD c to ρ fun d ρ1 => ∃ s, d = .str s ∧ EvD c te ρ1 fun d2 ρ2 => MD c.K r (.str s) [d2] fun d => P d ρ2) : EvD c (tM1 r to te) ρ P := fun σ G H Q s q =>
  h σ G H _ s fun v d ρ1 G1 H1 h1 s1 e1 r1 => by
    obtain ⟨x, rfl, h2⟩ := h1
    refine ⟨⟨x, r1⟩, h2 σ G1 H1 _ s1 fun v2 d2 ρ2 G2 H2 h3 s2 e2 r2 => h3 v [v2] G2 H2 Q s2.ex (Rp.ex e2.ex r1) (Rps.one r2) fun v d G3 H3 p n r3 => q v d ρ2 G3 H3 p (s2.nx n) ((e1.trans e2).trans (.nx n)) r3⟩
theorem w_m1N {r : V → List V → Hp → VK → Prop} (h : EvD c to ρ fun d ρ1 => ∃ s, d = .str s ∧ EvD c te ρ1 fun d2 ρ2 => MN c.K r (.str s) [d2] fun d => PN d ρ2) : EvN c (tM1 r to te) ρ PN := fun σ G H Q s q =>
  h σ G H _ s fun v d ρ1 G1 H1 h1 s1 e1 r1 => by
    obtain ⟨x, rfl, h2⟩ := h1
    refine ⟨⟨x, r1⟩, h2 σ G1 H1 _ s1 fun v2 d2 ρ2 G2 H2 h3 s2 e2 r2 => h3 v [v2] G2 H2 Q s2.ex (Rp.ex e2.ex r1) (Rps.one r2) fun p es ws hp hn hr => ?_⟩
    obtain ⟨f1, f2, f3⟩ := s2.fresh hn
    exact q p es ws ρ2 G2 _ hp (s2.nx (Nx.own s2.ex hn)) ((e1.trans e2).trans (.nx (Nx.own s2.ex hn))) upd_same f1 hr ⟨f2, (e1.trans e2).new (.of hn)⟩ f3
def rSplit : V → List V → Hp → VK → Prop := fun x xs H Q => ∃ a b, x = .str a ∧ xs = [.str b] ∧ (b.length == 0) = false ∧ a.length + 2 ≤ sizeLine ∧ rNewStrs (Txt.split a b) H Q
def rJoin (K : PySem.W.Frag) : V → List V → Hp → VK → Prop := fun x xs H Q => ∃ a p, ∃ ys : List Str, x = .str a ∧ xs = [.ref p] ∧ (SqL K H p (ys.map V.str) ∨ SqT K H p (ys.map V.str)) ∧ (ys.map (·.length)).sum + ys.length * a.length ≤ 16777216 ∧ Q (.str (Txt.join a ys)) H
theorem m_split {X : Cx} : MtR X "str.split" rSplit := mt_split
theorem m_join {X : Cx} : MtR X "str.join" (rJoin X.K) := mt_join
theorem k_split {K : PySem.W.Frag} {P : List D → Prop} {a b : Str} (hb : (b.length == 0) = false) (ha : a.length + 2 ≤ sizeLine) (k : P ((Txt.split a b).map D.str)) : MN K rSplit (.str a) [.str b] P := fun v vs G H Q e r1 r2 q => by
  obtain ⟨w, rfl, r3⟩ := rps1 r2
  have e1 : v = .str a := r1
  have e2 : w = .str b := r3
  subst e1 e2
  exact ⟨a, b, rfl, rfl, hb, ha, fun p hp => q p _ _ k hp (Rps.ofStrs _)⟩
theorem k_join {K : PySem.W.Frag} {P : D → Prop} {a : Str} {ys : List Str} (hl : (ys.map (·.length)).sum + ys.length * a.length ≤ 16777216) (k : P (.str (Txt.join a ys))) : MD K (rJoin K) (.str a) [.lst (ys.map D.str)] P := fun v vs G H Q e r1 r2 q => by
  obtain ⟨w, rfl, p, ws, rfl, r3, r4⟩ := rps1 r2
  have e1 : v = .str a := r1
  subst e1
  rw [Rps.strs r4] at r3
  exact ⟨a, p, ys, rfl, rfl, .inl (SqL.of (e _ _ r3)), hl, q _ _ G H k (Nx.refl e) rfl⟩

/-! ### slices -/
def EvO (c : Cd) (to : TO) (ρ : Rho) (P : Option Int → Rho → Prop) : Prop := ∀ (σ : St) (G H : Hp) (Q : Option Int → Hp → Prop), Sv c G H σ ρ → (∀ o ρ' G' H', P o ρ' → Sv c G' H' σ ρ' → Tr ρ G H ρ' G' H' → Q o H') → to σ H Q
theorem o_none {PO : Option Int → Rho → Prop} (k : PO none ρ) : EvO c tNoPart ρ PO := fun σ G H Q s q => q none ρ G H k s .refl
theorem o_some {PO : Option Int → Rho → Prop} (h : EvD c te ρ fun d ρ1 => ∃ i, d = .int i ∧ PO (some i) ρ1) : EvO c (tPart te) ρ PO := fun σ G H Q s q =>
  h σ G H _ s fun v d ρ1 G1 H1 h1 s1 e1 r1 => by
    obtain ⟨i, rfl, k⟩ := h1
    exact ⟨i, r1, q _ ρ1 G1 H1 k s1 e1⟩
def SD (K : PySem.W.Frag) (r : V → Option Int → Option Int → Hp → VK → Prop) (d : D) (lo hi : Option Int) (P : D → Prop) : Prop := ∀ v (G H : Hp) (Q : VK), Ex G H → Rp K G d v → (∀ v d G' H', P d → Nx G H G' H' → Rp K G' d v → Q v H') → r v lo hi H Q
def SN (K : PySem.W.Frag) (r : V → Option Int → Option Int → Hp → VK → Prop) (d : D) (lo hi : Option Int) (P : List D → Prop) : Prop := ∀ v (G H : Hp) (Q : VK), Ex G H → Rp K G d v → (∀ p es ws, P es → H p = none → Rps K G es ws → Q (.ref p) (upd H p (.lst ws))) → r v lo hi H Q
theorem w_sl {r : V → Option Int → Option Int → Hp → VK → Prop} (h : EvD c te ρ fun d ρ1 => EvO c tl ρ1 fun lo ρ2 => EvO c th ρ2 fun hi ρ3 => SD c.K r d lo hi fun d => P d ρ3) : EvD c (tSl r te tl th) ρ P := fun σ G H Q s q =>
  h σ G H _ s fun v d ρ1 G1 H1 h1 s1 e1 r1 => h1 σ G1 H1 _ s1 fun lo ρ2 G2 H2 h2 s2 e2 => h2 σ G2 H2 _ s2 fun hi ρ3 G3 H3 h3 s3 e3 => h3 v G3 H3 Q s3.ex (Rp.ex e3.ex (Rp.ex e2.ex r1)) fun v d G4 H4 p n r4 => q v d ρ3 G4 H4 p (s3.nx n) (((e1.trans e2).trans e3).trans (.nx n)) r4
theorem w_slN {r : V → Option Int → Option Int → Hp → VK → Prop} (h : EvD c te ρ fun d ρ1 => EvO c tl ρ1 fun lo ρ2 => EvO c th ρ2 fun hi ρ3 => SN c.K r d lo hi fun d => PN d ρ3) : EvN c (tSl r te tl th) ρ PN := fun σ G H Q s q =>
  h σ G H _ s fun v d ρ1 G1 H1 h1 s1 e1 r1 => h1 σ G1 H1 _ s1 fun lo ρ2 G2 H2 h2 s2 e2 => h2 σ G2 H2 _ s2 fun hi ρ3 G3 H3 h3 s3 e3 => h3 v G3 H3 Q s3.ex (Rp.ex e3.ex (Rp.ex e2.ex r1)) fun p es ws hp hn hr => by
    obtain ⟨f1, f2, f3⟩ := s3.fresh hn
    exact q p es ws ρ3 G3 _ hp (s3.nx (Nx.own s3.ex hn)) (((e1.trans e2).trans e3).trans (.nx (Nx.own s3.ex hn))) upd_same f1 hr ⟨f2, ((e1.trans e2).trans e3).new (.of hn)⟩ f3
def cutL {α : Type} (xs : List α) (lo hi : Option Int) : List α := (xs.drop (HT.sIx xs.length 0 lo)).take (HT.sIx xs.length xs.length hi - HT.sIx xs.length 0 lo)
theorem cut_rp {K : PySem.W.Frag} {G : Hp} {ds : List D} {vs : List V} (r : Rps K G ds vs) (lo hi : Option Int) : Rps K G (cutL ds lo hi) (cutV vs lo hi) := by
  unfold cutL cutV
  rw [r.len]
  exact (r.drop _).take _
theorem d_slS {K : PySem.W.Frag} {P : D → Prop} {x : Str} {lo hi : Option Int} (hl : x.length ≤ sizeLine) (k : P (.str (cutS x lo hi))) : SD K rSlS (.str x) lo hi P := fun v G H Q e r1 q => ⟨x, r1, hl, q _ _ G H k (Nx.refl e) rfl⟩
theorem d_slLN {K : PySem.W.Frag} {PN : List D → Prop} {ds : List D} {lo hi : Option Int} (k : PN (cutL ds lo hi)) : SN K (rSlL K) (.lst ds) lo hi PN := fun v G H Q e r1 q => by
  obtain ⟨a, vs, rfl, r2, r3⟩ := r1
  exact ⟨a, vs, rfl, SqL.of (e _ _ r2), fun p hp => q p _ _ k hp (cut_rp r3 lo hi)⟩
theorem SD.of_N {K : PySem.W.Frag} {r : V → Option Int → Option Int → Hp → VK → Prop} {d : D} {lo hi : Option Int} {P : D → Prop} (h : SN K r d lo hi fun es => P (.lst es)) : SD K r d lo hi P := fun v G H Q e r1 q => h v G H Q e r1 fun p es ws hp hn hr =>
  q _ _ _ _ hp (Nx.new e hn) ⟨p, ws, rfl, upd_same, Rps.ex (Nx.new e hn).gg hr⟩
theorem d_slL {K : PySem.W.Frag} {P : D → Prop} {ds : List D} {lo hi : Option Int} (k : P (.lst (cutL ds lo hi))) : SD K (rSlL K) (.lst ds) lo hi P := SD.of_N (d_slLN k)
theorem d_slT {K : PySem.W.Frag} {P : D → Prop} {ds : List D} {lo hi : Option Int} (k : P (.tup (cutL ds lo hi))) : SD K (rSlA K) (.tup ds) lo hi P := fun v G H Q e r1 q => by
  obtain ⟨a, vs, rfl, r2, r3⟩ := r1
  refine ⟨a, vs, rfl, sqt_ex e r2, fun ⟨h1, h2⟩ => q _ _ G H k (Nx.refl e) ⟨a, vs, rfl, r2, ?_⟩, fun _ p hp => q _ _ _ _ k (Nx.new e hp) ⟨p, _, rfl, SqT.of upd_same, Rps.ex (Nx.new e hp).gg (cut_rp r3 lo hi)⟩⟩
  have z := cut_rp r3 lo hi
  unfold cutV at z
  rw [h1, h2] at z
  simpa using z
/-- one of two kinds, by the value -/
theorem SD.inl {K : PySem.W.Frag} {r r' : V → Option Int → Option Int → Hp → VK → Prop} {d : D} {lo hi : Option Int} {P : D → Prop} (h : SD K r d lo hi P) : SD K (fun x lo hi H Q => r x lo hi H Q ∨ r' x lo hi H Q) d lo hi P := fun v G H Q e r1 q => .inl (h v G H Q e r1 q)
theorem r_catT {K : PySem.W.Frag} {P : D → Prop} {ds es : List D} (h : ds.length + es.length ≤ sizeLine) (k : P (.tup (ds ++ es))) : RD K (rCatA K) (.tup ds) (.tup es) P := fun v1 v2 G H Q e r1 r2 q => by
  obtain ⟨a, vs, rfl, h1, h2⟩ := r1
  obtain ⟨b, ws, rfl, h3, h4⟩ := r2
  refine ⟨a, b, vs, ws, rfl, rfl, sqt_ex e h1, sqt_ex e h3, by rw [h2.len, h4.len]; exact h, fun z => ?_, fun _ z => ?_, fun _ _ p hp => q _ _ _ _ k (Nx.new e hp) ⟨p, _, rfl, SqT.of upd_same, Rps.ex (Nx.new e hp).gg (h2.app h4)⟩⟩
  · have l := h2.len
    rw [z] at l
    have l2 : ds = [] := List.length_eq_zero_iff.mp l.symm
    subst l2
    exact q _ _ G H k (Nx.refl e) ⟨b, ws, rfl, h3, h4⟩
  · have l := h4.len
    rw [z] at l
    have l2 : es = [] := List.length_eq_zero_iff.mp l.symm
    subst l2
    exact q _ _ G H k (Nx.refl e) ⟨a, vs, rfl, h1, by rw [List.append_nil]; exact h2⟩
end
end Zd

/-! ## ZdX -/
set_option Elab.async false
set_option linter.all false
set_option maxRecDepth 100000
set_option maxHeartbeats 4000000
/-! Own errors with one argument that they keep in «what». -/
namespace ZdX
open PySem PySem.Spec PyProof.Rows L2
/-- C(e): an error whose context is None (made where nothing is handled or not) -/
theorem pmkN {X : Cx} {CX : CXT} {x : Str} {e : Expr} {es : List Expr} {ta : TA} {p pos : Pos} {C fI : Addr} {k : Nat} {fd : FuncData} {ps : List Str} {sp : Sp} (T : OexC X.K C) (iC : PySem.W.findIn X.K (.ref C) "__init__" = some (some (.ref fI))) (tI : PySem.W.typeIn X.K (.ref fI) = some (.type "function"))
    (F1 : FnOk X.prog X.w X.K X.mg X.base CX k fI fd ps sp) (hr : Room (k + 1) X.A) (hb : Binds X.K fd ps []) (hx : Passes CX X (fun _ _ _ => False)) (hg : Gl X x) (hm : X.mg x = some (.ref C)) (ha : PA X (e :: es) ta)
    (hdb : (x == ("__debug__" : Str)) = false := by decide) (he : starEach (e :: es) X.env = (false, eval e X.env) :: starEach es X.env := by rfl) (hpl : (backTo pos (starEach es X.env)).any (·.1) = false := by rfl) :
    L2N.PMk X (.Call (.Name x p) (e :: es) [] pos) (tMkO C sp [] ta) := by
  intro pins s σ H Q I h
  obtain ⟨nm, q, N, bs, bm, sn, sub, ab, col, dd, k0, k1, k2, k3, k5, hC, hbm⟩ := T.cls
  refine wpAny_Call_Name_kw (ld_glob I hg hm ?_ hdb)
  refine PySem.W.callWith_K (h₀ := X.base) I.ok.mod.kin T.kC (thn (ha.run pos pins s σ H _ I h) fun us s1 ⟨vs, H1, I1, r1, hz, q1⟩ => ⟨I1.kIn, ?_⟩) he hpl
  show wpAny _ _ (call (.ref C) us) _ _ _
  obtain ⟨hp, g, dr, tk, os⟩ := s1
  have hsz : hp.objs.size ≤ hp.objs.size + 1 := Nat.le_succ _
  have hn : H1 (hp.objs.size + 1) = none := I1.hok.fresh hsz
  have hq := q1 (hp.objs.size + 1) hn
  have kk : ∀ b o, hp.get? b = some o → ((hp.push (PySem.W.kdv_tup us)).push (PySem.HandSPX.excO C hp.objs.size)).get? b = some o := fun b o e => Heap.get?_push_of_some _ (Heap.get?_push_of_some _ e)
  have hget : ((hp.push (PySem.W.kdv_tup us)).push (PySem.HandSPX.excO C hp.objs.size)).get? (hp.objs.size + 1) = some (PySem.HandSPX.excO C hp.objs.size) := by heap_get
  have I2 : Inv X pins σ (upd H1 (hp.objs.size + 1) (exo (hp.objs.size + 1) C none)) ⟨(hp.push (PySem.W.kdv_tup us)).push (PySem.HandSPX.excO C hp.objs.size), g, dr, tk, os⟩ :=
    I1.laid (t' := tk) (a := hp.objs.size + 1) (o := exo (hp.objs.size + 1) C none) (h' := (hp.push (PySem.W.kdv_tup us)).push (PySem.HandSPX.excO C hp.objs.size)) kk hsz (exo_ok hget)
  have r2 : Vals (V.ref (hp.objs.size + 1) :: (vs ++ [])) (Value.ref (hp.objs.size + 1) :: (us ++ [])) := .cons rfl (r1.append .nil)
  have hl : (Value.ref (hp.objs.size + 1) :: us ++ []).length = ps.length := by
    have e := r2.length
    rw [F1.len _ _ _ _ hq] at e
    exact e.symm
  have b2 : BindsTo ⟨(hp.push (PySem.W.kdv_tup us)).push (PySem.HandSPX.excO C hp.objs.size), g, dr, tk, os⟩ fd ⟨Value.ref (hp.objs.size + 1) :: us, []⟩ (ps.zip (Value.ref (hp.objs.size + 1) :: (us ++ []))) := hb _ (Value.ref (hp.objs.size + 1) :: us) I2.kIn hl
  have hus : us.length ≤ sizeLine := by
    rw [← Paired.length r1, sizeLine_eq]
    omega
  refine wpAny_call (PySem.HandSPX.call_own F.excBase_ValueError (fun Y => PySem.HandSPX.refsVE_contains Y bm hbm) (I1.kIn _ _ hC) (PySem.W.looks_findIn I1.kIn iC) (fun self => PySem.W.bind_fn I1.kIn self tI) hus
    (codeAny_mono (F1.run _ X.stack _ _ ⟨Value.ref (hp.objs.size + 1) :: us, []⟩ (Value.ref (hp.objs.size + 1) :: (us ++ [])) _ _ (fun _ _ _ => False) (hr.make C us []) (I2.env0.make C us []) b2 r2 hq) fun r s' hq' => ?_))
  cases r with
  | error er => exact hx pins σ _ _ er s' I2 hq'
  | ok fl =>
    cases fl with
    | next => exact False.elim hq'
    | brk => exact False.elim hq'
    | cont => exact False.elim hq'
    | ret u =>
      obtain ⟨v, H2, os2, bare2, un2, hok2, rv, ev, d, fs, ea, ed, hd1, q2⟩ := hq'
      subst ev
      obtain ⟨h2, g2, d2, t2, os'⟩ := s'
      obtain ⟨t0, G, J, kG, ge, hoe, na⟩ := mk_end0 (d2 := d2) (t2 := t2) I1 hsz kk un2 hok2 os2 bare2 ea ed hd1
      exact ⟨rv, _, _, _, ⟨G, g2, d2, t2, os'⟩, _, .ref C, some d, rfl, J, kG, ge, hoe, ⟨rfl, rfl, fun vs e => by cases e; rfl⟩, rfl, rfl, na, rfl, bare2, raises_own T.exC T.tyC, q2⟩
/-- what __init__(self, what) does, of whatever class: ValueError.__init__(self, what); self.what = what -/
def spInit (K : PySem.W.Frag) : Sp := fun vs H Q _ => ∃ (a C : Addr) (w : V), vs = [.ref a, w] ∧ OexC K C ∧ PySem.W.findIn K (.ref C) "what" = some none ∧ H a = some (exo a C none) ∧
  ∀ dx, H dx = none → dx ≠ a → Q .non (upd (upd H dx (exd dx [(("what" : Str), w)])) a (exo a C (some dx)))
def t_init (K : PySem.W.Frag) : TS := tSeq (tDrop (tVeI K (tCons (tVar 0) (tCons (tVar 1) tNil)))) (tOst K "what" (tVar 0) (tVar 1))
theorem pure_init {K : PySem.W.Frag} {vs : List V} {H : Hp} {Q : VK} {E : XK} (h : spInit K vs H Q E) : t_init K { nx := fun _ H' => Q .non H', rt := Q } (L2.start ["self", "what"] vs) H := by
  obtain ⟨a, C, w, rfl, T, hno, ha, q⟩ := h
  refine ⟨.ref a, rfl, w, rfl, a, C, [w], rfl, (show 1 ≤ 1000 by decide), T, ha, ?_⟩
  refine ⟨w, rfl, .ref a, rfl, a, C, rfl, T, hno, .inl ⟨ha, fun dx hd ne => q dx hd ne⟩⟩
end ZdX
namespace Zd
open PySem L2 ZdX
variable {c : Cd}
/-- raise C(e) -/
def tRaiseW (K : PySem.W.Frag) (C : Addr) (E : XK) (ta : TA) : TS := fun _ σ H => tMkO C (spInit K) [] ta σ H fun cls d H' => E cls d H'
/-- what the written part says of an error's class -/
structure ErrC (K : PySem.W.Frag) (C : Addr) : Prop where
  oex : OexC K C
  noW : PySem.W.findIn K (.ref C) "what" = some none
theorem Mv.addOwn {T : Tb} {S : Addr → Prop} {G0 H0 G H : Hp} (m : Mv T S G0 H0 G H) {p : Addr} {o : HO} (hp : H p = none) : Mv T S G0 H0 G (upd H p o) := m.trans ((Nx.own m.gh hp).mv)
theorem s_raise {C : Addr} {ta : TA} {ρ : Rho} {e : En} (hC : ErrC c.K C) (h : EvA c ta ρ fun ds _ => ∃ w, ds = [w] ∧ c.RZ C w) : WpS c (tRaiseW c.K C c.E ta) e ρ := fun σ G H Dd s kn =>
  h σ G H _ s fun vs ds ρ1 G1 H1 h1 s1 e1 r1 => by
    obtain ⟨w, rfl, hz⟩ := h1
    obtain ⟨v, rfl, r2⟩ := rps1 r1
    refine ⟨(show 1 ≤ 1000 by decide), fun a ha => ⟨a, C, v, rfl, hC.oex, hC.noW, upd_same, fun dx hdx ne => ⟨rfl, dx, [(("what" : Str), v)], upd_same, ?_, ?_, ?_⟩⟩⟩
    · rw [upd_ne ne, upd_same]
    · rw [upd_ne ne] at hdx
      exact hdx
    · have hd : H1 dx = none := by
        rw [upd_ne ne] at hdx
        exact hdx
      have eq : upd (del (upd (upd (upd H1 a (exo a C none)) dx (exd dx [(("what" : Str), v)])) a (exo a C (some dx))) a) dx (.xd [(("what" : Str), v)]) = upd H1 dx (whatD v) := by
        funext b
        by_cases e1 : b = dx
        · rw [e1, upd_same, upd_same]
        · rw [upd_ne e1, upd_ne e1]
          by_cases e2 : b = a
          · rw [e2, del_same, ha]
          · rw [del_ne e2, upd_ne e2, upd_ne e1, upd_ne e2]
      rw [eq]
      exact s1.xc C w dx v G1 _ hz (s1.mv.addOwn hd) (s1.newAt (New.of hd)) upd_same r2
end Zd

/-! ## ZdL -/
set_option Elab.async false
set_option linter.all false
set_option maxRecDepth 100000
set_option maxHeartbeats 4000000
/-! Lambdas without parameters, handed to a def that calls them in a try; what they raise has no context. -/
namespace ZdL
open PySem PySem.Spec PyProof.Rows L2 LamX
abbrev lamXe (X : Cx) (A : Around) (outer : List Env) (s : Shared) (H : Hp) (E : XK) (scope : Scope) (f c' : Addr) : Value → Shared → Prop := fun e s' =>
  wpAny (model X.prog X.w) (A.deeper (lamEnv X scope s.heap.objs.size f c')) (leaving (lamEnv X scope s.heap.objs.size f c') e) (fun _ s'' => L2N.CX X.prog X.w outer H s E e s'') (fun e' s'' => L2N.CX X.prog X.w outer H s E e' s'') s'
abbrev lamCxN (X : Cx) (A : Around) (outer : List Env) (s : Shared) (H : Hp) (E : XK) (scope : Scope) (f c' : Addr) : Cx := (lamCx X A outer s H E scope f c').wish (lamXe X A outer s H E scope f c')
section
variable {X : Cx} {pins : List (Addr × Obj)} {σ : L2.St} {H : Hp} {s : Shared}
theorem pe_actN {CXg : CXT} {Eg : XK} {Ng : List Str} {qg : Str} {sg : Scope} {g f c' : Addr} {cdg pm ctv : Value} {params : Arguments} {body : Expr} {scope : Scope} {k i : Nat} {a : Str} {pn : List (Addr × Obj)} {xe : Value → Shared → Prop} {W : WX} {t : XK → TE} {p1 p2 : Pos}
    (I : Inv X pins σ H s) (L : LamS X.env.scope scope) (hf : s.heap.get? f = some (PySem.W.kla_obj "<lambda>" (X.env.qual ++ "<lambda>") params body scope (cloFrom X.env.cells scope.names []) pm c' ctv)) (hfn : H f = none) (hfr : f ∉ frs X.stack)
    (hbind : bindArgs (PySem.W.kla_fn "<lambda>" (X.env.qual ++ "<lambda>") params body scope (cloFrom X.env.cells scope.names []) pm (.ref c') ctv) ⟨[], []⟩ = pure [])
    (tk : L2N.Takes ((cxOf CXg X.prog X.w X.K X.mg X.base Ng qg sg g cdg X.A X.stack s H Eg).tr pn xe) W) (hr : Room (k + 1) (X.A.deeper (envOfC qg sg s.heap.objs.size g cdg)))
    (hbody : ∀ (A : Around) (outer : List Env) (s : Shared) (H : Hp) (E : XK), Room k (A.deeper (lamEnv X scope s.heap.objs.size f c')) → PE (lamCxN X A outer s H E scope f c') body (t E))
    (hN : Ng[i]? = some a) (hv : Vis sg a) (hd : (a == ("__debug__" : Str)) = false := by decide) (hcd : (a == ("__classdict__" : Str)) = false := by decide) :
    PE ((cxOf CXg X.prog X.w X.K X.mg X.base Ng qg sg g cdg X.A X.stack s H Eg).tr pn xe) (.Call (.Name a p1) [] [] p2)
      (fun σZ HZ Q => σZ[i]? = some (some (.ref f)) ∧ HZ c' = some (CodeO c' (X.env.qual ++ "<lambda>")) ∧ t (WE W σZ) σ HZ Q) := by
  refine ⟨fun pinsZ sZ σZ HZ Q IZ h => ?_⟩
  obtain ⟨hs, hc, ht⟩ := h
  refine wpAny_Call_Name_kw (thn ((pe_var (pos := p1) (i := i) hN hv hd hcd).run pinsZ sZ σZ HZ (fun v H1 => v = .ref f ∧ H1 = HZ) IZ ⟨.ref f, hs, rfl, rfl⟩) fun u s1 ⟨v, H1, I1, r1, q1⟩ => ?_)
  obtain ⟨ev, eH⟩ := q1
  subst ev
  rw [eH] at I1
  obtain rfl : u = Value.ref f := r1
  have of1 := I1.base.keep f _ hf hfn hfr (fun z => nomatch (show f ∈ ([] : List Addr) from z))
  refine PySem.W.callWith_F0 ⟨_, _, _, _, of1⟩ ?_
  have un : Un (frs X.stack) [] H HZ s.heap s1.heap := I1.base
  obtain ⟨⟨oc, vs, t0, hoc, hdc, hvc⟩, _, _⟩ := I1.hok c' _ hc
  have rc : codeAny (model X.prog X.w) (X.A.deeper (envOfC qg sg s.heap.objs.size g cdg)) (.call (.ref f) ⟨[], []⟩) (CR (L2N.CX X.prog X.w) (envOfC qg sg s.heap.objs.size g cdg :: X.stack) X.prog X.w HZ s1 Q (WE W σZ)) s1 := by
    refine PySem.W.kla_callFunE hr.depth of1 rfl L.co L.gen rfl ⟨c', oc, vs, t0, rfl, hoc, hdc, hvc⟩ ?_
    rw [hbind]
    refine wpAny_pure (wpAny_newFunctionEnv (fun y hy => (L.own y hy).2) (fun y hy => absurd hy (by simp)) (fun h₁ hns hsb => ⟨I1.nolimit.fresh _ hsb, ?_⟩) L.kind)
    show codeAny _ _ (.expr body (lamEnv X scope s1.heap.objs.size f c')) _ _
    have kp : ∀ b o, s1.heap.get? b = some o → h₁.get? b = some o := fun b o e => hsb.extBut b o (Nat.ne_of_lt (Heap.lt_size e)) (Heap.get?_push_of_some _ e)
    have J0 : Inv (lamCx X (X.A.deeper (envOfC qg sg s.heap.objs.size g cdg)) (envOfC qg sg s.heap.objs.size g cdg :: X.stack) s1 HZ (WE W σZ) scope f c') [] σ HZ { s1 with heap := h₁, toks := s1.toks + ([] : List (Str × Value)).length } :=
      lam_start2 I L I1.env0 hr.hd un hns kp
    have J := J0.wish (lamXe X (X.A.deeper (envOfC qg sg s.heap.objs.size g cdg)) (envOfC qg sg s.heap.objs.size g cdg :: X.stack) s1 HZ (WE W σZ) scope f c')
    refine PySem.W.kla_codeExpr (wpAny_mono ((hbody _ _ s1 HZ (WE W σZ) (hr.deeper _)).run [] _ _ HZ Q J ht) (fun v s' hq => ?_) fun e s' hq => hq)
    obtain ⟨w', H', J', rv, q⟩ := hq
    exact ⟨w', H', J'.os, J'.bare, J'.base, J'.hok, rv, q⟩
  have hx := L2N.passAt tk σZ
  refine wpAny_call (codeAny_mono rc fun r s' hq => ?_)
  cases r with
  | error e => exact hx pinsZ HZ s1 e s' I1 hq
  | ok fl =>
    cases fl with
    | ret u => exact I1.after hq
    | next => exact False.elim hq
    | brk => exact False.elim hq
    | cont => exact False.elim hq
end
/-- the def that calls what it got: what it makes of the lambda's reading -/
def GivesN (X : Cx) (Ng : List Str) (x : Str) (sg : Scope) (g : Addr) (cdg : Value) (bg : List Stmt) (a : Str) (q : Str) (TT : (XK → Hp → VK → Prop) → Hp → VK → Prop) : Prop :=
  ∀ (f c' : Addr) (s : Shared) (H : Hp) (Q : VK) (tl : XK → Hp → VK → Prop),
    (∀ (W : WX) (pn : List (Addr × Obj)) (xe : Value → Shared → Prop) (p1 p2 : Pos), L2N.Takes ((cxOf CX0 X.prog X.w X.K X.mg X.base Ng x sg g cdg X.A X.stack s H E0).tr pn xe) W →
      PE ((cxOf CX0 X.prog X.w X.K X.mg X.base Ng x sg g cdg X.A X.stack s H E0).tr pn xe) (.Call (.Name a p1) [] [] p2) (fun σZ HZ Q => σZ[0]? = some (some (.ref f)) ∧ HZ c' = some (CodeO c' q) ∧ tl (WE W σZ) HZ Q)) →
    H c' = some (CodeO c' q) → TT tl H Q →
    ∃ t, PSs (cxOf CX0 X.prog X.w X.K X.mg X.base Ng x sg g cdg X.A X.stack s H E0) bg t ∧ t { nx := fun _ H' => Q .non H', rt := Q } (L2.start Ng [.ref f]) H
section
variable {X : Cx}
/-- x(lambda: body) -/
theorem pe_lamN {T : List (Addr × Str)} {TT : (XK → Hp → VK → Prop) → Hp → VK → Prop} {x a : Str} {g c P : Addr} {k : Nat} {pg : Arguments} {bg : List Stmt} {sg : Scope} {dV kV doc pm cdv ct oc : Value} {an od : Option Addr} {osl : Array (Option Value)} {Ng : List Str}
    {params : Arguments} {body : Expr} {scope : Scope} {t : XK → TE} {p lpos pos : Pos} (hg : Gl X x) (hm : X.mg x = some (.ref g)) (hk : PySem.W.keepIn X.K (.ref g) = true)
    (lk : X.K.lookup g = some ⟨oc, od, .func (PySem.W.fnOf x x pg bg sg dV kV doc pm an cdv ct), osl⟩) (hcg : PySem.W.codeIn X.K cdv x = true) (hb : L2.Binds X.K (PySem.W.fnOf x x pg bg sg dV kV doc pm an cdv ct) [a] []) (Sg : FnScope Ng [a] sg) (hNg : Ng[0]? = some a) (hva : Vis sg a)
    (hG : GivesN X Ng x sg g cdv bg a (X.env.qual ++ "<lambda>") TT)
    (TB : TabB X.base X.mg c P) (hcode : X.env.code = .ref c) (hmT : (P, X.env.qual ++ "<lambda>") ∈ T) (hu : ∀ p ∈ T, p.1 = P → p.2 = X.env.qual ++ "<lambda>") (hr : Room (k + 2) X.A) (L : LamS X.env.scope scope) (hdef : defaultsOf params X.env = ([], []))
    (hbind : ∀ (q : Str) (cl : List (Str × Addr)) (pm cv ctv : Value), bindArgs (PySem.W.kla_fn "<lambda>" q params body scope cl pm cv ctv) ⟨[], []⟩ = pure [])
    (hbody : ∀ (A : Around) (outer : List Env) (s : Shared) (H : Hp) (E : XK) (f c' : Addr), Room k (A.deeper (lamEnv X scope s.heap.objs.size f c')) → PE (lamCxN X A outer s H E scope f c') body (t E))
    (hdb : (x == ("__debug__" : Str)) = false := by decide) (hd : (a == ("__debug__" : Str)) = false := by decide) (hcd : (a == ("__classdict__" : Str)) = false := by decide) :
    PE X (.Call (.Name x p) [.Lambda params body scope lpos] [] pos) (tLam T TT t) := by
  refine ⟨fun pins s σ H Q I h => ?_⟩
  obtain ⟨hT, h⟩ := h
  refine wpAny_Call_Name_kw (ld_glob I hg hm ?_ hdb)
  refine PySem.W.callWith_K (h₀ := X.base) I.ok.mod.kin hk ?_ (by rfl) (by rfl)
  show wpAny _ _ (spliced ((false, eval (.Lambda params body scope lpos) X.env) :: backTo pos (starEach [] X.env))) _ _ s
  refine Calls.spliced_cons (lam_make2 I TB hcode hmT hu hT hdef (L.has I.ok) fun f c' pm' ctv H1 s' I1 eN T1 hf hfn hfr hco => ?_)
  refine Calls.spliced_nil ⟨I1.kIn, ?_⟩
  have rc : codeAny (model X.prog X.w) X.A (.call (.ref g) ⟨[.ref f], []⟩) (CR CX0 X.stack X.prog X.w H1 s' Q E0) s' := by
    refine run_ofS (N := Ng) (ps := [a]) (us := [.ref f]) (vs := [.ref f]) lk hcg Sg hr I1.env0 (hb s' [.ref f] I1.kIn rfl) (.cons rfl .nil) rfl fun hr' => ?_
    exact hG f c' s' H1 Q (fun E H' Q' => t E σ H' Q') (fun W pn xe p1 p2 tk => pe_actN (i := 0) I1 L hf hfn hfr (hbind _ _ _ _ _) tk hr' (fun A outer s H E hr2 => hbody A outer s H E f c' hr2) hNg hva hd hcd) hco (h H1 eN T1)
  refine wpAny_call (codeAny_mono rc fun r s2 hq => ?_)
  cases r with
  | error e => exact (show False from hq).elim
  | ok fl =>
    cases fl with
    | ret u => exact I1.after hq
    | next => exact False.elim hq
    | brk => exact False.elim hq
    | cont => exact False.elim hq
end
end ZdL

/-! ## ZdM -/
set_option Elab.async false
set_option linter.all false
set_option maxRecDepth 100000
set_option maxHeartbeats 4000000
namespace ZdL
open PySem PySem.Spec PyProof.Rows L2 LamX
/-! ### what an except suite asks of its error -/
/-- isinstance(e, C), e the error at a (its class cls, its dict d) -/
def rIsE2 (K : PySem.W.Frag) (a : Addr) (cls : Value) (d : Option Addr) : List V → Hp → VK → Prop := fun xs H Q => ∃ (C dd : Addr) (cv : V) (u : Value) (fs : List (Str × V)) (b : Bool), xs = [.ref a, cv] ∧ ClsV cv u ∧ cls = .ref C ∧ ExcC K C ∧ d = some dd ∧ H dd = some (.xd fs) ∧ PySem.W.kitOne K (.ref C) u = some b ∧ Q (.bl b) H
theorem c_isE2 {X : Cx} {a : Addr} {oe : Obj} {cls : Value} {d : Option Addr} {pn : List (Addr × Obj)} (hz : Zc cls d oe) (hf : ∃ vs, oe.data = .fields vs) : CallR (X.suite a ((a, oe) :: pn)) (.builtin "isinstance") (rIsE2 X.K a cls d) := by
  intro pins s σ H xs us Q I r h
  obtain ⟨C, dd, cv, u, fs, b, rfl, kc, rfl, T, rfl, hdd, e, q⟩ := h
  cases r with
  | cons rx rr =>
    cases rr with
    | cons rt rr =>
      cases rr
      cases rx
      have eu := kc.eq rt
      subst eu
      obtain ⟨hget, _⟩ := I.pin (a, oe) (List.mem_append.mpr (.inl List.mem_cons_self))
      obtain ⟨vs, hv⟩ := hf
      have hx : ObjOk X.prog X.w H s.heap dd (.xd fs) := I.hok dd _ hdd
      obtain ⟨mA, hns, _⟩ := hx
      obtain ⟨od, ho, hl⟩ := lookIn_ns hns
      have J : PySem.W.InstAt s.heap a oe C (some od) := ⟨hget, hz.1, by unfold PySem.W.notCls; rw [hv] <;> rfl, by rw [hz.2]; exact ho⟩
      have hcl : (PySem.W.clsIn X.K C).isSome = true := by
        obtain ⟨cd, hc, _⟩ := PySem.W.any_some T.hd
        rw [hc]
        rfl
      have nz : ∀ z, Value.ref a ≠ .builtin z := fun z y => by cases y
      exact PySem.W.kia_one (PySem.W.kitx_exc hcl T.hg T.hk T.hs T.ha T.hn T.ht T.hm) I.kIn J e (fun z => nomatch z) fun tk => ⟨.bl b, H, I.kept (t' := tk) fun _ _ z => z, rfl, q⟩
/-- e.what -/
def tWhat (K : PySem.W.Frag) (a : Addr) (cls : Value) (d : Option Addr) (te : TE) : TE := fun σ H Q => te σ H fun x H1 => x = .ref a ∧ ∃ (C dd : Addr) (fs : List (Str × V)) (v : V), cls = .ref C ∧ XfC K C ∧ PySem.W.findIn K (.ref C) "what" = some none ∧ d = some dd ∧ H1 dd = some (.xd fs) ∧ fs.lookup ("what" : Str) = some v ∧ Q v H1
theorem pe_what {X : Cx} {a : Addr} {oe : Obj} {cls : Value} {d : Option Addr} {pn : List (Addr × Obj)} {e : Expr} {te : TE} {pos : Pos}
    (hz : Zc cls d oe) (hf : ∃ vs, oe.data = .fields vs) (he : PE (X.suite a ((a, oe) :: pn)) e te) (hb : attributeBase e "what" X.env (eval e X.env) = eval e X.env := by rfl) :
    PE (X.suite a ((a, oe) :: pn)) (.Attribute e "what" pos) (tWhat X.K a cls d te) := by
  refine ⟨fun pins s σ H Q I h => ?_⟩
  refine attr_of hb (thn (he.run pins s σ H _ I h) fun u s1 hh => ?_)
  obtain ⟨x, H1, I1, rx, ex, C, dd, fs, v, ec, T, hno, ed, ea, l, q⟩ := hh
  subst ex
  obtain rfl : u = Value.ref a := rx
  subst ec
  subst ed
  obtain ⟨ha, _⟩ := I1.pin (a, oe) (List.mem_append_left _ List.mem_cons_self)
  obtain ⟨vs, hd⟩ := hf
  have hx : ObjOk X.prog X.w H1 s1.heap dd (.xd fs) := I1.hok dd _ ea
  obtain ⟨mA, hns, hr⟩ := hx
  obtain ⟨od, ho, hl⟩ := lookIn_ns hns
  obtain ⟨u, hu, ru⟩ := RelO.some_of (v := v) (o := mA "what") (by rw [← l]; exact hr "what")
  have J : PySem.W.InstAt s1.heap a oe C (some od) := ⟨ha, hz.1, by unfold PySem.W.notCls; rw [hd] <;> rfl, by rw [hz.2]; exact ho⟩
  exact HandSPX.exc_get I1.kIn J T.ga T.gg T.exC (PySem.W.findObj_own T.hdC hno rfl (by rw [hl, hu])) (handed_of ru) ⟨v, H1, I1.tok _, ru, q⟩
end ZdL
namespace Zd
open PySem L2 LamX ZdL
variable {c : Cd}
/-- what the written part says of an error's class, for a suite -/
structure ErrS (K : PySem.W.Frag) (C : Addr) : Prop where
  isi : ExcC K C
  fld : XfC K C
  noW : PySem.W.findIn K (.ref C) "what" = some none
section
variable {ρ : Rho} {P : D → Rho → Prop} {i : Nat} {a C dx : Addr}
theorem Sv.fnV {G H : Hp} {σ : St} (s : Sv c G H σ ρ) (h : ρ[i]? = some (some (.fn a))) : σ[i]? = some (some (.ref a)) := by
  obtain ⟨v, e1, e2⟩ := s.env i _ h
  have z : v = .ref a := e2
  rw [e1, z]
theorem w_isE {C2 : Addr} {b : Bool} {w : V} (hi : ρ[i]? = some (some (.fn a))) (hE : ErrS c.K C) (hd : c.G0 dx = some (whatD w)) (hk : PySem.W.kitOne c.K (.ref C) (.ref C2) = some b) (k : P (.bl b) ρ) :
    EvD c (tCB (rIsE2 c.K a (.ref C) (some dx)) (tCons (tVar i) (tCons (tC (.ref C2)) tNil))) ρ P := fun σ G H Q s q =>
  ⟨.ref a, s.fnV hi, C, dx, .ref C2, _, _, b, rfl, .own C2, rfl, hE.isi, rfl, s.ex _ _ (s.mv.gg _ _ hd), hk, q _ _ ρ G H k s .refl rfl⟩
theorem w_what {w : V} {d : D} (hi : ρ[i]? = some (some (.fn a))) (hE : ErrS c.K C) (hd : c.G0 dx = some (whatD w)) (hr : Rp c.K c.G0 d w) (k : P d ρ) : EvD c (tWhat c.K a (.ref C) (some dx) (tVar i)) ρ P := fun σ G H Q s q =>
  ⟨.ref a, s.fnV hi, rfl, C, dx, _, w, rfl, hE.fld, hE.noW, rfl, s.ex _ _ (s.mv.gg _ _ hd), by simp [List.lookup], q w d ρ G H k s .refl (Rp.ex s.mv.gg hr)⟩
end
/-! ### x(lambda: ..), x a def that tells what the lambda gives or refuses -/
/-- nm: what x says of an error's class -/
def TTh (K : PySem.W.Frag) (T : Tb) (ok : Addr → Prop) (nm : Addr → Str) : (XK → Hp → VK → Prop) → Hp → VK → Prop := fun tl H Q => ∃ (G : Hp) (Pn : D → Prop) (RZ : Addr → D → Prop), Ex G H ∧ TabOk T G H ∧
  (∀ (E : XK) (Qv : VK), (∀ v d G' H', Pn d → Mv T (fun _ => False) G H G' H' → Rp K G' d v → Qv v H') → (∀ C w dx v G' H', RZ C w → Mv T (fun _ => False) G H G' H' → New H dx → H' dx = some (whatD v) → Rp K G' w v → E (.ref C) (some dx) H') → tl E H Qv) ∧
  (∀ C w, RZ C w → ok C) ∧ (∀ v d G' H', Pn d → Mv T (fun _ => False) G H G' H' → Rp K G' (.tup [.str "told", d]) v → Q v H') ∧
  ∀ C w v G' H', RZ C w → Mv T (fun _ => False) G H G' H' → Rp K G' (.tup [.str (nm C), w]) v → Q v H'
def era (ρ : Rho) : Rho := ρ.map fun x => match x with
  | some (.own _ _) => none
  | x => x
theorem era_get {ρ : Rho} {i : Nat} {x : DV} (h : (era ρ)[i]? = some (some x)) : ρ[i]? = some (some x) ∧ ∀ p ds, x ≠ .own p ds := by
  unfold era at h
  rw [List.getElem?_map] at h
  cases e : ρ[i]? with
  | none =>
    rw [e] at h
    cases h
  | some y =>
    rw [e] at h
    cases y with
    | none => cases h
    | some z =>
      cases z with
      | own p ds => cases h
      | dat d =>
        cases h
        exact ⟨rfl, fun p ds z => by cases z⟩
      | fn b =>
        cases h
        exact ⟨rfl, fun p ds z => by cases z⟩
theorem mv_ext {T : Tb} {S : Addr → Prop} {G H H1 : Hp} (e : Ex G H) (x : ExtN H H1) (t : Tabs T H1) (nt : NoT G) : Mv T S G H G H1 where
  oh := e
  gg := fun _ _ h => h
  gh := fun a o h => x a o (e a o h) fun ps z => nt a ps (by rw [h, z])
  st := fun a o h n g => ⟨g, o, x a o h n, n, fun _ => rfl⟩
  tb := fun ⟨_, h2, h3⟩ => ⟨t, h2, h3⟩
theorem w_lam {ρ : Rho} {P : D → Rho → Prop} {ok : Addr → Prop} {nm : Addr → Str} {t : XK → TE} (Pn : D → Prop) (RZ : Addr → D → Prop)
    (h : ∀ G H E, EvD ⟨c.K, c.T, fun _ => False, G, H, E, RZ⟩ (t E) (era ρ) fun d _ => Pn d) (hok : ∀ C w, RZ C w → ok C) (k1 : ∀ d, Pn d → P (.tup [.str "told", d]) ρ) (k2 : ∀ C w, RZ C w → P (.tup [.str (nm C), w]) ρ) :
    EvD c (tLam c.T (TTh c.K c.T ok nm) t) ρ P := fun σ G H Q s q => by
  refine ⟨s.tb.1, fun H1 x t1 => ?_⟩
  have m1 : ∀ S, Mv c.T S G H G H1 := fun S => mv_ext s.ex x t1 s.tb.2.2
  have tb1 : TabOk c.T G H1 := ⟨t1, s.tb.2⟩
  have s1 : Sv c G H1 σ ρ := s.call (m1 _)
  refine ⟨G, Pn, RZ, (m1 fun _ => False).gh, tb1, fun E Qv q1 q2 => ?_, hok, fun v d G' H' p m r => q v _ ρ G' H' (k1 d p) (s1.call m) ((Tr.mv (m1 _)).trans (.mv m)) r, fun C w v G' H' z m r => q v _ ρ G' H' (k2 C w z) (s1.call m) ((Tr.mv (m1 _)).trans (.mv m)) r⟩
  have s2 : Sv ⟨c.K, c.T, fun _ => False, G, H1, E, RZ⟩ G H1 σ (era ρ) := by
    refine ⟨Mv.refl (m1 fun _ => False).gh, tb1, ?_, fun i y hy => ?_, fun i j p ds es h1 _ => absurd rfl ((era_get h1).2 p ds), fun C dd dx v G' H' z m nw hx rv => q2 C dd dx v G' H' z m nw hx rv⟩
    · unfold era
      rw [List.length_map]
      exact s.len
    · obtain ⟨h1, h2⟩ := era_get hy
      obtain ⟨v, e1, e2⟩ := s1.env i y h1
      refine ⟨v, e1, ?_⟩
      cases y with
      | dat d => exact e2
      | fn b => exact e2
      | own p ds => exact absurd rfl (h2 p ds)
  exact h G H1 E σ G H1 Qv s2 fun v d ρ' G' H' p s3 _ r => q1 v d G' H' p s3.mv r
end Zd
namespace ZdL
open PySem PySem.Spec PyProof.Rows L2 LamX Zd
/-- def x(a): try: return ('told', a()) / except R as n: suite -/
theorem hgive {X : Cx} {T : Tb} {ok : Addr → Prop} {nm : Addr → Str} {Ng : List Str} {x a n R q : Str} {sg : Scope} {g CR : Addr} {cdg : Value} {j k : Nat} {b₀ : Stmt} {suite : List Stmt} {p1 p2 p3 p4 p5 p6 p7 p8 : Pos} {ts : Addr → Value → Option Addr → TS}
    (hgR : sg.names.lookup R = some .globalImplicit) (hmR : X.mg R = some (.ref CR)) (hdR : (R == ("__debug__" : Str)) = false) (hN : Ng.Nodup) (hn : Ng[1]? = some n) (hln : sg.names.lookup n = some .local) (hlen : 2 ≤ Ng.length)
    (hexm : ∀ C, ok C → PySem.W.exmOne X.K (.ref C) (.ref CR) = some true)
    (hsu : ∀ (f : Addr) (s : Shared) (H : Hp) (a' : Addr) (oe : Obj) (cls : Value) (d : Option Addr) (pn : List (Addr × Obj)), L2N.Zn cls d oe → (∃ vs, oe.data = .fields vs) →
      PSs ((cxOf CX0 X.prog X.w X.K X.mg X.base Ng x sg g cdg X.A X.stack s H E0).suite a' ((a', oe) :: pn)) (b₀ :: suite) (ts a' cls d))
    (hw : ∀ (G H : Hp) (a' C dx : Addr) (w : V) (d : D), ok C → G dx = some (whatD w) → Rp X.K G d w → WpS ⟨X.K, T, fun _ => False, G, H, E0, fun _ _ => False⟩ (ts a' (.ref C) (some dx)) { nx := fun _ => False, rt := fun r _ => r = .dat (.tup [.str (nm C), d]) } ((List.replicate Ng.length none).set 1 (some (.fn a')))) :
    GivesN X Ng x sg g cdg [.Try [.Return (some (.Tuple [.Constant (.str "told") j p1, .Call (.Name a p2) [] [] p3] k p4)) p5] [.ExceptHandler (some (.Name R p6)) (some n) (b₀ :: suite) p7] [] [] p8] a q (TTh X.K T ok nm) := by
  intro f c' s H Q tl act hc h
  obtain ⟨G, Pn, RZ, hex, tb, htl, hok, q1, q2⟩ := h
  have hgl : Gl (cxOf CX0 X.prog X.w X.K X.mg X.base Ng x sg g cdg X.A X.stack s H E0) R := hgR
  refine ⟨_, pss_one (L2N.ps_try_as (X := cxOf CX0 X.prog X.w X.K X.mg X.base Ng x sg g cdg X.A X.stack s H E0) (c := .ref CR) (i := 1) (ts := ts) (Wout := fun _ _ _ _ => False)
      (tb := fun W => tRet (tTup (tCons (tC (.str "told")) (tCons (fun σZ HZ Q => σZ[0]? = some (some (.ref f)) ∧ HZ c' = some (CodeO c' q) ∧ tl (WE W σZ) HZ Q) tNil))))
      rfl rfl hN hn hln ⟨hgl, hdR, .inl hmR⟩ (fun u s' xx => by
        obtain ⟨_, _, _, _, _, _, _, _, _, _, _, _, _, _, _, _, z⟩ := xx
        exact z.elim) (fun W pn xe tk _ => pss_one (ps_ret (pe_tup (pa_cons pe_str (pa_cons (act W pn xe p2 p3 tk) pa_nil))))) (fun a' oe cls d pn hz hf => hsu f s H a' oe cls d pn hz hf)), ?_⟩
  refine ⟨?_, hc, htl _ _ (fun v d G' H' p m r => ?_) fun C w dx v G' H' z m nw hx r => ?_⟩
  · unfold L2.start
    rfl
  · refine ⟨(show 2 ≤ sizeLine by decide), fun p' hp => ?_⟩
    have n1 := Nx.new m.gh (o := .tup [V.str "told", v]) hp
    exact q1 _ d _ _ p (m.trans n1.mv) ⟨p', _, rfl, SqT.of upd_same, _, _, rfl, rfl, _, _, rfl, Rp.ex n1.gg r, rfl⟩
  · refine ⟨true, hexm C (hok C w z), fun _ a' na => ?_, fun y => by cases y⟩
    -- the error's dict is known from now on
    have hgd : G' dx = none ∨ G' dx = some (whatD v) := by
      cases e : G' dx with
      | none => exact .inl rfl
      | some o =>
        have y := m.gh dx o e
        rw [hx] at y
        exact .inr y.symm
    have key : ∃ G2, Mv T (fun _ => False) G H G2 H' ∧ G2 dx = some (whatD v) ∧ Ex G' G2 := by
      rcases hgd with e | e
      · obtain ⟨e1, e2⟩ := Nx.frz m.gh hx e
        have nodx : ∀ b o, H b = some o → NT o → b ≠ dx := fun b o y nt z => by
          subst z
          exact nw o y nt
        refine ⟨upd G' dx (whatD v), ⟨m.oh, fun b o y => e1 b o (m.gg b o y), e2, fun b o y nt g => ?_, fun t => ?_⟩, upd_same, e1⟩
        · obtain ⟨g1, rest⟩ := m.st b o y nt g
          exact ⟨by rw [upd_ne (nodx b o y nt)]; exact g1, rest⟩
        · obtain ⟨t1, t2, t3⟩ := m.tb t
          refine ⟨t1, fun y hy => ?_, t3.upd nt_xd⟩
          have ne : y.1 ≠ dx := fun z => by
            obtain ⟨ps, z1, _⟩ := t1 y hy
            rw [z, hx] at z1
            cases z1
          rw [upd_ne ne]
          exact t2 y hy
      · exact ⟨G', m, e, fun _ _ y => y⟩
    obtain ⟨G2, m2, g2, e2⟩ := key
    have tb2 : TabOk T G2 H' := m2.tb tb
    have rw2 := Rp.ex e2 r
    refine hw G2 H' a' C dx v w (hok C w z) g2 rw2 _ G2 H' _ ⟨Mv.refl m2.gh, tb2, ?_, fun i y hy => ?_, fun i j b ds es h1 _ => ?_, fun _ _ _ _ _ _ y => y.elim⟩ ⟨fun _ _ _ _ y => y.elim, fun v' r' σ' ρ' G' H' e s' _ rv _ => ?_, fun _ _ _ _ y => y.elim, fun _ _ _ _ y => y.elim⟩
    · rw [List.length_set, List.length_replicate, List.length_set]
      exact (start_len (by simpa using Nat.le_of_lt hlen)).symm
    · rw [List.getElem?_set] at hy
      split at hy
      · rename_i e
        split at hy
        · cases hy
          refine ⟨.ref a', ?_, rfl⟩
          rw [← e, List.getElem?_set_self (by rw [start_len (by simpa using Nat.le_of_lt hlen)]; omega)]
        · cases hy
      · have y := List.eq_of_mem_replicate (List.mem_of_getElem? hy)
        cases y
    · rw [List.getElem?_set] at h1
      split at h1
      · split at h1
        · cases h1
        · cases h1
      · have y := List.eq_of_mem_replicate (List.mem_of_getElem? h1)
        cases y
    · subst e
      exact q2 C w v' G' H' z (m2.trans s'.mv) rv
end ZdL

/-! ## Zd8 -/
set_option Elab.async false
set_option linter.all false
set_option maxRecDepth 100000
set_option maxHeartbeats 4000000
namespace Zd
open PySem L2
variable {c : Cd}
section
variable {ρ : Rho} {P : D → Rho → Prop} {PN : List D → Rho → Prop} {e : En} {i : Nat} {te tb ti : TE} {tl th : TO}
/-! ### lists of one's own, read and written -/
/-- xs[k], xs one's own -/
theorem w_ixO (h0 : ∃ p ds, ρ[i]? = some (some (.own p ds))) (h : EvD c tb ρ fun d2 ρ2 => ∃ p ds k d, ρ2[i]? = some (some (.own p ds)) ∧ d2 = .int k ∧ atI ds k = some d ∧ P d ρ2) : EvD c (tOp (rIxL c.K) (tVar i) tb) ρ P := fun σ G H Q s q => by
  obtain ⟨p0, ds0, hi⟩ := h0
  refine ⟨.ref p0, (s.own hi).1, h σ G H _ s fun v2 d2 ρ2 G2 H2 h2 s2 e2 r2 => ?_⟩
  obtain ⟨p, ds, k, d, hj, rfl, hd, hp⟩ := h2
  obtain ⟨k1, k2, k3, vs, k4, k5⟩ := s2.own hj
  rw [(s.own hi).1] at k1
  cases k1
  cases r2
  obtain ⟨v, e1, e3⟩ := atI_rp k5 hd
  exact ⟨p0, vs, k, v, rfl, rfl, SqL.of k4, e1, q v d ρ2 G2 H2 hp s2 e2 e3⟩
/-- len(xs) -/
theorem w_lenO {p : Addr} {ds : List D} (hi : ρ[i]? = some (some (.own p ds))) (k : P (.int ds.length) ρ) : EvD c (tCB (rLenV c.K) (tCons (tVar i) tNil)) ρ P := fun σ G H Q s q => by
  obtain ⟨k1, k2, k3, vs, k4, k5⟩ := s.own hi
  exact ⟨.ref p, k1, .ref p, ds.length, rfl, .inl ⟨vs, SqL.of k4, k5.len.symm⟩, q _ _ ρ G H k s .refl rfl⟩
/-- xs[lo:hi] -/
theorem w_slO (h0 : ∃ p ds, ρ[i]? = some (some (.own p ds))) (h : EvO c tl ρ fun lo ρ1 => EvO c th ρ1 fun hi ρ2 => ∃ p ds, ρ2[i]? = some (some (.own p ds)) ∧ PN (cutL ds lo hi) ρ2) : EvN c (tSl (rSlL c.K) (tVar i) tl th) ρ PN := fun σ G H Q s q => by
  obtain ⟨p0, ds0, hi⟩ := h0
  refine ⟨.ref p0, (s.own hi).1, h σ G H _ s fun lo ρ1 G1 H1 h1 s1 e1 => h1 σ G1 H1 _ s1 fun up ρ2 G2 H2 h2 s2 e2 => ?_⟩
  obtain ⟨p, ds, hj, hp⟩ := h2
  obtain ⟨k1, k2, k3, vs, k4, k5⟩ := s2.own hj
  rw [(s.own hi).1] at k1
  have ep : p0 = p := V.ref.inj (Option.some.inj (Option.some.inj k1))
  subst ep
  refine ⟨p0, vs, rfl, SqL.of k4, fun a ha => ?_⟩
  obtain ⟨f1, f2, f3⟩ := s2.fresh ha
  exact q a _ _ ρ2 G2 _ hp (s2.nx (Nx.own s2.ex ha)) ((e1.trans e2).trans (.nx (Nx.own s2.ex ha))) upd_same f1 (cut_rp k5 lo up) ⟨f2, (e1.trans e2).new (.of ha)⟩ f3
theorem w_slOD (h0 : ∃ p ds, ρ[i]? = some (some (.own p ds))) (h : EvO c tl ρ fun lo ρ1 => EvO c th ρ1 fun hi ρ2 => ∃ p ds, ρ2[i]? = some (some (.own p ds)) ∧ P (.lst (cutL ds lo hi)) ρ2) : EvD c (tSl (rSlL c.K) (tVar i) tl th) ρ P := EvD.of_N (PN := fun ds ρ' => P (.lst ds) ρ') (w_slO h0 h) fun _ _ z => z
/-- xs.append(e) -/
theorem s_app (h0 : ∃ p ds, ρ[i]? = some (some (.own p ds))) (h : EvD c te ρ fun d ρ1 => ∃ p ds, ρ1[i]? = some (some (.own p ds)) ∧ ds.length < sizeLine ∧ e.nx (ρ1.set i (some (.own p (ds ++ [d]))))) :
    WpS c (tDrop (tBM c.K "list" rAppend (tVar i) (tCons te tNil))) e ρ := fun σ G H Dd s kn => by
  obtain ⟨p0, ds0, hi⟩ := h0
  obtain ⟨k1, _, _, vs0, k4, _⟩ := s.own hi
  refine ⟨.ref p0, k1, .inl ⟨rfl, vs0, SqL.of k4⟩, h σ G H _ s fun v d ρ1 G1 H1 h1 s1 e1 r1 => ?_⟩
  obtain ⟨p, ds, hj, hz, hk⟩ := h1
  obtain ⟨g1, g2, g3, vs, g4, g5⟩ := s1.own hj
  rw [k1] at g1
  have ep : p0 = p := V.ref.inj (Option.some.inj (Option.some.inj g1))
  subst ep
  exact ⟨p0, vs, v, rfl, rfl, g4, by rw [g5.len]; exact hz, kn.nx σ _ G1 _ hk (s1.mut hj (g5.app (Rps.one r1))) e1.ex⟩
/-- xs.extend(e) -/
theorem s_ext (h0 : ∃ p ds, ρ[i]? = some (some (.own p ds))) (h : EvD c te ρ fun d ρ1 => ∃ p ds es, d = .lst es ∧ ρ1[i]? = some (some (.own p ds)) ∧ ds.length + es.length ≤ sizeLine ∧ e.nx (ρ1.set i (some (.own p (ds ++ es))))) :
    WpS c (tDrop (tBM c.K "list" rExtend (tVar i) (tCons te tNil))) e ρ := fun σ G H Dd s kn => by
  obtain ⟨p0, ds0, hi⟩ := h0
  obtain ⟨k1, _, _, vs0, k4, _⟩ := s.own hi
  refine ⟨.ref p0, k1, .inl ⟨rfl, vs0, SqL.of k4⟩, h σ G H _ s fun v d ρ1 G1 H1 h1 s1 e1 r1 => ?_⟩
  obtain ⟨p, ds, es, rfl, hj, hz, hk⟩ := h1
  obtain ⟨g1, g2, g3, vs, g4, g5⟩ := s1.own hj
  rw [k1] at g1
  have ep : p0 = p := V.ref.inj (Option.some.inj (Option.some.inj g1))
  subst ep
  obtain ⟨b, ws, rfl, r2, r3⟩ := r1
  exact ⟨p0, b, vs, ws, rfl, rfl, g4, s1.ex _ _ r2, by rw [g5.len, r3.len]; exact hz, kn.nx σ _ G1 _ hk (s1.mut hj (g5.app r3)) e1.ex⟩
/-- xs[k] = e -/
theorem s_setO (h : EvD c te ρ fun d ρ1 => (∃ p ds, ρ1[i]? = some (some (.own p ds))) ∧ EvD c ti ρ1 fun d2 ρ2 => ∃ p ds k j, ρ2[i]? = some (some (.own p ds)) ∧ d2 = .int k ∧ ixN ds.length k = some j ∧ e.nx (ρ2.set i (some (.own p (ds.set j d))))) :
    WpS c (tAsg te (gSub (tVar i) ti rSetL)) e ρ := fun σ G H Dd s kn =>
  h σ G H _ s fun v d ρ1 G1 H1 ⟨⟨p0, ds0, hi⟩, h1⟩ s1 e1 r1 => ⟨.ref p0, (s1.own hi).1, h1 σ G1 H1 _ s1 fun v2 d2 ρ2 G2 H2 h2 s2 e2 r2 => by
    obtain ⟨p, ds, k, j, hj, rfl, hx, hk⟩ := h2
    obtain ⟨g1, g2, g3, vs, g4, g5⟩ := s2.own hj
    rw [(s1.own hi).1] at g1
    have ep : p0 = p := V.ref.inj (Option.some.inj (Option.some.inj g1))
    subst ep
    cases r2
    exact ⟨p0, vs, k, j, rfl, rfl, g4, by rw [g5.len]; exact hx, kn.nx σ _ G2 _ hk (s2.mut hj (g5.set j (Rp.ex e2.ex r1))) (e1.trans e2).ex⟩⟩
/-! ### dicts -/
def keyD : Key → D
  | .inl i => .int i
  | .inr x => .str x
theorem rp_key {K : PySem.W.Frag} {G : Hp} {k : Key} {v : V} (r : Rp K G (keyD k) v) : v = kV k := by
  cases k with
  | inl i => exact r
  | inr x => exact r
def lookD : List Key → List D → Key → Option D
  | k :: ks, d :: ds, x => if k = x then some d else lookD ks ds x
  | _, _, _ => none
theorem look_rp {K : PySem.W.Frag} {G : Hp} {x : Key} : ∀ {ks : List Key} {ds : List D} {vs : List V}, Rps K G ds vs → ks.length = ds.length → (∀ d, lookD ks ds x = some d → ∃ v, valV (ks.zip vs) x = some v ∧ Rp K G d v) ∧ (lookD ks ds x = none → valV (ks.zip vs) x = none)
  | [], [], _, h, _ => ⟨fun d z => (nomatch z), fun _ => rfl⟩
  | [], _ :: _, _, _, h => by simp at h
  | _ :: _, [], _, _, h => by simp at h
  | k :: ks, d :: ds, _, ⟨v, r, h1, h2, h3⟩, hl => by
    subst h1
    have ih := look_rp (x := x) h3 (by simpa using hl)
    have e1 : valV ((k, v) :: ks.zip r) x = if k = x then some v else valV (ks.zip r) x := by
      unfold valV
      rw [List.find?_cons]
      by_cases e : k = x
      · rw [decide_eq_true e, if_pos e]
        rfl
      · rw [decide_eq_false e, if_neg e]
    unfold lookD
    rw [List.zip_cons_cons, e1]
    by_cases e : k = x
    · rw [if_pos e, if_pos e]
      exact ⟨fun d' z => by cases z; exact ⟨v, rfl, h2⟩, fun z => by cases z⟩
    · rw [if_neg e, if_neg e]
      exact ih
/-- d[k], d made here -/
theorem w_dget (h : EvD c te ρ fun d1 ρ1 => EvD c ti ρ1 fun d2 ρ2 => ∃ ks ds k d, d1 = .dic ks ds ∧ d2 = keyD k ∧ lookD ks ds k = some d ∧ P d ρ2) : EvD c (tDGet te ti) ρ P := fun σ G H Q s q =>
  h σ G H _ s fun v1 d1 ρ1 G1 H1 h1 s1 e1 r1 => h1 σ G1 H1 _ s1 fun v2 d2 ρ2 G2 H2 h2 s2 e2 r2 => by
    obtain ⟨ks, ds, k, d, rfl, rfl, hd, hp⟩ := h2
    obtain ⟨a, vs, rfl, r3, r4, r5⟩ := r1
    obtain ⟨v, e3, e4⟩ := (look_rp r5 r4).1 d hd
    refine ⟨a, v, rfl, ?_, q v d ρ2 G2 H2 hp s2 (e1.trans e2) (Rp.ex e2.ex e4)⟩
    rw [rp_key r2, ← e3]
    exact DGet.k (s2.ex _ _ (e2.ex _ _ r3))
theorem w_din (h : EvD c ti ρ fun d2 ρ1 => EvD c te ρ1 fun d1 ρ2 => ∃ ks ds k, d1 = .dic ks ds ∧ d2 = keyD k ∧ P (.bl (lookD ks ds k).isSome) ρ2) : EvD c (tDIn ti te) ρ P := fun σ G H Q s q =>
  h σ G H _ s fun v2 d2 ρ1 G1 H1 h1 s1 e1 r2 => h1 σ G1 H1 _ s1 fun v1 d1 ρ2 G2 H2 h2 s2 e2 r1 => by
    obtain ⟨ks, ds, k, rfl, rfl, hp⟩ := h2
    obtain ⟨a, vs, rfl, r3, r4, r5⟩ := r1
    refine ⟨a, valV (ks.zip vs) k, rfl, ?_, ?_⟩
    · rw [rp_key r2]
      exact DGet.k (s2.ex _ _ r3)
    · have z : (valV (ks.zip vs) k).isSome = (lookD ks ds k).isSome := by
        cases hl : lookD ks ds k with
        | none =>
          rw [(look_rp r5 r4).2 hl]
          rfl
        | some d =>
          obtain ⟨v, e3, _⟩ := (look_rp r5 r4).1 d hl
          rw [e3]
          rfl
      rw [z]
      exact q _ _ ρ2 G2 H2 hp s2 (e1.trans e2) rfl
theorem w_dnin (h : EvD c ti ρ fun d2 ρ1 => EvD c te ρ1 fun d1 ρ2 => ∃ ks ds k, d1 = .dic ks ds ∧ d2 = keyD k ∧ P (.bl (!(lookD ks ds k).isSome)) ρ2) : EvD c (tDNotIn ti te) ρ P := fun σ G H Q s q =>
  h σ G H _ s fun v2 d2 ρ1 G1 H1 h1 s1 e1 r2 => h1 σ G1 H1 _ s1 fun v1 d1 ρ2 G2 H2 h2 s2 e2 r1 => by
    obtain ⟨ks, ds, k, rfl, rfl, hp⟩ := h2
    obtain ⟨a, vs, rfl, r3, r4, r5⟩ := r1
    refine ⟨a, valV (ks.zip vs) k, rfl, ?_, ?_⟩
    · rw [rp_key r2]
      exact DGet.k (s2.ex _ _ r3)
    · have z : (valV (ks.zip vs) k).isSome = (lookD ks ds k).isSome := by
        cases hl : lookD ks ds k with
        | none =>
          rw [(look_rp r5 r4).2 hl]
          rfl
        | some d =>
          obtain ⟨v, e3, _⟩ := (look_rp r5 r4).1 d hl
          rw [e3]
          rfl
      rw [z]
      exact q _ _ ρ2 G2 H2 hp s2 (e1.trans e2) rfl
/-- {k: v, ..} -/
def EvP (c : Cd) (trs : List (TE × TE)) (ρ : Rho) (P : List (D × D) → Rho → Prop) : Prop := ∀ (σ : St) (G H : Hp) (Q : List (V × V) → Hp → Prop), Sv c G H σ ρ →
  (∀ ps kds ρ' G' H', P kds ρ' → Sv c G' H' σ ρ' → Tr ρ G H ρ' G' H' → Rps c.K G' (kds.map (·.1)) (ps.map (·.1)) → Rps c.K G' (kds.map (·.2)) (ps.map (·.2)) → Q ps H') → tPairs trs σ H Q
theorem p_nil {PP : List (D × D) → Rho → Prop} (k : PP [] ρ) : EvP c [] ρ PP := fun σ G H Q s q => q [] [] ρ G H k s .refl rfl rfl
theorem p_cons {PP : List (D × D) → Rho → Prop} {r : List (TE × TE)} (h : EvD c te ρ fun d1 ρ1 => EvD c ti ρ1 fun d2 ρ2 => EvP c r ρ2 fun ps ρ3 => PP ((d1, d2) :: ps) ρ3) : EvP c ((te, ti) :: r) ρ PP := fun σ G H Q s q =>
  h σ G H _ s fun v1 d1 ρ1 G1 H1 h1 s1 e1 r1 => h1 σ G1 H1 _ s1 fun v2 d2 ρ2 G2 H2 h2 s2 e2 r2 => h2 σ G2 H2 _ s2 fun ps kds ρ3 G3 H3 h3 s3 e3 r3 r4 =>
    q _ _ ρ3 G3 H3 h3 s3 ((e1.trans e2).trans e3) ⟨v1, _, rfl, Rp.ex e3.ex (Rp.ex e2.ex r1), r3⟩ ⟨v2, _, rfl, Rp.ex e3.ex r2, r4⟩
theorem zip_split {K : PySem.W.Frag} {G : Hp} : ∀ {ks : List Key} {ds : List D} {ps : List (V × V)}, Rps K G (ks.map keyD) (ps.map (·.1)) → Rps K G ds (ps.map (·.2)) → ps = (ks.zip (ps.map (·.2))).map (fun kv => (kV kv.1, kv.2)) ∧ ks.length = ps.length
  | [], _, [], _, _ => ⟨rfl, rfl⟩
  | [], _, _ :: _, h, _ => by cases h
  | _ :: _, _, [], ⟨_, _, h, _⟩, _ => by cases h
  | k :: ks, [], p :: ps, _, h => by cases h
  | k :: ks, d :: ds, p :: ps, ⟨v, r, h1, h2, h3⟩, ⟨w, r', h4, h5, h6⟩ => by
    have a1 : p.1 = v := (List.cons.inj h1).1
    have a2 : ps.map (·.1) = r := (List.cons.inj h1).2
    have a4 : ps.map (·.2) = r' := (List.cons.inj h4).2
    rw [← a2] at h3
    rw [← a4] at h6
    obtain ⟨i1, i2⟩ := zip_split h3 h6
    refine ⟨?_, by rw [List.length_cons, List.length_cons, i2]⟩
    show p :: ps = (kV k, p.2) :: ((ks.zip (ps.map (·.2))).map fun kv => (kV kv.1, kv.2))
    rw [← i1, ← rp_key h2, ← a1]
/-- an object of one's own that nothing names is given its last form and becomes known -/
theorem Sv.put {G H : Hp} {σ : St} {p : Addr} {u o : HO} (s : Sv c G H σ ρ) (hp : H p = some u) (nu : NT u) (nc : ∀ q, u ≠ LamX.CodeO p q) (hg : G p = none) (hw : ∀ o, c.H0 p = some o → ¬ NT o) (hn : NotOwn ρ p) (no : NT o) :
    Sv c (upd G p o) (upd H p o) σ ρ ∧ Ex G (upd G p o) := by
  have ex2 : Ex G (upd G p o) := fun a u z => by rw [upd_ne (ne_of_none z hg)]; exact z
  have gh : Ex (upd G p o) (upd H p o) := fun a u z => by
    by_cases y : a = p
    · rw [y, upd_same] at z ⊢
      exact z
    · rw [upd_ne y] at z ⊢
      exact s.ex a u z
  have tt : TabOk c.T G H → TabOk c.T (upd G p o) (upd H p o) := fun t => by
    obtain ⟨t1, t2, t3⟩ := tab_upd (o := o) t hp nu nc
    refine ⟨t1, fun x hx => ?_, t3.upd no⟩
    have ne : x.1 ≠ p := fun y => by
      obtain ⟨us, u1, _⟩ := t.1 x hx
      rw [y, hp] at u1
      cases u1
      exact nu us rfl
    rw [upd_ne ne]
    exact t2 x hx
  refine ⟨⟨⟨s.mv.oh, fun a u z => ex2 a u (s.mv.gg a u z), gh, fun a u z nt g => ?_, fun t => tt (s.mv.tb t)⟩, tt s.tb, s.len, fun j x hx => ?_, s.inj, s.xc⟩, ex2⟩
  · obtain ⟨g1, o', h', n', y⟩ := s.mv.st a u z nt g
    have ne : a ≠ p := fun y => by
      subst y
      exact hw u z nt
    exact ⟨by rw [upd_ne ne]; exact g1, o', by rw [upd_ne ne]; exact h', n', y⟩
  · obtain ⟨v, e1, e2⟩ := s.env j x hx
    refine ⟨v, e1, ?_⟩
    cases x with
    | dat d => exact Rp.ex ex2 e2
    | fn a => exact e2
    | own q fs =>
      obtain ⟨f1, f2, f3, us, f4, f5⟩ := e2
      have n : q ≠ p := fun y => by
        subst y
        exact hn j _ hx
      exact ⟨f1, by rw [upd_ne n]; exact f2, f3, us, by rw [upd_ne n]; exact f4, Rps.ex ex2 f5⟩
theorem w_disp {trs : List (TE × TE)} (h : EvP c trs ρ fun kds ρ1 => ∃ ks, kds.map (·.1) = ks.map keyD ∧ ks.length ≤ 15 ∧ (∀ vs : List V, vs.length = ks.length → mergeK [] (ks.zip vs) = ks.zip vs) ∧ P (.dic ks (kds.map (·.2))) ρ1) : EvD c (tDisp trs) ρ P := fun σ G H Q s q p hp => by
  obtain ⟨f1, f2, f3⟩ := s.fresh hp
  have n0 := Nx.own s.ex (o := .dK []) hp
  refine h σ G _ _ (s.nx n0) fun ps kds ρ1 G1 H1 h1 s1 e1 r1 r2 => ?_
  obtain ⟨ks, hk, hl, hm, hP⟩ := h1
  obtain ⟨k1, k2, k3⟩ := e1.fr p _ upd_same nt_dK f1 f3
  rw [hk] at r1
  obtain ⟨z1, z2⟩ := zip_split r1 r2
  have z3 : (ps.map (·.2)).length = ks.length := by rw [List.length_map, z2]
  refine ⟨k1, ks.zip (ps.map (·.2)), z1, by rw [List.length_zip]; omega, ?_⟩
  rw [hm _ z3]
  obtain ⟨sv1, ex2⟩ := s1.put (o := .dK (ks.zip (ps.map (·.2)))) k1 nt_dK (fun q z => by unfold LamX.CodeO at z; cases z) k2 f2 k3 nt_dK
  refine q _ _ ρ1 _ _ hP sv1 ⟨fun a o z => ex2 a o (e1.ex a o z), fun a o z nt => ?_, fun a o z nt g1 no => ?_⟩ ⟨p, ps.map (·.2), rfl, upd_same, by have z := congrArg List.length hk; simp at z; simp [z], Rps.ex ex2 r2⟩
  · have ne : a ≠ p := ne_of_none z hp
    obtain ⟨o', h', n'⟩ := e1.dm a o (by rw [upd_ne ne]; exact z) nt
    exact ⟨o', by rw [upd_ne ne]; exact h', n'⟩
  · have ne : a ≠ p := ne_of_none z hp
    obtain ⟨y1, y2, y3⟩ := e1.fr a o (by rw [upd_ne ne]; exact z) nt g1 no
    exact ⟨by rw [upd_ne ne]; exact y1, by rw [upd_ne ne]; exact y2, y3⟩
end
end Zd

/-! ## ZdU -/
set_option Elab.async false
set_option linter.all false
set_option maxRecDepth 100000
set_option maxHeartbeats 4000000
/-! t[::-1], x * n -/
namespace ZdU
open PySem PySem.Spec PyProof.Rows L2 HT PySem.Calls
section
variable {prog : Program} {w : World} {A : Around} {E : Value → Shared → Prop} {s : Shared}
theorem places_rev (n : Nat) : Builtin.Slice.slicePlaces ((n : Int) - 1) (-1) (-1) = n := by
  unfold Builtin.Slice.slicePlaces
  have h1 : ¬ ((-1 : Int) > 0) := by decide
  simp only [h1, if_false]
  by_cases h : (n : Int) - 1 > -1
  · simp only [h, if_true]
    rw [show (- -1 : Int) = 1 by decide, Int.ediv_one]
    omega
  · simp only [h, if_false]
    omega
theorem sliceApplied_rev {sl : Addr} {vs : Value} {n : Nat} {Q : Int × Int × Nat → Shared → Prop} (hs : s.heap.IsSliceOf sl .none .none vs) (ps : IsPart vs (some (-1)))
    (h : Q ((n : Int) - 1, -1, n) s) : wpAny (model prog w) A (Builtin.Slice.sliceApplied (.ref sl) (pure (n : Int))) Q E s := by
  obtain ⟨os, hos, hcs, hds⟩ := id hs
  unfold Builtin.Slice.sliceApplied Builtin.Slice.sliceFields
  refine wpAny_bind (wpAny_bind (wpAny_field hos hds (x := .none) rfl (wpAny_bind (wpAny_field hos hds (x := .none) rfl (wpAny_bind (wpAny_field hos hds (x := vs) rfl (wpAny_pure ?_)))))))
  refine wpAny_bind (slicePart_ ps ?_)
  show wpAny _ _ (if ((-1 : Int) == 0) = true then _ else _) _ _ s
  rw [if_neg (by decide)]
  refine wpAny_bind (slicePart_none (wpAny_bind (slicePart_none (wpAny_bind (wpAny_pure ?_)))))
  show wpAny _ _ (pure ((n : Int) - 1, (-1 : Int), Builtin.Slice.slicePlaces ((n : Int) - 1) (-1) (-1))) _ _ s
  rw [places_rev]
  exact wpAny_pure h
theorem pick_rev (xs : Array Value) : ((List.range xs.size).filterMap fun (m : Nat) => xs[((xs.size : Int) - 1 + (m : Int) * (-1)).toNat]?).toArray = xs.toList.reverse.toArray := by
  have e : (List.range xs.size).filterMap (fun (m : Nat) => xs[((xs.size : Int) - 1 + (m : Int) * (-1)).toNat]?) = ((List.range xs.size).map fun k => xs.size - 1 - k).filterMap (xs[·]?) := by
    rw [List.filterMap_map]
    have key : ∀ l : List Nat, (∀ k ∈ l, k < xs.size) → l.filterMap (fun (m : Nat) => xs[((xs.size : Int) - 1 + (m : Int) * (-1)).toNat]?) = l.filterMap ((fun x => xs[x]?) ∘ fun k => xs.size - 1 - k) := by
      intro l
      induction l with
      | nil => intro _; rfl
      | cons k r ih =>
        intro h
        have h1 := h k (List.mem_cons_self ..)
        have : ((xs.size : Int) - 1 + (k : Int) * (-1)).toNat = xs.size - 1 - k := by omega
        rw [List.filterMap_cons, List.filterMap_cons, this, ih fun j hj => h j (List.mem_cons_of_mem _ hj)]
        rfl
    exact key _ fun k hk => List.mem_range.mp hk
  rw [e, PySem.W.krv_range, List.filterMap_reverse, PySem.W.krv_all]
theorem getItem_tuple_rev {t sl : Addr} {items : Array Value} {vs : Value} {Q : Value → Shared → Prop} (ht : IsTup s.heap t items) (hs : s.heap.IsSliceOf sl .none .none vs) (ps : IsPart vs (some (-1)))
    (h : Q (.ref s.heap.objs.size) { s with heap := s.heap.push { cls := .type "tuple", data := .seq items.toList.reverse.toArray } })
    (hsz : items.size ≤ sizeLine) : wpAny (model prog w) A (getItem (.ref t) (.ref sl)) Q E s := by
  have htake : sizeOk (.seq items.toList.reverse.toArray) := by
    show items.toList.reverse.toArray.size ≤ sizeLine
    rw [List.size_toArray, List.length_reverse, Array.length_toList]
    exact hsz
  obtain ⟨os, hos, hcs, hds⟩ := id hs
  have hTs : s.TypeIs (.ref sl) "slice" := ⟨os, hos, hcs⟩
  unfold getItem
  try with_reducible refine wpAny_holding ?_
  first | refine wpAny_bind (wpAny_pure ?_) | skip
  refine wpAny_bind (wpAny_sequenceKey ht.typeIs (by decide) ?_)
  refine wpAny_bind (wpAny_callSpecial?_slot (name := Str.ofString "__getitem__") ht.typeIs PyProof.Rows.slot_tuple_getitem
    (wpAny_call_entry PyProof.Rows.slot_tuple_getitem ht.typeIs entry_tuple_getitem ?_ (args_tuple_getitem _ _)))
  show wpAny _ _ (Builtin.Tuple.tupleItemsOf (.ref t) >>= _) _ _ s
  refine wpAny_bind (tupleItemsOf_ ht ?_)
  refine wpAny_bind (wpAny_typeOf hTs ?_)
  rw [if_pos (by decide)]
  refine wpAny_bind (sliceApplied_rev hs ps ?_)
  have hno : ¬ ((((items.size : Int) - 1) == 0 && (-1 : Int) == 1 && items.size == items.size) = true) := by
    intro q
    rw [Bool.and_eq_true, Bool.and_eq_true] at q
    exact absurd q.1.2 (by decide)
  show wpAny _ _ (if (((items.size : Int) - 1) == 0 && (-1 : Int) == 1 && items.size == items.size) = true then _ else _) _ _ s
  rw [if_neg hno, pick_rev]
  first
    | exact wpAny_bind (m := Builtin.Tuple.tupleExact _) (wpAny_newObj_type (wpAny_pure ⟨_, rfl, wpAny_pure h⟩) htake)
    | exact wpAny_bind (m := Builtin.Tuple.tupleExact _) (wpAny_newObj_type (wpAny_bind (wpAny_pure (wpAny_pure ⟨_, rfl, wpAny_pure h⟩))) htake)
    | exact wpAny_bind (wpAny_bind (m := Builtin.Tuple.tupleExact _) (wpAny_newObj_type (wpAny_pure (wpAny_pure ⟨_, rfl, wpAny_pure h⟩)) htake))
    | exact wpAny_bind (wpAny_bind (m := Builtin.Tuple.tupleExact _) (wpAny_newObj_type (wpAny_pure ⟨_, rfl, wpAny_pure h⟩) htake))
end
section
variable {X : Cx}
/-- t[::-1] -/
def tRevT (K : PySem.W.Frag) (te : TE) : TE := fun σ H Q => te σ H fun x H1 => ∃ a xs, x = .ref a ∧ SqT K H1 a xs ∧ ∀ p, H1 p = none → Q (.ref p) (upd H1 p (.tup xs.reverse))
theorem pe_revT {e : Expr} {te : TE} {k : Nat} {p1 p2 p3 pos : Pos} (he : PE X e te) : PE X (.Subscript e (.Slice none none (some (.UnaryOp .USub (.Constant (.int 1) k p1) p2)) p3) pos) (tRevT X.K te) := by
  refine ⟨fun pins s σ H Q I h => ?_⟩
  refine Subscript_ (thn (he.run pins s σ H _ I h) fun v s1 ⟨x, H1, I1, r1, q1⟩ => ?_)
  obtain ⟨a, xs, ex, hx, q⟩ := q1
  subst ex
  cases r1
  have hst : PO X (some (.UnaryOp .USub (.Constant (.int 1) k p1) p2)) (tPart (tUn (rU fun i => .int (-i)) (tC (.int 1)))) := po_some (pe_un un_neg pe_int)
  refine wpAny_Slice (thn (po_none.run pins s1 σ H1 (fun o H2 => o = none ∧ H2 = H1) I1 ⟨rfl, rfl⟩) fun vl s2 ⟨l, H2, I2, pl, el, e2⟩ => ?_)
  subst el e2
  refine thn (po_none.run pins s2 σ H2 (fun o H3 => o = none ∧ H3 = H2) I2 ⟨rfl, rfl⟩) fun vu s3 ⟨u, H3, I3, pu, eu, e3⟩ => ?_
  subst eu e3
  refine thn (hst.run pins s3 σ H3 (fun o H4 => o = some (-1) ∧ H4 = H3) I3 ⟨1, rfl, -1, rfl, rfl, rfl⟩) fun vs s4 ⟨o, H4, I4, ps, eo, e4⟩ => ?_
  subst eo e4
  cases pl
  cases pu
  have I5 : Inv X pins σ H4 { s4 with heap := s4.heap.push { cls := .type "slice", data := .fields #[.none, .none, vs] } } := I4.kept (t' := s4.toks) fun b ob q => Heap.get?_push_of_some _ q
  obtain ⟨its, r, ht, hz⟩ := I5.tuple hx
  have hlen := r.length
  show wpAny (model X.prog X.w) X.A (subscriptTail e (.Slice none none (some (.UnaryOp .USub (.Constant (.int 1) k p1) p2)) p3) (.ref a) (.ref s4.heap.objs.size)) (EP X pins σ Q) X.xe { s4 with heap := s4.heap.push { cls := .type "slice", data := .fields #[.none, .none, vs] } }
  refine tail_any (ops := [.ref a, .ref s4.heap.objs.size]) ht.typeIs (PyProof.Rows.slot_tuple_getitem.lookup) ?_ (by with_unfolding_all rfl)
  refine getItem_tuple_rev ht (Heap.IsSliceOf.new _ .none .none vs) ps ?_ (by rw [List.size_toArray]; omega)
  refine ⟨.ref _, _, I5.laid (t' := s4.toks) (o := .tup xs.reverse) (fun b ob q => Heap.get?_push_of_some _ q) (Nat.le_refl _) ?_, rfl, q _ (I5.hok.fresh (Nat.le_refl _))⟩
  exact ⟨by rw [List.length_reverse]; exact hz, _, r.reverse, IsTup.new _ _⟩
/-- .. == [], .. == () -/
def rEqE (K : PySem.W.Frag) : R2 := fun x y H Q => ∃ a b xs, x = .ref a ∧ y = .ref b ∧ ((SqL K H a xs ∧ SqL K H b []) ∨ (SqT K H a xs ∧ SqT K H b [])) ∧ Q (.bl xs.isEmpty) H
def rNeE (K : PySem.W.Frag) : R2 := fun x y H Q => ∃ a b xs, x = .ref a ∧ y = .ref b ∧ ((SqL K H a xs ∧ SqL K H b []) ∨ (SqT K H a xs ∧ SqT K H b [])) ∧ Q (.bl (!xs.isEmpty)) H
theorem vals_nil {us : List Value} (r : Vals [] us) : us = [] := by
  cases r
  rfl
theorem vals_emp {xs : List V} {us : List Value} (r : Vals xs us) : us.isEmpty = xs.isEmpty := by
  cases r <;> rfl
theorem op_eqE (hu : X.A.units + 64 < cLine) : OpR X (compareOp .Eq) (rEqE X.K) := by
  intro pins s σ H x y v u Q I rx ry h
  obtain ⟨a, b, xs, rfl, rfl, h, q⟩ := h
  cases rx
  cases ry
  rcases h with ⟨h1, h2⟩ | ⟨h1, h2⟩
  · obtain ⟨its, r1, p1, _⟩ := I.list h1
    obtain ⟨its2, r2, p2, _⟩ := I.list h2
    obtain rfl := vals_nil r2
    have e := vals_emp r1
    cases its with
    | nil =>
      refine SeqAt.eq_listAt (e := fun _ => true) p1.isList p2.isList rfl (by omega) (fun j h1 _ => absurd h1 (Nat.not_lt_zero j)) ⟨.bl true, H, I, rfl, ?_⟩
      rw [← e] at q
      exact q
    | cons z zs =>
      refine SeqAt.eq_list_lengthsAt p1.isList p2.isList (by simp) (by omega) ⟨.bl false, H, I, rfl, ?_⟩
      rw [← e] at q
      exact q
  · obtain ⟨its, r1, p1, _⟩ := I.tuple h1
    obtain ⟨its2, r2, p2, _⟩ := I.tuple h2
    obtain rfl := vals_nil r2
    have e := vals_emp r1
    have z : ((List.range (min its.toArray.size ([] : List Value).toArray.size)).all (fun _ => true) && its.toArray.size == ([] : List Value).toArray.size) = xs.isEmpty := by
      rw [← e]
      cases its <;> simp
    refine SeqAt.eq_tupleAt (e := fun _ => true) p1 p2 (by omega) (fun j _ h2 => absurd h2 (Nat.not_lt_zero j)) ?_
    rw [z]
    exact ⟨.bl _, H, I, rfl, q⟩
theorem op_neE (hu : X.A.units + 64 < cLine) : OpR X (compareOp .NotEq) (rNeE X.K) := by
  intro pins s σ H x y v u Q I rx ry h
  obtain ⟨a, b, xs, rfl, rfl, h, q⟩ := h
  cases rx
  cases ry
  rcases h with ⟨h1, h2⟩ | ⟨h1, h2⟩
  · obtain ⟨its, r1, p1, _⟩ := I.list h1
    obtain ⟨its2, r2, p2, _⟩ := I.list h2
    obtain rfl := vals_nil r2
    have e := vals_emp r1
    cases its with
    | nil =>
      refine SeqAt.RcNeAt.lists (e := fun _ => true) p1.isList p2.isList rfl (by omega) (fun j h1 _ => absurd h1 (Nat.not_lt_zero j)) X.prog X.w _ _ ⟨.bl false, H, I, rfl, ?_⟩
      rw [← e] at q
      exact q
    | cons z zs =>
      refine SeqAt.RcNeAt.lists_lengths p1.isList p2.isList (by simp) (by omega) X.prog X.w _ _ ⟨.bl true, H, I, rfl, ?_⟩
      rw [← e] at q
      exact q
  · obtain ⟨its, r1, p1, _⟩ := I.tuple h1
    obtain ⟨its2, r2, p2, _⟩ := I.tuple h2
    obtain rfl := vals_nil r2
    have e := vals_emp r1
    have z : (!((List.range (min its.toArray.size ([] : List Value).toArray.size)).all (fun _ => true) && its.toArray.size == ([] : List Value).toArray.size)) = !xs.isEmpty := by
      rw [← e]
      cases its <;> simp
    refine SeqAt.RcNeAt.tuples (e := fun _ => true) p1 p2 (by omega) (fun j _ h2 => absurd h2 (Nat.not_lt_zero j)) X.prog X.w _ _ ?_
    rw [z]
    exact ⟨.bl _, H, I, rfl, q⟩
/-- a text, many times -/
def rep (x : Str) (n : Nat) : Str := ⟨(List.replicate n x.cps).foldl (· ++ ·) #[]⟩
def rMulS : R2 := fun x y H Q => ∃ (a : Str) (n : Int), x = .str a ∧ y = .int n ∧ 2 ≤ n ∧ n < 2 ^ 30 ∧ 1 ≤ a.length ∧ a.length * n.toNat ≤ sizeLine ∧ (rep a n.toNat).length ≤ sizeLine ∧ Q (.str (rep a n.toNat)) H
theorem op_mulS : OpR X (binaryOp .Mult) rMulS := by
  intro pins s σ H x y v u Q I rx ry h
  obtain ⟨a, n, rfl, rfl, h1, h2, h3, h4, h5, q⟩ := h
  obtain ⟨t, rfl⟩ := rx
  obtain ⟨t2, rfl⟩ := ry
  have z1 : (n == 1 || a.length == 0) = false := by
    rw [Bool.or_eq_false_iff]
    exact ⟨beq_eq_false_iff_ne.mpr (by omega), beq_eq_false_iff_ne.mpr (by omega)⟩
  refine PySem.P.mul_str ?_ (fun _ _ => ?_) (fun _ _ => ?_) ?_
  · rw [decide_eq_false (by omega), decide_eq_false (by omega)]
    rfl
  · have k1 : a.length ≤ sizeLine := Nat.le_trans (Nat.le_mul_of_pos_right _ (by omega)) h4
    have k2 : (2 ^ 63 - 1 : Int) / n ≥ 2 ^ 32 := by
      apply Int.le_ediv_of_mul_le (by omega)
      have : (2 ^ 32 : Int) * n ≤ 2 ^ 32 * 2 ^ 30 := Int.mul_le_mul_of_nonneg_left (by omega) (by decide)
      omega
    have k3 : (sizeLine : Nat) ≤ 2 ^ 31 := by decide
    omega
  · show decide (a.length * n.toNat > sizeLine) = false
    exact decide_eq_false (by omega)
  · rw [if_neg (by omega), if_neg (by rw [z1]; exact Bool.false_ne_true)]
    exact ⟨h5, ⟨.str (rep a n.toNat), H, I.tok _, ⟨_, rfl⟩, q⟩⟩
end
end ZdU

/-! ## ZdV -/
set_option Elab.async false
set_option linter.all false
set_option maxRecDepth 100000
set_option maxHeartbeats 4000000
/-! Rules for operators whose kind is told by the values. -/
namespace Zd
open PySem L2 ZdU StX
section
variable {X : Cx}
def rAddU (K : PySem.W.Frag) : R2 := fun x y H Q => rI0 (fun i j => .int (i + j)) x y H Q ∨ (rAddS0 x y H Q ∨ (rCat x y H Q ∨ rCatA K x y H Q))
theorem o_addU : OpR X (binaryOp .Add) (rAddU X.K) := op_add.or (o_addS.or (op_cat.or op_catA))
def rMulU : R2 := fun x y H Q => rI CMulW (fun i j => .int (i * j)) x y H Q ∨ (rMulS x y H Q ∨ rI CMul (fun i j => .int (i * j)) x y H Q)
theorem o_mulU : OpR X (binaryOp .Mult) rMulU := op_mulW.or (op_mulS.or op_mul)
def rEqU (K : PySem.W.Frag) : R2 := fun x y H Q => rEq x y H Q ∨ (rEqE K x y H Q ∨ rEqD K x y H Q)
theorem o_eqU (hu : X.A.units + 64 < cLine) : OpR X (compareOp .Eq) (rEqU X.K) := op_eq.or ((op_eqE hu).or (op_eqD hu))
def rNeU (K : PySem.W.Frag) : R2 := fun x y H Q => rNe x y H Q ∨ (rNeE K x y H Q ∨ rNeD K x y H Q)
theorem o_neU (hu : X.A.units + 64 < cLine) : OpR X (compareOp .NotEq) (rNeU X.K) := op_ne.or ((op_neE hu).or (op_neD hu))
def rSlU (K : PySem.W.Frag) : V → Option Int → Option Int → Hp → VK → Prop := fun x lo hi H Q => rSlS x lo hi H Q ∨ (rSlL K x lo hi H Q ∨ rSlA K x lo hi H Q)
theorem sl_U : SlR X (rSlU X.K) := sl_str.or (sl_list.or sl_tupA)
def rIntU : List V → Hp → VK → Prop := fun xs H Q => rInt1 xs H Q ∨ rIntS xs H Q
theorem c_intU : CallR X (.type "int") rIntU := c_int.or c_intS
def rSub : R2 := rI0 fun i j => .int (i - j)
theorem o_sub : OpR X (binaryOp .Sub) rSub := op_sub
def rLt : R2 := rI0 fun i j => .bl (decide (i < j))
theorem o_lt : OpR X (compareOp .Lt) rLt := op_lt
def rLe : R2 := rI0 fun i j => .bl (decide (i ≤ j))
theorem o_le : OpR X (compareOp .LtE) rLe := op_le
def rGt : R2 := rI0 fun i j => .bl (decide (j < i))
theorem o_gt : OpR X (compareOp .Gt) rGt := op_gt
def rGe : R2 := rI0 fun i j => .bl (decide (j ≤ i))
theorem o_ge : OpR X (compareOp .GtE) rGe := op_ge
def rDiv : R2 := rI CDivW fun i j => .int (i / j)
theorem o_div : OpR X (binaryOp .FloorDiv) rDiv := op_fdivW
def rMod : R2 := rI (fun _ j => 0 < j) fun i j => .int (i % j)
theorem o_mod : OpR X (binaryOp .Mod) rMod := op_mod
def rPow : R2 := rI CPow fun i j => .int (i ^ j.toNat)
theorem o_pow : OpR X (binaryOp .Pow) rPow := op_pow
def rNeg : V → Hp → VK → Prop := rU fun i => .int (-i)
theorem u_neg : UnR X (unaryOp .USub) rNeg := un_neg
def rBool1 : List V → Hp → VK → Prop := fun xs H Q => (∃ i, xs = [.int i] ∧ Q (.bl (i != 0)) H) ∨ ∃ k, xs = [.bl k] ∧ Q (.bl k) H
theorem c_bool : CallR X (.type "bool") rBool1 := call_bool1
/-- a written dict with text keys -/
def rKdIn (K : PySem.W.Frag) (d : Addr) : R2 := fun x y H Q => ∃ (z : Str) (r : Option Value), x = .str z ∧ y = .ref d ∧ PySem.W.nsIn K d z = some r ∧ Q (.bl r.isSome) H
def rKdNotIn (K : PySem.W.Frag) (d : Addr) : R2 := fun x y H Q => ∃ (z : Str) (r : Option Value), x = .str z ∧ y = .ref d ∧ PySem.W.nsIn K d z = some r ∧ Q (.bl (!r.isSome)) H
def rKdGet (K : PySem.W.Frag) (w : World) (d : Addr) : R2 := fun x y H Q => ∃ (z : Str) (u : Value) (v : V), x = .ref d ∧ y = .str z ∧ PySem.W.nsIn K d z = some (some u) ∧ RelV v u ∧ Q v H
theorem o_kdIn {d : Addr} {es : Array DictEntry} {n : Nat} (D : KDict X.K X.w d es n) : OpR X (compareOp .In) (rKdIn X.K d) := op_in_kd D
theorem o_kdNotIn {d : Addr} {es : Array DictEntry} {n : Nat} (D : KDict X.K X.w d es n) : OpR X (compareOp .NotIn) (rKdNotIn X.K d) := op_notIn_kd D
theorem i_kdGet {d : Addr} {es : Array DictEntry} {n : Nat} (D : KDict X.K X.w d es n) : IxR X (rKdGet X.K X.w d) := fun value slice pins s σ H x y v u Q I rx ry h hs =>
  ix_kdict value slice pins s σ H x y v u Q I rx ry (by
    obtain ⟨z, u0, v0, e1, e2, h1, h2, q⟩ := h
    exact ⟨d, z, v0, e1, e2, ⟨es, n, u0, D.at_, D.lit, h1, h2⟩, q⟩) hs
end
variable {c : Cd}
section
variable {K : PySem.W.Frag} {P : D → Prop} {PN : List D → Prop} {i j : Int} {d1 d2 : D}
theorem RD.inl {r r' : R2} (h : RD K r d1 d2 P) : RD K (fun x y H Q => r x y H Q ∨ r' x y H Q) d1 d2 P := fun v1 v2 G H Q e r1 r2 q => .inl (h v1 v2 G H Q e r1 r2 q)
theorem RD.inr {r r' : R2} (h : RD K r' d1 d2 P) : RD K (fun x y H Q => r x y H Q ∨ r' x y H Q) d1 d2 P := fun v1 v2 G H Q e r1 r2 q => .inr (h v1 v2 G H Q e r1 r2 q)
theorem RN.inl {r r' : R2} (h : RN K r d1 d2 PN) : RN K (fun x y H Q => r x y H Q ∨ r' x y H Q) d1 d2 PN := fun v1 v2 G H Q e r1 r2 q => .inl (h v1 v2 G H Q e r1 r2 q)
theorem RN.inr {r r' : R2} (h : RN K r' d1 d2 PN) : RN K (fun x y H Q => r x y H Q ∨ r' x y H Q) d1 d2 PN := fun v1 v2 G H Q e r1 r2 q => .inr (h v1 v2 G H Q e r1 r2 q)
theorem u_addI (k : P (.int (i + j))) : RD K (rAddU K) (.int i) (.int j) P := RD.inl (r_add k)
theorem u_addS {s t : Str} (h : s.length + t.length ≤ sizeLine) (k : P (.str (s ++ t))) : RD K (rAddU K) (.str s) (.str t) P := RD.inr (RD.inl (r_addS h k))
theorem u_addL {ds es : List D} (h : ds.length + es.length ≤ sizeLine) (k : P (.lst (ds ++ es))) : RD K (rAddU K) (.lst ds) (.lst es) P := RD.inr (RD.inr (RD.inl (r_catD h k)))
theorem u_addLN {ds es : List D} (h : ds.length + es.length ≤ sizeLine) (k : PN (ds ++ es)) : RN K (rAddU K) (.lst ds) (.lst es) PN := RN.inr (RN.inr (RN.inl (r_cat h k)))
theorem u_addT {ds es : List D} (h : ds.length + es.length ≤ sizeLine) (k : P (.tup (ds ++ es))) : RD K (rAddU K) (.tup ds) (.tup es) P := RD.inr (RD.inr (RD.inr (r_catT h k)))
theorem u_mulI (h : CMulW i j) (k : P (.int (i * j))) : RD K rMulU (.int i) (.int j) P := RD.inl (r_mulW h k)
theorem u_mulS {a : Str} (h1 : 2 ≤ i) (h2 : i < 2 ^ 30) (h3 : 1 ≤ a.length) (h4 : a.length * i.toNat ≤ sizeLine) (h5 : (rep a i.toNat).length ≤ sizeLine) (k : P (.str (rep a i.toNat))) : RD K rMulU (.str a) (.int i) P := RD.inr (RD.inl (RD.val k fun v1 v2 G H Q e r1 r2 q => by
  cases r1
  cases r2
  exact ⟨a, i, rfl, rfl, h1, h2, h3, h4, h5, q _ rfl⟩))
theorem u_mulC (h : CMul i j) (k : P (.int (i * j))) : RD K rMulU (.int i) (.int j) P := RD.inr (RD.inr (r_mul h k))
theorem u_eq (h : scalD d1 d2 = true) (k : P (.bl (eqS d1 d2))) : RD K (rEqU K) d1 d2 P := RD.inl (r_eq h k)
theorem u_ne (h : scalD d1 d2 = true) (k : P (.bl (!eqS d1 d2))) : RD K (rNeU K) d1 d2 P := RD.inl (r_ne h k)
theorem u_eqI (k : P (.bl (decide (i = j)))) : RD K (rEqU K) (.int i) (.int j) P := u_eq rfl k
theorem u_neI (k : P (.bl (!decide (i = j)))) : RD K (rNeU K) (.int i) (.int j) P := u_ne rfl k
theorem u_eqS {a b : Str} (k : P (.bl (decide (a = b)))) : RD K (rEqU K) (.str a) (.str b) P := u_eq rfl k
theorem u_neS {a b : Str} (k : P (.bl (!decide (a = b)))) : RD K (rNeU K) (.str a) (.str b) P := u_ne rfl k
theorem u_eqD (n1 : noDic d1 = true) (n2 : noDic d2 = true) (s1 : SeqAt.shaped (toPy d1) = true) (s2 : SeqAt.shaped (toPy d2) = true) (k : P (.bl (PyData.eqv (toPy d1) (toPy d2)))) : RD K (rEqU K) d1 d2 P := RD.inr (RD.inr (r_eqD n1 n2 s1 s2 k))
theorem u_neD (n1 : noDic d1 = true) (n2 : noDic d2 = true) (s1 : SeqAt.shaped (toPy d1) = true) (s2 : SeqAt.shaped (toPy d2) = true) (k : P (.bl (!PyData.eqv (toPy d1) (toPy d2)))) : RD K (rNeU K) d1 d2 P := RD.inr (RD.inr (r_neD n1 n2 s1 s2 k))
theorem rps_emp {G : Hp} {ds : List D} {vs : List V} (r : Rps K G ds vs) : vs.isEmpty = ds.isEmpty := by
  cases ds with
  | nil => cases r; rfl
  | cons d ds => obtain ⟨v, w, rfl, _⟩ := r; rfl
theorem u_eqT0 {ds : List D} (k : P (.bl ds.isEmpty)) : RD K (rEqU K) (.tup ds) (.tup []) P := RD.inr (RD.inl (RD.val k fun v1 v2 G H Q e r1 r2 q => by
  obtain ⟨a, vs, rfl, h1, h2⟩ := r1
  obtain ⟨b, ws, rfl, h3, h4⟩ := r2
  cases h4
  exact ⟨a, b, vs, rfl, rfl, .inr ⟨sqt_ex e h1, sqt_ex e h3⟩, by rw [rps_emp h2]; exact q _ rfl⟩))
theorem u_neT0 {ds : List D} (k : P (.bl (!ds.isEmpty))) : RD K (rNeU K) (.tup ds) (.tup []) P := RD.inr (RD.inl (RD.val k fun v1 v2 G H Q e r1 r2 q => by
  obtain ⟨a, vs, rfl, h1, h2⟩ := r1
  obtain ⟨b, ws, rfl, h3, h4⟩ := r2
  cases h4
  exact ⟨a, b, vs, rfl, rfl, .inr ⟨sqt_ex e h1, sqt_ex e h3⟩, by rw [rps_emp h2]; exact q _ rfl⟩))
theorem u_neL0 {ds : List D} (k : P (.bl (!ds.isEmpty))) : RD K (rNeU K) (.lst ds) (.lst []) P := RD.inr (RD.inl (RD.val k fun v1 v2 G H Q e r1 r2 q => by
  obtain ⟨a, vs, rfl, h1, h2⟩ := r1
  obtain ⟨b, ws, rfl, h3, h4⟩ := r2
  cases h4
  exact ⟨a, b, vs, rfl, rfl, .inl ⟨SqL.of (e _ _ h1), SqL.of (e _ _ h3)⟩, by rw [rps_emp h2]; exact q _ rfl⟩))
theorem u_eqL0 {ds : List D} (k : P (.bl ds.isEmpty)) : RD K (rEqU K) (.lst ds) (.lst []) P := RD.inr (RD.inl (RD.val k fun v1 v2 G H Q e r1 r2 q => by
  obtain ⟨a, vs, rfl, h1, h2⟩ := r1
  obtain ⟨b, ws, rfl, h3, h4⟩ := r2
  cases h4
  exact ⟨a, b, vs, rfl, rfl, .inl ⟨SqL.of (e _ _ h1), SqL.of (e _ _ h3)⟩, by rw [rps_emp h2]; exact q _ rfl⟩))
theorem u_sub (k : P (.int (i - j))) : RD K rSub (.int i) (.int j) P := r_sub k
theorem u_lt (k : P (.bl (decide (i < j)))) : RD K rLt (.int i) (.int j) P := r_lt k
theorem u_le (k : P (.bl (decide (i ≤ j)))) : RD K rLe (.int i) (.int j) P := r_le k
theorem u_gt (k : P (.bl (decide (j < i)))) : RD K rGt (.int i) (.int j) P := r_gt k
theorem u_ge (k : P (.bl (decide (j ≤ i)))) : RD K rGe (.int i) (.int j) P := r_ge k
theorem u_div (h : CDivW i j) (k : P (.int (i / j))) : RD K rDiv (.int i) (.int j) P := r_I h rfl k
theorem u_mod (h : 0 < j) (k : P (.int (i % j))) : RD K rMod (.int i) (.int j) P := r_I h rfl k
theorem u_pow (h : CPow i j) (k : P (.int (i ^ j.toNat))) : RD K rPow (.int i) (.int j) P := r_I h rfl k
theorem u_ixL {ds : List D} {d : D} (h : atI ds i = some d) (k : P d) : RD K (rIx K) (.lst ds) (.int i) P := RD.inl (r_ixL h k)
theorem u_ixT {ds : List D} {d : D} (h : atI ds i = some d) (k : P d) : RD K (rIx K) (.tup ds) (.int i) P := RD.inr (RD.inl (r_ixT h k))
theorem u_ixS {s : Str} {n : Nat} (hl : s.length ≤ sizeLine) (h : atI s.cps.toList i = some n) (k : P (.str ⟨#[n]⟩)) : RD K (rIx K) (.str s) (.int i) P := RD.inr (RD.inr (r_ixS hl h k))
/-- texts in a written row of texts -/
theorem inV_strs {x : Str} : ∀ {ys : List Str}, inV (.str x) (ys.map V.str) = decide (x ∈ ys)
  | [] => rfl
  | y :: ys => by
    show (eqV (.str y) (.str x) || inV (.str x) (ys.map V.str)) = _
    rw [inV_strs]
    by_cases e : x = y
    · subst e
      have z : eqV (.str x) (.str x) = true := by
        show (x == x) = true
        exact beq_self_eq_true x
      rw [z, decide_eq_true (List.mem_cons_self ..)]
      rfl
    · have z : eqV (.str y) (.str x) = false := by
        show (y == x) = false
        exact beq_eq_false_iff_ne.mpr fun q => e q.symm
      rw [z, Bool.false_or]
      exact dec_iff ⟨fun h => List.mem_cons_of_mem _ h, fun h => by
        rcases List.mem_cons.mp h with q | q
        · exact absurd q e
        · exact q⟩
theorem u_inT {x : Str} {ys : List Str} (k : P (.bl (decide (x ∈ ys)))) : RD K (rIn K false) (.str x) (.tup (ys.map D.str)) P := RD.val k fun v1 v2 G H Q e r1 r2 q => by
  obtain ⟨a, vs, rfl, h1, h2⟩ := r2
  cases r1
  have ev := Rps.strs h2
  subst ev
  refine ⟨a, _, rfl, .inr (sqt_ex e h1), rfl, ?_, ?_⟩
  · rw [List.all_map]
    exact List.all_eq_true.mpr fun _ _ => rfl
  · show Q (.bl (inV (.str x) (ys.map V.str))) H
    rw [inV_strs]
    exact q _ rfl
end
/-! ### sums of kinds: calls, slices -/
section
variable {K : PySem.W.Frag} {P : D → Prop} {PN : List D → Prop} {i j : Int} {lo hi : Option Int}
theorem CD.inl {r r' : List V → Hp → VK → Prop} {ds : List D} (h : CD K r ds P) : CD K (fun xs H Q => r xs H Q ∨ r' xs H Q) ds P := fun vs G H Q e r1 q => .inl (h vs G H Q e r1 q)
theorem CD.inr {r r' : List V → Hp → VK → Prop} {ds : List D} (h : CD K r' ds P) : CD K (fun xs H Q => r xs H Q ∨ r' xs H Q) ds P := fun vs G H Q e r1 q => .inr (h vs G H Q e r1 q)
theorem u_int (k : P (.int i)) : CD K rIntU [.int i] P := CD.inl (k_int k)
theorem u_intB {b : Bool} (k : P (.int (if b then 1 else 0))) : CD K rIntU [.bl b] P := CD.inl (k_intB k)
theorem u_intS {a : Str} {n : Int} (h : PySem.intText? a = some n) (hl : a.length ≤ 640) (k : P (.int n)) : CD K rIntU [.str a] P := CD.inr (k_intS h hl k)
theorem u_bool {b : Bool} (k : P (.bl b)) : CD K rBool1 [.bl b] P := CD.val k fun vs G H Q e r0 q => by
  obtain ⟨v, rfl, r⟩ := rps1 r0
  cases r
  exact .inr ⟨b, rfl, q _ rfl⟩
theorem SD.inr {r r' : V → Option Int → Option Int → Hp → VK → Prop} {d : D} (h : SD K r' d lo hi P) : SD K (fun x lo hi H Q => r x lo hi H Q ∨ r' x lo hi H Q) d lo hi P := fun v G H Q e r1 q => .inr (h v G H Q e r1 q)
theorem SN.inl {r r' : V → Option Int → Option Int → Hp → VK → Prop} {d : D} (h : SN K r d lo hi PN) : SN K (fun x lo hi H Q => r x lo hi H Q ∨ r' x lo hi H Q) d lo hi PN := fun v G H Q e r1 q => .inl (h v G H Q e r1 q)
theorem SN.inr {r r' : V → Option Int → Option Int → Hp → VK → Prop} {d : D} (h : SN K r' d lo hi PN) : SN K (fun x lo hi H Q => r x lo hi H Q ∨ r' x lo hi H Q) d lo hi PN := fun v G H Q e r1 q => .inr (h v G H Q e r1 q)
theorem u_slS {x : Str} (hl : x.length ≤ sizeLine) (k : P (.str (cutS x lo hi))) : SD K (rSlU K) (.str x) lo hi P := SD.inl (d_slS hl k)
theorem u_slL {ds : List D} (k : P (.lst (cutL ds lo hi))) : SD K (rSlU K) (.lst ds) lo hi P := SD.inr (SD.inl (d_slL k))
theorem u_slLN {ds : List D} (k : PN (cutL ds lo hi)) : SN K (rSlU K) (.lst ds) lo hi PN := SN.inr (SN.inl (d_slLN k))
theorem u_slT {ds : List D} (k : P (.tup (cutL ds lo hi))) : SD K (rSlU K) (.tup ds) lo hi P := SD.inr (SD.inr (d_slT k))
end
section
variable {ρ : Rho} {P : D → Rho → Prop} {PN : List D → Rho → Prop} {PA : List D → Rho → Prop} {i : Nat} {te ta tb ti : TE} {tl th : TO} {ts : TA}
/-- xs[lo:hi], xs one's own, of the sum of kinds -/
theorem w_slOU (h0 : ∃ p ds, ρ[i]? = some (some (.own p ds))) (h : EvO c tl ρ fun lo ρ1 => EvO c th ρ1 fun hi ρ2 => ∃ p ds, ρ2[i]? = some (some (.own p ds)) ∧ PN (cutL ds lo hi) ρ2) : EvN c (tSl (rSlU c.K) (tVar i) tl th) ρ PN := fun σ G H Q s q => by
  obtain ⟨p0, ds0, hi⟩ := h0
  refine ⟨.ref p0, (s.own hi).1, h σ G H _ s fun lo ρ1 G1 H1 h1 s1 e1 => h1 σ G1 H1 _ s1 fun up ρ2 G2 H2 h2 s2 e2 => ?_⟩
  obtain ⟨p, ds, hj, hp⟩ := h2
  obtain ⟨k1, k2, k3, vs, k4, k5⟩ := s2.own hj
  rw [(s.own hi).1] at k1
  have ep : p0 = p := V.ref.inj (Option.some.inj (Option.some.inj k1))
  subst ep
  refine .inr (.inl ⟨p0, vs, rfl, SqL.of k4, fun a ha => ?_⟩)
  obtain ⟨f1, f2, f3⟩ := s2.fresh ha
  exact q a _ _ ρ2 G2 _ hp (s2.nx (Nx.own s2.ex ha)) ((e1.trans e2).trans (.nx (Nx.own s2.ex ha))) upd_same f1 (cut_rp k5 lo up) ⟨f2, (e1.trans e2).new (.of ha)⟩ f3
theorem w_slOUD (h0 : ∃ p ds, ρ[i]? = some (some (.own p ds))) (h : EvO c tl ρ fun lo ρ1 => EvO c th ρ1 fun hi ρ2 => ∃ p ds, ρ2[i]? = some (some (.own p ds)) ∧ P (.lst (cutL ds lo hi)) ρ2) : EvD c (tSl (rSlU c.K) (tVar i) tl th) ρ P := EvD.of_N (PN := fun ds ρ' => P (.lst ds) ρ') (w_slOU h0 h) fun _ _ z => z
/-- xs[k], xs one's own, of the sum of kinds -/
theorem w_ixOU (h0 : ∃ p ds, ρ[i]? = some (some (.own p ds))) (h : EvD c tb ρ fun d2 ρ2 => ∃ p ds k d, ρ2[i]? = some (some (.own p ds)) ∧ d2 = .int k ∧ atI ds k = some d ∧ P d ρ2) : EvD c (tOp (rIx c.K) (tVar i) tb) ρ P := fun σ G H Q s q => by
  obtain ⟨p0, ds0, hi⟩ := h0
  refine ⟨.ref p0, (s.own hi).1, h σ G H _ s fun v2 d2 ρ2 G2 H2 h2 s2 e2 r2 => ?_⟩
  obtain ⟨p, ds, k, d, hj, rfl, hd, hp⟩ := h2
  obtain ⟨k1, k2, k3, vs, k4, k5⟩ := s2.own hj
  rw [(s.own hi).1] at k1
  have ep : p0 = p := V.ref.inj (Option.some.inj (Option.some.inj k1))
  subst ep
  cases r2
  obtain ⟨v, e1, e3⟩ := atI_rp k5 hd
  exact .inl ⟨p0, vs, k, v, rfl, rfl, SqL.of k4, e1, q v d ρ2 G2 H2 hp s2 e2 e3⟩
theorem w_neg (h : EvD c ta ρ fun d ρ1 => ∃ i, d = .int i ∧ P (.int (-i)) ρ1) : EvD c (tUn rNeg ta) ρ P := fun σ G H Q s q =>
  h σ G H _ s fun v d ρ1 G1 H1 h1 s1 e1 r1 => by
    obtain ⟨i, rfl, hp⟩ := h1
    cases r1
    exact ⟨i, rfl, q _ _ ρ1 G1 H1 hp s1 e1 rfl⟩
/-- *xs, .. -/
theorem w_star (h : EvD c te ρ fun d ρ1 => ∃ ds, d = .lst ds ∧ EvA c ts ρ1 fun es ρ2 => PA (ds ++ es) ρ2) : EvA c (tStar c.K te ts) ρ PA := fun σ G H Q s q =>
  h σ G H _ s fun v d ρ1 G1 H1 h1 s1 e1 r1 => by
    obtain ⟨ds, rfl, h2⟩ := h1
    obtain ⟨a, vs, rfl, r2, r3⟩ := r1
    exact ⟨a, vs, rfl, .inr (SqL.of (s1.ex _ _ r2)), h2 σ G1 H1 _ s1 fun ws es ρ2 G2 H2 h3 s2 e2 r4 => q _ _ ρ2 G2 H2 h3 s2 (e1.trans e2) ((Rps.ex e2.ex r3).app r4)⟩
theorem w_revT (h : EvD c te ρ fun d ρ1 => ∃ ds, d = .tup ds ∧ P (.tup ds.reverse) ρ1) : EvD c (tRevT c.K te) ρ P := fun σ G H Q s q =>
  h σ G H _ s fun v d ρ1 G1 H1 h1 s1 e1 r1 => by
    obtain ⟨ds, rfl, hp⟩ := h1
    obtain ⟨a, vs, rfl, r2, r3⟩ := r1
    exact ⟨a, vs, rfl, sqt_ex s1.ex r2, fun p np => q _ _ ρ1 _ _ hp (s1.nx (Nx.new s1.ex np)) (e1.trans (.nx (Nx.new s1.ex np))) ⟨p, _, rfl, SqT.of upd_same, Rps.ex (Nx.new s1.ex np).gg r3.rev⟩⟩
/-- a thing of the written part -/
theorem w_k {v : V} {d : D} (hv : ∀ G, Rp c.K G d v) (k : P d ρ) : EvD c (tC v) ρ P := fun σ G H Q s q => q v d ρ G H k s .refl (hv G)
/-- a written dict -/
def KdOk (K : PySem.W.Frag) (a : Addr) (tab : List (Str × D)) : Prop := ∀ z : Str, (tab.lookup z = none → PySem.W.nsIn K a z = some none) ∧ ∀ d, tab.lookup z = some d → ∃ u v, PySem.W.nsIn K a z = some (some u) ∧ RelV v u ∧ ∀ G, Rp K G d v
theorem KdOk.is {K : PySem.W.Frag} {a : Addr} {tab : List (Str × D)} (h : KdOk K a tab) (z : Str) : ∃ r, PySem.W.nsIn K a z = some r ∧ r.isSome = (tab.lookup z).isSome := by
  cases e : tab.lookup z with
  | none => exact ⟨none, (h z).1 e, rfl⟩
  | some d =>
    obtain ⟨u, v, e1, _⟩ := (h z).2 d e
    exact ⟨some u, e1, rfl⟩
theorem w_kdIn {a : Addr} {tab : List (Str × D)} (hk : KdOk c.K a tab) (h : EvD c te ρ fun d ρ1 => ∃ z, d = .str z ∧ P (.bl (tab.lookup z).isSome) ρ1) : EvD c (tOp (rKdIn c.K a) te (tC (.ref a))) ρ P := fun σ G H Q s q =>
  h σ G H _ s fun v d ρ1 G1 H1 h1 s1 e1 r1 => by
    obtain ⟨z, rfl, hp⟩ := h1
    cases r1
    obtain ⟨r, f1, f2⟩ := hk.is z
    exact ⟨z, r, rfl, rfl, f1, by rw [f2]; exact q _ _ ρ1 G1 H1 hp s1 e1 rfl⟩
theorem w_kdNotIn {a : Addr} {tab : List (Str × D)} (hk : KdOk c.K a tab) (h : EvD c te ρ fun d ρ1 => ∃ z, d = .str z ∧ P (.bl (!(tab.lookup z).isSome)) ρ1) : EvD c (tOp (rKdNotIn c.K a) te (tC (.ref a))) ρ P := fun σ G H Q s q =>
  h σ G H _ s fun v d ρ1 G1 H1 h1 s1 e1 r1 => by
    obtain ⟨z, rfl, hp⟩ := h1
    cases r1
    obtain ⟨r, f1, f2⟩ := hk.is z
    exact ⟨z, r, rfl, rfl, f1, by rw [f2]; exact q _ _ ρ1 G1 H1 hp s1 e1 rfl⟩
theorem w_kdGet {w : World} {a : Addr} {tab : List (Str × D)} (hk : KdOk c.K a tab) (h : EvD c te ρ fun d ρ1 => ∃ z d', d = .str z ∧ tab.lookup z = some d' ∧ P d' ρ1) : EvD c (tOp (rKdGet c.K w a) (tC (.ref a)) te) ρ P := fun σ G H Q s q =>
  h σ G H _ s fun v d ρ1 G1 H1 h1 s1 e1 r1 => by
    obtain ⟨z, d', rfl, hl, hp⟩ := h1
    cases r1
    obtain ⟨u, v, f1, f2, f3⟩ := (hk z).2 d' hl
    exact ⟨z, u, v, rfl, rfl, f1, f2, q v d' ρ1 G1 H1 hp s1 e1 (f3 G1)⟩
end
end Zd

/-! ## ZdS -/
set_option Elab.async false
set_option linter.all false
set_option maxRecDepth 100000
set_option maxHeartbeats 4000000
/-! Statements in a row; defs' promises and lengths. -/
namespace Zd
open PySem L2
variable {c : Cd}
section
variable {ρ : Rho} {e : En} {te ta tb ti : TE} {tt : TT} {t u v : TS} {g : TG} {i j : Nat}
theorem w_varR {P : D → Rho → Prop} (h : ∃ d, ρ[i]? = some (some (.dat d)) ∧ P d ρ) : EvD c (tVar i) ρ P := by
  obtain ⟨d, h1, h2⟩ := h
  exact w_var h1 h2
theorem w_callE {P : D → Rho → Prop} {ta : TA} {E : XK} {pre : List D → Prop} {post : List D → D → Prop} (h : EvA c ta ρ fun ds ρ1 => pre ds ∧ ∀ d, post ds d → P d ρ1) : EvD c (tCall (SpP c.K c.T pre post noExc) [] E ta) ρ P :=
  w_call fun σ G H Q s q => h σ G H Q s fun vs ds ρ1 G1 H1 p s1 e1 => q vs ds ρ1 G1 H1 ⟨p.1, fun _ _ z => z, p.2⟩ s1 e1
theorem atI_zero {α : Type} {x : α} {r : List α} : atI (x :: r) 0 = some x := atI_nat (j := 0) rfl
theorem k_lenT {K : PySem.W.Frag} {P : D → Prop} {ds : List D} (k : P (.int ds.length)) : CD K (rLenV K) [.tup ds] P := k_len rfl (fun _ z => nomatch z) k
theorem k_lenL {K : PySem.W.Frag} {P : D → Prop} {ds : List D} (k : P (.int ds.length)) : CD K (rLenV K) [.lst ds] P := k_len rfl (fun _ z => nomatch z) k
theorem k_lenS {K : PySem.W.Frag} {P : D → Prop} {x : Str} (h : x.length ≤ sizeLine) (k : P (.int x.length)) : CD K (rLenV K) [.str x] P := k_len rfl (fun s z => by cases z; exact h) k
theorem w_ixOR {P : D → Rho → Prop} (h : ∃ p ds, ρ[i]? = some (some (.own p ds)) ∧ EvD c tb ρ fun d2 ρ2 => ∃ p ds k d, ρ2[i]? = some (some (.own p ds)) ∧ d2 = .int k ∧ atI ds k = some d ∧ P d ρ2) : EvD c (tOp (rIx c.K) (tVar i) tb) ρ P := by
  obtain ⟨p, ds, h1, h2⟩ := h
  exact w_ixOU ⟨p, ds, h1⟩ h2
theorem w_lenOR {P : D → Rho → Prop} (h : ∃ p ds, ρ[i]? = some (some (.own p ds)) ∧ P (.int ds.length) ρ) : EvD c (tCB (rLenV c.K) (tCons (tVar i) tNil)) ρ P := by
  obtain ⟨p, ds, h1, h2⟩ := h
  exact w_lenO h1 h2
theorem w_slOR {P : D → Rho → Prop} {tl th : TO} (h : ∃ p ds, ρ[i]? = some (some (.own p ds)) ∧ EvO c tl ρ fun lo ρ1 => EvO c th ρ1 fun hi ρ2 => ∃ p ds, ρ2[i]? = some (some (.own p ds)) ∧ P (.lst (cutL ds lo hi)) ρ2) : EvD c (tSl (rSlU c.K) (tVar i) tl th) ρ P := by
  obtain ⟨p, ds, h1, h2⟩ := h
  exact w_slOUD ⟨p, ds, h1⟩ h2
theorem w_callJR {P : D → Rho → Prop} {tr : TA} {E : XK} {pre : List D → List D → Prop} {post : List D → List D → D → List D → Prop} (h : ∃ p js, ρ[i]? = some (some (.own p js)) ∧ EvA c tr ρ fun ds ρ1 => ∃ js', ρ1[i]? = some (some (.own p js')) ∧ pre js' ds ∧ ∀ d es, post js' ds d es → P d (ρ1.set i (some (.own p es)))) :
    EvD c (tCall (SpJ c.K c.T pre post) [] E (tCons (tVar i) tr)) ρ P := by
  obtain ⟨p, js, h1, h2⟩ := h
  refine w_callJ (fun σ G H Q s q => h2 σ G H Q s fun vs ds ρ1 G1 H1 a s1 e1 r1 => q vs ds ρ1 G1 H1 ⟨p, js, h1, a⟩ s1 e1 r1) ⟨p, js, h1⟩
theorem q_set (h : EvD c te ρ fun d ρ1 => i < ρ1.length ∧ WpS c u e (ρ1.set i (some (.dat d)))) : WpS c (tSeq (tAsg te (gName i)) u) e ρ := s_seq (s_set h)
theorem q_asg (h : EvD c te ρ fun d ρ1 => WpG c g d ρ1 fun ρ2 => WpS c u e ρ2) : WpS c (tSeq (tAsg te g) u) e ρ := s_seq (s_asg h)
theorem q_setN (h : EvN c te ρ fun ds ρ1 => i < ρ1.length ∧ ∀ p, WpS c u e (ρ1.set i (some (.own p ds)))) : WpS c (tSeq (tAsg te (gName i)) u) e ρ := s_seq (s_setN h)
theorem q_par {ts : TA} (h : EvA c ts ρ fun ds ρ1 => ∃ d f, ds = [d, f] ∧ i < ρ1.length ∧ j < ρ1.length ∧ WpS c u e ((ρ1.set i (some (.dat d))).set j (some (.dat f)))) : WpS c (tSeq (tPar i j ts) u) e ρ := s_seq (s_par h)
theorem q_parN (h : EvD c ta ρ fun d ρ1 => EvN c tb ρ1 fun ds ρ2 => i < ρ2.length ∧ j < ρ2.length ∧ (∀ p es, ρ2[i]? ≠ some (some (.own p es))) ∧ ∀ p, WpS c u e ((ρ2.set i (some (.dat d))).set j (some (.own p ds)))) : WpS c (tSeq (tPar i j (tCons ta (tCons tb tNil))) u) e ρ := s_seq (s_parN h)
theorem q_drop (h : EvD c te ρ fun _ ρ1 => WpS c u e ρ1) : WpS c (tSeq (tDrop te) u) e ρ := s_seq (s_drop h)
theorem q_app (h0 : ∃ p ds, ρ[i]? = some (some (.own p ds))) (h : EvD c te ρ fun d ρ1 => ∃ p ds, ρ1[i]? = some (some (.own p ds)) ∧ ds.length < sizeLine ∧ WpS c u e (ρ1.set i (some (.own p (ds ++ [d]))))) :
    WpS c (tSeq (tDrop (tBM c.K "list" rAppend (tVar i) (tCons te tNil))) u) e ρ := s_seq (s_app h0 h)
theorem q_ext (h0 : ∃ p ds, ρ[i]? = some (some (.own p ds))) (h : EvD c te ρ fun d ρ1 => ∃ p ds es, d = .lst es ∧ ρ1[i]? = some (some (.own p ds)) ∧ ds.length + es.length ≤ sizeLine ∧ WpS c u e (ρ1.set i (some (.own p (ds ++ es))))) :
    WpS c (tSeq (tDrop (tBM c.K "list" rExtend (tVar i) (tCons te tNil))) u) e ρ := s_seq (s_ext h0 h)
theorem q_setO (h : EvD c te ρ fun d ρ1 => (∃ p ds, ρ1[i]? = some (some (.own p ds))) ∧ EvD c ti ρ1 fun d2 ρ2 => ∃ p ds k j, ρ2[i]? = some (some (.own p ds)) ∧ d2 = .int k ∧ ixN ds.length k = some j ∧ WpS c u e (ρ2.set i (some (.own p (ds.set j d))))) :
    WpS c (tSeq (tAsg te (gSub (tVar i) ti rSetL)) u) e ρ := s_seq (s_setO h)
/-- xs.append(e), what holds of each item kept -/
theorem q_appP {p : D → Prop} {n : Nat} {q : Addr} {L : List D} (h0 : ρ[i]? = some (some (.own q L))) (hL : (∀ x, x ∈ L → p x) ∧ L.length ≤ n) (hz : n < sizeLine)
    (h : EvD c te ρ fun d ρ1 => ρ1 = ρ ∧ p d ∧ ∀ L', (∀ x, x ∈ L' → p x) ∧ L'.length ≤ n + 1 → WpS c u e (ρ.set i (some (.own q L')))) : WpS c (tSeq (tDrop (tBM c.K "list" rAppend (tVar i) (tCons te tNil))) u) e ρ :=
  q_app ⟨q, L, h0⟩ (h.imp fun d ρ1 ⟨e1, e2, e3⟩ => by
    subst e1
    refine ⟨q, L, h0, by omega, e3 _ ⟨fun x hx => ?_, by rw [List.length_append]; have := hL.2; show _ + 1 ≤ _; omega⟩⟩
    rcases List.mem_append.mp hx with hx | hx
    · exact hL.1 x hx
    · rw [List.mem_singleton.mp hx]
      exact e2)
/-- xs.extend(e), what holds of each item kept -/
theorem q_extP {p : D → Prop} {n k : Nat} {q : Addr} {L : List D} (h0 : ρ[i]? = some (some (.own q L))) (hL : (∀ x, x ∈ L → p x) ∧ L.length ≤ n) (hz : n + k < sizeLine)
    (h : EvD c te ρ fun d ρ1 => ρ1 = ρ ∧ ∃ es, d = .lst es ∧ es.length ≤ k ∧ (∀ x, x ∈ es → p x) ∧ ∀ L', (∀ x, x ∈ L' → p x) ∧ L'.length ≤ n + k → WpS c u e (ρ.set i (some (.own q L')))) : WpS c (tSeq (tDrop (tBM c.K "list" rExtend (tVar i) (tCons te tNil))) u) e ρ :=
  q_ext ⟨q, L, h0⟩ (h.imp fun d ρ1 ⟨e1, es, e2, e3, e4, e5⟩ => by
    subst e1
    have := hL.2
    refine ⟨q, L, es, e2, h0, by omega, e5 _ ⟨fun x hx => ?_, by rw [List.length_append]; omega⟩⟩
    rcases List.mem_append.mp hx with hx | hx
    · exact hL.1 x hx
    · exact e4 x hx)
/-- if, nothing else; what follows -/
theorem q_when (h : EvT c tt ρ fun b ρ1 => (b = true → WpS c t { e with nx := fun ρ2 => WpS c v e ρ2 } ρ1) ∧ (b = false → WpS c v e ρ1)) : WpS c (tSeq (tIfS tt t tNext) v) e ρ :=
  s_seq (s_if fun σ G H Q s q => h σ G H Q s fun b ρ1 G1 H1 p s1 e1 => q b ρ1 G1 H1 ⟨p.1, fun z => s_next (p.2 z)⟩ s1 e1)
theorem q_if (h : EvT c tt ρ fun b ρ1 => (b = true → WpS c t { e with nx := fun ρ2 => WpS c v e ρ2 } ρ1) ∧ (b = false → WpS c u { e with nx := fun ρ2 => WpS c v e ρ2 } ρ1)) : WpS c (tSeq (tIfS tt t u) v) e ρ := s_seq (s_if h)
theorem q_for {ti : TI} (h : EvI c ti ρ fun ds ρ1 => ∃ In : Nat → Rho → Prop, In 0 ρ1 ∧ (∀ i d ρ2, ds[i]? = some d → In i ρ2 → WpG c g d ρ2 fun ρ3 => WpS c t { nx := In (i + 1), rt := e.rt, bk := fun ρ4 => WpS c u e ρ4, ct := In (i + 1) } ρ3) ∧ ∀ ρ2, In ds.length ρ2 → WpS c u e ρ2) :
    WpS c (tSeq (tFor ti g t) u) e ρ := s_seq (s_for h)
/-- a bool that is known -/
theorem known {b : Bool} {A B : Prop} (k : Bool) (h : b = k) (a : k = true → A) (f : k = false → B) : (b = true → A) ∧ (b = false → B) := by
  subst h
  exact ⟨a, f⟩
theorem orT {b : Bool} {A B : Prop} (h : b = true) (a : B) : (b = false → A) ∧ (b = true → B) := ⟨fun z => absurd (h.symm.trans z) (by decide), fun _ => a⟩
theorem orF {b : Bool} {A B : Prop} (h : b = false) (a : A) : (b = false → A) ∧ (b = true → B) := ⟨fun _ => a, fun z => absurd (h.symm.trans z) (by decide)⟩
theorem knownT {b : Bool} {A B : Prop} (h : b = true) (a : A) : (b = true → A) ∧ (b = false → B) := ⟨fun _ => a, fun z => absurd (h.symm.trans z) (by decide)⟩
theorem knownF {b : Bool} {A B : Prop} (h : b = false) (a : B) : (b = true → A) ∧ (b = false → B) := ⟨fun z => absurd (h.symm.trans z) (by decide), fun _ => a⟩
end
theorem fm_filter (f : D → Bool) : ∀ ds : List D, ds.filterMap (fun d => if f d = true then some d else none) = ds.filter f
  | [] => rfl
  | d :: r => by
    rw [List.filterMap_cons, List.filter_cons]
    by_cases z : f d = true
    · rw [if_pos z, if_pos z]
      exact congrArg _ (fm_filter f r)
    · rw [if_neg z, if_neg z]
      exact fm_filter f r
section
variable {ρ : Rho} {wi : TI} {te : TE} {tt : TT} {i : Nat} {P : D → Rho → Prop} {PN : List D → Rho → Prop}
/-- [e for x in xs] -/
theorem w_mapN (f : D → D) (h : EvI c wi ρ fun ds ρ1 => ds.length ≤ sizeLine ∧ ρ1.set i none = ρ1 ∧ i < ρ1.length ∧ (∀ d, d ∈ ds → EvD c te (ρ1.set i (some (.dat d))) fun d' ρ5 => ρ5 = ρ1.set i (some (.dat d)) ∧ d' = f d) ∧ PN (ds.map f) ρ1) : EvN c (tLc wi (gName i) tYes te [i]) ρ PN :=
  w_lcP (fun d => some (f d)) fun σ G H R s q => h σ G H R s fun J ds ρ1 G1 H1 ⟨h1, h2, h3, h4, h5⟩ s1 e1 w => q J ds ρ1 G1 H1 ⟨h1, h2, fun d hd => v_name (List.mem_cons_self ..) h3 ⟨by
    show (ρ1.set i _).set i none = ρ1
    rw [List.set_set]
    exact h2, t_yes ⟨rfl, fun _ => (h4 d hd).imp fun d' ρ5 ⟨a, b⟩ => ⟨a, by rw [b]⟩, fun z => by cases z⟩⟩, by
    rw [show ds.filterMap (fun d => some (f d)) = ds.map f from congrFun (List.filterMap_eq_map (f := f)) ds]
    exact h5⟩ s1 e1 w
theorem w_map (f : D → D) (h : EvI c wi ρ fun ds ρ1 => ds.length ≤ sizeLine ∧ ρ1.set i none = ρ1 ∧ i < ρ1.length ∧ (∀ d, d ∈ ds → EvD c te (ρ1.set i (some (.dat d))) fun d' ρ5 => ρ5 = ρ1.set i (some (.dat d)) ∧ d' = f d) ∧ P (.lst (ds.map f)) ρ1) : EvD c (tLc wi (gName i) tYes te [i]) ρ P :=
  EvD.of_N (PN := fun ds ρ' => P (.lst ds) ρ') (w_mapN f h) fun _ _ h => h
theorem upto_mem {lo : Int} {n : Nat} {d : D} (h : d ∈ upto lo n) : ∃ k : Nat, k < n ∧ d = .int (lo + k) := by
  unfold upto at h
  obtain ⟨k, h1, h2⟩ := List.mem_map.mp h
  exact ⟨k, List.mem_range.mp h1, h2.symm⟩
/-- [e for k in range(..)] -/
theorem w_mapR (f : Nat → D) (h : EvI c wi ρ fun ds ρ1 => ∃ (lo : Int) (n : Nat), ds = upto lo n ∧ n ≤ sizeLine ∧ ρ1.set i none = ρ1 ∧ i < ρ1.length ∧ (∀ k : Nat, k < n → EvD c te (ρ1.set i (some (.dat (.int (lo + k))))) fun d' ρ5 => ρ5 = ρ1.set i (some (.dat (.int (lo + k)))) ∧ d' = f k) ∧ P (.lst ((List.range n).map f)) ρ1) : EvD c (tLc wi (gName i) tYes te [i]) ρ P :=
  fun σ G H Q s q => by
    refine w_lc (P := P) ?_ σ G H Q s q
    intro σ G H R s q
    refine h σ G H R s fun J ds ρ1 G1 H1 ⟨lo, n, h1, h2, h3, h4, h5, h6⟩ s1 e1 w => q J ds ρ1 G1 H1 ?_ s1 e1 w
    subst h1
    refine ⟨by rw [upto_len]; exact h2, fun k acc ρ2 => ρ2 = ρ1 ∧ acc = (List.range k).map f, ⟨rfl, rfl⟩, fun k d acc ρ2 hd ⟨a1, a2⟩ hk => ?_, fun acc ρ2 ⟨a1, a2⟩ _ => ?_⟩
    · subst a1 a2
      obtain ⟨hk, rfl⟩ := upto_get hd
      have e : wipeR ρ2 [i] = ρ2 := h3
      rw [e]
      refine v_name (List.mem_cons_self ..) h4 (t_yes ⟨fun _ => (h5 k hk).imp fun d' ρ5 ⟨b1, b2⟩ => ?_, fun z => by cases z⟩)
      subst b1 b2
      refine ⟨?_, by rw [List.range_succ, List.map_append]; rfl⟩
      show (ρ2.set i _).set i none = ρ2
      rw [List.set_set]
      exact h3
    · subst a1 a2
      rw [upto_len]
      exact h6
/-- [e for x in xs], what is walked given as an image -/
theorem w_mapG {α : Type} (g' : α → D) (f : α → D) (h : EvI c wi ρ fun ds ρ1 => ∃ xs : List α, ds = xs.map g' ∧ xs.length ≤ sizeLine ∧ ρ1.set i none = ρ1 ∧ i < ρ1.length ∧ (∀ a, a ∈ xs → EvD c te (ρ1.set i (some (.dat (g' a)))) fun d' ρ5 => ρ5 = ρ1.set i (some (.dat (g' a))) ∧ d' = f a) ∧ P (.lst (xs.map f)) ρ1) : EvD c (tLc wi (gName i) tYes te [i]) ρ P :=
  fun σ G H Q s q => by
    refine w_lc (P := P) ?_ σ G H Q s q
    intro σ G H R s q
    refine h σ G H R s fun J ds ρ1 G1 H1 ⟨xs, h1, h2, h3, h4, h5, h6⟩ s1 e1 w => q J ds ρ1 G1 H1 ?_ s1 e1 w
    subst h1
    refine ⟨by rw [List.length_map]; exact h2, fun k acc ρ2 => ρ2 = ρ1 ∧ acc = (xs.take k).map f, ⟨rfl, by simp⟩, fun k d acc ρ2 hd ⟨a1, a2⟩ hk => ?_, fun acc ρ2 ⟨a1, a2⟩ _ => ?_⟩
    · subst a1 a2
      rw [List.getElem?_map] at hd
      cases ha : xs[k]? with
      | none =>
        rw [ha] at hd
        cases hd
      | some a =>
        rw [ha] at hd
        cases hd
        have e : wipeR ρ2 [i] = ρ2 := h3
        rw [e]
        refine v_name (List.mem_cons_self ..) h4 (t_yes ⟨fun _ => (h5 a (List.mem_of_getElem? ha)).imp fun d' ρ5 ⟨b1, b2⟩ => ?_, fun z => by cases z⟩)
        subst b1 b2
        refine ⟨?_, by rw [List.take_add_one, ha, List.map_append]; rfl⟩
        show (ρ2.set i _).set i none = ρ2
        rw [List.set_set]
        exact h3
    · subst a1 a2
      rw [List.length_map, List.take_length]
      exact h6
/-- [x for x in xs if t], as an image -/
theorem w_filterG {α : Type} (g' : α → D) (f : α → Bool) (h : EvI c wi ρ fun ds ρ1 => ∃ xs : List α, ds = xs.map g' ∧ xs.length ≤ sizeLine ∧ ρ1.set i none = ρ1 ∧ i < ρ1.length ∧ (∀ a, a ∈ xs → EvT c tt (ρ1.set i (some (.dat (g' a)))) fun b ρ5 => ρ5 = ρ1.set i (some (.dat (g' a))) ∧ b = f a) ∧ P (.lst ((xs.filter f).map g')) ρ1) : EvD c (tLc wi (gName i) tt (tVar i) [i]) ρ P :=
  fun σ G H Q s q => by
    refine w_lc (P := P) ?_ σ G H Q s q
    intro σ G H R s q
    refine h σ G H R s fun J ds ρ1 G1 H1 ⟨xs, h1, h2, h3, h4, h5, h6⟩ s1 e1 w => q J ds ρ1 G1 H1 ?_ s1 e1 w
    subst h1
    refine ⟨by rw [List.length_map]; exact h2, fun k acc ρ2 => ρ2 = ρ1 ∧ acc = ((xs.take k).filter f).map g', ⟨rfl, by simp⟩, fun k d acc ρ2 hd ⟨a1, a2⟩ hk => ?_, fun acc ρ2 ⟨a1, a2⟩ _ => ?_⟩
    · subst a1 a2
      rw [List.getElem?_map] at hd
      cases ha : xs[k]? with
      | none =>
        rw [ha] at hd
        cases hd
      | some a =>
        rw [ha] at hd
        cases hd
        have e : wipeR ρ2 [i] = ρ2 := h3
        rw [e]
        have w1 : (ρ2.set i (some (.dat (g' a)))).set i none = ρ2 := by
          rw [List.set_set]
          exact h3
        have st : (xs.take (k + 1)).filter f = (xs.take k).filter f ++ (if f a = true then [a] else []) := by
          rw [List.take_add_one, ha, List.filter_append]
          show _ ++ [a].filter f = _
          rw [List.filter_cons]
          rfl
        refine v_name (List.mem_cons_self ..) h4 ?_
        intro σ G H Q s q
        refine h5 a (List.mem_of_getElem? ha) σ G H Q s fun b ρ5 G5 H5 ⟨e5, e6⟩ s5 t5 => q b ρ5 G5 H5 ⟨fun z => ?_, fun z => ?_⟩ s5 t5
        · subst e5
          rw [z] at e6
          refine w_var (List.getElem?_set_self h4) ⟨w1, ?_⟩
          rw [st, if_pos e6.symm, List.map_append]
          rfl
        · subst e5
          rw [z] at e6
          refine ⟨w1, ?_⟩
          rw [st, if_neg (by rw [← e6]; exact Bool.false_ne_true), List.append_nil]
    · subst a1 a2
      rw [List.length_map, List.take_length]
      exact h6
/-- [x for x in xs if t] -/
theorem w_filter (f : D → Bool) (h : EvI c wi ρ fun ds ρ1 => ds.length ≤ sizeLine ∧ ρ1.set i none = ρ1 ∧ i < ρ1.length ∧ (∀ d, d ∈ ds → EvT c tt (ρ1.set i (some (.dat d))) fun b ρ5 => ρ5 = ρ1.set i (some (.dat d)) ∧ b = f d) ∧ P (.lst (ds.filter f)) ρ1) : EvD c (tLc wi (gName i) tt (tVar i) [i]) ρ P :=
  EvD.of_N (PN := fun ds ρ' => P (.lst ds) ρ') (w_lcP (fun d => if f d = true then some d else none) fun σ G H R s q => h σ G H R s fun J ds ρ1 G1 H1 ⟨h1, h2, h3, h4, h5⟩ s1 e1 w => q J ds ρ1 G1 H1 ⟨h1, h2, fun d hd => v_name (List.mem_cons_self ..) h3 ⟨by
    show (ρ1.set i _).set i none = ρ1
    rw [List.set_set]
    exact h2, fun σ G H Q s q => h4 d hd σ G H Q s fun b ρ5 G5 H5 ⟨e5, e6⟩ s5 t5 => q b ρ5 G5 H5 ⟨e5, fun z => w_var (List.getElem?_set_self h3) ⟨rfl, by rw [← e6, z]; rfl⟩, fun z => by rw [← e6, z]; rfl⟩ s5 t5⟩, by
    rw [fm_filter f ds]
    exact h5⟩ s1 e1 w) fun _ _ h => h
end
section
variable {K : PySem.W.Frag} {T : Tb} {N : List Str} {t : TS} {Q : VK} {E : XK} {vs : List V} {H : Hp}
theorem SpP.len {pre : List D → Prop} {post : List D → D → Prop} {exc : List D → Addr → D → Prop} {n : Nat} (hn : ∀ ds, pre ds → ds.length = n) (vs : List V) (H : Hp) (Q : VK) (E : XK) (h : SpP K T pre post exc vs H Q E) : vs.length = n := by
  obtain ⟨G, ds, _, _, r, hp, _⟩ := h
  rw [r.len]
  exact hn ds hp
theorem SpN.len {pre : List D → Prop} {post : List D → List D → Prop} {n : Nat} (hn : ∀ ds, pre ds → ds.length = n) (vs : List V) (H : Hp) (Q : VK) (E : XK) (h : SpN K T pre post vs H Q E) : vs.length = n := by
  obtain ⟨G, ds, _, _, r, hp, _⟩ := h
  rw [r.len]
  exact hn ds hp
theorem SpJ.len {pre : List D → List D → Prop} {post : List D → List D → D → List D → Prop} {n : Nat} (hn : ∀ js ds, pre js ds → ds.length + 1 = n) (vs : List V) (H : Hp) (Q : VK) (E : XK) (h : SpJ K T pre post vs H Q E) : vs.length = n := by
  obtain ⟨G, p, js, ws, ds, us, rfl, _, _, _, _, _, r, hp, _⟩ := h
  rw [List.length_cons, r.len]
  exact hn js ds hp
end
/-- what a def gives back -/
abbrev Ret (post : D → Prop) : En := { nx := fun _ => post .non, rt := fun r _ => ∃ d, r = .dat d ∧ post d }
theorem fn_PR {K : PySem.W.Frag} {T : Tb} {N : List Str} {t : TS} {Q : VK} {E : XK} {vs : List V} {H : Hp} {pre : List D → Prop} {post : List D → D → Prop} {exc : List D → Addr → D → Prop} (n : Nat) (h : SpP K T pre post exc vs H Q E) (hn : ∀ ds, pre ds → ds.length = n)
    (b : ∀ (c : Cd) (ds : List D), c.K = K → c.T = T → c.E = E → c.RZ = exc ds → (∀ q, ¬ c.S q) → pre ds → WpS c t (Ret (post ds)) (args ds (N.length - n))) (hN : n ≤ N.length := by decide) : t { nx := fun _ H' => Q .non H', rt := Q } (L2.start N vs) H := by
  have e := SpP.len hn vs H Q E h
  refine fn_P h (by omega) fun G ds hp => ?_
  rw [hn ds hp]
  exact b _ ds rfl rfl rfl rfl (fun _ z => z) hp
abbrev RetN (post : List D → Prop) : En := { nx := fun _ => False, rt := fun r _ => ∃ p es, r = .own p es ∧ post es }
theorem fn_NR {K : PySem.W.Frag} {T : Tb} {N : List Str} {t : TS} {Q : VK} {E : XK} {vs : List V} {H : Hp} {pre : List D → Prop} {post : List D → List D → Prop} (n : Nat) (h : SpN K T pre post vs H Q E) (hn : ∀ ds, pre ds → ds.length = n)
    (b : ∀ (c : Cd) (ds : List D), c.K = K → c.T = T → (∀ q, ¬ c.S q) → pre ds → WpS c t (RetN (post ds)) (args ds (N.length - n))) (hN : n ≤ N.length := by decide) : t { nx := fun _ H' => Q .non H', rt := Q } (L2.start N vs) H := by
  have e := SpN.len hn vs H Q E h
  refine fn_N h (by omega) fun G ds hp => ?_
  rw [hn ds hp]
  exact b _ ds rfl rfl (fun _ z => z) hp
abbrev RetJ (post : D → List D → Prop) (p : Addr) : En := { nx := fun ρ => ∃ js', ρ[0]? = some (some (.own p js')) ∧ post .non js', rt := fun r ρ => ∃ d js', r = .dat d ∧ ρ[0]? = some (some (.own p js')) ∧ post d js' }
theorem fn_JR {K : PySem.W.Frag} {T : Tb} {N : List Str} {t : TS} {Q : VK} {E : XK} {vs : List V} {H : Hp} {pre : List D → List D → Prop} {post : List D → List D → D → List D → Prop} (n : Nat) (h : SpJ K T pre post vs H Q E) (hn : ∀ js ds, pre js ds → ds.length + 1 = n)
    (b : ∀ (c : Cd) (p : Addr) (js ds : List D), c.K = K → c.T = T → (∀ q, c.S q → q = p) → pre js ds → WpS c t (RetJ (post js ds) p) (some (.own p js) :: args ds (N.length - n))) (hN : n ≤ N.length := by decide) : t { nx := fun _ H' => Q .non H', rt := Q } (L2.start N vs) H := by
  have e := SpJ.len hn vs H Q E h
  refine fn_J h (by omega) fun G p js ds hp => ?_
  rw [hn js ds hp]
  exact b _ p js ds rfl rfl (fun _ z => z) hp
end Zd

/-! ## G83 -/
set_option Elab.async false
set_option linter.all false
set_option maxRecDepth 100000
set_option maxHeartbeats 4000000
namespace K83
open PySem PySem.Spec PyProof.Rows L2 Zd
abbrev n_whole : List Str := ["thing", "low", "high"]
abbrev p_whole : List Str := ["thing", "low", "high"]
theorem sc_whole : FnScope n_whole p_whole (defScope s_whole) := ⟨rfl, rfl, rfl, by decide +kernel, rfl, by decide +kernel, by decide +kernel⟩
abbrev n_least_part : List Str := ["word", "at"]
abbrev p_least_part : List Str := ["word", "at"]
theorem sc_least_part : FnScope n_least_part p_least_part (defScope s_least_part) := ⟨rfl, rfl, rfl, by decide +kernel, rfl, by decide +kernel, by decide +kernel⟩
abbrev n_is_deed : List Str := ["thing", "word", "at"]
abbrev p_is_deed : List Str := ["thing"]
theorem sc_is_deed : FnScope n_is_deed p_is_deed (defScope s_is_deed) := ⟨rfl, rfl, rfl, by decide +kernel, rfl, by decide +kernel, by decide +kernel⟩
abbrev n_asked_text : List Str := ["text"]
abbrev p_asked_text : List Str := ["text"]
theorem sc_asked_text : FnScope n_asked_text p_asked_text (defScope s_asked_text) := ⟨rfl, rfl, rfl, by decide +kernel, rfl, by decide +kernel, by decide +kernel⟩
abbrev n_lines_of : List Str := ["text"]
abbrev p_lines_of : List Str := ["text"]
theorem sc_lines_of : FnScope n_lines_of p_lines_of (defScope s_lines_of) := ⟨rfl, rfl, rfl, by decide +kernel, rfl, by decide +kernel, by decide +kernel⟩
abbrev n_words_of : List Str := ["line"]
abbrev p_words_of : List Str := ["line"]
theorem sc_words_of : FnScope n_words_of p_words_of (defScope s_words_of) := ⟨rfl, rfl, rfl, by decide +kernel, rfl, by decide +kernel, by decide +kernel⟩
abbrev n_asked_lines : List Str := ["text", "line"]
abbrev p_asked_lines : List Str := ["text"]
theorem sc_asked_lines : FnScope n_asked_lines p_asked_lines (defScope s_asked_lines) := ⟨rfl, rfl, rfl, by decide +kernel, rfl, by decide +kernel, by decide +kernel⟩
abbrev n_number_of : List Str := ["word", "sign"]
abbrev p_number_of : List Str := ["word"]
theorem sc_number_of : FnScope n_number_of p_number_of (defScope s_number_of) := ⟨rfl, rfl, rfl, by decide +kernel, rfl, by decide +kernel, by decide +kernel⟩
abbrev n_asked_end : List Str := ["lines", "size"]
abbrev p_asked_end : List Str := ["lines", "size"]
theorem sc_asked_end : FnScope n_asked_end p_asked_end (defScope s_asked_end) := ⟨rfl, rfl, rfl, by decide +kernel, rfl, by decide +kernel, by decide +kernel⟩
abbrev n_row_text : List Str := ["word", "things", "thing"]
abbrev p_row_text : List Str := ["word", "things"]
theorem sc_row_text : FnScope n_row_text p_row_text (defScope s_row_text) := ⟨rfl, rfl, rfl, by decide +kernel, rfl, by decide +kernel, by decide +kernel⟩
abbrev n_price_text : List Str := ["price"]
abbrev p_price_text : List Str := ["price"]
theorem sc_price_text : FnScope n_price_text p_price_text (defScope s_price_text) := ⟨rfl, rfl, rfl, by decide +kernel, rfl, by decide +kernel, by decide +kernel⟩
abbrev n_deed_text : List Str := ["deed", "part"]
abbrev p_deed_text : List Str := ["deed"]
theorem sc_deed_text : FnScope n_deed_text p_deed_text (defScope s_deed_text) := ⟨rfl, rfl, rfl, by decide +kernel, rfl, by decide +kernel, by decide +kernel⟩
abbrev n_part_of_deed : List Str := ["deed_word", "at", "word"]
abbrev p_part_of_deed : List Str := ["deed_word", "at", "word"]
theorem sc_part_of_deed : FnScope n_part_of_deed p_part_of_deed (defScope s_part_of_deed) := ⟨rfl, rfl, rfl, by decide +kernel, rfl, by decide +kernel, by decide +kernel⟩
abbrev n_deed_of : List Str := ["words", "found", "at", "part"]
abbrev p_deed_of : List Str := ["words"]
theorem sc_deed_of : FnScope n_deed_of p_deed_of (defScope s_deed_of) := ⟨rfl, rfl, rfl, by decide +kernel, rfl, by decide +kernel, by decide +kernel⟩
abbrev n_read_deed : List Str := ["text", "lines", "deed", "wrong"]
abbrev p_read_deed : List Str := ["text"]
theorem sc_read_deed : FnScope n_read_deed p_read_deed (defScope s_read_deed) := ⟨rfl, rfl, rfl, by decide +kernel, rfl, by decide +kernel, by decide +kernel⟩
abbrev n_law_zq_is_whole : List Str := ["thing"]
abbrev p_law_zq_is_whole : List Str := ["thing"]
theorem sc_law_zq_is_whole : FnScope n_law_zq_is_whole p_law_zq_is_whole (defScope s_law_zq_is_whole) := ⟨rfl, rfl, rfl, by decide +kernel, rfl, by decide +kernel, by decide +kernel⟩
abbrev n_law_zq_same : List Str := ["heard_one", "owed", "at"]
abbrev p_law_zq_same : List Str := ["heard_one", "owed"]
theorem sc_law_zq_same : FnScope n_law_zq_same p_law_zq_same (defScope s_law_zq_same) := ⟨rfl, rfl, rfl, by decide +kernel, rfl, by decide +kernel, by decide +kernel⟩
abbrev n_law_pool : List Str := ["script", "digits", "stirred", "at", "cell"]
abbrev p_law_pool : List Str := ["script"]
theorem sc_law_pool : FnScope n_law_pool p_law_pool (defScope s_law_pool) := ⟨rfl, rfl, rfl, by decide +kernel, rfl, by decide +kernel, by decide +kernel⟩
abbrev n_law_take : List Str := ["jar", "many", "made"]
abbrev p_law_take : List Str := ["jar", "many"]
theorem sc_law_take : FnScope n_law_take p_law_take (defScope s_law_take) := ⟨rfl, rfl, rfl, by decide +kernel, rfl, by decide +kernel, by decide +kernel⟩
abbrev n_law_one : List Str := ["jar", "things"]
abbrev p_law_one : List Str := ["jar", "things"]
theorem sc_law_one : FnScope n_law_one p_law_one (defScope s_law_one) := ⟨rfl, rfl, rfl, by decide +kernel, rfl, by decide +kernel, by decide +kernel⟩
abbrev n_law_zt_number : List Str := ["token", "sign"]
abbrev p_law_zt_number : List Str := ["token"]
theorem sc_law_zt_number : FnScope n_law_zt_number p_law_zt_number (defScope s_law_zt_number) := ⟨rfl, rfl, rfl, by decide +kernel, rfl, by decide +kernel, by decide +kernel⟩
abbrev n_law_zt_price : List Str := ["token", "low", "high", "much"]
abbrev p_law_zt_price : List Str := ["token", "low", "high"]
theorem sc_law_zt_price : FnScope n_law_zt_price p_law_zt_price (defScope s_law_zt_price) := ⟨rfl, rfl, rfl, by decide +kernel, rfl, by decide +kernel, by decide +kernel⟩
abbrev n_law_zt_price_word : List Str := ["price"]
abbrev p_law_zt_price_word : List Str := ["price"]
theorem sc_law_zt_price_word : FnScope n_law_zt_price_word p_law_zt_price_word (defScope s_law_zt_price_word) := ⟨rfl, rfl, rfl, by decide +kernel, rfl, by decide +kernel, by decide +kernel⟩
abbrev n_law_zt_line : List Str := ["token", "some", "much"]
abbrev p_law_zt_line : List Str := ["token", "some"]
theorem sc_law_zt_line : FnScope n_law_zt_line p_law_zt_line (defScope s_law_zt_line) := ⟨rfl, rfl, rfl, by decide +kernel, rfl, by decide +kernel, by decide +kernel⟩
abbrev n_law_zt_lines : List Str := ["text", "row"]
abbrev p_law_zt_lines : List Str := ["text"]
theorem sc_law_zt_lines : FnScope n_law_zt_lines p_law_zt_lines (defScope s_law_zt_lines) := ⟨rfl, rfl, rfl, by decide +kernel, rfl, by decide +kernel, by decide +kernel⟩
abbrev n_law_zt_wrong : List Str := ["line", "token"]
abbrev p_law_zt_wrong : List Str := ["line", "token"]
theorem sc_law_zt_wrong : FnScope n_law_zt_wrong p_law_zt_wrong (defScope s_law_zt_wrong) := ⟨rfl, rfl, rfl, by decide +kernel, rfl, by decide +kernel, by decide +kernel⟩
abbrev n_law_zt_end : List Str := ["parts_now", "share"]
abbrev p_law_zt_end : List Str := ["parts_now", "share"]
theorem sc_law_zt_end : FnScope n_law_zt_end p_law_zt_end (defScope s_law_zt_end) := ⟨rfl, rfl, rfl, by decide +kernel, rfl, by decide +kernel, by decide +kernel⟩
abbrev n_law_zt_deed_sorts : List Str := []
abbrev p_law_zt_deed_sorts : List Str := []
theorem sc_law_zt_deed_sorts : FnScope n_law_zt_deed_sorts p_law_zt_deed_sorts (defScope s_law_zt_deed_sorts) := ⟨rfl, rfl, rfl, by decide +kernel, rfl, by decide +kernel, by decide +kernel⟩
abbrev n_law_zt_deed : List Str := ["deed", "some"]
abbrev p_law_zt_deed : List Str := ["deed"]
theorem sc_law_zt_deed : FnScope n_law_zt_deed p_law_zt_deed (defScope s_law_zt_deed) := ⟨rfl, rfl, rfl, by decide +kernel, rfl, by decide +kernel, by decide +kernel⟩
abbrev n_law_zt_deed_in : List Str := ["parts_now", "sorts", "made", "many", "has_price", "at", "token", "much"]
abbrev p_law_zt_deed_in : List Str := ["parts_now"]
theorem sc_law_zt_deed_in : FnScope n_law_zt_deed_in p_law_zt_deed_in (defScope s_law_zt_deed_in) := ⟨rfl, rfl, rfl, by decide +kernel, rfl, by decide +kernel, by decide +kernel⟩
abbrev n_law_zt_deed_read : List Str := ["text", "lines", "share"]
abbrev p_law_zt_deed_read : List Str := ["text"]
theorem sc_law_zt_deed_read : FnScope n_law_zt_deed_read p_law_zt_deed_read (defScope s_law_zt_deed_read) := ⟨rfl, rfl, rfl, by decide +kernel, rfl, by decide +kernel, by decide +kernel⟩
abbrev n_law_zt_word_drawn : List Str := ["jar", "some"]
abbrev p_law_zt_word_drawn : List Str := ["jar"]
theorem sc_law_zt_word_drawn : FnScope n_law_zt_word_drawn p_law_zt_word_drawn (defScope s_law_zt_word_drawn) := ⟨rfl, rfl, rfl, by decide +kernel, rfl, by decide +kernel, by decide +kernel⟩
abbrev n_law_zt_otherwise : List Str := ["jar", "text", "rows_now", "form", "at", "other", "words_now", "spot", "more", "place", "is_less", "one", "two", "sign"]
abbrev p_law_zt_otherwise : List Str := ["jar", "text"]
theorem sc_law_zt_otherwise : FnScope n_law_zt_otherwise p_law_zt_otherwise (defScope s_law_zt_otherwise) := ⟨rfl, rfl, rfl, by decide +kernel, rfl, by decide +kernel, by decide +kernel⟩
abbrev n_law_zt_deed_drawn : List Str := ["jar", "token", "far", "many", "has_price", "some", "go"]
abbrev p_law_zt_deed_drawn : List Str := ["jar"]
theorem sc_law_zt_deed_drawn : FnScope n_law_zt_deed_drawn p_law_zt_deed_drawn (defScope s_law_zt_deed_drawn) := ⟨rfl, rfl, rfl, by decide +kernel, rfl, by decide +kernel, by decide +kernel⟩
abbrev n_law_dl_heard : List Str := ["call", "refused_one", "some", "name", "is_one"]
abbrev p_law_dl_heard : List Str := ["call"]
theorem sc_law_dl_heard : FnScope n_law_dl_heard p_law_dl_heard (defScope s_law_dl_heard) := ⟨rfl, rfl, rfl, by decide +kernel, rfl, by decide +kernel, by decide +kernel⟩
abbrev n_law_dl_is_own : List Str := ["thing", "sorts", "many", "has_price", "at", "low"]
abbrev p_law_dl_is_own : List Str := ["thing"]
theorem sc_law_dl_is_own : FnScope n_law_dl_is_own p_law_dl_is_own (defScope s_law_dl_is_own) := ⟨rfl, rfl, rfl, by decide +kernel, rfl, by decide +kernel, by decide +kernel⟩
abbrev n_law_dl_bent : List Str := ["jar", "thing", "at", "form", "words_now", "some"]
abbrev p_law_dl_bent : List Str := ["jar", "thing"]
theorem sc_law_dl_bent : FnScope n_law_dl_bent p_law_dl_bent (defScope s_law_dl_bent) := ⟨rfl, rfl, rfl, by decide +kernel, rfl, by decide +kernel, by decide +kernel⟩
abbrev n_law_dl_thing_right : List Str := ["thing", "heard", "line"]
abbrev p_law_dl_thing_right : List Str := ["thing"]
theorem sc_law_dl_thing_right : FnScope n_law_dl_thing_right p_law_dl_thing_right (defScope s_law_dl_thing_right) := ⟨rfl, rfl, rfl, by decide +kernel, rfl, by decide +kernel, by decide +kernel⟩
abbrev n_law_dl_text_right : List Str := ["text", "due"]
abbrev p_law_dl_text_right : List Str := ["text"]
theorem sc_law_dl_text_right : FnScope n_law_dl_text_right p_law_dl_text_right (defScope s_law_dl_text_right) := ⟨rfl, rfl, rfl, by decide +kernel, rfl, by decide +kernel, by decide +kernel⟩
abbrev n_law_dl_planted_right : List Str := ["jar", "k", "far", "some", "nine", "words_now", "thing", "text"]
abbrev p_law_dl_planted_right : List Str := ["jar"]
theorem sc_law_dl_planted_right : FnScope n_law_dl_planted_right p_law_dl_planted_right (defScope s_law_dl_planted_right) := ⟨rfl, rfl, rfl, by decide +kernel, rfl, by decide +kernel, by decide +kernel⟩
abbrev n_law : List Str := ["script", "jar", "go", "deed", "line", "turn", "bent", "odd", "k", "heard", "owed"]
abbrev p_law : List Str := ["script"]
theorem sc_law : FnScope n_law p_law (defScope s_law) := ⟨rfl, rfl, rfl, by decide +kernel, rfl, by decide +kernel, by decide +kernel⟩
def inClass (s : Stmt) (i : Nat) : Stmt := match s with
  | .ClassDef _ _ _ b _ _ _ _ _ _ _ => b.getD i (.Pass ⟨0, 0, 0, 0⟩)
  | _ => .Pass ⟨0, 0, 0, 0⟩
abbrev n_init : List Str := ["self", "what"]
theorem sc_init : FnScope n_init n_init (defScope s_init) := ⟨rfl, rfl, rfl, by decide +kernel, rfl, by decide +kernel, by decide +kernel⟩
/-- an error's class and its __init__ -/
structure ErrK (K : PySem.W.Frag) (C : Addr) : Prop where
  oex : OexC K C
  noW : PySem.W.findIn K (.ref C) "what" = some none
  ini : PySem.W.findIn K (.ref C) "__init__" = some (some (.ref (He.fAd K ("Refused", some "__init__"))))
  ity : PySem.W.typeIn K (.ref (He.fAd K ("Refused", some "__init__"))) = some (.type "function")

structure Fx (P : Program) (w : World) (K : PySem.W.Frag) (mg : Str → Option Value) : Prop where
  d_whole : ∃ fd, FunD K "whole" "whole" (defArgs s_whole) (defBody s_whole) (defScope s_whole) [] [] (He.ga K "whole") fd
  g_whole : mg "whole" = some (.ref (He.ga K "whole"))
  d_least_part : ∃ fd, FunD K "least_part" "least_part" (defArgs s_least_part) (defBody s_least_part) (defScope s_least_part) [] [] (He.ga K "least_part") fd
  g_least_part : mg "least_part" = some (.ref (He.ga K "least_part"))
  d_is_deed : ∃ fd, FunD K "is_deed" "is_deed" (defArgs s_is_deed) (defBody s_is_deed) (defScope s_is_deed) [] [] (He.ga K "is_deed") fd
  g_is_deed : mg "is_deed" = some (.ref (He.ga K "is_deed"))
  d_asked_text : ∃ fd, FunD K "asked_text" "asked_text" (defArgs s_asked_text) (defBody s_asked_text) (defScope s_asked_text) [] [] (He.ga K "asked_text") fd
  g_asked_text : mg "asked_text" = some (.ref (He.ga K "asked_text"))
  d_lines_of : ∃ fd, FunD K "lines_of" "lines_of" (defArgs s_lines_of) (defBody s_lines_of) (defScope s_lines_of) [] [] (He.ga K "lines_of") fd
  g_lines_of : mg "lines_of" = some (.ref (He.ga K "lines_of"))
  d_words_of : ∃ fd, FunD K "words_of" "words_of" (defArgs s_words_of) (defBody s_words_of) (defScope s_words_of) [] [] (He.ga K "words_of") fd
  g_words_of : mg "words_of" = some (.ref (He.ga K "words_of"))
  d_asked_lines : ∃ fd, FunD K "asked_lines" "asked_lines" (defArgs s_asked_lines) (defBody s_asked_lines) (defScope s_asked_lines) [] [] (He.ga K "asked_lines") fd
  g_asked_lines : mg "asked_lines" = some (.ref (He.ga K "asked_lines"))
  d_number_of : ∃ fd, FunD K "number_of" "number_of" (defArgs s_number_of) (defBody s_number_of) (defScope s_number_of) [] [] (He.ga K "number_of") fd
  g_number_of : mg "number_of" = some (.ref (He.ga K "number_of"))
  d_asked_end : ∃ fd, FunD K "asked_end" "asked_end" (defArgs s_asked_end) (defBody s_asked_end) (defScope s_asked_end) [] [] (He.ga K "asked_end") fd
  g_asked_end : mg "asked_end" = some (.ref (He.ga K "asked_end"))
  d_row_text : ∃ fd, FunD K "row_text" "row_text" (defArgs s_row_text) (defBody s_row_text) (defScope s_row_text) [] [] (He.ga K "row_text") fd
  g_row_text : mg "row_text" = some (.ref (He.ga K "row_text"))
  d_price_text : ∃ fd, FunD K "price_text" "price_text" (defArgs s_price_text) (defBody s_price_text) (defScope s_price_text) [] [] (He.ga K "price_text") fd
  g_price_text : mg "price_text" = some (.ref (He.ga K "price_text"))
  d_deed_text : ∃ fd, FunD K "deed_text" "deed_text" (defArgs s_deed_text) (defBody s_deed_text) (defScope s_deed_text) [] [] (He.ga K "deed_text") fd
  g_deed_text : mg "deed_text" = some (.ref (He.ga K "deed_text"))
  d_part_of_deed : ∃ fd, FunD K "part_of_deed" "part_of_deed" (defArgs s_part_of_deed) (defBody s_part_of_deed) (defScope s_part_of_deed) [] [] (He.ga K "part_of_deed") fd
  g_part_of_deed : mg "part_of_deed" = some (.ref (He.ga K "part_of_deed"))
  d_deed_of : ∃ fd, FunD K "deed_of" "deed_of" (defArgs s_deed_of) (defBody s_deed_of) (defScope s_deed_of) [] [] (He.ga K "deed_of") fd
  g_deed_of : mg "deed_of" = some (.ref (He.ga K "deed_of"))
  d_read_deed : ∃ fd, FunD K "read_deed" "read_deed" (defArgs s_read_deed) (defBody s_read_deed) (defScope s_read_deed) [] [] (He.ga K "read_deed") fd
  g_read_deed : mg "read_deed" = some (.ref (He.ga K "read_deed"))
  d_law_zq_is_whole : ∃ fd, FunD K "_law_zq_is_whole" "_law_zq_is_whole" (defArgs s_law_zq_is_whole) (defBody s_law_zq_is_whole) (defScope s_law_zq_is_whole) [] [] (He.ga K "_law_zq_is_whole") fd
  g_law_zq_is_whole : mg "_law_zq_is_whole" = some (.ref (He.ga K "_law_zq_is_whole"))
  d_law_zq_same : ∃ fd, FunD K "_law_zq_same" "_law_zq_same" (defArgs s_law_zq_same) (defBody s_law_zq_same) (defScope s_law_zq_same) [] [] (He.ga K "_law_zq_same") fd
  g_law_zq_same : mg "_law_zq_same" = some (.ref (He.ga K "_law_zq_same"))
  d_law_pool : ∃ fd, FunD K "_law_pool" "_law_pool" (defArgs s_law_pool) (defBody s_law_pool) (defScope s_law_pool) [] [] (He.ga K "_law_pool") fd
  g_law_pool : mg "_law_pool" = some (.ref (He.ga K "_law_pool"))
  d_law_take : ∃ fd, FunD K "_law_take" "_law_take" (defArgs s_law_take) (defBody s_law_take) (defScope s_law_take) [] [] (He.ga K "_law_take") fd
  g_law_take : mg "_law_take" = some (.ref (He.ga K "_law_take"))
  d_law_one : ∃ fd, FunD K "_law_one" "_law_one" (defArgs s_law_one) (defBody s_law_one) (defScope s_law_one) [] [] (He.ga K "_law_one") fd
  g_law_one : mg "_law_one" = some (.ref (He.ga K "_law_one"))
  d_law_zt_number : ∃ fd, FunD K "_law_zt_number" "_law_zt_number" (defArgs s_law_zt_number) (defBody s_law_zt_number) (defScope s_law_zt_number) [] [] (He.ga K "_law_zt_number") fd
  g_law_zt_number : mg "_law_zt_number" = some (.ref (He.ga K "_law_zt_number"))
  d_law_zt_price : ∃ fd, FunD K "_law_zt_price" "_law_zt_price" (defArgs s_law_zt_price) (defBody s_law_zt_price) (defScope s_law_zt_price) [] [] (He.ga K "_law_zt_price") fd
  g_law_zt_price : mg "_law_zt_price" = some (.ref (He.ga K "_law_zt_price"))
  d_law_zt_price_word : ∃ fd, FunD K "_law_zt_price_word" "_law_zt_price_word" (defArgs s_law_zt_price_word) (defBody s_law_zt_price_word) (defScope s_law_zt_price_word) [] [] (He.ga K "_law_zt_price_word") fd
  g_law_zt_price_word : mg "_law_zt_price_word" = some (.ref (He.ga K "_law_zt_price_word"))
  d_law_zt_line : ∃ fd, FunD K "_law_zt_line" "_law_zt_line" (defArgs s_law_zt_line) (defBody s_law_zt_line) (defScope s_law_zt_line) [] [] (He.ga K "_law_zt_line") fd
  g_law_zt_line : mg "_law_zt_line" = some (.ref (He.ga K "_law_zt_line"))
  d_law_zt_lines : ∃ fd, FunD K "_law_zt_lines" "_law_zt_lines" (defArgs s_law_zt_lines) (defBody s_law_zt_lines) (defScope s_law_zt_lines) [] [] (He.ga K "_law_zt_lines") fd
  g_law_zt_lines : mg "_law_zt_lines" = some (.ref (He.ga K "_law_zt_lines"))
  d_law_zt_wrong : ∃ fd, FunD K "_law_zt_wrong" "_law_zt_wrong" (defArgs s_law_zt_wrong) (defBody s_law_zt_wrong) (defScope s_law_zt_wrong) [] [] (He.ga K "_law_zt_wrong") fd
  g_law_zt_wrong : mg "_law_zt_wrong" = some (.ref (He.ga K "_law_zt_wrong"))
  d_law_zt_end : ∃ fd, FunD K "_law_zt_end" "_law_zt_end" (defArgs s_law_zt_end) (defBody s_law_zt_end) (defScope s_law_zt_end) [] [] (He.ga K "_law_zt_end") fd
  g_law_zt_end : mg "_law_zt_end" = some (.ref (He.ga K "_law_zt_end"))
  d_law_zt_deed_sorts : ∃ fd, FunD K "_law_zt_deed_sorts" "_law_zt_deed_sorts" (defArgs s_law_zt_deed_sorts) (defBody s_law_zt_deed_sorts) (defScope s_law_zt_deed_sorts) [] [] (He.ga K "_law_zt_deed_sorts") fd
  g_law_zt_deed_sorts : mg "_law_zt_deed_sorts" = some (.ref (He.ga K "_law_zt_deed_sorts"))
  d_law_zt_deed : ∃ fd, FunD K "_law_zt_deed" "_law_zt_deed" (defArgs s_law_zt_deed) (defBody s_law_zt_deed) (defScope s_law_zt_deed) [] [] (He.ga K "_law_zt_deed") fd
  g_law_zt_deed : mg "_law_zt_deed" = some (.ref (He.ga K "_law_zt_deed"))
  d_law_zt_deed_in : ∃ fd, FunD K "_law_zt_deed_in" "_law_zt_deed_in" (defArgs s_law_zt_deed_in) (defBody s_law_zt_deed_in) (defScope s_law_zt_deed_in) [] [] (He.ga K "_law_zt_deed_in") fd
  g_law_zt_deed_in : mg "_law_zt_deed_in" = some (.ref (He.ga K "_law_zt_deed_in"))
  d_law_zt_deed_read : ∃ fd, FunD K "_law_zt_deed_read" "_law_zt_deed_read" (defArgs s_law_zt_deed_read) (defBody s_law_zt_deed_read) (defScope s_law_zt_deed_read) [] [] (He.ga K "_law_zt_deed_read") fd
  g_law_zt_deed_read : mg "_law_zt_deed_read" = some (.ref (He.ga K "_law_zt_deed_read"))
  d_law_zt_word_drawn : ∃ fd, FunD K "_law_zt_word_drawn" "_law_zt_word_drawn" (defArgs s_law_zt_word_drawn) (defBody s_law_zt_word_drawn) (defScope s_law_zt_word_drawn) [] [] (He.ga K "_law_zt_word_drawn") fd
  g_law_zt_word_drawn : mg "_law_zt_word_drawn" = some (.ref (He.ga K "_law_zt_word_drawn"))
  d_law_zt_otherwise : ∃ fd, FunD K "_law_zt_otherwise" "_law_zt_otherwise" (defArgs s_law_zt_otherwise) (defBody s_law_zt_otherwise) (defScope s_law_zt_otherwise) [] [] (He.ga K "_law_zt_otherwise") fd
  g_law_zt_otherwise : mg "_law_zt_otherwise" = some (.ref (He.ga K "_law_zt_otherwise"))
  d_law_zt_deed_drawn : ∃ fd, FunD K "_law_zt_deed_drawn" "_law_zt_deed_drawn" (defArgs s_law_zt_deed_drawn) (defBody s_law_zt_deed_drawn) (defScope s_law_zt_deed_drawn) [] [] (He.ga K "_law_zt_deed_drawn") fd
  g_law_zt_deed_drawn : mg "_law_zt_deed_drawn" = some (.ref (He.ga K "_law_zt_deed_drawn"))
  d_law_dl_heard : ∃ fd, FunD K "_law_dl_heard" "_law_dl_heard" (defArgs s_law_dl_heard) (defBody s_law_dl_heard) (defScope s_law_dl_heard) [] [] (He.ga K "_law_dl_heard") fd
  g_law_dl_heard : mg "_law_dl_heard" = some (.ref (He.ga K "_law_dl_heard"))
  d_law_dl_is_own : ∃ fd, FunD K "_law_dl_is_own" "_law_dl_is_own" (defArgs s_law_dl_is_own) (defBody s_law_dl_is_own) (defScope s_law_dl_is_own) [] [] (He.ga K "_law_dl_is_own") fd
  g_law_dl_is_own : mg "_law_dl_is_own" = some (.ref (He.ga K "_law_dl_is_own"))
  d_law_dl_bent : ∃ fd, FunD K "_law_dl_bent" "_law_dl_bent" (defArgs s_law_dl_bent) (defBody s_law_dl_bent) (defScope s_law_dl_bent) [] [] (He.ga K "_law_dl_bent") fd
  g_law_dl_bent : mg "_law_dl_bent" = some (.ref (He.ga K "_law_dl_bent"))
  d_law_dl_thing_right : ∃ fd, FunD K "_law_dl_thing_right" "_law_dl_thing_right" (defArgs s_law_dl_thing_right) (defBody s_law_dl_thing_right) (defScope s_law_dl_thing_right) [] [] (He.ga K "_law_dl_thing_right") fd
  g_law_dl_thing_right : mg "_law_dl_thing_right" = some (.ref (He.ga K "_law_dl_thing_right"))
  d_law_dl_text_right : ∃ fd, FunD K "_law_dl_text_right" "_law_dl_text_right" (defArgs s_law_dl_text_right) (defBody s_law_dl_text_right) (defScope s_law_dl_text_right) [] [] (He.ga K "_law_dl_text_right") fd
  g_law_dl_text_right : mg "_law_dl_text_right" = some (.ref (He.ga K "_law_dl_text_right"))
  d_law_dl_planted_right : ∃ fd, FunD K "_law_dl_planted_right" "_law_dl_planted_right" (defArgs s_law_dl_planted_right) (defBody s_law_dl_planted_right) (defScope s_law_dl_planted_right) [] [] (He.ga K "_law_dl_planted_right") fd
  g_law_dl_planted_right : mg "_law_dl_planted_right" = some (.ref (He.ga K "_law_dl_planted_right"))
  d_law : ∃ fd, FunD K "law" "law" (defArgs s_law) (defBody s_law) (defScope s_law) [] [] (He.ga K "law") fd
  g_law : mg "law" = some (.ref (He.ga K "law"))
  b_all : mg "all" = none
  b_bool : mg "bool" = none
  b_int : mg "int" = none
  b_isinstance : mg "isinstance" = none
  b_len : mg "len" = none
  b_list : mg "list" = none
  b_max : mg "max" = none
  b_min : mg "min" = none
  b_range : mg "range" = none
  b_str : mg "str" = none
  b_tuple : mg "tuple" = none
  k_FIRM : ∃ t, mg "FIRM" = some (.int (-1) t)
  k_MOST_DEED_NUMBER : ∃ t, mg "MOST_DEED_NUMBER" = some (.int 99999999999999999999 t)
  k_DEED_SIZES : mg "DEED_SIZES" = some (.ref (He.ga K "DEED_SIZES"))
  k_PRICED_DEEDS : mg "PRICED_DEEDS" = some (.ref (He.ga K "PRICED_DEEDS"))
  k_MOST_SIGNS : ∃ t, mg "MOST_SIGNS" = some (.int 200000 t)
  k_MOST_FIGURES : ∃ t, mg "MOST_FIGURES" = some (.int 20 t)
  k_FIGURES : ∃ t, mg "FIGURES" = some (.str "0123456789" t)
  k_FIRM_WORD : ∃ t, mg "FIRM_WORD" = some (.str "firm" t)
  t_DEED_SIZES : ∃ es n, KDict K w (He.ga K "DEED_SIZES") es n
  k_Refused : mg "Refused" = some (.ref (He.ga K "Refused"))
  k_TooMany : mg "TooMany" = some (.ref (He.ga K "TooMany"))
  k_BadDeed : mg "BadDeed" = some (.ref (He.ga K "BadDeed"))
  k_BadText : mg "BadText" = some (.ref (He.ga K "BadText"))
  k_WrongLine : mg "WrongLine" = some (.ref (He.ga K "WrongLine"))
  e_BadDeed : ErrK K (He.ga K "BadDeed")
  e_BadText : ErrK K (He.ga K "BadText")
  e_TooMany : ErrK K (He.ga K "TooMany")
  e_WrongLine : ErrK K (He.ga K "WrongLine")
  b_ValueError : mg "ValueError" = none
  v_init : PySem.W.findCls K (.type "ValueError") (.type "type") "__init__" = some (.val (.builtin "ValueError.__init__"))
  d_init : ∃ fd, FunD K "__init__" "Refused.__init__" (defArgs s_init) (defBody s_init) (defScope s_init) [] [] (He.fAd K ("Refused", some "__init__")) fd
section
variable {P : Program} {w : World} {K : PySem.W.Frag} {mg : Str → Option Value} {base : Heap}
noncomputable abbrev Fx.f_whole (F : Fx P w K mg) : FuncData := F.d_whole.choose
theorem Fx.o_whole (F : Fx P w K mg) : FunD K "whole" "whole" (defArgs s_whole) (defBody s_whole) (defScope s_whole) [] [] (He.ga K "whole") F.f_whole := F.d_whole.choose_spec
theorem Fx.p_whole (F : Fx P w K mg) : PySem.W.keepIn K (.ref (He.ga K "whole")) = true := F.o_whole.kp
theorem b_whole (F : Fx P w K mg) : Binds K F.f_whole p_whole [] := F.o_whole.bindsN fun _ _ _ _ _ _ us hl => match us, hl with | [_, _, _], _ => rfl
noncomputable abbrev Fx.f_least_part (F : Fx P w K mg) : FuncData := F.d_least_part.choose
theorem Fx.o_least_part (F : Fx P w K mg) : FunD K "least_part" "least_part" (defArgs s_least_part) (defBody s_least_part) (defScope s_least_part) [] [] (He.ga K "least_part") F.f_least_part := F.d_least_part.choose_spec
theorem Fx.p_least_part (F : Fx P w K mg) : PySem.W.keepIn K (.ref (He.ga K "least_part")) = true := F.o_least_part.kp
theorem b_least_part (F : Fx P w K mg) : Binds K F.f_least_part p_least_part [] := F.o_least_part.bindsN fun _ _ _ _ _ _ us hl => match us, hl with | [_, _], _ => rfl
noncomputable abbrev Fx.f_is_deed (F : Fx P w K mg) : FuncData := F.d_is_deed.choose
theorem Fx.o_is_deed (F : Fx P w K mg) : FunD K "is_deed" "is_deed" (defArgs s_is_deed) (defBody s_is_deed) (defScope s_is_deed) [] [] (He.ga K "is_deed") F.f_is_deed := F.d_is_deed.choose_spec
theorem Fx.p_is_deed (F : Fx P w K mg) : PySem.W.keepIn K (.ref (He.ga K "is_deed")) = true := F.o_is_deed.kp
theorem b_is_deed (F : Fx P w K mg) : Binds K F.f_is_deed p_is_deed [] := F.o_is_deed.bindsN fun _ _ _ _ _ _ us hl => match us, hl with | [_], _ => rfl
noncomputable abbrev Fx.f_asked_text (F : Fx P w K mg) : FuncData := F.d_asked_text.choose
theorem Fx.o_asked_text (F : Fx P w K mg) : FunD K "asked_text" "asked_text" (defArgs s_asked_text) (defBody s_asked_text) (defScope s_asked_text) [] [] (He.ga K "asked_text") F.f_asked_text := F.d_asked_text.choose_spec
theorem Fx.p_asked_text (F : Fx P w K mg) : PySem.W.keepIn K (.ref (He.ga K "asked_text")) = true := F.o_asked_text.kp
theorem b_asked_text (F : Fx P w K mg) : Binds K F.f_asked_text p_asked_text [] := F.o_asked_text.bindsN fun _ _ _ _ _ _ us hl => match us, hl with | [_], _ => rfl
noncomputable abbrev Fx.f_lines_of (F : Fx P w K mg) : FuncData := F.d_lines_of.choose
theorem Fx.o_lines_of (F : Fx P w K mg) : FunD K "lines_of" "lines_of" (defArgs s_lines_of) (defBody s_lines_of) (defScope s_lines_of) [] [] (He.ga K "lines_of") F.f_lines_of := F.d_lines_of.choose_spec
theorem Fx.p_lines_of (F : Fx P w K mg) : PySem.W.keepIn K (.ref (He.ga K "lines_of")) = true := F.o_lines_of.kp
theorem b_lines_of (F : Fx P w K mg) : Binds K F.f_lines_of p_lines_of [] := F.o_lines_of.bindsN fun _ _ _ _ _ _ us hl => match us, hl with | [_], _ => rfl
noncomputable abbrev Fx.f_words_of (F : Fx P w K mg) : FuncData := F.d_words_of.choose
theorem Fx.o_words_of (F : Fx P w K mg) : FunD K "words_of" "words_of" (defArgs s_words_of) (defBody s_words_of) (defScope s_words_of) [] [] (He.ga K "words_of") F.f_words_of := F.d_words_of.choose_spec
theorem Fx.p_words_of (F : Fx P w K mg) : PySem.W.keepIn K (.ref (He.ga K "words_of")) = true := F.o_words_of.kp
theorem b_words_of (F : Fx P w K mg) : Binds K F.f_words_of p_words_of [] := F.o_words_of.bindsN fun _ _ _ _ _ _ us hl => match us, hl with | [_], _ => rfl
noncomputable abbrev Fx.f_asked_lines (F : Fx P w K mg) : FuncData := F.d_asked_lines.choose
theorem Fx.o_asked_lines (F : Fx P w K mg) : FunD K "asked_lines" "asked_lines" (defArgs s_asked_lines) (defBody s_asked_lines) (defScope s_asked_lines) [] [] (He.ga K "asked_lines") F.f_asked_lines := F.d_asked_lines.choose_spec
theorem Fx.p_asked_lines (F : Fx P w K mg) : PySem.W.keepIn K (.ref (He.ga K "asked_lines")) = true := F.o_asked_lines.kp
theorem b_asked_lines (F : Fx P w K mg) : Binds K F.f_asked_lines p_asked_lines [] := F.o_asked_lines.bindsN fun _ _ _ _ _ _ us hl => match us, hl with | [_], _ => rfl
noncomputable abbrev Fx.f_number_of (F : Fx P w K mg) : FuncData := F.d_number_of.choose
theorem Fx.o_number_of (F : Fx P w K mg) : FunD K "number_of" "number_of" (defArgs s_number_of) (defBody s_number_of) (defScope s_number_of) [] [] (He.ga K "number_of") F.f_number_of := F.d_number_of.choose_spec
theorem Fx.p_number_of (F : Fx P w K mg) : PySem.W.keepIn K (.ref (He.ga K "number_of")) = true := F.o_number_of.kp
theorem b_number_of (F : Fx P w K mg) : Binds K F.f_number_of p_number_of [] := F.o_number_of.bindsN fun _ _ _ _ _ _ us hl => match us, hl with | [_], _ => rfl
noncomputable abbrev Fx.f_asked_end (F : Fx P w K mg) : FuncData := F.d_asked_end.choose
theorem Fx.o_asked_end (F : Fx P w K mg) : FunD K "asked_end" "asked_end" (defArgs s_asked_end) (defBody s_asked_end) (defScope s_asked_end) [] [] (He.ga K "asked_end") F.f_asked_end := F.d_asked_end.choose_spec
theorem Fx.p_asked_end (F : Fx P w K mg) : PySem.W.keepIn K (.ref (He.ga K "asked_end")) = true := F.o_asked_end.kp
theorem b_asked_end (F : Fx P w K mg) : Binds K F.f_asked_end p_asked_end [] := F.o_asked_end.bindsN fun _ _ _ _ _ _ us hl => match us, hl with | [_, _], _ => rfl
noncomputable abbrev Fx.f_row_text (F : Fx P w K mg) : FuncData := F.d_row_text.choose
theorem Fx.o_row_text (F : Fx P w K mg) : FunD K "row_text" "row_text" (defArgs s_row_text) (defBody s_row_text) (defScope s_row_text) [] [] (He.ga K "row_text") F.f_row_text := F.d_row_text.choose_spec
theorem Fx.p_row_text (F : Fx P w K mg) : PySem.W.keepIn K (.ref (He.ga K "row_text")) = true := F.o_row_text.kp
theorem b_row_text (F : Fx P w K mg) : Binds K F.f_row_text p_row_text [] := F.o_row_text.bindsN fun _ _ _ _ _ _ us hl => match us, hl with | [_, _], _ => rfl
noncomputable abbrev Fx.f_price_text (F : Fx P w K mg) : FuncData := F.d_price_text.choose
theorem Fx.o_price_text (F : Fx P w K mg) : FunD K "price_text" "price_text" (defArgs s_price_text) (defBody s_price_text) (defScope s_price_text) [] [] (He.ga K "price_text") F.f_price_text := F.d_price_text.choose_spec
theorem Fx.p_price_text (F : Fx P w K mg) : PySem.W.keepIn K (.ref (He.ga K "price_text")) = true := F.o_price_text.kp
theorem b_price_text (F : Fx P w K mg) : Binds K F.f_price_text p_price_text [] := F.o_price_text.bindsN fun _ _ _ _ _ _ us hl => match us, hl with | [_], _ => rfl
noncomputable abbrev Fx.f_deed_text (F : Fx P w K mg) : FuncData := F.d_deed_text.choose
theorem Fx.o_deed_text (F : Fx P w K mg) : FunD K "deed_text" "deed_text" (defArgs s_deed_text) (defBody s_deed_text) (defScope s_deed_text) [] [] (He.ga K "deed_text") F.f_deed_text := F.d_deed_text.choose_spec
theorem Fx.p_deed_text (F : Fx P w K mg) : PySem.W.keepIn K (.ref (He.ga K "deed_text")) = true := F.o_deed_text.kp
theorem b_deed_text (F : Fx P w K mg) : Binds K F.f_deed_text p_deed_text [] := F.o_deed_text.bindsN fun _ _ _ _ _ _ us hl => match us, hl with | [_], _ => rfl
noncomputable abbrev Fx.f_part_of_deed (F : Fx P w K mg) : FuncData := F.d_part_of_deed.choose
theorem Fx.o_part_of_deed (F : Fx P w K mg) : FunD K "part_of_deed" "part_of_deed" (defArgs s_part_of_deed) (defBody s_part_of_deed) (defScope s_part_of_deed) [] [] (He.ga K "part_of_deed") F.f_part_of_deed := F.d_part_of_deed.choose_spec
theorem Fx.p_part_of_deed (F : Fx P w K mg) : PySem.W.keepIn K (.ref (He.ga K "part_of_deed")) = true := F.o_part_of_deed.kp
theorem b_part_of_deed (F : Fx P w K mg) : Binds K F.f_part_of_deed p_part_of_deed [] := F.o_part_of_deed.bindsN fun _ _ _ _ _ _ us hl => match us, hl with | [_, _, _], _ => rfl
noncomputable abbrev Fx.f_deed_of (F : Fx P w K mg) : FuncData := F.d_deed_of.choose
theorem Fx.o_deed_of (F : Fx P w K mg) : FunD K "deed_of" "deed_of" (defArgs s_deed_of) (defBody s_deed_of) (defScope s_deed_of) [] [] (He.ga K "deed_of") F.f_deed_of := F.d_deed_of.choose_spec
theorem Fx.p_deed_of (F : Fx P w K mg) : PySem.W.keepIn K (.ref (He.ga K "deed_of")) = true := F.o_deed_of.kp
theorem b_deed_of (F : Fx P w K mg) : Binds K F.f_deed_of p_deed_of [] := F.o_deed_of.bindsN fun _ _ _ _ _ _ us hl => match us, hl with | [_], _ => rfl
noncomputable abbrev Fx.f_read_deed (F : Fx P w K mg) : FuncData := F.d_read_deed.choose
theorem Fx.o_read_deed (F : Fx P w K mg) : FunD K "read_deed" "read_deed" (defArgs s_read_deed) (defBody s_read_deed) (defScope s_read_deed) [] [] (He.ga K "read_deed") F.f_read_deed := F.d_read_deed.choose_spec
theorem Fx.p_read_deed (F : Fx P w K mg) : PySem.W.keepIn K (.ref (He.ga K "read_deed")) = true := F.o_read_deed.kp
theorem b_read_deed (F : Fx P w K mg) : Binds K F.f_read_deed p_read_deed [] := F.o_read_deed.bindsN fun _ _ _ _ _ _ us hl => match us, hl with | [_], _ => rfl
noncomputable abbrev Fx.f_law_zq_is_whole (F : Fx P w K mg) : FuncData := F.d_law_zq_is_whole.choose
theorem Fx.o_law_zq_is_whole (F : Fx P w K mg) : FunD K "_law_zq_is_whole" "_law_zq_is_whole" (defArgs s_law_zq_is_whole) (defBody s_law_zq_is_whole) (defScope s_law_zq_is_whole) [] [] (He.ga K "_law_zq_is_whole") F.f_law_zq_is_whole := F.d_law_zq_is_whole.choose_spec
theorem Fx.p_law_zq_is_whole (F : Fx P w K mg) : PySem.W.keepIn K (.ref (He.ga K "_law_zq_is_whole")) = true := F.o_law_zq_is_whole.kp
theorem b_law_zq_is_whole (F : Fx P w K mg) : Binds K F.f_law_zq_is_whole p_law_zq_is_whole [] := F.o_law_zq_is_whole.bindsN fun _ _ _ _ _ _ us hl => match us, hl with | [_], _ => rfl
noncomputable abbrev Fx.f_law_zq_same (F : Fx P w K mg) : FuncData := F.d_law_zq_same.choose
theorem Fx.o_law_zq_same (F : Fx P w K mg) : FunD K "_law_zq_same" "_law_zq_same" (defArgs s_law_zq_same) (defBody s_law_zq_same) (defScope s_law_zq_same) [] [] (He.ga K "_law_zq_same") F.f_law_zq_same := F.d_law_zq_same.choose_spec
theorem Fx.p_law_zq_same (F : Fx P w K mg) : PySem.W.keepIn K (.ref (He.ga K "_law_zq_same")) = true := F.o_law_zq_same.kp
theorem b_law_zq_same (F : Fx P w K mg) : Binds K F.f_law_zq_same p_law_zq_same [] := F.o_law_zq_same.bindsN fun _ _ _ _ _ _ us hl => match us, hl with | [_, _], _ => rfl
noncomputable abbrev Fx.f_law_pool (F : Fx P w K mg) : FuncData := F.d_law_pool.choose
theorem Fx.o_law_pool (F : Fx P w K mg) : FunD K "_law_pool" "_law_pool" (defArgs s_law_pool) (defBody s_law_pool) (defScope s_law_pool) [] [] (He.ga K "_law_pool") F.f_law_pool := F.d_law_pool.choose_spec
theorem Fx.p_law_pool (F : Fx P w K mg) : PySem.W.keepIn K (.ref (He.ga K "_law_pool")) = true := F.o_law_pool.kp
theorem b_law_pool (F : Fx P w K mg) : Binds K F.f_law_pool p_law_pool [] := F.o_law_pool.bindsN fun _ _ _ _ _ _ us hl => match us, hl with | [_], _ => rfl
noncomputable abbrev Fx.f_law_take (F : Fx P w K mg) : FuncData := F.d_law_take.choose
theorem Fx.o_law_take (F : Fx P w K mg) : FunD K "_law_take" "_law_take" (defArgs s_law_take) (defBody s_law_take) (defScope s_law_take) [] [] (He.ga K "_law_take") F.f_law_take := F.d_law_take.choose_spec
theorem Fx.p_law_take (F : Fx P w K mg) : PySem.W.keepIn K (.ref (He.ga K "_law_take")) = true := F.o_law_take.kp
theorem b_law_take (F : Fx P w K mg) : Binds K F.f_law_take p_law_take [] := F.o_law_take.bindsN fun _ _ _ _ _ _ us hl => match us, hl with | [_, _], _ => rfl
noncomputable abbrev Fx.f_law_one (F : Fx P w K mg) : FuncData := F.d_law_one.choose
theorem Fx.o_law_one (F : Fx P w K mg) : FunD K "_law_one" "_law_one" (defArgs s_law_one) (defBody s_law_one) (defScope s_law_one) [] [] (He.ga K "_law_one") F.f_law_one := F.d_law_one.choose_spec
theorem Fx.p_law_one (F : Fx P w K mg) : PySem.W.keepIn K (.ref (He.ga K "_law_one")) = true := F.o_law_one.kp
theorem b_law_one (F : Fx P w K mg) : Binds K F.f_law_one p_law_one [] := F.o_law_one.bindsN fun _ _ _ _ _ _ us hl => match us, hl with | [_, _], _ => rfl
noncomputable abbrev Fx.f_law_zt_number (F : Fx P w K mg) : FuncData := F.d_law_zt_number.choose
theorem Fx.o_law_zt_number (F : Fx P w K mg) : FunD K "_law_zt_number" "_law_zt_number" (defArgs s_law_zt_number) (defBody s_law_zt_number) (defScope s_law_zt_number) [] [] (He.ga K "_law_zt_number") F.f_law_zt_number := F.d_law_zt_number.choose_spec
theorem Fx.p_law_zt_number (F : Fx P w K mg) : PySem.W.keepIn K (.ref (He.ga K "_law_zt_number")) = true := F.o_law_zt_number.kp
theorem b_law_zt_number (F : Fx P w K mg) : Binds K F.f_law_zt_number p_law_zt_number [] := F.o_law_zt_number.bindsN fun _ _ _ _ _ _ us hl => match us, hl with | [_], _ => rfl
noncomputable abbrev Fx.f_law_zt_price (F : Fx P w K mg) : FuncData := F.d_law_zt_price.choose
theorem Fx.o_law_zt_price (F : Fx P w K mg) : FunD K "_law_zt_price" "_law_zt_price" (defArgs s_law_zt_price) (defBody s_law_zt_price) (defScope s_law_zt_price) [] [] (He.ga K "_law_zt_price") F.f_law_zt_price := F.d_law_zt_price.choose_spec
theorem Fx.p_law_zt_price (F : Fx P w K mg) : PySem.W.keepIn K (.ref (He.ga K "_law_zt_price")) = true := F.o_law_zt_price.kp
theorem b_law_zt_price (F : Fx P w K mg) : Binds K F.f_law_zt_price p_law_zt_price [] := F.o_law_zt_price.bindsN fun _ _ _ _ _ _ us hl => match us, hl with | [_, _, _], _ => rfl
noncomputable abbrev Fx.f_law_zt_price_word (F : Fx P w K mg) : FuncData := F.d_law_zt_price_word.choose
theorem Fx.o_law_zt_price_word (F : Fx P w K mg) : FunD K "_law_zt_price_word" "_law_zt_price_word" (defArgs s_law_zt_price_word) (defBody s_law_zt_price_word) (defScope s_law_zt_price_word) [] [] (He.ga K "_law_zt_price_word") F.f_law_zt_price_word := F.d_law_zt_price_word.choose_spec
theorem Fx.p_law_zt_price_word (F : Fx P w K mg) : PySem.W.keepIn K (.ref (He.ga K "_law_zt_price_word")) = true := F.o_law_zt_price_word.kp
theorem b_law_zt_price_word (F : Fx P w K mg) : Binds K F.f_law_zt_price_word p_law_zt_price_word [] := F.o_law_zt_price_word.bindsN fun _ _ _ _ _ _ us hl => match us, hl with | [_], _ => rfl
noncomputable abbrev Fx.f_law_zt_line (F : Fx P w K mg) : FuncData := F.d_law_zt_line.choose
theorem Fx.o_law_zt_line (F : Fx P w K mg) : FunD K "_law_zt_line" "_law_zt_line" (defArgs s_law_zt_line) (defBody s_law_zt_line) (defScope s_law_zt_line) [] [] (He.ga K "_law_zt_line") F.f_law_zt_line := F.d_law_zt_line.choose_spec
theorem Fx.p_law_zt_line (F : Fx P w K mg) : PySem.W.keepIn K (.ref (He.ga K "_law_zt_line")) = true := F.o_law_zt_line.kp
theorem b_law_zt_line (F : Fx P w K mg) : Binds K F.f_law_zt_line p_law_zt_line [] := F.o_law_zt_line.bindsN fun _ _ _ _ _ _ us hl => match us, hl with | [_, _], _ => rfl
noncomputable abbrev Fx.f_law_zt_lines (F : Fx P w K mg) : FuncData := F.d_law_zt_lines.choose
theorem Fx.o_law_zt_lines (F : Fx P w K mg) : FunD K "_law_zt_lines" "_law_zt_lines" (defArgs s_law_zt_lines) (defBody s_law_zt_lines) (defScope s_law_zt_lines) [] [] (He.ga K "_law_zt_lines") F.f_law_zt_lines := F.d_law_zt_lines.choose_spec
theorem Fx.p_law_zt_lines (F : Fx P w K mg) : PySem.W.keepIn K (.ref (He.ga K "_law_zt_lines")) = true := F.o_law_zt_lines.kp
theorem b_law_zt_lines (F : Fx P w K mg) : Binds K F.f_law_zt_lines p_law_zt_lines [] := F.o_law_zt_lines.bindsN fun _ _ _ _ _ _ us hl => match us, hl with | [_], _ => rfl
noncomputable abbrev Fx.f_law_zt_wrong (F : Fx P w K mg) : FuncData := F.d_law_zt_wrong.choose
theorem Fx.o_law_zt_wrong (F : Fx P w K mg) : FunD K "_law_zt_wrong" "_law_zt_wrong" (defArgs s_law_zt_wrong) (defBody s_law_zt_wrong) (defScope s_law_zt_wrong) [] [] (He.ga K "_law_zt_wrong") F.f_law_zt_wrong := F.d_law_zt_wrong.choose_spec
theorem Fx.p_law_zt_wrong (F : Fx P w K mg) : PySem.W.keepIn K (.ref (He.ga K "_law_zt_wrong")) = true := F.o_law_zt_wrong.kp
theorem b_law_zt_wrong (F : Fx P w K mg) : Binds K F.f_law_zt_wrong p_law_zt_wrong [] := F.o_law_zt_wrong.bindsN fun _ _ _ _ _ _ us hl => match us, hl with | [_, _], _ => rfl
noncomputable abbrev Fx.f_law_zt_end (F : Fx P w K mg) : FuncData := F.d_law_zt_end.choose
theorem Fx.o_law_zt_end (F : Fx P w K mg) : FunD K "_law_zt_end" "_law_zt_end" (defArgs s_law_zt_end) (defBody s_law_zt_end) (defScope s_law_zt_end) [] [] (He.ga K "_law_zt_end") F.f_law_zt_end := F.d_law_zt_end.choose_spec
theorem Fx.p_law_zt_end (F : Fx P w K mg) : PySem.W.keepIn K (.ref (He.ga K "_law_zt_end")) = true := F.o_law_zt_end.kp
theorem b_law_zt_end (F : Fx P w K mg) : Binds K F.f_law_zt_end p_law_zt_end [] := F.o_law_zt_end.bindsN fun _ _ _ _ _ _ us hl => match us, hl with | [_, _], _ => rfl
noncomputable abbrev Fx.f_law_zt_deed_sorts (F : Fx P w K mg) : FuncData := F.d_law_zt_deed_sorts.choose
theorem Fx.o_law_zt_deed_sorts (F : Fx P w K mg) : FunD K "_law_zt_deed_sorts" "_law_zt_deed_sorts" (defArgs s_law_zt_deed_sorts) (defBody s_law_zt_deed_sorts) (defScope s_law_zt_deed_sorts) [] [] (He.ga K "_law_zt_deed_sorts") F.f_law_zt_deed_sorts := F.d_law_zt_deed_sorts.choose_spec
theorem Fx.p_law_zt_deed_sorts (F : Fx P w K mg) : PySem.W.keepIn K (.ref (He.ga K "_law_zt_deed_sorts")) = true := F.o_law_zt_deed_sorts.kp
theorem b_law_zt_deed_sorts (F : Fx P w K mg) : Binds K F.f_law_zt_deed_sorts p_law_zt_deed_sorts [] := F.o_law_zt_deed_sorts.bindsN fun _ _ _ _ _ _ us hl => match us, hl with | [], _ => rfl
noncomputable abbrev Fx.f_law_zt_deed (F : Fx P w K mg) : FuncData := F.d_law_zt_deed.choose
theorem Fx.o_law_zt_deed (F : Fx P w K mg) : FunD K "_law_zt_deed" "_law_zt_deed" (defArgs s_law_zt_deed) (defBody s_law_zt_deed) (defScope s_law_zt_deed) [] [] (He.ga K "_law_zt_deed") F.f_law_zt_deed := F.d_law_zt_deed.choose_spec
theorem Fx.p_law_zt_deed (F : Fx P w K mg) : PySem.W.keepIn K (.ref (He.ga K "_law_zt_deed")) = true := F.o_law_zt_deed.kp
theorem b_law_zt_deed (F : Fx P w K mg) : Binds K F.f_law_zt_deed p_law_zt_deed [] := F.o_law_zt_deed.bindsN fun _ _ _ _ _ _ us hl => match us, hl with | [_], _ => rfl
noncomputable abbrev Fx.f_law_zt_deed_in (F : Fx P w K mg) : FuncData := F.d_law_zt_deed_in.choose
theorem Fx.o_law_zt_deed_in (F : Fx P w K mg) : FunD K "_law_zt_deed_in" "_law_zt_deed_in" (defArgs s_law_zt_deed_in) (defBody s_law_zt_deed_in) (defScope s_law_zt_deed_in) [] [] (He.ga K "_law_zt_deed_in") F.f_law_zt_deed_in := F.d_law_zt_deed_in.choose_spec
theorem Fx.p_law_zt_deed_in (F : Fx P w K mg) : PySem.W.keepIn K (.ref (He.ga K "_law_zt_deed_in")) = true := F.o_law_zt_deed_in.kp
theorem b_law_zt_deed_in (F : Fx P w K mg) : Binds K F.f_law_zt_deed_in p_law_zt_deed_in [] := F.o_law_zt_deed_in.bindsN fun _ _ _ _ _ _ us hl => match us, hl with | [_], _ => rfl
noncomputable abbrev Fx.f_law_zt_deed_read (F : Fx P w K mg) : FuncData := F.d_law_zt_deed_read.choose
theorem Fx.o_law_zt_deed_read (F : Fx P w K mg) : FunD K "_law_zt_deed_read" "_law_zt_deed_read" (defArgs s_law_zt_deed_read) (defBody s_law_zt_deed_read) (defScope s_law_zt_deed_read) [] [] (He.ga K "_law_zt_deed_read") F.f_law_zt_deed_read := F.d_law_zt_deed_read.choose_spec
theorem Fx.p_law_zt_deed_read (F : Fx P w K mg) : PySem.W.keepIn K (.ref (He.ga K "_law_zt_deed_read")) = true := F.o_law_zt_deed_read.kp
theorem b_law_zt_deed_read (F : Fx P w K mg) : Binds K F.f_law_zt_deed_read p_law_zt_deed_read [] := F.o_law_zt_deed_read.bindsN fun _ _ _ _ _ _ us hl => match us, hl with | [_], _ => rfl
noncomputable abbrev Fx.f_law_zt_word_drawn (F : Fx P w K mg) : FuncData := F.d_law_zt_word_drawn.choose
theorem Fx.o_law_zt_word_drawn (F : Fx P w K mg) : FunD K "_law_zt_word_drawn" "_law_zt_word_drawn" (defArgs s_law_zt_word_drawn) (defBody s_law_zt_word_drawn) (defScope s_law_zt_word_drawn) [] [] (He.ga K "_law_zt_word_drawn") F.f_law_zt_word_drawn := F.d_law_zt_word_drawn.choose_spec
theorem Fx.p_law_zt_word_drawn (F : Fx P w K mg) : PySem.W.keepIn K (.ref (He.ga K "_law_zt_word_drawn")) = true := F.o_law_zt_word_drawn.kp
theorem b_law_zt_word_drawn (F : Fx P w K mg) : Binds K F.f_law_zt_word_drawn p_law_zt_word_drawn [] := F.o_law_zt_word_drawn.bindsN fun _ _ _ _ _ _ us hl => match us, hl with | [_], _ => rfl
noncomputable abbrev Fx.f_law_zt_otherwise (F : Fx P w K mg) : FuncData := F.d_law_zt_otherwise.choose
theorem Fx.o_law_zt_otherwise (F : Fx P w K mg) : FunD K "_law_zt_otherwise" "_law_zt_otherwise" (defArgs s_law_zt_otherwise) (defBody s_law_zt_otherwise) (defScope s_law_zt_otherwise) [] [] (He.ga K "_law_zt_otherwise") F.f_law_zt_otherwise := F.d_law_zt_otherwise.choose_spec
theorem Fx.p_law_zt_otherwise (F : Fx P w K mg) : PySem.W.keepIn K (.ref (He.ga K "_law_zt_otherwise")) = true := F.o_law_zt_otherwise.kp
theorem b_law_zt_otherwise (F : Fx P w K mg) : Binds K F.f_law_zt_otherwise p_law_zt_otherwise [] := F.o_law_zt_otherwise.bindsN fun _ _ _ _ _ _ us hl => match us, hl with | [_, _], _ => rfl
noncomputable abbrev Fx.f_law_zt_deed_drawn (F : Fx P w K mg) : FuncData := F.d_law_zt_deed_drawn.choose
theorem Fx.o_law_zt_deed_drawn (F : Fx P w K mg) : FunD K "_law_zt_deed_drawn" "_law_zt_deed_drawn" (defArgs s_law_zt_deed_drawn) (defBody s_law_zt_deed_drawn) (defScope s_law_zt_deed_drawn) [] [] (He.ga K "_law_zt_deed_drawn") F.f_law_zt_deed_drawn := F.d_law_zt_deed_drawn.choose_spec
theorem Fx.p_law_zt_deed_drawn (F : Fx P w K mg) : PySem.W.keepIn K (.ref (He.ga K "_law_zt_deed_drawn")) = true := F.o_law_zt_deed_drawn.kp
theorem b_law_zt_deed_drawn (F : Fx P w K mg) : Binds K F.f_law_zt_deed_drawn p_law_zt_deed_drawn [] := F.o_law_zt_deed_drawn.bindsN fun _ _ _ _ _ _ us hl => match us, hl with | [_], _ => rfl
noncomputable abbrev Fx.f_law_dl_heard (F : Fx P w K mg) : FuncData := F.d_law_dl_heard.choose
theorem Fx.o_law_dl_heard (F : Fx P w K mg) : FunD K "_law_dl_heard" "_law_dl_heard" (defArgs s_law_dl_heard) (defBody s_law_dl_heard) (defScope s_law_dl_heard) [] [] (He.ga K "_law_dl_heard") F.f_law_dl_heard := F.d_law_dl_heard.choose_spec
theorem Fx.p_law_dl_heard (F : Fx P w K mg) : PySem.W.keepIn K (.ref (He.ga K "_law_dl_heard")) = true := F.o_law_dl_heard.kp
theorem b_law_dl_heard (F : Fx P w K mg) : Binds K F.f_law_dl_heard p_law_dl_heard [] := F.o_law_dl_heard.bindsN fun _ _ _ _ _ _ us hl => match us, hl with | [_], _ => rfl
noncomputable abbrev Fx.f_law_dl_is_own (F : Fx P w K mg) : FuncData := F.d_law_dl_is_own.choose
theorem Fx.o_law_dl_is_own (F : Fx P w K mg) : FunD K "_law_dl_is_own" "_law_dl_is_own" (defArgs s_law_dl_is_own) (defBody s_law_dl_is_own) (defScope s_law_dl_is_own) [] [] (He.ga K "_law_dl_is_own") F.f_law_dl_is_own := F.d_law_dl_is_own.choose_spec
theorem Fx.p_law_dl_is_own (F : Fx P w K mg) : PySem.W.keepIn K (.ref (He.ga K "_law_dl_is_own")) = true := F.o_law_dl_is_own.kp
theorem b_law_dl_is_own (F : Fx P w K mg) : Binds K F.f_law_dl_is_own p_law_dl_is_own [] := F.o_law_dl_is_own.bindsN fun _ _ _ _ _ _ us hl => match us, hl with | [_], _ => rfl
noncomputable abbrev Fx.f_law_dl_bent (F : Fx P w K mg) : FuncData := F.d_law_dl_bent.choose
theorem Fx.o_law_dl_bent (F : Fx P w K mg) : FunD K "_law_dl_bent" "_law_dl_bent" (defArgs s_law_dl_bent) (defBody s_law_dl_bent) (defScope s_law_dl_bent) [] [] (He.ga K "_law_dl_bent") F.f_law_dl_bent := F.d_law_dl_bent.choose_spec
theorem Fx.p_law_dl_bent (F : Fx P w K mg) : PySem.W.keepIn K (.ref (He.ga K "_law_dl_bent")) = true := F.o_law_dl_bent.kp
theorem b_law_dl_bent (F : Fx P w K mg) : Binds K F.f_law_dl_bent p_law_dl_bent [] := F.o_law_dl_bent.bindsN fun _ _ _ _ _ _ us hl => match us, hl with | [_, _], _ => rfl
noncomputable abbrev Fx.f_law_dl_thing_right (F : Fx P w K mg) : FuncData := F.d_law_dl_thing_right.choose
theorem Fx.o_law_dl_thing_right (F : Fx P w K mg) : FunD K "_law_dl_thing_right" "_law_dl_thing_right" (defArgs s_law_dl_thing_right) (defBody s_law_dl_thing_right) (defScope s_law_dl_thing_right) [] [] (He.ga K "_law_dl_thing_right") F.f_law_dl_thing_right := F.d_law_dl_thing_right.choose_spec
theorem Fx.p_law_dl_thing_right (F : Fx P w K mg) : PySem.W.keepIn K (.ref (He.ga K "_law_dl_thing_right")) = true := F.o_law_dl_thing_right.kp
theorem b_law_dl_thing_right (F : Fx P w K mg) : Binds K F.f_law_dl_thing_right p_law_dl_thing_right [] := F.o_law_dl_thing_right.bindsN fun _ _ _ _ _ _ us hl => match us, hl with | [_], _ => rfl
noncomputable abbrev Fx.f_law_dl_text_right (F : Fx P w K mg) : FuncData := F.d_law_dl_text_right.choose
theorem Fx.o_law_dl_text_right (F : Fx P w K mg) : FunD K "_law_dl_text_right" "_law_dl_text_right" (defArgs s_law_dl_text_right) (defBody s_law_dl_text_right) (defScope s_law_dl_text_right) [] [] (He.ga K "_law_dl_text_right") F.f_law_dl_text_right := F.d_law_dl_text_right.choose_spec
theorem Fx.p_law_dl_text_right (F : Fx P w K mg) : PySem.W.keepIn K (.ref (He.ga K "_law_dl_text_right")) = true := F.o_law_dl_text_right.kp
theorem b_law_dl_text_right (F : Fx P w K mg) : Binds K F.f_law_dl_text_right p_law_dl_text_right [] := F.o_law_dl_text_right.bindsN fun _ _ _ _ _ _ us hl => match us, hl with | [_], _ => rfl
noncomputable abbrev Fx.f_law_dl_planted_right (F : Fx P w K mg) : FuncData := F.d_law_dl_planted_right.choose
theorem Fx.o_law_dl_planted_right (F : Fx P w K mg) : FunD K "_law_dl_planted_right" "_law_dl_planted_right" (defArgs s_law_dl_planted_right) (defBody s_law_dl_planted_right) (defScope s_law_dl_planted_right) [] [] (He.ga K "_law_dl_planted_right") F.f_law_dl_planted_right := F.d_law_dl_planted_right.choose_spec
theorem Fx.p_law_dl_planted_right (F : Fx P w K mg) : PySem.W.keepIn K (.ref (He.ga K "_law_dl_planted_right")) = true := F.o_law_dl_planted_right.kp
theorem b_law_dl_planted_right (F : Fx P w K mg) : Binds K F.f_law_dl_planted_right p_law_dl_planted_right [] := F.o_law_dl_planted_right.bindsN fun _ _ _ _ _ _ us hl => match us, hl with | [_], _ => rfl
noncomputable abbrev Fx.f_law (F : Fx P w K mg) : FuncData := F.d_law.choose
theorem Fx.o_law (F : Fx P w K mg) : FunD K "law" "law" (defArgs s_law) (defBody s_law) (defScope s_law) [] [] (He.ga K "law") F.f_law := F.d_law.choose_spec
theorem Fx.p_law (F : Fx P w K mg) : PySem.W.keepIn K (.ref (He.ga K "law")) = true := F.o_law.kp
theorem b_law (F : Fx P w K mg) : Binds K F.f_law p_law [] := F.o_law.bindsN fun _ _ _ _ _ _ us hl => match us, hl with | [_], _ => rfl
noncomputable abbrev Fx.f_init (F : Fx P w K mg) : FuncData := F.d_init.choose
theorem Fx.o_init (F : Fx P w K mg) : FunD K "__init__" "Refused.__init__" (defArgs s_init) (defBody s_init) (defScope s_init) [] [] (He.fAd K ("Refused", some "__init__")) F.f_init := F.d_init.choose_spec
theorem b_init (F : Fx P w K mg) : Binds K F.f_init n_init [] := F.o_init.bindsN fun _ _ _ _ _ _ us hl => match us, hl with | [_, _], _ => rfl
theorem ok_init (F : Fx P w K mg) : FnOk P w K mg base CX0 1 (He.fAd K ("Refused", some "__init__")) F.f_init n_init (ZdX.spInit K) := by
  refine F.o_init.ok sc_init (fun vs H Q E h => ?_) fun cdv A outer s H vs Q E hr h => ⟨ZdX.t_init K, ?_, ZdX.pure_init h⟩
  · obtain ⟨a, C, v, rfl, _⟩ := h
    rfl
  · exact pss_cons (ps_expr (pe_veinit rfl F.b_ValueError F.v_init (pa_cons (pv 0) (pa_cons (pv 1) pa_nil)))) (pss_one (ps_ost (pv 0) (pv 1)))
def t_whole (K : PySem.W.Frag) : TS := (tRet (tAndV (tCB (rIsi K) (tCons (tVar 0) (tCons (tC (.ty "int")) tNil))) (tAndV (tNotV (tCB (rIsi K) (tCons (tVar 0) (tCons (tC (.ty "bool")) tNil)))) (tChain Zd.rLe Zd.rLe (tVar 1) (tVar 0) (tVar 2)))))
theorem ok_whole {sp : Sp} (F : Fx P w K mg)  (len : ∀ vs H Q E, sp vs H Q E → vs.length = 3) (wp : ∀ vs H Q E, sp vs H Q E → t_whole K  { nx := fun _ H' => Q .non H', rt := Q } (L2.start n_whole vs) H) : FnOk P w K mg base CX0 1 (He.ga K "whole") F.f_whole p_whole sp := by
  refine F.o_whole.ok sc_whole len fun cdv A outer s H vs Q E hr h => ⟨t_whole K , ?_, wp vs H Q E h⟩
  exact PSs.nox (pss_one (ps_ret (pe_and (pe_callB call_isi (by rfl) F.b_isinstance boot_isinstance (pa_cons (pv 0) (pa_cons (pe_bltn (v := .ty "int") (by rfl) F.b_int boot_int rfl) pa_nil))) (pe_and (pe_not (pe_callB call_isi (by rfl) F.b_isinstance boot_isinstance (pa_cons (pv 0) (pa_cons (pe_bltn (v := .ty "bool") (by rfl) F.b_bool boot_bool rfl) pa_nil)))) (pe_one (pe_chain o_le o_le (pv 1) (pv 0) (pv 2)))))))
def t_least_part (K : PySem.W.Frag) (w : World) : TS := (tRet (tIf (tAnd (tTest (tOp (rIn K false) (tVar 0) (tC (.ref (He.ga K "PRICED_DEEDS"))))) (tTest (tOp (rEqU K) (tVar 1) (tOp (rKdGet K w (He.ga K "DEED_SIZES")) (tC (.ref (He.ga K "DEED_SIZES"))) (tVar 0))))) (tC (.int (-1))) (tC (.int 0))))
theorem ok_least_part {sp : Sp} (F : Fx P w K mg)  (len : ∀ vs H Q E, sp vs H Q E → vs.length = 2) (wp : ∀ vs H Q E, sp vs H Q E → t_least_part K w  { nx := fun _ H' => Q .non H', rt := Q } (L2.start n_least_part vs) H) : FnOk P w K mg base CX0 1 (He.ga K "least_part") F.f_least_part p_least_part sp := by
  refine F.o_least_part.ok sc_least_part len fun cdv A outer s H vs Q E hr h => ⟨t_least_part K w , ?_, wp vs H Q E h⟩
  exact PSs.nox (pss_one (ps_ret (pe_ifExp (PW.pt (pw_and (pt_cmpR op_in_seq (pv 0) (pe_glob rfl F.k_PRICED_DEEDS rfl) (by rfl)) (pw_and1 (pt_cmpR (o_eqU hr.units) (pv 1) (pe_ix (i_kdGet F.t_DEED_SIZES.choose_spec.choose_spec) (pe_glob rfl F.k_DEED_SIZES rfl) (pv 0) (fun _ _ => rfl)) (nomark _))))) (pe_glob rfl F.k_FIRM.choose_spec ⟨_, rfl⟩) pe_int)))
def t_is_deed (K : PySem.W.Frag) (w : World) (sp_least_part sp_whole : Sp) : TS := (tSeq (tIfS (tOr (tNot (tB (tCB (rIsi K) (tCons (tVar 0) (tCons (tC (.ty "tuple")) tNil))))) (tOr (tTest (tOp (rEqU K) (tVar 0) (tTup tNil))) (tOr (tNot (tB (tCB (rIsi K) (tCons (tOp (rIx K) (tVar 0) (tC (.int 0))) (tCons (tC (.ty "str")) tNil))))) (tTest (tOp (rKdNotIn K (He.ga K "DEED_SIZES")) (tOp (rIx K) (tVar 0) (tC (.int 0))) (tC (.ref (He.ga K "DEED_SIZES")))))))) (tRet (tC (.bl false))) tNext) (tSeq (tAsg (tOp (rIx K) (tVar 0) (tC (.int 0))) (gName 1)) (tSeq (tIfS (tTest (tOp (rNeU K) (tCB (rLenV K) (tCons (tVar 0) tNil)) (tOp (rAddU K) (tOp (rKdGet K w (He.ga K "DEED_SIZES")) (tC (.ref (He.ga K "DEED_SIZES"))) (tVar 1)) (tC (.int 1))))) (tRet (tC (.bl false))) tNext) (tRet (tCB (rAll K) (tCons (tLc (iRng2 (tCons (tC (.int 1)) (tCons (tCB (rLenV K) (tCons (tVar 0) tNil)) tNil))) (gName 2) tYes (tCall sp_whole [] E0 (tCons (tOp (rIx K) (tVar 0) (tVar 2)) (tCons (tCall sp_least_part [] E0 (tCons (tVar 1) (tCons (tVar 2) tNil))) (tCons (tC (.int 99999999999999999999)) tNil)))) [2]) tNil))))))
theorem ok_is_deed {sp : Sp} {sp_least_part sp_whole : Sp} (F : Fx P w K mg) (G_least_part : FnOk P w K mg base CX0 1 (He.ga K "least_part") F.f_least_part p_least_part sp_least_part) (G_whole : FnOk P w K mg base CX0 1 (He.ga K "whole") F.f_whole p_whole sp_whole) (len : ∀ vs H Q E, sp vs H Q E → vs.length = 1) (wp : ∀ vs H Q E, sp vs H Q E → t_is_deed K w sp_least_part sp_whole { nx := fun _ H' => Q .non H', rt := Q } (L2.start n_is_deed vs) H) : FnOk P w K mg base CX0 2 (He.ga K "is_deed") F.f_is_deed p_is_deed sp := by
  refine F.o_is_deed.ok sc_is_deed len fun cdv A outer s H vs Q E hr h => ⟨t_is_deed K w sp_least_part sp_whole, ?_, wp vs H Q E h⟩
  exact PSs.nox (pss_cons (ps_if (PW.pt (pw_or (pt_not (pt_val (pe_callB call_isi (by rfl) F.b_isinstance boot_isinstance (pa_cons (pv 0) (pa_cons (pe_bltn (v := .ty "tuple") (by rfl) F.b_tuple boot_tuple rfl) pa_nil))))) (pw_or (pt_cmpR (o_eqU hr.units) (pv 0) (pe_tup pa_nil) (nomark _)) (pw_or (pt_not (pt_val (pe_callB call_isi (by rfl) F.b_isinstance boot_isinstance (pa_cons (pe_ix ix_seq (pv 0) pe_int (fun _ _ => rfl)) (pa_cons (pe_bltn (v := .ty "str") (by rfl) F.b_str boot_str rfl) pa_nil))))) (pw_or1 (pt_cmpR (o_kdNotIn F.t_DEED_SIZES.choose_spec.choose_spec) (pe_ix ix_seq (pv 0) pe_int (fun _ _ => rfl)) (pe_glob rfl F.k_DEED_SIZES rfl) (by rfl))))))) (pss_one (ps_ret pe_bl)) pss_nil) (pss_cons (ps_set (i := 1) sc_is_deed.nd rfl (.inr rfl) (pe_ix ix_seq (pv 0) pe_int (fun _ _ => rfl))) (pss_cons (ps_if (pt_cmpR (o_neU hr.units) (pe_callB c_len (by rfl) F.b_len boot_len (pa_cons (pv 0) pa_nil)) (pe_op o_addU (pe_ix (i_kdGet F.t_DEED_SIZES.choose_spec.choose_spec) (pe_glob rfl F.k_DEED_SIZES rfl) (pv 1) (fun _ _ => rfl)) pe_int) (nomark _)) (pss_one (ps_ret pe_bl)) pss_nil) (pss_one (ps_ret (pe_callB (cr_all rfl) (by rfl) F.b_all boot_all (pa_cons (pe_lc (own := [("at", 2)]) (by rfl) sc_is_deed.nd (pi_range2 rfl F.b_range (pa_cons pe_int (pa_cons (pe_callB c_len (by rfl) F.b_len boot_len (pa_cons (pv 0) pa_nil)) pa_nil))) (blkOk_by (own := [("at", 2)]) (N := n_is_deed) (sc := defScope s_is_deed) (by decide +kernel)) (fun _ _ _ _ _ => (pg_name (i := 2) sc_is_deed.nd rfl (.inl rfl))) (fun _ _ _ _ _ => pts_nil) (fun _ _ _ _ _ => (pe_call G_whole (hr.mono (by decide)) rfl F.g_whole F.p_whole (b_whole F) .nil pass0 (pa_cons (pe_ix ix_seq (pv 0) (pv 2) (fun _ _ => rfl)) (pa_cons (pe_call G_least_part (hr.mono (by decide)) rfl F.g_least_part F.p_least_part (b_least_part F) .nil pass0 (pa_cons (pv 1) (pa_cons (pv 2) pa_nil))) (pa_cons (pe_glob rfl F.k_MOST_DEED_NUMBER.choose_spec ⟨_, rfl⟩) pa_nil)))))) pa_nil)))))))
def t_asked_text (K : PySem.W.Frag) (E : XK) : TS := (tSeq (tIfS (tNot (tB (tCB (rIsi K) (tCons (tVar 0) (tCons (tC (.ty "str")) tNil))))) (tRaiseW K (He.ga K "BadText") E (tCons (tUn rNeg (tC (.int 1))) tNil)) tNext) (tSeq (tIfS (tTest (tOp Zd.rGt (tCB (rLenV K) (tCons (tVar 0) tNil)) (tC (.int 200000)))) (tRaiseW K (He.ga K "TooMany") E (tCons (tCB (rLenV K) (tCons (tVar 0) tNil)) tNil)) tNext) (tRet (tVar 0))))
theorem ok_asked_text {sp : Sp} (F : Fx P w K mg)  (len : ∀ vs H Q E, sp vs H Q E → vs.length = 1) (wp : ∀ vs H Q E, sp vs H Q E → t_asked_text K  E { nx := fun _ H' => Q .non H', rt := Q } (L2.start n_asked_text vs) H) : FnOk P w K mg base (L2N.CX P w) 3 (He.ga K "asked_text") F.f_asked_text p_asked_text sp := by
  refine F.o_asked_text.ok sc_asked_text len fun cdv A outer s H vs Q E hr h => ⟨t_asked_text K  E, ?_, wp vs H Q E h⟩
  exact (pss_cons (ps_if (pt_not (pt_val (pe_callB call_isi (by rfl) F.b_isinstance boot_isinstance (pa_cons (pv 0) (pa_cons (pe_bltn (v := .ty "str") (by rfl) F.b_str boot_str rfl) pa_nil))))) (pss_one (L2N.ps_raise rfl (show L2N.Takes _ (fun cls d _ H => E cls d H) from L2N.takes_of rfl rfl rfl rfl) (ZdX.pmkN F.e_BadText.oex F.e_BadText.ini F.e_BadText.ity (ok_init F) (hr.mono (by decide)) (b_init F) pass0 rfl F.k_BadText (pa_cons (pe_un u_neg pe_int) pa_nil)))) pss_nil) (pss_cons (ps_if (pt_cmpR o_gt (pe_callB c_len (by rfl) F.b_len boot_len (pa_cons (pv 0) pa_nil)) (pe_glob rfl F.k_MOST_SIGNS.choose_spec ⟨_, rfl⟩) (nomark _)) (pss_one (L2N.ps_raise rfl (show L2N.Takes _ (fun cls d _ H => E cls d H) from L2N.takes_of rfl rfl rfl rfl) (ZdX.pmkN F.e_TooMany.oex F.e_TooMany.ini F.e_TooMany.ity (ok_init F) (hr.mono (by decide)) (b_init F) pass0 rfl F.k_TooMany (pa_cons (pe_callB c_len (by rfl) F.b_len boot_len (pa_cons (pv 0) pa_nil)) pa_nil)))) pss_nil) (pss_one (ps_ret (pv 0)))))
def t_lines_of (K : PySem.W.Frag) : TS := (tRet (tM1 rSplit (tVar 0) (tC (.str "\n"))))
theorem ok_lines_of {sp : Sp} (F : Fx P w K mg)  (len : ∀ vs H Q E, sp vs H Q E → vs.length = 1) (wp : ∀ vs H Q E, sp vs H Q E → t_lines_of K  { nx := fun _ H' => Q .non H', rt := Q } (L2.start n_lines_of vs) H) : FnOk P w K mg base CX0 1 (He.ga K "lines_of") F.f_lines_of p_lines_of sp := by
  refine F.o_lines_of.ok sc_lines_of len fun cdv A outer s H vs Q E hr h => ⟨t_lines_of K , ?_, wp vs H Q E h⟩
  exact PSs.nox (pss_one (ps_ret (pe_m1 PySem.F.slot_str_split PySem.F.type_str_split m_split (pv 0) pe_str)))
def t_words_of (K : PySem.W.Frag) : TS := (tRet (tM1 rSplit (tVar 0) (tC (.str " "))))
theorem ok_words_of {sp : Sp} (F : Fx P w K mg)  (len : ∀ vs H Q E, sp vs H Q E → vs.length = 1) (wp : ∀ vs H Q E, sp vs H Q E → t_words_of K  { nx := fun _ H' => Q .non H', rt := Q } (L2.start n_words_of vs) H) : FnOk P w K mg base CX0 1 (He.ga K "words_of") F.f_words_of p_words_of sp := by
  refine F.o_words_of.ok sc_words_of len fun cdv A outer s H vs Q E hr h => ⟨t_words_of K , ?_, wp vs H Q E h⟩
  exact PSs.nox (pss_one (ps_ret (pe_m1 PySem.F.slot_str_split PySem.F.type_str_split m_split (pv 0) pe_str)))
def t_asked_lines (K : PySem.W.Frag) (sp_asked_text sp_lines_of sp_words_of : Sp) (E : XK) : TS := (tRet (tLc (iList K (tCall sp_lines_of [] E0 (tCons (tCall sp_asked_text [] E (tCons (tVar 0) tNil)) tNil))) (gName 1) tYes (tCall sp_words_of [] E0 (tCons (tVar 1) tNil)) [1]))
theorem ok_asked_lines {sp : Sp} {sp_asked_text sp_lines_of sp_words_of : Sp} (F : Fx P w K mg) (G_asked_text : FnOk P w K mg base (L2N.CX P w) 3 (He.ga K "asked_text") F.f_asked_text p_asked_text sp_asked_text) (G_lines_of : FnOk P w K mg base CX0 1 (He.ga K "lines_of") F.f_lines_of p_lines_of sp_lines_of) (G_words_of : FnOk P w K mg base CX0 1 (He.ga K "words_of") F.f_words_of p_words_of sp_words_of) (len : ∀ vs H Q E, sp vs H Q E → vs.length = 1) (wp : ∀ vs H Q E, sp vs H Q E → t_asked_lines K sp_asked_text sp_lines_of sp_words_of E { nx := fun _ H' => Q .non H', rt := Q } (L2.start n_asked_lines vs) H) : FnOk P w K mg base (L2N.CX P w) 4 (He.ga K "asked_lines") F.f_asked_lines p_asked_lines sp := by
  refine F.o_asked_lines.ok sc_asked_lines len fun cdv A outer s H vs Q E hr h => ⟨t_asked_lines K sp_asked_text sp_lines_of sp_words_of E, ?_, wp vs H Q E h⟩
  exact (pss_one (ps_ret (pe_lc (own := [("line", 1)]) (by rfl) sc_asked_lines.nd (pi_list (pe_call G_lines_of (hr.mono (by decide)) rfl F.g_lines_of F.p_lines_of (b_lines_of F) .nil pass0 (pa_cons (pe_call G_asked_text (hr.mono (by decide)) rfl F.g_asked_text F.p_asked_text (b_asked_text F) .nil (L2N.passes_call (show L2N.Takes _ (fun cls d _ H => E cls d H) from L2N.takes_of rfl rfl rfl rfl) (fun _ _ _ _ z => z)) (pa_cons (pv 0) pa_nil)) pa_nil))) (blkOk_by (own := [("line", 1)]) (N := n_asked_lines) (sc := defScope s_asked_lines) (by decide +kernel)) (fun _ _ _ _ _ => (pg_name (i := 1) sc_asked_lines.nd rfl (.inl rfl))) (fun _ _ _ _ _ => pts_nil) (fun _ _ _ _ _ => (pe_call G_words_of (hr.mono (by decide)) rfl F.g_words_of F.p_words_of (b_words_of F) .nil pass0 (pa_cons (pv 1) pa_nil))))))
def t_number_of (K : PySem.W.Frag) : TS := (tSeq (tIfS (tOr (tNot (tTest (tChain Zd.rLe Zd.rLe (tC (.int 1)) (tCB (rLenV K) (tCons (tVar 0) tNil)) (tC (.int 20))))) (tNot (tB (tCB (rAll K) (tCons (tLc (iStr (tVar 0)) (gName 1) tYes (tOp rInS (tVar 1) (tC (.str "0123456789"))) [1]) tNil))))) (tRet (tC .non)) tNext) (tRet (tIf (tAnd (tTest (tOp (rEqU K) (tOp (rIx K) (tVar 0) (tC (.int 0))) (tC (.str "0")))) (tTest (tOp Zd.rGt (tCB (rLenV K) (tCons (tVar 0) tNil)) (tC (.int 1))))) (tC .non) (tCB rIntU (tCons (tVar 0) tNil)))))
theorem ok_number_of {sp : Sp} (F : Fx P w K mg)  (len : ∀ vs H Q E, sp vs H Q E → vs.length = 1) (wp : ∀ vs H Q E, sp vs H Q E → t_number_of K  { nx := fun _ H' => Q .non H', rt := Q } (L2.start n_number_of vs) H) : FnOk P w K mg base CX0 1 (He.ga K "number_of") F.f_number_of p_number_of sp := by
  refine F.o_number_of.ok sc_number_of len fun cdv A outer s H vs Q E hr h => ⟨t_number_of K , ?_, wp vs H Q E h⟩
  exact PSs.nox (pss_cons (ps_if (PW.pt (pw_or (pt_not (pt_chain o_le o_le pe_int (pe_callB c_len (by rfl) F.b_len boot_len (pa_cons (pv 0) pa_nil)) (pe_glob rfl F.k_MOST_FIGURES.choose_spec ⟨_, rfl⟩))) (pw_or1 (pt_not (pt_val (pe_callB (cr_all rfl) (by rfl) F.b_all boot_all (pa_cons (pe_lc (own := [("sign", 1)]) (by rfl) sc_number_of.nd (pi_str (pv 0)) (blkOk_by (own := [("sign", 1)]) (N := n_number_of) (sc := defScope s_number_of) (by decide +kernel)) (fun _ _ _ _ _ => (pg_name (i := 1) sc_number_of.nd rfl (.inl rfl))) (fun _ _ _ _ _ => pts_nil) (fun _ _ _ _ _ => (pe_cmpR op_inS (pv 1) (pe_glob rfl F.k_FIGURES.choose_spec ⟨_, rfl⟩) (by rfl)))) pa_nil))))))) (pss_one (ps_ret pe_non)) pss_nil) (pss_one (ps_ret (pe_ifExp (PW.pt (pw_and (pt_cmpR (o_eqU hr.units) (pe_ix ix_seq (pv 0) pe_int (fun _ _ => rfl)) pe_str (nomark _)) (pw_and1 (pt_cmpR o_gt (pe_callB c_len (by rfl) F.b_len boot_len (pa_cons (pv 0) pa_nil)) pe_int (nomark _))))) pe_non (pe_callTy c_intU (by rfl) F.b_int boot_int (pa_cons (pv 0) pa_nil))))))
def t_asked_end (K : PySem.W.Frag) (E : XK) : TS := (tIfS (tTest (tOp Zd.rGt (tCB (rLenV K) (tCons (tVar 0) tNil)) (tVar 1))) (tRaiseW K (He.ga K "WrongLine") E (tCons (tTup (tCons (tVar 1) (tCons (tC (.int 0)) tNil))) tNil)) tNext)
theorem ok_asked_end {sp : Sp} (F : Fx P w K mg)  (len : ∀ vs H Q E, sp vs H Q E → vs.length = 2) (wp : ∀ vs H Q E, sp vs H Q E → t_asked_end K  E { nx := fun _ H' => Q .non H', rt := Q } (L2.start n_asked_end vs) H) : FnOk P w K mg base (L2N.CX P w) 3 (He.ga K "asked_end") F.f_asked_end p_asked_end sp := by
  refine F.o_asked_end.ok sc_asked_end len fun cdv A outer s H vs Q E hr h => ⟨t_asked_end K  E, ?_, wp vs H Q E h⟩
  exact (pss_one (ps_if (pt_cmpR o_gt (pe_callB c_len (by rfl) F.b_len boot_len (pa_cons (pv 0) pa_nil)) (pv 1) (nomark _)) (pss_one (L2N.ps_raise rfl (show L2N.Takes _ (fun cls d _ H => E cls d H) from L2N.takes_of rfl rfl rfl rfl) (ZdX.pmkN F.e_WrongLine.oex F.e_WrongLine.ini F.e_WrongLine.ity (ok_init F) (hr.mono (by decide)) (b_init F) pass0 rfl F.k_WrongLine (pa_cons (pe_tup (pa_cons (pv 1) (pa_cons pe_int pa_nil))) pa_nil)))) pss_nil))
def t_row_text (K : PySem.W.Frag) : TS := (tRet (tM1 (rJoin K) (tC (.str " ")) (tLst (tCons (tVar 0) (StX.tStar K (tLc (iList K (tVar 1)) (gName 2) tYes (tCB rStr (tCons (tVar 2) tNil)) [2]) tNil)))))
theorem ok_row_text {sp : Sp} (F : Fx P w K mg)  (len : ∀ vs H Q E, sp vs H Q E → vs.length = 2) (wp : ∀ vs H Q E, sp vs H Q E → t_row_text K  { nx := fun _ H' => Q .non H', rt := Q } (L2.start n_row_text vs) H) : FnOk P w K mg base CX0 1 (He.ga K "row_text") F.f_row_text p_row_text sp := by
  refine F.o_row_text.ok sc_row_text len fun cdv A outer s H vs Q E hr h => ⟨t_row_text K , ?_, wp vs H Q E h⟩
  exact PSs.nox (pss_one (ps_ret (pe_m1 PySem.F.slot_str_join PySem.F.type_str_join m_join pe_str (pe_lst (pa_cons (pv 0) (StX.pa_star (pe_lc (own := [("thing", 2)]) (by rfl) sc_row_text.nd (pi_list (pv 1)) (blkOk_by (own := [("thing", 2)]) (N := n_row_text) (sc := defScope s_row_text) (by decide +kernel)) (fun _ _ _ _ _ => (pg_name (i := 2) sc_row_text.nd rfl (.inl rfl))) (fun _ _ _ _ _ => pts_nil) (fun _ _ _ _ _ => (pe_callTy c_str (by rfl) F.b_str boot_str (pa_cons (pv 2) pa_nil)))) pa_nil))))))
def t_price_text (K : PySem.W.Frag) : TS := (tRet (tIf (tTest (tOp (rEqU K) (tVar 0) (tC (.int (-1))))) (tC (.str "firm")) (tCB rStr (tCons (tVar 0) tNil))))
theorem ok_price_text {sp : Sp} (F : Fx P w K mg)  (len : ∀ vs H Q E, sp vs H Q E → vs.length = 1) (wp : ∀ vs H Q E, sp vs H Q E → t_price_text K  { nx := fun _ H' => Q .non H', rt := Q } (L2.start n_price_text vs) H) : FnOk P w K mg base CX0 1 (He.ga K "price_text") F.f_price_text p_price_text sp := by
  refine F.o_price_text.ok sc_price_text len fun cdv A outer s H vs Q E hr h => ⟨t_price_text K , ?_, wp vs H Q E h⟩
  exact PSs.nox (pss_one (ps_ret (pe_ifExp (pt_cmpR (o_eqU hr.units) (pv 0) (pe_glob rfl F.k_FIRM.choose_spec ⟨_, rfl⟩) (nomark _)) (pe_glob rfl F.k_FIRM_WORD.choose_spec ⟨_, rfl⟩) (pe_callTy c_str (by rfl) F.b_str boot_str (pa_cons (pv 0) pa_nil)))))
def t_deed_text (K : PySem.W.Frag) (sp_is_deed sp_price_text sp_row_text : Sp) (E : XK) : TS := (tSeq (tIfS (tNot (tB (tCall sp_is_deed [] E0 (tCons (tVar 0) tNil)))) (tRaiseW K (He.ga K "BadDeed") E (tCons (tC (.int 0)) tNil)) tNext) (tRet (tCall sp_row_text [] E0 (tCons (tOp (rIx K) (tVar 0) (tC (.int 0))) (tCons (tLc (iTup K (tSl (rSlU K) (tVar 0) (tPart (tC (.int 1))) tNoPart)) (gName 1) tYes (tCall sp_price_text [] E0 (tCons (tVar 1) tNil)) [1]) tNil)))))
theorem ok_deed_text {sp : Sp} {sp_is_deed sp_price_text sp_row_text : Sp} (F : Fx P w K mg) (G_is_deed : FnOk P w K mg base CX0 2 (He.ga K "is_deed") F.f_is_deed p_is_deed sp_is_deed) (G_price_text : FnOk P w K mg base CX0 1 (He.ga K "price_text") F.f_price_text p_price_text sp_price_text) (G_row_text : FnOk P w K mg base CX0 1 (He.ga K "row_text") F.f_row_text p_row_text sp_row_text) (len : ∀ vs H Q E, sp vs H Q E → vs.length = 1) (wp : ∀ vs H Q E, sp vs H Q E → t_deed_text K sp_is_deed sp_price_text sp_row_text E { nx := fun _ H' => Q .non H', rt := Q } (L2.start n_deed_text vs) H) : FnOk P w K mg base (L2N.CX P w) 3 (He.ga K "deed_text") F.f_deed_text p_deed_text sp := by
  refine F.o_deed_text.ok sc_deed_text len fun cdv A outer s H vs Q E hr h => ⟨t_deed_text K sp_is_deed sp_price_text sp_row_text E, ?_, wp vs H Q E h⟩
  exact (pss_cons (ps_if (pt_not (pt_val (pe_call G_is_deed (hr.mono (by decide)) rfl F.g_is_deed F.p_is_deed (b_is_deed F) .nil pass0 (pa_cons (pv 0) pa_nil)))) (pss_one (L2N.ps_raise rfl (show L2N.Takes _ (fun cls d _ H => E cls d H) from L2N.takes_of rfl rfl rfl rfl) (ZdX.pmkN F.e_BadDeed.oex F.e_BadDeed.ini F.e_BadDeed.ity (ok_init F) (hr.mono (by decide)) (b_init F) pass0 rfl F.k_BadDeed (pa_cons pe_int pa_nil)))) pss_nil) (pss_one (ps_ret (pe_call G_row_text (hr.mono (by decide)) rfl F.g_row_text F.p_row_text (b_row_text F) .nil pass0 (pa_cons (pe_ix ix_seq (pv 0) pe_int (fun _ _ => rfl)) (pa_cons (pe_lc (own := [("part", 1)]) (by rfl) sc_deed_text.nd (pi_tup (pe_slice sl_U (pv 0) (po_some pe_int) po_none)) (blkOk_by (own := [("part", 1)]) (N := n_deed_text) (sc := defScope s_deed_text) (by decide +kernel)) (fun _ _ _ _ _ => (pg_name (i := 1) sc_deed_text.nd rfl (.inl rfl))) (fun _ _ _ _ _ => pts_nil) (fun _ _ _ _ _ => (pe_call G_price_text (hr.mono (by decide)) rfl F.g_price_text F.p_price_text (b_price_text F) .nil pass0 (pa_cons (pv 1) pa_nil)))) pa_nil))))))
def t_part_of_deed (K : PySem.W.Frag) (sp_least_part sp_number_of : Sp) : TS := (tSeq (tIfS (tAnd (tTest (tOp (rEqU K) (tVar 2) (tC (.str "firm")))) (tTest (tOp (rEqU K) (tCall sp_least_part [] E0 (tCons (tVar 0) (tCons (tVar 1) tNil))) (tC (.int (-1)))))) (tRet (tC (.int (-1)))) tNext) (tRet (tCall sp_number_of [] E0 (tCons (tVar 2) tNil))))
theorem ok_part_of_deed {sp : Sp} {sp_least_part sp_number_of : Sp} (F : Fx P w K mg) (G_least_part : FnOk P w K mg base CX0 1 (He.ga K "least_part") F.f_least_part p_least_part sp_least_part) (G_number_of : FnOk P w K mg base CX0 1 (He.ga K "number_of") F.f_number_of p_number_of sp_number_of) (len : ∀ vs H Q E, sp vs H Q E → vs.length = 3) (wp : ∀ vs H Q E, sp vs H Q E → t_part_of_deed K sp_least_part sp_number_of { nx := fun _ H' => Q .non H', rt := Q } (L2.start n_part_of_deed vs) H) : FnOk P w K mg base CX0 2 (He.ga K "part_of_deed") F.f_part_of_deed p_part_of_deed sp := by
  refine F.o_part_of_deed.ok sc_part_of_deed len fun cdv A outer s H vs Q E hr h => ⟨t_part_of_deed K sp_least_part sp_number_of, ?_, wp vs H Q E h⟩
  exact PSs.nox (pss_cons (ps_if (PW.pt (pw_and (pt_cmpR (o_eqU hr.units) (pv 2) (pe_glob rfl F.k_FIRM_WORD.choose_spec ⟨_, rfl⟩) (nomark _)) (pw_and1 (pt_cmpR (o_eqU hr.units) (pe_call G_least_part (hr.mono (by decide)) rfl F.g_least_part F.p_least_part (b_least_part F) .nil pass0 (pa_cons (pv 0) (pa_cons (pv 1) pa_nil))) (pe_glob rfl F.k_FIRM.choose_spec ⟨_, rfl⟩) (nomark _))))) (pss_one (ps_ret (pe_glob rfl F.k_FIRM.choose_spec ⟨_, rfl⟩))) pss_nil) (pss_one (ps_ret (pe_call G_number_of (hr.mono (by decide)) rfl F.g_number_of F.p_number_of (b_number_of F) .nil pass0 (pa_cons (pv 2) pa_nil)))))
def t_deed_of (K : PySem.W.Frag) (w : World) (sp_part_of_deed : Sp) : TS := (tSeq (tIfS (tTest (tOp (rKdNotIn K (He.ga K "DEED_SIZES")) (tOp (rIx K) (tVar 0) (tC (.int 0))) (tC (.ref (He.ga K "DEED_SIZES"))))) (tRet (tTup (tCons (tC .non) (tCons (tC (.int 0)) tNil)))) tNext) (tSeq (tAsg (tLst (tCons (tOp (rIx K) (tVar 0) (tC (.int 0))) tNil)) (gName 1)) (tSeq (tFor (iRng2 (tCons (tC (.int 1)) (tCons (tOp (rAddU K) (tOp (rKdGet K w (He.ga K "DEED_SIZES")) (tC (.ref (He.ga K "DEED_SIZES"))) (tOp (rIx K) (tVar 0) (tC (.int 0)))) (tC (.int 1))) tNil))) (gName 2) (tSeq (tAsg (tIf (tTest (tOp Zd.rLt (tVar 2) (tCB (rLenV K) (tCons (tVar 0) tNil)))) (tCall sp_part_of_deed [] E0 (tCons (tOp (rIx K) (tVar 0) (tC (.int 0))) (tCons (tVar 2) (tCons (tOp (rIx K) (tVar 0) (tVar 2)) tNil)))) (tC .non)) (gName 3)) (tSeq (tIfS (tTest (tOp rIsN (tVar 3) (tC .non))) (tRet (tTup (tCons (tC .non) (tCons (tVar 2) tNil)))) tNext) (tDrop (tBM K "list" rAppend (tVar 1) (tCons (tVar 3) tNil)))))) (tRet (tIf (tTest (tOp (rEqU K) (tCB (rLenV K) (tCons (tVar 0) tNil)) (tCB (rLenV K) (tCons (tVar 1) tNil)))) (tTup (tCons (tCB (rTupO K) (tCons (tVar 1) tNil)) (tCons (tC .non) tNil))) (tTup (tCons (tC .non) (tCons (tCB (rLenV K) (tCons (tVar 1) tNil)) tNil))))))))
theorem ok_deed_of {sp : Sp} {sp_part_of_deed : Sp} (F : Fx P w K mg) (G_part_of_deed : FnOk P w K mg base CX0 2 (He.ga K "part_of_deed") F.f_part_of_deed p_part_of_deed sp_part_of_deed) (len : ∀ vs H Q E, sp vs H Q E → vs.length = 1) (wp : ∀ vs H Q E, sp vs H Q E → t_deed_of K w sp_part_of_deed { nx := fun _ H' => Q .non H', rt := Q } (L2.start n_deed_of vs) H) : FnOk P w K mg base CX0 3 (He.ga K "deed_of") F.f_deed_of p_deed_of sp := by
  refine F.o_deed_of.ok sc_deed_of len fun cdv A outer s H vs Q E hr h => ⟨t_deed_of K w sp_part_of_deed, ?_, wp vs H Q E h⟩
  exact PSs.nox (pss_cons (ps_if (pt_cmpR (o_kdNotIn F.t_DEED_SIZES.choose_spec.choose_spec) (pe_ix ix_seq (pv 0) pe_int (fun _ _ => rfl)) (pe_glob rfl F.k_DEED_SIZES rfl) (by rfl)) (pss_one (ps_ret (pe_tup (pa_cons pe_non (pa_cons pe_int pa_nil))))) pss_nil) (pss_cons (ps_set (i := 1) sc_deed_of.nd rfl (.inl rfl) (pe_lst (pa_cons (pe_ix ix_seq (pv 0) pe_int (fun _ _ => rfl)) pa_nil))) (pss_cons (ps_for PassesOwn.never rfl (pi_range2 rfl F.b_range (pa_cons pe_int (pa_cons (pe_op o_addU (pe_ix (i_kdGet F.t_DEED_SIZES.choose_spec.choose_spec) (pe_glob rfl F.k_DEED_SIZES rfl) (pe_ix ix_seq (pv 0) pe_int (fun _ _ => rfl)) (fun _ _ => rfl)) pe_int) pa_nil))) (pg_name (i := 2) sc_deed_of.nd rfl (.inl rfl)) (pss_cons (ps_set (i := 3) sc_deed_of.nd rfl (.inl rfl) (pe_ifExp (pt_cmpR o_lt (pv 2) (pe_callB c_len (by rfl) F.b_len boot_len (pa_cons (pv 0) pa_nil)) (nomark _)) (pe_call G_part_of_deed (hr.mono (by decide)) rfl F.g_part_of_deed F.p_part_of_deed (b_part_of_deed F) .nil pass0 (pa_cons (pe_ix ix_seq (pv 0) pe_int (fun _ _ => rfl)) (pa_cons (pv 2) (pa_cons (pe_ix ix_seq (pv 0) (pv 2) (fun _ _ => rfl)) pa_nil)))) pe_non)) (pss_cons (ps_if (pt_cmpR op_isN1 (pv 3) pe_non (nomark _)) (pss_one (ps_ret (pe_tup (pa_cons pe_non (pa_cons (pv 2) pa_nil))))) pss_nil) (pss_one (ps_expr (pe_bm PySem.F.plainAttrs_list PySem.F.slot_list_append PySem.F.type_list_append mt_append (pv 1) (pa_cons (pv 3) pa_nil))))))) (pss_one (ps_ret (pe_ifExp (pt_cmpR (o_eqU hr.units) (pe_callB c_len (by rfl) F.b_len boot_len (pa_cons (pv 0) pa_nil)) (pe_callB c_len (by rfl) F.b_len boot_len (pa_cons (pv 1) pa_nil)) (nomark _)) (pe_tup (pa_cons (pe_callTy c_tup (by rfl) F.b_tuple boot_tuple (pa_cons (pv 1) pa_nil)) (pa_cons pe_non pa_nil))) (pe_tup (pa_cons pe_non (pa_cons (pe_callB c_len (by rfl) F.b_len boot_len (pa_cons (pv 1) pa_nil)) pa_nil)))))))))
def t_read_deed (K : PySem.W.Frag) (sp_asked_lines sp_deed_of sp_asked_end : Sp) (E : XK) : TS := (tSeq (tAsg (tCall sp_asked_lines [] E (tCons (tVar 0) tNil)) (gName 1)) (tSeq (tAsg (tCall sp_deed_of [] E0 (tCons (tOp (rIx K) (tVar 1) (tC (.int 0))) tNil)) (gTup K 2 (gCons (gName 2) (gCons (gName 3) gNil)))) (tSeq (tIfS (tTest (tOp rNotN (tVar 3) (tC .non))) (tRaiseW K (He.ga K "WrongLine") E (tCons (tTup (tCons (tC (.int 0)) (tCons (tVar 3) tNil))) tNil)) tNext) (tSeq (tDrop (tCall sp_asked_end [] E (tCons (tVar 1) (tCons (tC (.int 1)) tNil)))) (tRet (tVar 2))))))
theorem ok_read_deed {sp : Sp} {sp_asked_lines sp_deed_of sp_asked_end : Sp} (F : Fx P w K mg) (G_asked_lines : FnOk P w K mg base (L2N.CX P w) 4 (He.ga K "asked_lines") F.f_asked_lines p_asked_lines sp_asked_lines) (G_deed_of : FnOk P w K mg base CX0 3 (He.ga K "deed_of") F.f_deed_of p_deed_of sp_deed_of) (G_asked_end : FnOk P w K mg base (L2N.CX P w) 3 (He.ga K "asked_end") F.f_asked_end p_asked_end sp_asked_end) (len : ∀ vs H Q E, sp vs H Q E → vs.length = 1) (wp : ∀ vs H Q E, sp vs H Q E → t_read_deed K sp_asked_lines sp_deed_of sp_asked_end E { nx := fun _ H' => Q .non H', rt := Q } (L2.start n_read_deed vs) H) : FnOk P w K mg base (L2N.CX P w) 5 (He.ga K "read_deed") F.f_read_deed p_read_deed sp := by
  refine F.o_read_deed.ok sc_read_deed len fun cdv A outer s H vs Q E hr h => ⟨t_read_deed K sp_asked_lines sp_deed_of sp_asked_end E, ?_, wp vs H Q E h⟩
  exact (pss_cons (ps_set (i := 1) sc_read_deed.nd rfl (.inl rfl) (pe_call G_asked_lines (hr.mono (by decide)) rfl F.g_asked_lines F.p_asked_lines (b_asked_lines F) .nil (L2N.passes_call (show L2N.Takes _ (fun cls d _ H => E cls d H) from L2N.takes_of rfl rfl rfl rfl) (fun _ _ _ _ z => z)) (pa_cons (pv 0) pa_nil))) (pss_cons (ps_asg (pe_call G_deed_of (hr.mono (by decide)) rfl F.g_deed_of F.p_deed_of (b_deed_of F) .nil pass0 (pa_cons (pe_ix ix_seq (pv 1) pe_int (fun _ _ => rfl)) pa_nil)) (pg_tup rfl (pgs_cons (pg_name (i := 2) sc_read_deed.nd rfl (.inl rfl)) (pgs_cons (pg_name (i := 3) sc_read_deed.nd rfl (.inl rfl)) pgs_nil)))) (pss_cons (ps_if (pt_cmpR op_notN1 (pv 3) pe_non (nomark _)) (pss_one (L2N.ps_raise rfl (show L2N.Takes _ (fun cls d _ H => E cls d H) from L2N.takes_of rfl rfl rfl rfl) (ZdX.pmkN F.e_WrongLine.oex F.e_WrongLine.ini F.e_WrongLine.ity (ok_init F) (hr.mono (by decide)) (b_init F) pass0 rfl F.k_WrongLine (pa_cons (pe_tup (pa_cons pe_int (pa_cons (pv 3) pa_nil))) pa_nil)))) pss_nil) (pss_cons (ps_expr (pe_call G_asked_end (hr.mono (by decide)) rfl F.g_asked_end F.p_asked_end (b_asked_end F) .nil (L2N.passes_call (show L2N.Takes _ (fun cls d _ H => E cls d H) from L2N.takes_of rfl rfl rfl rfl) (fun _ _ _ _ z => z)) (pa_cons (pv 1) (pa_cons pe_int pa_nil)))) (pss_one (ps_ret (pv 2)))))))
def t_law_zq_is_whole (K : PySem.W.Frag) : TS := (tRet (tAndV (tCB (rIsi K) (tCons (tVar 0) (tCons (tC (.ty "int")) tNil))) (tNotV (tCB (rIsi K) (tCons (tVar 0) (tCons (tC (.ty "bool")) tNil))))))
theorem ok_law_zq_is_whole {sp : Sp} (F : Fx P w K mg)  (len : ∀ vs H Q E, sp vs H Q E → vs.length = 1) (wp : ∀ vs H Q E, sp vs H Q E → t_law_zq_is_whole K  { nx := fun _ H' => Q .non H', rt := Q } (L2.start n_law_zq_is_whole vs) H) : FnOk P w K mg base CX0 1 (He.ga K "_law_zq_is_whole") F.f_law_zq_is_whole p_law_zq_is_whole sp := by
  refine F.o_law_zq_is_whole.ok sc_law_zq_is_whole len fun cdv A outer s H vs Q E hr h => ⟨t_law_zq_is_whole K , ?_, wp vs H Q E h⟩
  exact PSs.nox (pss_one (ps_ret (pe_and (pe_callB call_isi (by rfl) F.b_isinstance boot_isinstance (pa_cons (pv 0) (pa_cons (pe_bltn (v := .ty "int") (by rfl) F.b_int boot_int rfl) pa_nil))) (pe_one (pe_not (pe_callB call_isi (by rfl) F.b_isinstance boot_isinstance (pa_cons (pv 0) (pa_cons (pe_bltn (v := .ty "bool") (by rfl) F.b_bool boot_bool rfl) pa_nil))))))))
def t_law_pool (K : PySem.W.Frag) : TS := (tSeq (tAsg (tTup (tCons (tC (.int 0)) (tCons (tC (.int 7)) tNil))) (gTup K 2 (gCons (gName 1) (gCons (gName 2) gNil)))) (tSeq (tFor (iRng1 (tCons (tCB (rLenV K) (tCons (tVar 0) tNil)) tNil)) (gName 3) (tSeq (tAsg (tCB rIntU (tCons (tCB rMx2 (tCons (tOp (rIx K) (tVar 0) (tVar 3)) (tCons (tOp Zd.rSub (tUn rNeg (tC (.int 1))) (tOp (rIx K) (tVar 0) (tVar 3))) tNil))) tNil)) (gName 4)) (tSeq (tAsg (tOp Zd.rMod (tCB rIntU (tCons (tOp (rAddU K) (tOp (rAddU K) (tOp rMulU (tVar 2) (tC (.int 48271))) (tOp Zd.rMod (tVar 4) (tC (.int 2147483629)))) (tC (.int 11))) tNil)) (tC (.int 2147483647))) (gName 2)) (tAsg (tIf (tAnd (tTest (tOp Zd.rGe (tVar 4) (tOp Zd.rPow (tC (.int 10)) (tC (.int 12))))) (tTest (tOp Zd.rLt (tVar 1) (tOp Zd.rPow (tC (.int 10)) (tC (.int 60)))))) (tCB rIntU (tCons (tOp (rAddU K) (tOp rMulU (tVar 1) (tOp Zd.rPow (tC (.int 10)) (tC (.int 60)))) (tOp Zd.rMod (tVar 4) (tOp Zd.rPow (tC (.int 10)) (tC (.int 60))))) tNil)) (tVar 1)) (gName 1))))) (tRet (tLst (tCons (tVar 1) (tCons (tVar 2) (tCons (tC (.int 0)) tNil)))))))
theorem ok_law_pool {sp : Sp} (F : Fx P w K mg)  (len : ∀ vs H Q E, sp vs H Q E → vs.length = 1) (wp : ∀ vs H Q E, sp vs H Q E → t_law_pool K  { nx := fun _ H' => Q .non H', rt := Q } (L2.start n_law_pool vs) H) : FnOk P w K mg base CX0 1 (He.ga K "_law_pool") F.f_law_pool p_law_pool sp := by
  refine F.o_law_pool.ok sc_law_pool len fun cdv A outer s H vs Q E hr h => ⟨t_law_pool K , ?_, wp vs H Q E h⟩
  exact PSs.nox (pss_cons (ps_asg (pe_tup (pa_cons pe_int (pa_cons pe_int pa_nil))) (pg_tup rfl (pgs_cons (pg_name (i := 1) sc_law_pool.nd rfl (.inl rfl)) (pgs_cons (pg_name (i := 2) sc_law_pool.nd rfl (.inl rfl)) pgs_nil)))) (pss_cons (ps_for PassesOwn.never rfl (pi_range1 rfl F.b_range (pa_cons (pe_callB c_len (by rfl) F.b_len boot_len (pa_cons (pv 0) pa_nil)) pa_nil)) (pg_name (i := 3) sc_law_pool.nd rfl (.inl rfl)) (pss_cons (ps_set (i := 4) sc_law_pool.nd rfl (.inl rfl) (pe_callTy c_intU (by rfl) F.b_int boot_int (pa_cons (pe_callB (c_max2 rfl) (by rfl) F.b_max boot_max (pa_cons (pe_ix ix_seq (pv 0) (pv 3) (fun _ _ => rfl)) (pa_cons (pe_op o_sub (pe_un u_neg pe_int) (pe_ix ix_seq (pv 0) (pv 3) (fun _ _ => rfl))) pa_nil))) pa_nil))) (pss_cons (ps_set (i := 2) sc_law_pool.nd rfl (.inl rfl) (pe_op o_mod (pe_callTy c_intU (by rfl) F.b_int boot_int (pa_cons (pe_op o_addU (pe_op o_addU (pe_op o_mulU (pv 2) pe_int) (pe_op o_mod (pv 4) pe_int)) pe_int) pa_nil)) pe_int)) (pss_one (ps_set (i := 1) sc_law_pool.nd rfl (.inl rfl) (pe_ifExp (PW.pt (pw_and (pt_cmpR o_ge (pv 4) (pe_op o_pow pe_int pe_int) (nomark _)) (pw_and1 (pt_cmpR o_lt (pv 1) (pe_op o_pow pe_int pe_int) (nomark _))))) (pe_callTy c_intU (by rfl) F.b_int boot_int (pa_cons (pe_op o_addU (pe_op o_mulU (pv 1) (pe_op o_pow pe_int pe_int)) (pe_op o_mod (pv 4) (pe_op o_pow pe_int pe_int))) pa_nil)) (pv 1))))))) (pss_one (ps_ret (pe_lst (pa_cons (pv 1) (pa_cons (pv 2) (pa_cons pe_int pa_nil))))))))
def t_law_take (K : PySem.W.Frag) : TS := (tSeq (tIfS (tTest (tOp Zd.rGt (tOp (rIx K) (tVar 0) (tC (.int 0))) (tC (.int 0)))) (tSeq (tAsg (tOp Zd.rMod (tCB rIntU (tCons (tOp (rIx K) (tVar 0) (tC (.int 0))) tNil)) (tVar 1)) (gName 2)) (tSeq (tAsg (tOp Zd.rDiv (tOp (rIx K) (tVar 0) (tC (.int 0))) (tVar 1)) (gSub (tVar 0) (tC (.int 0)) rSetL)) (tRet (tVar 2)))) tNext) (tSeq (tAsg (tOp (rAddU K) (tOp (rIx K) (tVar 0) (tC (.int 2))) (tC (.int 1))) (gSub (tVar 0) (tC (.int 2)) rSetL)) (tSeq (tAsg (tOp Zd.rMod (tCB rIntU (tCons (tOp (rAddU K) (tOp (rAddU K) (tOp rMulU (tOp (rIx K) (tVar 0) (tC (.int 1))) (tC (.int 39373))) (tOp rMulU (tC (.int 7919)) (tOp (rIx K) (tVar 0) (tC (.int 2))))) (tC (.int 7))) tNil)) (tC (.int 2147483647))) (gSub (tVar 0) (tC (.int 1)) rSetL)) (tRet (tOp Zd.rMod (tCB rIntU (tCons (tOp Zd.rDiv (tOp Zd.rMod (tCB rIntU (tCons (tOp rMulU (tOp (rIx K) (tVar 0) (tC (.int 1))) (tOp (rIx K) (tVar 0) (tC (.int 1)))) tNil)) (tC (.int 2147483629))) (tC (.int 32))) tNil)) (tVar 1))))))
theorem ok_law_take {sp : Sp} (F : Fx P w K mg)  (len : ∀ vs H Q E, sp vs H Q E → vs.length = 2) (wp : ∀ vs H Q E, sp vs H Q E → t_law_take K  { nx := fun _ H' => Q .non H', rt := Q } (L2.start n_law_take vs) H) : FnOk P w K mg base CX0 1 (He.ga K "_law_take") F.f_law_take p_law_take sp := by
  refine F.o_law_take.ok sc_law_take len fun cdv A outer s H vs Q E hr h => ⟨t_law_take K , ?_, wp vs H Q E h⟩
  exact PSs.nox (pss_cons (ps_if (pt_cmpR o_gt (pe_ix ix_seq (pv 0) pe_int (fun _ _ => rfl)) pe_int (nomark _)) (pss_cons (ps_set (i := 2) sc_law_take.nd rfl (.inl rfl) (pe_op o_mod (pe_callTy c_intU (by rfl) F.b_int boot_int (pa_cons (pe_ix ix_seq (pv 0) pe_int (fun _ _ => rfl)) pa_nil)) (pv 1))) (pss_cons (ps_asg (pe_op o_div (pe_ix ix_seq (pv 0) pe_int (fun _ _ => rfl)) (pv 1)) (pg_sub (pv 0) pe_int set_list)) (pss_one (ps_ret (pv 2))))) pss_nil) (pss_cons (ps_asg (pe_op o_addU (pe_ix ix_seq (pv 0) pe_int (fun _ _ => rfl)) pe_int) (pg_sub (pv 0) pe_int set_list)) (pss_cons (ps_asg (pe_op o_mod (pe_callTy c_intU (by rfl) F.b_int boot_int (pa_cons (pe_op o_addU (pe_op o_addU (pe_op o_mulU (pe_ix ix_seq (pv 0) pe_int (fun _ _ => rfl)) pe_int) (pe_op o_mulU pe_int (pe_ix ix_seq (pv 0) pe_int (fun _ _ => rfl)))) pe_int) pa_nil)) pe_int) (pg_sub (pv 0) pe_int set_list)) (pss_one (ps_ret (pe_op o_mod (pe_callTy c_intU (by rfl) F.b_int boot_int (pa_cons (pe_op o_div (pe_op o_mod (pe_callTy c_intU (by rfl) F.b_int boot_int (pa_cons (pe_op o_mulU (pe_ix ix_seq (pv 0) pe_int (fun _ _ => rfl)) (pe_ix ix_seq (pv 0) pe_int (fun _ _ => rfl))) pa_nil)) pe_int) pe_int) pa_nil)) (pv 1)))))))
def t_law_one (K : PySem.W.Frag) (sp_law_take : Sp) : TS := (tRet (tOp (rIx K) (tVar 1) (tCall sp_law_take [] E0 (tCons (tVar 0) (tCons (tCB (rLenV K) (tCons (tVar 1) tNil)) tNil)))))
theorem ok_law_one {sp : Sp} {sp_law_take : Sp} (F : Fx P w K mg) (G_law_take : FnOk P w K mg base CX0 1 (He.ga K "_law_take") F.f_law_take p_law_take sp_law_take) (len : ∀ vs H Q E, sp vs H Q E → vs.length = 2) (wp : ∀ vs H Q E, sp vs H Q E → t_law_one K sp_law_take { nx := fun _ H' => Q .non H', rt := Q } (L2.start n_law_one vs) H) : FnOk P w K mg base CX0 2 (He.ga K "_law_one") F.f_law_one p_law_one sp := by
  refine F.o_law_one.ok sc_law_one len fun cdv A outer s H vs Q E hr h => ⟨t_law_one K sp_law_take, ?_, wp vs H Q E h⟩
  exact PSs.nox (pss_one (ps_ret (pe_ix ix_seq (pv 1) (pe_call G_law_take (hr.mono (by decide)) rfl F.g_law_take F.p_law_take (b_law_take F) .nil pass0 (pa_cons (pv 0) (pa_cons (pe_callB c_len (by rfl) F.b_len boot_len (pa_cons (pv 1) pa_nil)) pa_nil))) (fun _ _ => rfl))))
def t_law_zt_number (K : PySem.W.Frag) : TS := (tSeq (tIfS (tOr (tTest (tOp (rEqU K) (tVar 0) (tC (.str "")))) (tOr (tTest (tOp Zd.rGt (tCB (rLenV K) (tCons (tVar 0) tNil)) (tC (.int 20)))) (tTest (tOp (rNeU K) (tLc (iStr (tVar 0)) (gName 1) (tTest (tOp rNotInS (tVar 1) (tC (.str "0123456789")))) (tVar 1) [1]) (tLst tNil))))) (tRet (tC .non)) tNext) (tRet (tIf (tOr (tTest (tOp (rEqU K) (tVar 0) (tC (.str "0")))) (tTest (tOp (rNeU K) (tOp (rIx K) (tVar 0) (tC (.int 0))) (tC (.str "0"))))) (tCB rIntU (tCons (tVar 0) tNil)) (tC .non))))
theorem ok_law_zt_number {sp : Sp} (F : Fx P w K mg)  (len : ∀ vs H Q E, sp vs H Q E → vs.length = 1) (wp : ∀ vs H Q E, sp vs H Q E → t_law_zt_number K  { nx := fun _ H' => Q .non H', rt := Q } (L2.start n_law_zt_number vs) H) : FnOk P w K mg base CX0 1 (He.ga K "_law_zt_number") F.f_law_zt_number p_law_zt_number sp := by
  refine F.o_law_zt_number.ok sc_law_zt_number len fun cdv A outer s H vs Q E hr h => ⟨t_law_zt_number K , ?_, wp vs H Q E h⟩
  exact PSs.nox (pss_cons (ps_if (PW.pt (pw_or (pt_cmpR (o_eqU hr.units) (pv 0) pe_str (nomark _)) (pw_or (pt_cmpR o_gt (pe_callB c_len (by rfl) F.b_len boot_len (pa_cons (pv 0) pa_nil)) pe_int (nomark _)) (pw_or1 (pt_cmpR (o_neU hr.units) (pe_lc (own := [("sign", 1)]) (by rfl) sc_law_zt_number.nd (pi_str (pv 0)) (blkOk_by (own := [("sign", 1)]) (N := n_law_zt_number) (sc := defScope s_law_zt_number) (by decide +kernel)) (fun _ _ _ _ _ => (pg_name (i := 1) sc_law_zt_number.nd rfl (.inl rfl))) (fun _ _ _ _ _ => (pts_one (pt_cmpR op_notInS (pv 1) pe_str (by rfl)))) (fun _ _ _ _ _ => (pv 1))) (pe_lst pa_nil) (nomark _)))))) (pss_one (ps_ret pe_non)) pss_nil) (pss_one (ps_ret (pe_ifExp (PW.pt (pw_or (pt_cmpR (o_eqU hr.units) (pv 0) pe_str (nomark _)) (pw_or1 (pt_cmpR (o_neU hr.units) (pe_ix ix_seq (pv 0) pe_int (fun _ _ => rfl)) pe_str (nomark _))))) (pe_callTy c_intU (by rfl) F.b_int boot_int (pa_cons (pv 0) pa_nil)) pe_non))))
def t_law_zt_price (K : PySem.W.Frag) (sp_law_zt_number : Sp) : TS := (tSeq (tAsg (tIf (tTest (tOp (rEqU K) (tVar 0) (tC (.str "firm")))) (tUn rNeg (tC (.int 1))) (tCall sp_law_zt_number [] E0 (tCons (tVar 0) tNil))) (gName 3)) (tSeq (tIfS (tOr (tTest (tOp rIsN (tVar 3) (tC .non))) (tAnd (tTest (tOp Zd.rGe (tVar 3) (tC (.int 0)))) (tOr (tTest (tOp Zd.rLt (tVar 3) (tVar 1))) (tAnd (tTest (tOp rNotN (tVar 2) (tC .non))) (tTest (tOp Zd.rGt (tVar 3) (tVar 2))))))) (tRet (tC .non)) tNext) (tRet (tVar 3))))
theorem ok_law_zt_price {sp : Sp} {sp_law_zt_number : Sp} (F : Fx P w K mg) (G_law_zt_number : FnOk P w K mg base CX0 1 (He.ga K "_law_zt_number") F.f_law_zt_number p_law_zt_number sp_law_zt_number) (len : ∀ vs H Q E, sp vs H Q E → vs.length = 3) (wp : ∀ vs H Q E, sp vs H Q E → t_law_zt_price K sp_law_zt_number { nx := fun _ H' => Q .non H', rt := Q } (L2.start n_law_zt_price vs) H) : FnOk P w K mg base CX0 2 (He.ga K "_law_zt_price") F.f_law_zt_price p_law_zt_price sp := by
  refine F.o_law_zt_price.ok sc_law_zt_price len fun cdv A outer s H vs Q E hr h => ⟨t_law_zt_price K sp_law_zt_number, ?_, wp vs H Q E h⟩
  exact PSs.nox (pss_cons (ps_set (i := 3) sc_law_zt_price.nd rfl (.inl rfl) (pe_ifExp (pt_cmpR (o_eqU hr.units) (pv 0) pe_str (nomark _)) (pe_un u_neg pe_int) (pe_call G_law_zt_number (hr.mono (by decide)) rfl F.g_law_zt_number F.p_law_zt_number (b_law_zt_number F) .nil pass0 (pa_cons (pv 0) pa_nil)))) (pss_cons (ps_if (PW.pt (pw_or (pt_cmpR op_isN1 (pv 3) pe_non (nomark _)) (pw_or1 (PW.pt (pw_and (pt_cmpR o_ge (pv 3) pe_int (nomark _)) (pw_and1 (PW.pt (pw_or (pt_cmpR o_lt (pv 3) (pv 1) (nomark _)) (pw_or1 (PW.pt (pw_and (pt_cmpR op_notN1 (pv 2) pe_non (nomark _)) (pw_and1 (pt_cmpR o_gt (pv 3) (pv 2) (nomark _)))))))))))))) (pss_one (ps_ret pe_non)) pss_nil) (pss_one (ps_ret (pv 3)))))
def t_law_zt_price_word (K : PySem.W.Frag) : TS := (tRet (tIf (tTest (tOp (rEqU K) (tVar 0) (tUn rNeg (tC (.int 1))))) (tC (.str "firm")) (tCB rStr (tCons (tVar 0) tNil))))
theorem ok_law_zt_price_word {sp : Sp} (F : Fx P w K mg)  (len : ∀ vs H Q E, sp vs H Q E → vs.length = 1) (wp : ∀ vs H Q E, sp vs H Q E → t_law_zt_price_word K  { nx := fun _ H' => Q .non H', rt := Q } (L2.start n_law_zt_price_word vs) H) : FnOk P w K mg base CX0 1 (He.ga K "_law_zt_price_word") F.f_law_zt_price_word p_law_zt_price_word sp := by
  refine F.o_law_zt_price_word.ok sc_law_zt_price_word len fun cdv A outer s H vs Q E hr h => ⟨t_law_zt_price_word K , ?_, wp vs H Q E h⟩
  exact PSs.nox (pss_one (ps_ret (pe_ifExp (pt_cmpR (o_eqU hr.units) (pv 0) (pe_un u_neg pe_int) (nomark _)) pe_str (pe_callTy c_str (by rfl) F.b_str boot_str (pa_cons (pv 0) pa_nil)))))
def t_law_zt_line (K : PySem.W.Frag) : TS := (tRet (tM1 (rJoin K) (tC (.str " ")) (tOp (rAddU K) (tLst (tCons (tVar 0) tNil)) (tLc (iList K (tVar 1)) (gName 2) tYes (tCB rStr (tCons (tVar 2) tNil)) [2]))))
theorem ok_law_zt_line {sp : Sp} (F : Fx P w K mg)  (len : ∀ vs H Q E, sp vs H Q E → vs.length = 2) (wp : ∀ vs H Q E, sp vs H Q E → t_law_zt_line K  { nx := fun _ H' => Q .non H', rt := Q } (L2.start n_law_zt_line vs) H) : FnOk P w K mg base CX0 1 (He.ga K "_law_zt_line") F.f_law_zt_line p_law_zt_line sp := by
  refine F.o_law_zt_line.ok sc_law_zt_line len fun cdv A outer s H vs Q E hr h => ⟨t_law_zt_line K , ?_, wp vs H Q E h⟩
  exact PSs.nox (pss_one (ps_ret (pe_m1 PySem.F.slot_str_join PySem.F.type_str_join m_join pe_str (pe_op o_addU (pe_lst (pa_cons (pv 0) pa_nil)) (pe_lc (own := [("much", 2)]) (by rfl) sc_law_zt_line.nd (pi_list (pv 1)) (blkOk_by (own := [("much", 2)]) (N := n_law_zt_line) (sc := defScope s_law_zt_line) (by decide +kernel)) (fun _ _ _ _ _ => (pg_name (i := 2) sc_law_zt_line.nd rfl (.inl rfl))) (fun _ _ _ _ _ => pts_nil) (fun _ _ _ _ _ => (pe_callTy c_str (by rfl) F.b_str boot_str (pa_cons (pv 2) pa_nil))))))))
def t_law_zt_lines (K : PySem.W.Frag) : TS := (tRet (tLc (iList K (tM1 rSplit (tVar 0) (tC (.str "\n")))) (gName 1) tYes (tM1 rSplit (tVar 1) (tC (.str " "))) [1]))
theorem ok_law_zt_lines {sp : Sp} (F : Fx P w K mg)  (len : ∀ vs H Q E, sp vs H Q E → vs.length = 1) (wp : ∀ vs H Q E, sp vs H Q E → t_law_zt_lines K  { nx := fun _ H' => Q .non H', rt := Q } (L2.start n_law_zt_lines vs) H) : FnOk P w K mg base CX0 1 (He.ga K "_law_zt_lines") F.f_law_zt_lines p_law_zt_lines sp := by
  refine F.o_law_zt_lines.ok sc_law_zt_lines len fun cdv A outer s H vs Q E hr h => ⟨t_law_zt_lines K , ?_, wp vs H Q E h⟩
  exact PSs.nox (pss_one (ps_ret (pe_lc (own := [("row", 1)]) (by rfl) sc_law_zt_lines.nd (pi_list (pe_m1 PySem.F.slot_str_split PySem.F.type_str_split m_split (pv 0) pe_str)) (blkOk_by (own := [("row", 1)]) (N := n_law_zt_lines) (sc := defScope s_law_zt_lines) (by decide +kernel)) (fun _ _ _ _ _ => (pg_name (i := 1) sc_law_zt_lines.nd rfl (.inl rfl))) (fun _ _ _ _ _ => pts_nil) (fun _ _ _ _ _ => (pe_m1 PySem.F.slot_str_split PySem.F.type_str_split m_split (pv 1) pe_str)))))
def t_law_zt_wrong (K : PySem.W.Frag) : TS := (tRet (tTup (tCons (tC (.str "WrongLine")) (tCons (tTup (tCons (tVar 0) (tCons (tVar 1) tNil))) tNil))))
theorem ok_law_zt_wrong {sp : Sp} (F : Fx P w K mg)  (len : ∀ vs H Q E, sp vs H Q E → vs.length = 2) (wp : ∀ vs H Q E, sp vs H Q E → t_law_zt_wrong K  { nx := fun _ H' => Q .non H', rt := Q } (L2.start n_law_zt_wrong vs) H) : FnOk P w K mg base CX0 1 (He.ga K "_law_zt_wrong") F.f_law_zt_wrong p_law_zt_wrong sp := by
  refine F.o_law_zt_wrong.ok sc_law_zt_wrong len fun cdv A outer s H vs Q E hr h => ⟨t_law_zt_wrong K , ?_, wp vs H Q E h⟩
  exact PSs.nox (pss_one (ps_ret (pe_tup (pa_cons pe_str (pa_cons (pe_tup (pa_cons (pv 0) (pa_cons (pv 1) pa_nil))) pa_nil)))))
def t_law_zt_end (K : PySem.W.Frag) : TS := (tRet (tIf (tAnd (tTest (tOp (rEqU K) (tOp (rIx K) (tVar 1) (tC (.int 0))) (tC (.str "told")))) (tTest (tOp Zd.rLt (tOp (rIx K) (tVar 1) (tC (.int 2))) (tCB (rLenV K) (tCons (tVar 0) tNil))))) (tTup (tCons (tC (.str "wrong")) (tCons (tOp (rIx K) (tVar 1) (tC (.int 2))) tNil))) (tVar 1)))
theorem ok_law_zt_end {sp : Sp} (F : Fx P w K mg)  (len : ∀ vs H Q E, sp vs H Q E → vs.length = 2) (wp : ∀ vs H Q E, sp vs H Q E → t_law_zt_end K  { nx := fun _ H' => Q .non H', rt := Q } (L2.start n_law_zt_end vs) H) : FnOk P w K mg base CX0 1 (He.ga K "_law_zt_end") F.f_law_zt_end p_law_zt_end sp := by
  refine F.o_law_zt_end.ok sc_law_zt_end len fun cdv A outer s H vs Q E hr h => ⟨t_law_zt_end K , ?_, wp vs H Q E h⟩
  exact PSs.nox (pss_one (ps_ret (pe_ifExp (PW.pt (pw_and (pt_cmpR (o_eqU hr.units) (pe_ix ix_seq (pv 1) pe_int (fun _ _ => rfl)) pe_str (nomark _)) (pw_and1 (pt_cmpR o_lt (pe_ix ix_seq (pv 1) pe_int (fun _ _ => rfl)) (pe_callB c_len (by rfl) F.b_len boot_len (pa_cons (pv 0) pa_nil)) (nomark _))))) (pe_tup (pa_cons pe_str (pa_cons (pe_ix ix_seq (pv 1) pe_int (fun _ _ => rfl)) pa_nil))) (pv 1))))
def t_law_zt_deed_sorts (K : PySem.W.Frag) : TS := (tRet (tDisp [((tC (.str "add")), (tTup (tCons (tC (.int 3)) (tCons (tC (.bl true)) tNil)))), ((tC (.str "drop")), (tTup (tCons (tC (.int 1)) (tCons (tC (.bl false)) tNil)))), ((tC (.str "price")), (tTup (tCons (tC (.int 1)) (tCons (tC (.bl true)) tNil)))), ((tC (.str "budget")), (tTup (tCons (tC (.int 1)) (tCons (tC (.bl false)) tNil)))), ((tC (.str "floor")), (tTup (tCons (tC (.int 3)) (tCons (tC (.bl false)) tNil)))), ((tC (.str "unfloor")), (tTup (tCons (tC (.int 2)) (tCons (tC (.bl false)) tNil))))]))
theorem ok_law_zt_deed_sorts {sp : Sp} (F : Fx P w K mg)  (len : ∀ vs H Q E, sp vs H Q E → vs.length = 0) (wp : ∀ vs H Q E, sp vs H Q E → t_law_zt_deed_sorts K  { nx := fun _ H' => Q .non H', rt := Q } (L2.start n_law_zt_deed_sorts vs) H) : FnOk P w K mg base CX0 1 (He.ga K "_law_zt_deed_sorts") F.f_law_zt_deed_sorts p_law_zt_deed_sorts sp := by
  refine F.o_law_zt_deed_sorts.ok sc_law_zt_deed_sorts len fun cdv A outer s H vs Q E hr h => ⟨t_law_zt_deed_sorts K , ?_, wp vs H Q E h⟩
  exact PSs.nox (pss_one (ps_ret (pe_disp (pps_cons pe_str (pe_tup (pa_cons pe_int (pa_cons pe_bl pa_nil))) (pps_cons pe_str (pe_tup (pa_cons pe_int (pa_cons pe_bl pa_nil))) (pps_cons pe_str (pe_tup (pa_cons pe_int (pa_cons pe_bl pa_nil))) (pps_cons pe_str (pe_tup (pa_cons pe_int (pa_cons pe_bl pa_nil))) (pps_cons pe_str (pe_tup (pa_cons pe_int (pa_cons pe_bl pa_nil))) (pps_cons pe_str (pe_tup (pa_cons pe_int (pa_cons pe_bl pa_nil))) pps_nil)))))) (by rfl) (by rfl) (fun z => by cases z) (by decide))))
def t_law_zt_deed (K : PySem.W.Frag) (sp_law_zt_deed_sorts sp_law_zt_price_word sp_law_zt_line : Sp) : TS := (tSeq (tAsg (tCB (rLstO K) (tCons (tSl (rSlU K) (tVar 0) (tPart (tC (.int 1))) tNoPart) tNil)) (gName 1)) (tSeq (tIfS (tB (tOp (rIx K) (tDGet (tCall sp_law_zt_deed_sorts [] E0 tNil) (tOp (rIx K) (tVar 0) (tC (.int 0)))) (tC (.int 1)))) (tAsg (tCall sp_law_zt_price_word [] E0 (tCons (tOp (rIx K) (tVar 1) (tUn rNeg (tC (.int 1)))) tNil)) (gSub (tVar 1) (tUn rNeg (tC (.int 1))) rSetL)) tNext) (tRet (tCall sp_law_zt_line [] E0 (tCons (tOp (rIx K) (tVar 0) (tC (.int 0))) (tCons (tVar 1) tNil))))))
theorem ok_law_zt_deed {sp : Sp} {sp_law_zt_deed_sorts sp_law_zt_price_word sp_law_zt_line : Sp} (F : Fx P w K mg) (G_law_zt_deed_sorts : FnOk P w K mg base CX0 1 (He.ga K "_law_zt_deed_sorts") F.f_law_zt_deed_sorts p_law_zt_deed_sorts sp_law_zt_deed_sorts) (G_law_zt_price_word : FnOk P w K mg base CX0 1 (He.ga K "_law_zt_price_word") F.f_law_zt_price_word p_law_zt_price_word sp_law_zt_price_word) (G_law_zt_line : FnOk P w K mg base CX0 1 (He.ga K "_law_zt_line") F.f_law_zt_line p_law_zt_line sp_law_zt_line) (len : ∀ vs H Q E, sp vs H Q E → vs.length = 1) (wp : ∀ vs H Q E, sp vs H Q E → t_law_zt_deed K sp_law_zt_deed_sorts sp_law_zt_price_word sp_law_zt_line { nx := fun _ H' => Q .non H', rt := Q } (L2.start n_law_zt_deed vs) H) : FnOk P w K mg base CX0 2 (He.ga K "_law_zt_deed") F.f_law_zt_deed p_law_zt_deed sp := by
  refine F.o_law_zt_deed.ok sc_law_zt_deed len fun cdv A outer s H vs Q E hr h => ⟨t_law_zt_deed K sp_law_zt_deed_sorts sp_law_zt_price_word sp_law_zt_line, ?_, wp vs H Q E h⟩
  exact PSs.nox (pss_cons (ps_set (i := 1) sc_law_zt_deed.nd rfl (.inl rfl) (pe_callTy c_lst (by rfl) F.b_list boot_list (pa_cons (pe_slice sl_U (pv 0) (po_some pe_int) po_none) pa_nil))) (pss_cons (ps_if (pt_val (pe_ix ix_seq (pe_dget (hu_of hr) (pe_call0 G_law_zt_deed_sorts (hr.mono (by decide)) rfl F.g_law_zt_deed_sorts F.p_law_zt_deed_sorts (b_law_zt_deed_sorts F) .nil pass0) (pe_ix ix_seq (pv 0) pe_int (fun _ _ => rfl)) (fun _ _ => rfl)) pe_int (fun _ _ => rfl))) (pss_one (ps_asg (pe_call G_law_zt_price_word (hr.mono (by decide)) rfl F.g_law_zt_price_word F.p_law_zt_price_word (b_law_zt_price_word F) .nil pass0 (pa_cons (pe_ix ix_seq (pv 1) (pe_un u_neg pe_int) (fun _ _ => rfl)) pa_nil)) (pg_sub (pv 1) (pe_un u_neg pe_int) set_list))) pss_nil) (pss_one (ps_ret (pe_call G_law_zt_line (hr.mono (by decide)) rfl F.g_law_zt_line F.p_law_zt_line (b_law_zt_line F) .nil pass0 (pa_cons (pe_ix ix_seq (pv 0) pe_int (fun _ _ => rfl)) (pa_cons (pv 1) pa_nil)))))))
def t_law_zt_deed_in (K : PySem.W.Frag) (sp_law_zt_deed_sorts sp_law_zt_price sp_law_zt_number : Sp) : TS := (tSeq (tPar 1 2 (tCons (tCall sp_law_zt_deed_sorts [] E0 tNil) (tCons (tLst (tCons (tOp (rIx K) (tVar 0) (tC (.int 0))) tNil)) tNil))) (tSeq (tIfS (tB (tDNotIn (tOp (rIx K) (tVar 0) (tC (.int 0))) (tVar 1))) (tRet (tTup (tCons (tC (.str "wrong")) (tCons (tC (.int 0)) tNil)))) tNext) (tSeq (tAsg (tDGet (tVar 1) (tOp (rIx K) (tVar 0) (tC (.int 0)))) (gTup K 2 (gCons (gName 3) (gCons (gName 4) gNil)))) (tSeq (tFor (iRng2 (tCons (tC (.int 1)) (tCons (tOp (rAddU K) (tOp (rAddU K) (tVar 3) (tC (.int 1))) (tCB rIntU (tCons (tVar 4) tNil))) tNil))) (gName 5) (tSeq (tAsg (tIf (tTest (tOp Zd.rLt (tVar 5) (tCB (rLenV K) (tCons (tVar 0) tNil)))) (tOp (rIx K) (tVar 0) (tVar 5)) (tC (.str ""))) (gName 6)) (tSeq (tAsg (tIf (tTest (tOp Zd.rGt (tVar 5) (tVar 3))) (tCall sp_law_zt_price [] E0 (tCons (tVar 6) (tCons (tC (.int 0)) (tCons (tC .non) tNil)))) (tCall sp_law_zt_number [] E0 (tCons (tVar 6) tNil))) (gName 7)) (tSeq (tIfS (tTest (tOp rIsN (tVar 7) (tC .non))) (tRet (tTup (tCons (tC (.str "wrong")) (tCons (tVar 5) tNil)))) tNext) (tDrop (tBM K "list" rAppend (tVar 2) (tCons (tVar 7) tNil))))))) (tRet (tTup (tCons (tC (.str "told")) (tCons (tCB (rTupO K) (tCons (tVar 2) tNil)) (tCons (tCB (rLenV K) (tCons (tVar 2) tNil)) tNil)))))))))
theorem ok_law_zt_deed_in {sp : Sp} {sp_law_zt_deed_sorts sp_law_zt_price sp_law_zt_number : Sp} (F : Fx P w K mg) (G_law_zt_deed_sorts : FnOk P w K mg base CX0 1 (He.ga K "_law_zt_deed_sorts") F.f_law_zt_deed_sorts p_law_zt_deed_sorts sp_law_zt_deed_sorts) (G_law_zt_price : FnOk P w K mg base CX0 2 (He.ga K "_law_zt_price") F.f_law_zt_price p_law_zt_price sp_law_zt_price) (G_law_zt_number : FnOk P w K mg base CX0 1 (He.ga K "_law_zt_number") F.f_law_zt_number p_law_zt_number sp_law_zt_number) (len : ∀ vs H Q E, sp vs H Q E → vs.length = 1) (wp : ∀ vs H Q E, sp vs H Q E → t_law_zt_deed_in K sp_law_zt_deed_sorts sp_law_zt_price sp_law_zt_number { nx := fun _ H' => Q .non H', rt := Q } (L2.start n_law_zt_deed_in vs) H) : FnOk P w K mg base CX0 3 (He.ga K "_law_zt_deed_in") F.f_law_zt_deed_in p_law_zt_deed_in sp := by
  refine F.o_law_zt_deed_in.ok sc_law_zt_deed_in len fun cdv A outer s H vs Q E hr h => ⟨t_law_zt_deed_in K sp_law_zt_deed_sorts sp_law_zt_price sp_law_zt_number, ?_, wp vs H Q E h⟩
  exact PSs.nox (pss_cons (ps_par (i := 1) (j := 2) rfl sc_law_zt_deed_in.nd rfl rfl (by decide) rfl rfl (pa_cons (pe_call0 G_law_zt_deed_sorts (hr.mono (by decide)) rfl F.g_law_zt_deed_sorts F.p_law_zt_deed_sorts (b_law_zt_deed_sorts F) .nil pass0) (pa_cons (pe_lst (pa_cons (pe_ix ix_seq (pv 0) pe_int (fun _ _ => rfl)) pa_nil)) pa_nil)) rfl) (pss_cons (ps_if (pt_cmp (pc_dnotin (hu_of hr) (pe_ix ix_seq (pv 0) pe_int (fun _ _ => rfl)) (pv 1))) (pss_one (ps_ret (pe_tup (pa_cons pe_str (pa_cons pe_int pa_nil))))) pss_nil) (pss_cons (ps_asg (pe_dget (hu_of hr) (pv 1) (pe_ix ix_seq (pv 0) pe_int (fun _ _ => rfl)) (fun _ _ => rfl)) (pg_tup rfl (pgs_cons (pg_name (i := 3) sc_law_zt_deed_in.nd rfl (.inl rfl)) (pgs_cons (pg_name (i := 4) sc_law_zt_deed_in.nd rfl (.inl rfl)) pgs_nil)))) (pss_cons (ps_for PassesOwn.never rfl (pi_range2 rfl F.b_range (pa_cons pe_int (pa_cons (pe_op o_addU (pe_op o_addU (pv 3) pe_int) (pe_callTy c_intU (by rfl) F.b_int boot_int (pa_cons (pv 4) pa_nil))) pa_nil))) (pg_name (i := 5) sc_law_zt_deed_in.nd rfl (.inl rfl)) (pss_cons (ps_set (i := 6) sc_law_zt_deed_in.nd rfl (.inl rfl) (pe_ifExp (pt_cmpR o_lt (pv 5) (pe_callB c_len (by rfl) F.b_len boot_len (pa_cons (pv 0) pa_nil)) (nomark _)) (pe_ix ix_seq (pv 0) (pv 5) (fun _ _ => rfl)) pe_str)) (pss_cons (ps_set (i := 7) sc_law_zt_deed_in.nd rfl (.inl rfl) (pe_ifExp (pt_cmpR o_gt (pv 5) (pv 3) (nomark _)) (pe_call G_law_zt_price (hr.mono (by decide)) rfl F.g_law_zt_price F.p_law_zt_price (b_law_zt_price F) .nil pass0 (pa_cons (pv 6) (pa_cons pe_int (pa_cons pe_non pa_nil)))) (pe_call G_law_zt_number (hr.mono (by decide)) rfl F.g_law_zt_number F.p_law_zt_number (b_law_zt_number F) .nil pass0 (pa_cons (pv 6) pa_nil)))) (pss_cons (ps_if (pt_cmpR op_isN1 (pv 7) pe_non (nomark _)) (pss_one (ps_ret (pe_tup (pa_cons pe_str (pa_cons (pv 5) pa_nil))))) pss_nil) (pss_one (ps_expr (pe_bm PySem.F.plainAttrs_list PySem.F.slot_list_append PySem.F.type_list_append mt_append (pv 2) (pa_cons (pv 7) pa_nil)))))))) (pss_one (ps_ret (pe_tup (pa_cons pe_str (pa_cons (pe_callTy c_tup (by rfl) F.b_tuple boot_tuple (pa_cons (pv 2) pa_nil)) (pa_cons (pe_callB c_len (by rfl) F.b_len boot_len (pa_cons (pv 2) pa_nil)) pa_nil))))))))))
def t_law_zt_deed_read (K : PySem.W.Frag) (sp_law_zt_lines sp_law_zt_deed_in sp_law_zt_end sp_law_zt_wrong : Sp) : TS := (tSeq (tAsg (tCall sp_law_zt_lines [] E0 (tCons (tVar 0) tNil)) (gName 1)) (tSeq (tAsg (tCall sp_law_zt_end [] E0 (tCons (tOp (rIx K) (tVar 1) (tC (.int 0))) (tCons (tCall sp_law_zt_deed_in [] E0 (tCons (tOp (rIx K) (tVar 1) (tC (.int 0))) tNil)) tNil))) (gName 2)) (tSeq (tIfS (tTest (tOp (rEqU K) (tOp (rIx K) (tVar 2) (tC (.int 0))) (tC (.str "wrong")))) (tRet (tCall sp_law_zt_wrong [] E0 (tCons (tC (.int 0)) (tCons (tCB rMi2 (tCons (tOp (rIx K) (tVar 2) (tC (.int 1))) (tCons (tCB (rLenV K) (tCons (tOp (rIx K) (tVar 1) (tC (.int 0))) tNil)) tNil))) tNil)))) tNext) (tRet (tIf (tTest (tOp (rEqU K) (tCB (rLenV K) (tCons (tVar 1) tNil)) (tC (.int 1)))) (tTup (tCons (tC (.str "told")) (tCons (tOp (rIx K) (tVar 2) (tC (.int 1))) tNil))) (tCall sp_law_zt_wrong [] E0 (tCons (tC (.int 1)) (tCons (tC (.int 0)) tNil))))))))
theorem ok_law_zt_deed_read {sp : Sp} {sp_law_zt_lines sp_law_zt_deed_in sp_law_zt_end sp_law_zt_wrong : Sp} (F : Fx P w K mg) (G_law_zt_lines : FnOk P w K mg base CX0 1 (He.ga K "_law_zt_lines") F.f_law_zt_lines p_law_zt_lines sp_law_zt_lines) (G_law_zt_deed_in : FnOk P w K mg base CX0 3 (He.ga K "_law_zt_deed_in") F.f_law_zt_deed_in p_law_zt_deed_in sp_law_zt_deed_in) (G_law_zt_end : FnOk P w K mg base CX0 1 (He.ga K "_law_zt_end") F.f_law_zt_end p_law_zt_end sp_law_zt_end) (G_law_zt_wrong : FnOk P w K mg base CX0 1 (He.ga K "_law_zt_wrong") F.f_law_zt_wrong p_law_zt_wrong sp_law_zt_wrong) (len : ∀ vs H Q E, sp vs H Q E → vs.length = 1) (wp : ∀ vs H Q E, sp vs H Q E → t_law_zt_deed_read K sp_law_zt_lines sp_law_zt_deed_in sp_law_zt_end sp_law_zt_wrong { nx := fun _ H' => Q .non H', rt := Q } (L2.start n_law_zt_deed_read vs) H) : FnOk P w K mg base CX0 4 (He.ga K "_law_zt_deed_read") F.f_law_zt_deed_read p_law_zt_deed_read sp := by
  refine F.o_law_zt_deed_read.ok sc_law_zt_deed_read len fun cdv A outer s H vs Q E hr h => ⟨t_law_zt_deed_read K sp_law_zt_lines sp_law_zt_deed_in sp_law_zt_end sp_law_zt_wrong, ?_, wp vs H Q E h⟩
  exact PSs.nox (pss_cons (ps_set (i := 1) sc_law_zt_deed_read.nd rfl (.inl rfl) (pe_call G_law_zt_lines (hr.mono (by decide)) rfl F.g_law_zt_lines F.p_law_zt_lines (b_law_zt_lines F) .nil pass0 (pa_cons (pv 0) pa_nil))) (pss_cons (ps_set (i := 2) sc_law_zt_deed_read.nd rfl (.inl rfl) (pe_call G_law_zt_end (hr.mono (by decide)) rfl F.g_law_zt_end F.p_law_zt_end (b_law_zt_end F) .nil pass0 (pa_cons (pe_ix ix_seq (pv 1) pe_int (fun _ _ => rfl)) (pa_cons (pe_call G_law_zt_deed_in (hr.mono (by decide)) rfl F.g_law_zt_deed_in F.p_law_zt_deed_in (b_law_zt_deed_in F) .nil pass0 (pa_cons (pe_ix ix_seq (pv 1) pe_int (fun _ _ => rfl)) pa_nil)) pa_nil)))) (pss_cons (ps_if (pt_cmpR (o_eqU hr.units) (pe_ix ix_seq (pv 2) pe_int (fun _ _ => rfl)) pe_str (nomark _)) (pss_one (ps_ret (pe_call G_law_zt_wrong (hr.mono (by decide)) rfl F.g_law_zt_wrong F.p_law_zt_wrong (b_law_zt_wrong F) .nil pass0 (pa_cons pe_int (pa_cons (pe_callB (c_min2 rfl) (by rfl) F.b_min boot_min (pa_cons (pe_ix ix_seq (pv 2) pe_int (fun _ _ => rfl)) (pa_cons (pe_callB c_len (by rfl) F.b_len boot_len (pa_cons (pe_ix ix_seq (pv 1) pe_int (fun _ _ => rfl)) pa_nil)) pa_nil))) pa_nil))))) pss_nil) (pss_one (ps_ret (pe_ifExp (pt_cmpR (o_eqU hr.units) (pe_callB c_len (by rfl) F.b_len boot_len (pa_cons (pv 1) pa_nil)) pe_int (nomark _)) (pe_tup (pa_cons pe_str (pa_cons (pe_ix ix_seq (pv 2) pe_int (fun _ _ => rfl)) pa_nil))) (pe_call G_law_zt_wrong (hr.mono (by decide)) rfl F.g_law_zt_wrong F.p_law_zt_wrong (b_law_zt_wrong F) .nil pass0 (pa_cons pe_int (pa_cons pe_int pa_nil)))))))))
def t_law_zt_word_drawn (K : PySem.W.Frag) (sp_law_one : Sp) : TS := (tSeq (tAsg (tLst (tCons (tC (.str "")) (tCons (tC (.str "0")) (tCons (tC (.str "1")) (tCons (tC (.str "2")) (tCons (tC (.str "3")) (tCons (tC (.str "5")) (tCons (tC (.str "11")) (tCons (tC (.str "12")) (tCons (tC (.str "13")) (tCons (tC (.str "-1")) (tCons (tC (.str "01")) (tCons (tC (.str "1000")) (tCons (tC (.str "1001")) (tCons (tC (.str "firm")) (tCons (tC (.str "Firm")) (tCons (tC (.str "none")) (tCons (tC (.str "0,2")) tNil)))))))))))))))))) (gName 1)) (tSeq (tAsg (tOp (rAddU K) (tVar 1) (tLst (tCons (tC (.str "0,1")) (tCons (tC (.str "1,0")) (tCons (tC (.str "2,")) (tCons (tC (.str "1,3")) (tCons (tC (.str "1,4,6")) (tCons (tCB rStr (tCons (tOp Zd.rSub (tOp Zd.rPow (tC (.int 10)) (tC (.int 20))) (tC (.int 1))) tNil)) (tCons (tCB rStr (tCons (tOp Zd.rPow (tC (.int 10)) (tC (.int 20))) tNil)) (tCons (tC (.str "zones")) (tCons (tC (.str "heads")) (tCons (tC (.str "order")) tNil)))))))))))) (gName 1)) (tSeq (tAsg (tOp (rAddU K) (tVar 1) (tLst (tCons (tC (.str "cuts")) (tCons (tC (.str "close")) (tCons (tC (.str "take")) (tCons (tC (.str "feed")) (tCons (tC (.str "step")) (tCons (tC (.str "row")) (tCons (tC (.str "times")) (tCons (tC (.str "either")) (tCons (tC (.str "round")) (tCons (tC (.str "bound")) (tCons (tC (.str "loss")) tNil))))))))))))) (gName 1)) (tSeq (tAsg (tOp (rAddU K) (tVar 1) (tLst (tCons (tC (.str "rounds")) (tCons (tC (.str "trail")) (tCons (tC (.str "split")) (tCons (tC (.str "ring")) (tCons (tC (.str "stay")) (tCons (tC (.str "lift")) (tCons (tC (.str "pass")) (tCons (tC (.str "add")) (tCons (tC (.str "drop")) (tCons (tC (.str "price")) (tCons (tC (.str "budget")) tNil))))))))))))) (gName 1)) (tSeq (tAsg (tOp (rAddU K) (tVar 1) (tLst (tCons (tC (.str "floor")) (tCons (tC (.str "unfloor")) (tCons (tC (.str "undo")) (tCons (tC (.str "redo")) (tCons (tC (.str "+")) (tCons (tC (.str "-")) (tCons (tC (.str "x")) (tCons (tCB rStr (tCons (tOp Zd.rPow (tC (.int 10)) (tC (.int 9))) tNil)) (tCons (tCB rStr (tCons (tOp (rAddU K) (tOp Zd.rPow (tC (.int 10)) (tC (.int 9))) (tC (.int 1))) tNil)) (tCons (tC (.str "120")) (tCons (tC (.str "121")) tNil))))))))))))) (gName 1)) (tRet (tCall sp_law_one [] E0 (tCons (tVar 0) (tCons (tVar 1) tNil)))))))))
theorem ok_law_zt_word_drawn {sp : Sp} {sp_law_one : Sp} (F : Fx P w K mg) (G_law_one : FnOk P w K mg base CX0 2 (He.ga K "_law_one") F.f_law_one p_law_one sp_law_one) (len : ∀ vs H Q E, sp vs H Q E → vs.length = 1) (wp : ∀ vs H Q E, sp vs H Q E → t_law_zt_word_drawn K sp_law_one { nx := fun _ H' => Q .non H', rt := Q } (L2.start n_law_zt_word_drawn vs) H) : FnOk P w K mg base CX0 3 (He.ga K "_law_zt_word_drawn") F.f_law_zt_word_drawn p_law_zt_word_drawn sp := by
  refine F.o_law_zt_word_drawn.ok sc_law_zt_word_drawn len fun cdv A outer s H vs Q E hr h => ⟨t_law_zt_word_drawn K sp_law_one, ?_, wp vs H Q E h⟩
  exact PSs.nox (pss_cons (ps_set (i := 1) sc_law_zt_word_drawn.nd rfl (.inl rfl) (pe_lst (pa_cons pe_str (pa_cons pe_str (pa_cons pe_str (pa_cons pe_str (pa_cons pe_str (pa_cons pe_str (pa_cons pe_str (pa_cons pe_str (pa_cons pe_str (pa_cons pe_str (pa_cons pe_str (pa_cons pe_str (pa_cons pe_str (pa_cons pe_str (pa_cons pe_str (pa_cons pe_str (pa_cons pe_str pa_nil))))))))))))))))))) (pss_cons (ps_set (i := 1) sc_law_zt_word_drawn.nd rfl (.inl rfl) (pe_op o_addU (pv 1) (pe_lst (pa_cons pe_str (pa_cons pe_str (pa_cons pe_str (pa_cons pe_str (pa_cons pe_str (pa_cons (pe_callTy c_str (by rfl) F.b_str boot_str (pa_cons (pe_op o_sub (pe_op o_pow pe_int pe_int) pe_int) pa_nil)) (pa_cons (pe_callTy c_str (by rfl) F.b_str boot_str (pa_cons (pe_op o_pow pe_int pe_int) pa_nil)) (pa_cons pe_str (pa_cons pe_str (pa_cons pe_str pa_nil))))))))))))) (pss_cons (ps_set (i := 1) sc_law_zt_word_drawn.nd rfl (.inl rfl) (pe_op o_addU (pv 1) (pe_lst (pa_cons pe_str (pa_cons pe_str (pa_cons pe_str (pa_cons pe_str (pa_cons pe_str (pa_cons pe_str (pa_cons pe_str (pa_cons pe_str (pa_cons pe_str (pa_cons pe_str (pa_cons pe_str pa_nil)))))))))))))) (pss_cons (ps_set (i := 1) sc_law_zt_word_drawn.nd rfl (.inl rfl) (pe_op o_addU (pv 1) (pe_lst (pa_cons pe_str (pa_cons pe_str (pa_cons pe_str (pa_cons pe_str (pa_cons pe_str (pa_cons pe_str (pa_cons pe_str (pa_cons pe_str (pa_cons pe_str (pa_cons pe_str (pa_cons pe_str pa_nil)))))))))))))) (pss_cons (ps_set (i := 1) sc_law_zt_word_drawn.nd rfl (.inl rfl) (pe_op o_addU (pv 1) (pe_lst (pa_cons pe_str (pa_cons pe_str (pa_cons pe_str (pa_cons pe_str (pa_cons pe_str (pa_cons pe_str (pa_cons pe_str (pa_cons (pe_callTy c_str (by rfl) F.b_str boot_str (pa_cons (pe_op o_pow pe_int pe_int) pa_nil)) (pa_cons (pe_callTy c_str (by rfl) F.b_str boot_str (pa_cons (pe_op o_addU (pe_op o_pow pe_int pe_int) pe_int) pa_nil)) (pa_cons pe_str (pa_cons pe_str pa_nil)))))))))))))) (pss_one (ps_ret (pe_call G_law_one (hr.mono (by decide)) rfl F.g_law_one F.p_law_one (b_law_one F) .nil pass0 (pa_cons (pv 0) (pa_cons (pv 1) pa_nil))))))))))
def t_law_zt_otherwise (K : PySem.W.Frag) (sp_law_take sp_law_zt_word_drawn sp_law_one : Sp) : TS := (tSeq (tPar 2 3 (tCons (tM1 rSplit (tVar 1) (tC (.str "\n"))) (tCons (tCall sp_law_take [] E0 (tCons (tVar 0) (tCons (tC (.int 12)) tNil))) tNil))) (tSeq (tPar 4 5 (tCons (tCall sp_law_take [] E0 (tCons (tVar 0) (tCons (tCB (rLenV K) (tCons (tVar 2) tNil)) tNil))) (tCons (tCall sp_law_take [] E0 (tCons (tVar 0) (tCons (tCB (rLenV K) (tCons (tVar 2) tNil)) tNil))) tNil))) (tSeq (tAsg (tM1 rSplit (tOp (rIx K) (tVar 2) (tVar 4)) (tC (.str " "))) (gName 6)) (tSeq (tAsg (tCall sp_law_take [] E0 (tCons (tVar 0) (tCons (tCB (rLenV K) (tCons (tVar 6) tNil)) tNil))) (gName 7)) (tSeq (tIfS (tTest (tOp Zd.rLt (tVar 3) (tC (.int 4)))) (tAsg (tM1 (rJoin K) (tC (.str " ")) (tOp (rAddU K) (tOp (rAddU K) (tSl (rSlU K) (tVar 6) tNoPart (tPart (tVar 7))) (tLst (tCons (tCall sp_law_zt_word_drawn [] E0 (tCons (tVar 0) tNil)) tNil))) (tSl (rSlU K) (tVar 6) (tPart (tOp (rAddU K) (tVar 7) (tC (.int 1)))) tNoPart))) (gSub (tVar 2) (tVar 4) rSetL)) (tIfS (tTest (tOp Zd.rLt (tVar 3) (tC (.int 6)))) (tSeq (tAsg (tIf (tTest (tOp (rEqU K) (tVar 3) (tC (.int 4)))) (tLst (tCons (tCall sp_law_zt_word_drawn [] E0 (tCons (tVar 0) tNil)) tNil)) (tSl (rSlU K) (tVar 6) (tPart (tVar 7)) (tPart (tOp (rAddU K) (tVar 7) (tC (.int 1)))))) (gName 8)) (tSeq (tAsg (tCall sp_law_take [] E0 (tCons (tVar 0) (tCons (tOp (rAddU K) (tCB (rLenV K) (tCons (tVar 6) tNil)) (tC (.int 1))) tNil))) (gName 9)) (tAsg (tM1 (rJoin K) (tC (.str " ")) (tOp (rAddU K) (tOp (rAddU K) (tSl (rSlU K) (tVar 6) tNoPart (tPart (tVar 9))) (tVar 8)) (tSl (rSlU K) (tVar 6) (tPart (tVar 9)) tNoPart))) (gSub (tVar 2) (tVar 4) rSetL)))) (tIfS (tTest (tOp (rEqU K) (tVar 3) (tC (.int 6)))) (tAsg (tM1 (rJoin K) (tC (.str " ")) (tOp (rAddU K) (tSl (rSlU K) (tVar 6) tNoPart (tPart (tVar 7))) (tSl (rSlU K) (tVar 6) (tPart (tOp (rAddU K) (tVar 7) (tC (.int 1)))) tNoPart))) (gSub (tVar 2) (tVar 4) rSetL)) (tIfS (tTest (tOp Zd.rLt (tVar 3) (tC (.int 9)))) (tSeq (tAsg (tAndV (tOp (rEqU K) (tVar 3) (tC (.int 7))) (tOp Zd.rGt (tCB (rLenV K) (tCons (tVar 2) tNil)) (tC (.int 1)))) (gName 10)) (tAsg (tIf (tB (tVar 10)) (tOp (rAddU K) (tSl (rSlU K) (tVar 2) tNoPart (tPart (tVar 4))) (tSl (rSlU K) (tVar 2) (tPart (tOp (rAddU K) (tVar 4) (tC (.int 1)))) tNoPart)) (tOp (rAddU K) (tSl (rSlU K) (tVar 2) tNoPart (tPart (tOp (rAddU K) (tVar 4) (tC (.int 1))))) (tSl (rSlU K) (tVar 2) (tPart (tVar 4)) tNoPart))) (gName 2))) (tIfS (tTest (tOp (rEqU K) (tVar 3) (tC (.int 9)))) (tSeq (tPar 11 12 (tCons (tOp (rIx K) (tVar 2) (tVar 4)) (tCons (tOp (rIx K) (tVar 2) (tVar 5)) tNil))) (tSeq (tAsg (tVar 12) (gSub (tVar 2) (tVar 4) rSetL)) (tAsg (tVar 11) (gSub (tVar 2) (tVar 5) rSetL)))) (tSeq (tAsg (tCall sp_law_take [] E0 (tCons (tVar 0) (tCons (tOp (rAddU K) (tCB (rLenV K) (tCons (tVar 1) tNil)) (tC (.int 1))) tNil))) (gName 7)) (tSeq (tAsg (tCall sp_law_one [] E0 (tCons (tVar 0) (tCons (tLst (tCons (tC (.str " ")) (tCons (tC (.str "\n")) (tCons (tC (.str "0")) (tCons (tC (.str "1")) (tCons (tC (.str "9")) (tCons (tC (.str "-")) (tCons (tC (.str "+")) (tCons (tC (.str ",")) (tCons (tC (.str "f")) (tCons (tC (.str "x")) (tCons (tC (.str "")) tNil)))))))))))) tNil))) (gName 13)) (tRet (tOp (rAddU K) (tOp (rAddU K) (tSl (rSlU K) (tVar 1) tNoPart (tPart (tVar 7))) (tVar 13)) (tSl (rSlU K) (tVar 1) (tPart (tOp (rAddU K) (tVar 7) (tIf (tOr (tTest (tOp (rEqU K) (tVar 13) (tC (.str "")))) (tTest (tOp (rEqU K) (tVar 3) (tC (.int 10))))) (tC (.int 1)) (tC (.int 0))))) tNoPart)))))))))) (tRet (tM1 (rJoin K) (tC (.str "\n")) (tVar 2))))))))
theorem ok_law_zt_otherwise {sp : Sp} {sp_law_take sp_law_zt_word_drawn sp_law_one : Sp} (F : Fx P w K mg) (G_law_take : FnOk P w K mg base CX0 1 (He.ga K "_law_take") F.f_law_take p_law_take sp_law_take) (G_law_zt_word_drawn : FnOk P w K mg base CX0 3 (He.ga K "_law_zt_word_drawn") F.f_law_zt_word_drawn p_law_zt_word_drawn sp_law_zt_word_drawn) (G_law_one : FnOk P w K mg base CX0 2 (He.ga K "_law_one") F.f_law_one p_law_one sp_law_one) (len : ∀ vs H Q E, sp vs H Q E → vs.length = 2) (wp : ∀ vs H Q E, sp vs H Q E → t_law_zt_otherwise K sp_law_take sp_law_zt_word_drawn sp_law_one { nx := fun _ H' => Q .non H', rt := Q } (L2.start n_law_zt_otherwise vs) H) : FnOk P w K mg base CX0 4 (He.ga K "_law_zt_otherwise") F.f_law_zt_otherwise p_law_zt_otherwise sp := by
  refine F.o_law_zt_otherwise.ok sc_law_zt_otherwise len fun cdv A outer s H vs Q E hr h => ⟨t_law_zt_otherwise K sp_law_take sp_law_zt_word_drawn sp_law_one, ?_, wp vs H Q E h⟩
  exact PSs.nox (pss_cons (ps_par (i := 2) (j := 3) rfl sc_law_zt_otherwise.nd rfl rfl (by decide) rfl rfl (pa_cons (pe_m1 PySem.F.slot_str_split PySem.F.type_str_split m_split (pv 1) pe_str) (pa_cons (pe_call G_law_take (hr.mono (by decide)) rfl F.g_law_take F.p_law_take (b_law_take F) .nil pass0 (pa_cons (pv 0) (pa_cons pe_int pa_nil))) pa_nil)) rfl) (pss_cons (ps_par (i := 4) (j := 5) rfl sc_law_zt_otherwise.nd rfl rfl (by decide) rfl rfl (pa_cons (pe_call G_law_take (hr.mono (by decide)) rfl F.g_law_take F.p_law_take (b_law_take F) .nil pass0 (pa_cons (pv 0) (pa_cons (pe_callB c_len (by rfl) F.b_len boot_len (pa_cons (pv 2) pa_nil)) pa_nil))) (pa_cons (pe_call G_law_take (hr.mono (by decide)) rfl F.g_law_take F.p_law_take (b_law_take F) .nil pass0 (pa_cons (pv 0) (pa_cons (pe_callB c_len (by rfl) F.b_len boot_len (pa_cons (pv 2) pa_nil)) pa_nil))) pa_nil)) rfl) (pss_cons (ps_set (i := 6) sc_law_zt_otherwise.nd rfl (.inl rfl) (pe_m1 PySem.F.slot_str_split PySem.F.type_str_split m_split (pe_ix ix_seq (pv 2) (pv 4) (fun _ _ => rfl)) pe_str)) (pss_cons (ps_set (i := 7) sc_law_zt_otherwise.nd rfl (.inl rfl) (pe_call G_law_take (hr.mono (by decide)) rfl F.g_law_take F.p_law_take (b_law_take F) .nil pass0 (pa_cons (pv 0) (pa_cons (pe_callB c_len (by rfl) F.b_len boot_len (pa_cons (pv 6) pa_nil)) pa_nil)))) (pss_cons (ps_if (pt_cmpR o_lt (pv 3) pe_int (nomark _)) (pss_one (ps_asg (pe_m1 PySem.F.slot_str_join PySem.F.type_str_join m_join pe_str (pe_op o_addU (pe_op o_addU (pe_slice sl_U (pv 6) po_none (po_some (pv 7))) (pe_lst (pa_cons (pe_call G_law_zt_word_drawn (hr.mono (by decide)) rfl F.g_law_zt_word_drawn F.p_law_zt_word_drawn (b_law_zt_word_drawn F) .nil pass0 (pa_cons (pv 0) pa_nil)) pa_nil))) (pe_slice sl_U (pv 6) (po_some (pe_op o_addU (pv 7) pe_int)) po_none))) (pg_sub (pv 2) (pv 4) set_list))) (pss_one (ps_if (pt_cmpR o_lt (pv 3) pe_int (nomark _)) (pss_cons (ps_set (i := 8) sc_law_zt_otherwise.nd rfl (.inl rfl) (pe_ifExp (pt_cmpR (o_eqU hr.units) (pv 3) pe_int (nomark _)) (pe_lst (pa_cons (pe_call G_law_zt_word_drawn (hr.mono (by decide)) rfl F.g_law_zt_word_drawn F.p_law_zt_word_drawn (b_law_zt_word_drawn F) .nil pass0 (pa_cons (pv 0) pa_nil)) pa_nil)) (pe_slice sl_U (pv 6) (po_some (pv 7)) (po_some (pe_op o_addU (pv 7) pe_int))))) (pss_cons (ps_set (i := 9) sc_law_zt_otherwise.nd rfl (.inl rfl) (pe_call G_law_take (hr.mono (by decide)) rfl F.g_law_take F.p_law_take (b_law_take F) .nil pass0 (pa_cons (pv 0) (pa_cons (pe_op o_addU (pe_callB c_len (by rfl) F.b_len boot_len (pa_cons (pv 6) pa_nil)) pe_int) pa_nil)))) (pss_one (ps_asg (pe_m1 PySem.F.slot_str_join PySem.F.type_str_join m_join pe_str (pe_op o_addU (pe_op o_addU (pe_slice sl_U (pv 6) po_none (po_some (pv 9))) (pv 8)) (pe_slice sl_U (pv 6) (po_some (pv 9)) po_none))) (pg_sub (pv 2) (pv 4) set_list))))) (pss_one (ps_if (pt_cmpR (o_eqU hr.units) (pv 3) pe_int (nomark _)) (pss_one (ps_asg (pe_m1 PySem.F.slot_str_join PySem.F.type_str_join m_join pe_str (pe_op o_addU (pe_slice sl_U (pv 6) po_none (po_some (pv 7))) (pe_slice sl_U (pv 6) (po_some (pe_op o_addU (pv 7) pe_int)) po_none))) (pg_sub (pv 2) (pv 4) set_list))) (pss_one (ps_if (pt_cmpR o_lt (pv 3) pe_int (nomark _)) (pss_cons (ps_set (i := 10) sc_law_zt_otherwise.nd rfl (.inl rfl) (pe_and (pe_cmpR (o_eqU hr.units) (pv 3) pe_int (nomark _)) (pe_one (pe_cmpR o_gt (pe_callB c_len (by rfl) F.b_len boot_len (pa_cons (pv 2) pa_nil)) pe_int (nomark _))))) (pss_one (ps_set (i := 2) sc_law_zt_otherwise.nd rfl (.inl rfl) (pe_ifExp (pt_val (pv 10)) (pe_op o_addU (pe_slice sl_U (pv 2) po_none (po_some (pv 4))) (pe_slice sl_U (pv 2) (po_some (pe_op o_addU (pv 4) pe_int)) po_none)) (pe_op o_addU (pe_slice sl_U (pv 2) po_none (po_some (pe_op o_addU (pv 4) pe_int))) (pe_slice sl_U (pv 2) (po_some (pv 4)) po_none)))))) (pss_one (ps_if (pt_cmpR (o_eqU hr.units) (pv 3) pe_int (nomark _)) (pss_cons (ps_par (i := 11) (j := 12) rfl sc_law_zt_otherwise.nd rfl rfl (by decide) rfl rfl (pa_cons (pe_ix ix_seq (pv 2) (pv 4) (fun _ _ => rfl)) (pa_cons (pe_ix ix_seq (pv 2) (pv 5) (fun _ _ => rfl)) pa_nil)) rfl) (pss_cons (ps_asg (pv 12) (pg_sub (pv 2) (pv 4) set_list)) (pss_one (ps_asg (pv 11) (pg_sub (pv 2) (pv 5) set_list))))) (pss_cons (ps_set (i := 7) sc_law_zt_otherwise.nd rfl (.inl rfl) (pe_call G_law_take (hr.mono (by decide)) rfl F.g_law_take F.p_law_take (b_law_take F) .nil pass0 (pa_cons (pv 0) (pa_cons (pe_op o_addU (pe_callB c_len (by rfl) F.b_len boot_len (pa_cons (pv 1) pa_nil)) pe_int) pa_nil)))) (pss_cons (ps_set (i := 13) sc_law_zt_otherwise.nd rfl (.inl rfl) (pe_call G_law_one (hr.mono (by decide)) rfl F.g_law_one F.p_law_one (b_law_one F) .nil pass0 (pa_cons (pv 0) (pa_cons (pe_lst (pa_cons pe_str (pa_cons pe_str (pa_cons pe_str (pa_cons pe_str (pa_cons pe_str (pa_cons pe_str (pa_cons pe_str (pa_cons pe_str (pa_cons pe_str (pa_cons pe_str (pa_cons pe_str pa_nil)))))))))))) pa_nil)))) (pss_one (ps_ret (pe_op o_addU (pe_op o_addU (pe_slice sl_U (pv 1) po_none (po_some (pv 7))) (pv 13)) (pe_slice sl_U (pv 1) (po_some (pe_op o_addU (pv 7) (pe_ifExp (PW.pt (pw_or (pt_cmpR (o_eqU hr.units) (pv 13) pe_str (nomark _)) (pw_or1 (pt_cmpR (o_eqU hr.units) (pv 3) pe_int (nomark _))))) pe_int pe_int))) po_none))))))))))))))) (pss_one (ps_ret (pe_m1 PySem.F.slot_str_join PySem.F.type_str_join m_join pe_str (pv 2)))))))))
def t_law_zt_deed_drawn (K : PySem.W.Frag) (sp_law_one sp_law_zt_deed_sorts : Sp) : TS := (tSeq (tAsg (tTup (tCons (tCall sp_law_one [] E0 (tCons (tVar 0) (tCons (tLst (tCons (tC (.str "add")) (tCons (tC (.str "drop")) (tCons (tC (.str "price")) (tCons (tC (.str "budget")) (tCons (tC (.str "floor")) (tCons (tC (.str "unfloor")) tNil))))))) tNil))) (tCons (tOp Zd.rSub (tOp Zd.rPow (tC (.int 10)) (tC (.int 20))) (tC (.int 1))) tNil))) (gTup K 2 (gCons (gName 1) (gCons (gName 2) gNil)))) (tSeq (tAsg (tDGet (tCall sp_law_zt_deed_sorts [] E0 tNil) (tVar 1)) (gTup K 2 (gCons (gName 3) (gCons (gName 4) gNil)))) (tSeq (tAsg (tLc (iRng1 (tCons (tVar 3) tNil)) (gName 6) tYes (tCall sp_law_one [] E0 (tCons (tVar 0) (tCons (tLst (tCons (tC (.int 0)) (tCons (tC (.int 1)) (tCons (tC (.int 2)) (tCons (tC (.int 5)) (tCons (tC (.int 12)) (tCons (tOp Zd.rPow (tC (.int 10)) (tC (.int 6))) (tCons (tVar 2) tNil)))))))) tNil))) [6]) (gName 5)) (tRet (tOp (rAddU K) (tTup (tCons (tVar 1) tNil)) (tCB (rTupO K) (tCons (tOp (rAddU K) (tVar 5) (tIf (tB (tVar 4)) (tLst (tCons (tCall sp_law_one [] E0 (tCons (tVar 0) (tCons (tLst (tCons (tUn rNeg (tC (.int 1))) (tCons (tC (.int 0)) (tCons (tC (.int 1)) (tCons (tC (.int 1000)) (tCons (tVar 2) tNil)))))) tNil))) tNil)) (tLst tNil))) tNil)))))))
theorem ok_law_zt_deed_drawn {sp : Sp} {sp_law_one sp_law_zt_deed_sorts : Sp} (F : Fx P w K mg) (G_law_one : FnOk P w K mg base CX0 2 (He.ga K "_law_one") F.f_law_one p_law_one sp_law_one) (G_law_zt_deed_sorts : FnOk P w K mg base CX0 1 (He.ga K "_law_zt_deed_sorts") F.f_law_zt_deed_sorts p_law_zt_deed_sorts sp_law_zt_deed_sorts) (len : ∀ vs H Q E, sp vs H Q E → vs.length = 1) (wp : ∀ vs H Q E, sp vs H Q E → t_law_zt_deed_drawn K sp_law_one sp_law_zt_deed_sorts { nx := fun _ H' => Q .non H', rt := Q } (L2.start n_law_zt_deed_drawn vs) H) : FnOk P w K mg base CX0 3 (He.ga K "_law_zt_deed_drawn") F.f_law_zt_deed_drawn p_law_zt_deed_drawn sp := by
  refine F.o_law_zt_deed_drawn.ok sc_law_zt_deed_drawn len fun cdv A outer s H vs Q E hr h => ⟨t_law_zt_deed_drawn K sp_law_one sp_law_zt_deed_sorts, ?_, wp vs H Q E h⟩
  exact PSs.nox (pss_cons (ps_asg (pe_tup (pa_cons (pe_call G_law_one (hr.mono (by decide)) rfl F.g_law_one F.p_law_one (b_law_one F) .nil pass0 (pa_cons (pv 0) (pa_cons (pe_lst (pa_cons pe_str (pa_cons pe_str (pa_cons pe_str (pa_cons pe_str (pa_cons pe_str (pa_cons pe_str pa_nil))))))) pa_nil))) (pa_cons (pe_op o_sub (pe_op o_pow pe_int pe_int) pe_int) pa_nil))) (pg_tup rfl (pgs_cons (pg_name (i := 1) sc_law_zt_deed_drawn.nd rfl (.inl rfl)) (pgs_cons (pg_name (i := 2) sc_law_zt_deed_drawn.nd rfl (.inr rfl)) pgs_nil)))) (pss_cons (ps_asg (pe_dget (hu_of hr) (pe_call0 G_law_zt_deed_sorts (hr.mono (by decide)) rfl F.g_law_zt_deed_sorts F.p_law_zt_deed_sorts (b_law_zt_deed_sorts F) .nil pass0) (pv 1) (fun _ _ => rfl)) (pg_tup rfl (pgs_cons (pg_name (i := 3) sc_law_zt_deed_drawn.nd rfl (.inl rfl)) (pgs_cons (pg_name (i := 4) sc_law_zt_deed_drawn.nd rfl (.inl rfl)) pgs_nil)))) (pss_cons (ps_setLc (i := 5) (own := [("go", 6)]) (by rfl) sc_law_zt_deed_drawn.nd rfl rfl (sw_true rfl rfl rfl (by decide +kernel)) (pi_range1 rfl F.b_range (pa_cons (pv 3) pa_nil)) (blkOk_by (own := [("go", 6)]) (N := n_law_zt_deed_drawn) (sc := defScope s_law_zt_deed_drawn) (by decide +kernel)) (fun _ _ _ _ _ => (pg_name (i := 6) sc_law_zt_deed_drawn.nd rfl (.inl rfl))) (fun _ _ _ _ _ => pts_nil) (fun _ _ _ _ _ => (pe_call G_law_one (hr.mono (by decide)) rfl F.g_law_one F.p_law_one (b_law_one F) .nil pass0 (pa_cons (pv 0) (pa_cons (pe_lst (pa_cons pe_int (pa_cons pe_int (pa_cons pe_int (pa_cons pe_int (pa_cons pe_int (pa_cons (pe_op o_pow pe_int pe_int) (pa_cons (pv 2) pa_nil)))))))) pa_nil))))) (pss_one (ps_ret (pe_op o_addU (pe_tup (pa_cons (pv 1) pa_nil)) (pe_callTy c_tup (by rfl) F.b_tuple boot_tuple (pa_cons (pe_op o_addU (pv 5) (pe_ifExp (pt_val (pv 4)) (pe_lst (pa_cons (pe_call G_law_one (hr.mono (by decide)) rfl F.g_law_one F.p_law_one (b_law_one F) .nil pass0 (pa_cons (pv 0) (pa_cons (pe_lst (pa_cons (pe_un u_neg pe_int) (pa_cons pe_int (pa_cons pe_int (pa_cons pe_int (pa_cons (pv 2) pa_nil)))))) pa_nil))) pa_nil)) (pe_lst pa_nil))) pa_nil))))))))
def t_law_dl_is_own (K : PySem.W.Frag) (sp_law_zt_deed_sorts sp_law_zq_is_whole : Sp) : TS := (tSeq (tIfS (tOr (tNot (tB (tCB (rIsi K) (tCons (tVar 0) (tCons (tC (.ty "tuple")) tNil))))) (tOr (tTest (tOp (rEqU K) (tVar 0) (tTup tNil))) (tNot (tB (tCB (rIsi K) (tCons (tOp (rIx K) (tVar 0) (tC (.int 0))) (tCons (tC (.ty "str")) tNil))))))) (tRet (tC (.bl false))) tNext) (tSeq (tAsg (tCall sp_law_zt_deed_sorts [] E0 tNil) (gName 1)) (tSeq (tIfS (tB (tDNotIn (tOp (rIx K) (tVar 0) (tC (.int 0))) (tVar 1))) (tRet (tC (.bl false))) tNext) (tSeq (tAsg (tDGet (tVar 1) (tOp (rIx K) (tVar 0) (tC (.int 0)))) (gTup K 2 (gCons (gName 2) (gCons (gName 3) gNil)))) (tSeq (tIfS (tTest (tOp (rNeU K) (tCB (rLenV K) (tCons (tVar 0) tNil)) (tOp (rAddU K) (tOp (rAddU K) (tC (.int 1)) (tVar 2)) (tCB rIntU (tCons (tVar 3) tNil))))) (tRet (tC (.bl false))) tNext) (tSeq (tFor (iRng2 (tCons (tC (.int 1)) (tCons (tCB (rLenV K) (tCons (tVar 0) tNil)) tNil))) (gName 4) (tSeq (tAsg (tIf (tTest (tOp Zd.rGt (tVar 4) (tVar 2))) (tUn rNeg (tC (.int 1))) (tC (.int 0))) (gName 5)) (tIfS (tOr (tNot (tB (tCall sp_law_zq_is_whole [] E0 (tCons (tOp (rIx K) (tVar 0) (tVar 4)) tNil)))) (tNot (tTest (tChain Zd.rLe Zd.rLt (tVar 5) (tOp (rIx K) (tVar 0) (tVar 4)) (tOp Zd.rPow (tC (.int 10)) (tC (.int 20))))))) (tRet (tC (.bl false))) tNext))) (tRet (tC (.bl true)))))))))
theorem ok_law_dl_is_own {sp : Sp} {sp_law_zt_deed_sorts sp_law_zq_is_whole : Sp} (F : Fx P w K mg) (G_law_zt_deed_sorts : FnOk P w K mg base CX0 1 (He.ga K "_law_zt_deed_sorts") F.f_law_zt_deed_sorts p_law_zt_deed_sorts sp_law_zt_deed_sorts) (G_law_zq_is_whole : FnOk P w K mg base CX0 1 (He.ga K "_law_zq_is_whole") F.f_law_zq_is_whole p_law_zq_is_whole sp_law_zq_is_whole) (len : ∀ vs H Q E, sp vs H Q E → vs.length = 1) (wp : ∀ vs H Q E, sp vs H Q E → t_law_dl_is_own K sp_law_zt_deed_sorts sp_law_zq_is_whole { nx := fun _ H' => Q .non H', rt := Q } (L2.start n_law_dl_is_own vs) H) : FnOk P w K mg base CX0 2 (He.ga K "_law_dl_is_own") F.f_law_dl_is_own p_law_dl_is_own sp := by
  refine F.o_law_dl_is_own.ok sc_law_dl_is_own len fun cdv A outer s H vs Q E hr h => ⟨t_law_dl_is_own K sp_law_zt_deed_sorts sp_law_zq_is_whole, ?_, wp vs H Q E h⟩
  exact PSs.nox (pss_cons (ps_if (PW.pt (pw_or (pt_not (pt_val (pe_callB call_isi (by rfl) F.b_isinstance boot_isinstance (pa_cons (pv 0) (pa_cons (pe_bltn (v := .ty "tuple") (by rfl) F.b_tuple boot_tuple rfl) pa_nil))))) (pw_or (pt_cmpR (o_eqU hr.units) (pv 0) (pe_tup pa_nil) (nomark _)) (pw_or1 (pt_not (pt_val (pe_callB call_isi (by rfl) F.b_isinstance boot_isinstance (pa_cons (pe_ix ix_seq (pv 0) pe_int (fun _ _ => rfl)) (pa_cons (pe_bltn (v := .ty "str") (by rfl) F.b_str boot_str rfl) pa_nil))))))))) (pss_one (ps_ret pe_bl)) pss_nil) (pss_cons (ps_set (i := 1) sc_law_dl_is_own.nd rfl (.inl rfl) (pe_call0 G_law_zt_deed_sorts (hr.mono (by decide)) rfl F.g_law_zt_deed_sorts F.p_law_zt_deed_sorts (b_law_zt_deed_sorts F) .nil pass0)) (pss_cons (ps_if (pt_cmp (pc_dnotin (hu_of hr) (pe_ix ix_seq (pv 0) pe_int (fun _ _ => rfl)) (pv 1))) (pss_one (ps_ret pe_bl)) pss_nil) (pss_cons (ps_asg (pe_dget (hu_of hr) (pv 1) (pe_ix ix_seq (pv 0) pe_int (fun _ _ => rfl)) (fun _ _ => rfl)) (pg_tup rfl (pgs_cons (pg_name (i := 2) sc_law_dl_is_own.nd rfl (.inl rfl)) (pgs_cons (pg_name (i := 3) sc_law_dl_is_own.nd rfl (.inl rfl)) pgs_nil)))) (pss_cons (ps_if (pt_cmpR (o_neU hr.units) (pe_callB c_len (by rfl) F.b_len boot_len (pa_cons (pv 0) pa_nil)) (pe_op o_addU (pe_op o_addU pe_int (pv 2)) (pe_callTy c_intU (by rfl) F.b_int boot_int (pa_cons (pv 3) pa_nil))) (nomark _)) (pss_one (ps_ret pe_bl)) pss_nil) (pss_cons (ps_for PassesOwn.never rfl (pi_range2 rfl F.b_range (pa_cons pe_int (pa_cons (pe_callB c_len (by rfl) F.b_len boot_len (pa_cons (pv 0) pa_nil)) pa_nil))) (pg_name (i := 4) sc_law_dl_is_own.nd rfl (.inl rfl)) (pss_cons (ps_set (i := 5) sc_law_dl_is_own.nd rfl (.inl rfl) (pe_ifExp (pt_cmpR o_gt (pv 4) (pv 2) (nomark _)) (pe_un u_neg pe_int) pe_int)) (pss_one (ps_if (PW.pt (pw_or (pt_not (pt_val (pe_call G_law_zq_is_whole (hr.mono (by decide)) rfl F.g_law_zq_is_whole F.p_law_zq_is_whole (b_law_zq_is_whole F) .nil pass0 (pa_cons (pe_ix ix_seq (pv 0) (pv 4) (fun _ _ => rfl)) pa_nil)))) (pw_or1 (pt_not (pt_chain o_le o_lt (pv 5) (pe_ix ix_seq (pv 0) (pv 4) (fun _ _ => rfl)) (pe_op o_pow pe_int pe_int)))))) (pss_one (ps_ret pe_bl)) pss_nil)))) (pss_one (ps_ret pe_bl))))))))
def t_law_dl_bent (K : PySem.W.Frag) (sp_law_take sp_law_one : Sp) : TS := (tSeq (tPar 2 3 (tCons (tCall sp_law_take [] E0 (tCons (tVar 0) (tCons (tCB (rLenV K) (tCons (tVar 1) tNil)) tNil))) (tCons (tCall sp_law_take [] E0 (tCons (tVar 0) (tCons (tC (.int 6)) tNil))) tNil))) (tSeq (tIfS (tTest (tOp (rEqU K) (tVar 3) (tC (.int 0)))) (tRet (tOp (rAddU K) (tSl (rSlU K) (tVar 1) tNoPart (tPart (tVar 2))) (tSl (rSlU K) (tVar 1) (tPart (tOp (rAddU K) (tVar 2) (tC (.int 1)))) tNoPart))) tNext) (tSeq (tIfS (tTest (tOp (rEqU K) (tVar 3) (tC (.int 1)))) (tRet (tOp (rAddU K) (tVar 1) (tSl (rSlU K) (tVar 1) (tPart (tVar 2)) (tPart (tOp (rAddU K) (tVar 2) (tC (.int 1))))))) tNext) (tSeq (tIfS (tTest (tOp (rEqU K) (tVar 3) (tC (.int 2)))) (tRet (tCall sp_law_one [] E0 (tCons (tVar 0) (tCons (tLst (tCons (tC .non) (tCons (tTup tNil) (tCons (tCB (rLstO K) (tCons (tVar 1) tNil)) (tCons (tOp (rIx K) (tVar 1) (tC (.int 0))) (tCons (tC (.int 5)) (tCons (tTup (tCons (tVar 1) tNil)) (tCons (ZdU.tRevT K (tVar 1)) (tCons (tTup (tCons (tC (.str "undo")) tNil)) (tCons (tTup (tCons (tC (.str "redo")) tNil)) tNil)))))))))) tNil)))) tNext) (tSeq (tAsg (tLst (tCons (tC (.str "add")) (tCons (tC (.str "drop")) (tCons (tC (.str "price")) (tCons (tC (.str "budget")) (tCons (tC (.str "floor")) (tCons (tC (.str "unfloor")) (tCons (tC (.str "Add")) (tCons (tC (.str "")) (tCons (tC .non) (tCons (tC (.int 0)) tNil))))))))))) (gName 4)) (tSeq (tAsg (tLst (tCons (tC (.int 0)) (tCons (tUn rNeg (tC (.int 1))) (tCons (tUn rNeg (tC (.int 2))) (tCons (tOp Zd.rSub (tOp Zd.rPow (tC (.int 10)) (tC (.int 20))) (tC (.int 1))) (tCons (tOp Zd.rPow (tC (.int 10)) (tC (.int 20))) (tCons (tC (.bl true)) (tCons (tC (.bl false)) (tCons (tC .non) (tCons (tC (.str "1")) (tCons (tTup (tCons (tC (.int 1)) tNil)) (tCons (tOp (rIx K) (tVar 1) (tVar 2)) tNil)))))))))))) (gName 5)) (tRet (tOp (rAddU K) (tOp (rAddU K) (tSl (rSlU K) (tVar 1) tNoPart (tPart (tVar 2))) (tTup (tCons (tCall sp_law_one [] E0 (tCons (tVar 0) (tCons (tIf (tTest (tOp (rEqU K) (tVar 2) (tC (.int 0)))) (tVar 4) (tVar 5)) tNil))) tNil))) (tSl (rSlU K) (tVar 1) (tPart (tOp (rAddU K) (tVar 2) (tC (.int 1)))) tNoPart)))))))))
theorem ok_law_dl_bent {sp : Sp} {sp_law_take sp_law_one : Sp} (F : Fx P w K mg) (G_law_take : FnOk P w K mg base CX0 1 (He.ga K "_law_take") F.f_law_take p_law_take sp_law_take) (G_law_one : FnOk P w K mg base CX0 2 (He.ga K "_law_one") F.f_law_one p_law_one sp_law_one) (len : ∀ vs H Q E, sp vs H Q E → vs.length = 2) (wp : ∀ vs H Q E, sp vs H Q E → t_law_dl_bent K sp_law_take sp_law_one { nx := fun _ H' => Q .non H', rt := Q } (L2.start n_law_dl_bent vs) H) : FnOk P w K mg base CX0 3 (He.ga K "_law_dl_bent") F.f_law_dl_bent p_law_dl_bent sp := by
  refine F.o_law_dl_bent.ok sc_law_dl_bent len fun cdv A outer s H vs Q E hr h => ⟨t_law_dl_bent K sp_law_take sp_law_one, ?_, wp vs H Q E h⟩
  exact PSs.nox (pss_cons (ps_par (i := 2) (j := 3) rfl sc_law_dl_bent.nd rfl rfl (by decide) rfl rfl (pa_cons (pe_call G_law_take (hr.mono (by decide)) rfl F.g_law_take F.p_law_take (b_law_take F) .nil pass0 (pa_cons (pv 0) (pa_cons (pe_callB c_len (by rfl) F.b_len boot_len (pa_cons (pv 1) pa_nil)) pa_nil))) (pa_cons (pe_call G_law_take (hr.mono (by decide)) rfl F.g_law_take F.p_law_take (b_law_take F) .nil pass0 (pa_cons (pv 0) (pa_cons pe_int pa_nil))) pa_nil)) rfl) (pss_cons (ps_if (pt_cmpR (o_eqU hr.units) (pv 3) pe_int (nomark _)) (pss_one (ps_ret (pe_op o_addU (pe_slice sl_U (pv 1) po_none (po_some (pv 2))) (pe_slice sl_U (pv 1) (po_some (pe_op o_addU (pv 2) pe_int)) po_none)))) pss_nil) (pss_cons (ps_if (pt_cmpR (o_eqU hr.units) (pv 3) pe_int (nomark _)) (pss_one (ps_ret (pe_op o_addU (pv 1) (pe_slice sl_U (pv 1) (po_some (pv 2)) (po_some (pe_op o_addU (pv 2) pe_int)))))) pss_nil) (pss_cons (ps_if (pt_cmpR (o_eqU hr.units) (pv 3) pe_int (nomark _)) (pss_one (ps_ret (pe_call G_law_one (hr.mono (by decide)) rfl F.g_law_one F.p_law_one (b_law_one F) .nil pass0 (pa_cons (pv 0) (pa_cons (pe_lst (pa_cons pe_non (pa_cons (pe_tup pa_nil) (pa_cons (pe_callTy c_lst (by rfl) F.b_list boot_list (pa_cons (pv 1) pa_nil)) (pa_cons (pe_ix ix_seq (pv 1) pe_int (fun _ _ => rfl)) (pa_cons pe_int (pa_cons (pe_tup (pa_cons (pv 1) pa_nil)) (pa_cons (ZdU.pe_revT (pv 1)) (pa_cons (pe_tup (pa_cons pe_str pa_nil)) (pa_cons (pe_tup (pa_cons pe_str pa_nil)) pa_nil)))))))))) pa_nil))))) pss_nil) (pss_cons (ps_set (i := 4) sc_law_dl_bent.nd rfl (.inl rfl) (pe_lst (pa_cons pe_str (pa_cons pe_str (pa_cons pe_str (pa_cons pe_str (pa_cons pe_str (pa_cons pe_str (pa_cons pe_str (pa_cons pe_str (pa_cons pe_non (pa_cons pe_int pa_nil)))))))))))) (pss_cons (ps_set (i := 5) sc_law_dl_bent.nd rfl (.inl rfl) (pe_lst (pa_cons pe_int (pa_cons (pe_un u_neg pe_int) (pa_cons (pe_un u_neg pe_int) (pa_cons (pe_op o_sub (pe_op o_pow pe_int pe_int) pe_int) (pa_cons (pe_op o_pow pe_int pe_int) (pa_cons pe_bl (pa_cons pe_bl (pa_cons pe_non (pa_cons pe_str (pa_cons (pe_tup (pa_cons pe_int pa_nil)) (pa_cons (pe_ix ix_seq (pv 1) (pv 2) (fun _ _ => rfl)) pa_nil))))))))))))) (pss_one (ps_ret (pe_op o_addU (pe_op o_addU (pe_slice sl_U (pv 1) po_none (po_some (pv 2))) (pe_tup (pa_cons (pe_call G_law_one (hr.mono (by decide)) rfl F.g_law_one F.p_law_one (b_law_one F) .nil pass0 (pa_cons (pv 0) (pa_cons (pe_ifExp (pt_cmpR (o_eqU hr.units) (pv 2) pe_int (nomark _)) (pv 4) (pv 5)) pa_nil))) pa_nil))) (pe_slice sl_U (pv 1) (po_some (pe_op o_addU (pv 2) pe_int)) po_none))))))))))
def t_law_dl_planted_right (K : PySem.W.Frag) (sp_law_take sp_law_dl_thing_right sp_law_dl_text_right : Sp) : TS := (tSeq (tPar 1 2 (tCons (tCall sp_law_take [] E0 (tCons (tVar 0) (tCons (tC (.int 2)) tNil))) (tCons (tOp Zd.rSub (tOp Zd.rPow (tC (.int 10)) (tC (.int 20))) (tC (.int 1))) tNil))) (tSeq (tAsg (tLst (tCons (tTup (tCons (tC (.str "add")) (tCons (tVar 2) (tCons (tVar 2) (tCons (tVar 2) (tCons (tVar 2) tNil)))))) (tCons (tTup (tCons (tC (.str "add")) (tCons (tC (.int 0)) (tCons (tC (.int 0)) (tCons (tC (.int 0)) (tCons (tUn rNeg (tC (.int 1))) tNil)))))) (tCons (tTup (tCons (tC (.str "add")) (tCons (tC (.int 0)) (tCons (tC (.int 0)) (tCons (tC (.int 0)) (tCons (tUn rNeg (tC (.int 2))) tNil)))))) (tCons (tTup (tCons (tC (.str "add")) (tCons (tOp (rAddU K) (tVar 2) (tVar 1)) (tCons (tC (.int 0)) (tCons (tC (.int 2)) (tCons (tC (.int 1)) tNil)))))) tNil))))) (gName 3)) (tSeq (tDrop (tBM K "list" rAppend (tVar 3) (tCons (tTup (tCons (tC (.str "drop")) (tCons (tUn rNeg (tC (.int 1))) tNil))) tNil))) (tSeq (tDrop (tBM K "list" rExtend (tVar 3) (tCons (tLst (tCons (tTup (tCons (tC (.str "price")) (tCons (tC (.int 0)) (tCons (tC (.int 0)) tNil)))) (tCons (tTup (tCons (tC (.str "price")) (tCons (tUn rNeg (tC (.int 1))) (tCons (tC (.int 1)) tNil)))) (tCons (tTup (tCons (tC (.str "price")) (tCons (tC (.int 0)) (tCons (tOp (rAddU K) (tVar 2) (tVar 1)) tNil)))) (tCons (tTup (tCons (tC (.str "budget")) (tCons (tVar 2) tNil))) (tCons (tTup (tCons (tC (.str "budget")) (tCons (tUn rNeg (tC (.int 1))) tNil))) tNil)))))) tNil))) (tSeq (tDrop (tBM K "list" rAppend (tVar 3) (tCons (tTup (tCons (tC (.str "floor")) (tCons (tC (.int 1)) (tCons (tC (.int 2)) tNil)))) tNil))) (tSeq (tDrop (tBM K "list" rExtend (tVar 3) (tCons (tLst (tCons (tTup (tCons (tC (.str "floor")) (tCons (tTup (tCons (tC (.int 1)) (tCons (tC (.int 2)) (tCons (tC (.int 3)) tNil)))) tNil))) (tCons (tTup (tCons (tC (.str "floor")) (tCons (tVar 2) (tCons (tVar 2) (tCons (tVar 2) tNil))))) (tCons (tTup (tCons (tC (.str "unfloor")) (tCons (tC (.int 0)) (tCons (tC (.int 0)) tNil)))) (tCons (tTup (tCons (tC (.str "unfloor")) (tCons (tC (.int 0)) (tCons (tUn rNeg (tC (.int 1))) tNil)))) (tCons (tTup (tCons (tC (.str "budget")) tNil)) tNil)))))) tNil))) (tSeq (tDrop (tBM K "list" rAppend (tVar 3) (tCons (tTup (tCons (tC (.str "undo")) tNil)) tNil))) (tSeq (tDrop (tBM K "list" rExtend (tVar 3) (tCons (tLst (tCons (tLst (tCons (tC (.str "drop")) (tCons (tC (.int 0)) tNil))) (tCons (tTup tNil) (tCons (tC .non) (tCons (tC (.str "drop")) (tCons (tTup (tCons (tC (.str "drop")) (tCons (tC (.bl true)) tNil))) (tCons (tTup (tCons (tC (.str "add")) (tCons (tC (.int 0)) (tCons (tC (.int 0)) (tCons (tC (.int 2)) tNil))))) (tCons (tTup (tCons (tC (.str "add")) (tCons (tC (.int 0)) (tCons (tC (.int 0)) (tCons (tC (.int 2)) (tCons (tC (.int 1)) (tCons (tC (.int 1)) tNil))))))) tNil)))))))) tNil))) (tSeq (tDrop (tBM K "list" rAppend (tVar 3) (tCons (tTup (tCons (tC (.str "drop")) (tCons (tOp (rAddU K) (tVar 2) (tVar 1)) tNil))) tNil))) (tSeq (tIfS (tTest (tOp (rNeU K) (tLc (iList K (tVar 3)) (gName 6) (tNot (tB (tCall sp_law_dl_thing_right [] E0 (tCons (tVar 6) tNil)))) (tVar 6) [6]) (tLst tNil))) (tRet (tC (.bl false))) tNext) (tSeq (tAsg (tOp rMulU (tC (.str "9")) (tOp (rAddU K) (tC (.int 20)) (tVar 1))) (gName 4)) (tSeq (tAsg (tLst (tCons (tC (.str "")) (tCons (tC (.str "\n")) (tCons (tC (.str "drop 0")) (tCons (tC (.str "drop 0\n")) (tCons (tC (.str "drop 0\ndrop 0")) (tCons (tC (.str "drop 0 ")) (tCons (tC (.str " drop 0")) (tCons (tC (.str "undo")) (tCons (tC (.str "redo")) (tCons (tC (.str "Drop 0")) tNil))))))))))) (gName 5)) (tSeq (tDrop (tBM K "list" rAppend (tVar 5) (tCons (tC (.str "drops 0")) tNil))) (tSeq (tDrop (tBM K "list" rExtend (tVar 5) (tCons (tLst (tCons (tC (.str "add 0 0 3 5")) (tCons (tC (.str "add 0 0 3 firm")) (tCons (tC (.str "add 0 0 3 Firm")) (tCons (tC (.str "add 0 0 3")) (tCons (tC (.str "add 0 0")) (tCons (tC (.str "add")) tNil))))))) tNil))) (tSeq (tDrop (tBM K "list" rExtend (tVar 5) (tCons (tLst (tCons (tC (.str "add 0 0 3 x")) (tCons (tC (.str "add firm 0 3 5")) tNil))) tNil))) (tSeq (tDrop (tBM K "list" rExtend (tVar 5) (tCons (tLst (tCons (tC (.str "add 0 0 3 5 5")) (tCons (tC (.str "price 7 firm")) (tCons (tC (.str "price 7 0")) (tCons (tC (.str "price 7 -1")) (tCons (tC (.str "price firm 7")) (tCons (tC (.str "price 0")) tNil))))))) tNil))) (tSeq (tDrop (tBM K "list" rAppend (tVar 5) (tCons (tOp (rAddU K) (tC (.str "budget ")) (tVar 4)) tNil))) (tSeq (tDrop (tBM K "list" rExtend (tVar 5) (tCons (tLst (tCons (tC (.str "budget -1")) (tCons (tC (.str "budget firm")) (tCons (tC (.str "budget 0 0")) (tCons (tC (.str "floor 1 2 3")) (tCons (tC (.str "floor 1 2")) (tCons (tC (.str "floor 1")) tNil))))))) tNil))) (tSeq (tDrop (tBM K "list" rExtend (tVar 5) (tCons (tLst (tCons (tC (.str "floor 1 2 3 4")) (tCons (tC (.str "unfloor 1")) tNil))) tNil))) (tSeq (tDrop (tBM K "list" rExtend (tVar 5) (tCons (tLst (tCons (tC (.str "unfloor 1 2")) (tCons (tC (.str "unfloor 1 2 3")) (tCons (tC (.str "drop 01")) (tCons (tOp (rAddU K) (tC (.str "drop ")) (tVar 4)) (tCons (tC (.str "drop firm")) tNil)))))) tNil))) (tSeq (tDrop (tBM K "list" rExtend (tVar 5) (tCons (tLst (tCons (tOp (rAddU K) (tOp (rAddU K) (tC (.str "price ")) (tVar 4)) (tC (.str " 1"))) (tCons (tC (.str "drop  0")) tNil))) tNil))) (tRet (tOp (rEqU K) (tLc (iList K (tVar 5)) (gName 7) (tNot (tB (tCall sp_law_dl_text_right [] E0 (tCons (tVar 7) tNil)))) (tVar 7) [7]) (tLst tNil))))))))))))))))))))))))
theorem ok_law_dl_planted_right {sp : Sp} {sp_law_take sp_law_dl_thing_right sp_law_dl_text_right : Sp} (F : Fx P w K mg) (G_law_take : FnOk P w K mg base CX0 1 (He.ga K "_law_take") F.f_law_take p_law_take sp_law_take) (G_law_dl_thing_right : FnOk P w K mg base CX0 20 (He.ga K "_law_dl_thing_right") F.f_law_dl_thing_right p_law_dl_thing_right sp_law_dl_thing_right) (G_law_dl_text_right : FnOk P w K mg base CX0 20 (He.ga K "_law_dl_text_right") F.f_law_dl_text_right p_law_dl_text_right sp_law_dl_text_right) (len : ∀ vs H Q E, sp vs H Q E → vs.length = 1) (wp : ∀ vs H Q E, sp vs H Q E → t_law_dl_planted_right K sp_law_take sp_law_dl_thing_right sp_law_dl_text_right { nx := fun _ H' => Q .non H', rt := Q } (L2.start n_law_dl_planted_right vs) H) : FnOk P w K mg base CX0 21 (He.ga K "_law_dl_planted_right") F.f_law_dl_planted_right p_law_dl_planted_right sp := by
  refine F.o_law_dl_planted_right.ok sc_law_dl_planted_right len fun cdv A outer s H vs Q E hr h => ⟨t_law_dl_planted_right K sp_law_take sp_law_dl_thing_right sp_law_dl_text_right, ?_, wp vs H Q E h⟩
  exact PSs.nox (pss_cons (ps_par (i := 1) (j := 2) rfl sc_law_dl_planted_right.nd rfl rfl (by decide) rfl rfl (pa_cons (pe_call G_law_take (hr.mono (by decide)) rfl F.g_law_take F.p_law_take (b_law_take F) .nil pass0 (pa_cons (pv 0) (pa_cons pe_int pa_nil))) (pa_cons (pe_op o_sub (pe_op o_pow pe_int pe_int) pe_int) pa_nil)) rfl) (pss_cons (ps_set (i := 3) sc_law_dl_planted_right.nd rfl (.inl rfl) (pe_lst (pa_cons (pe_tup (pa_cons pe_str (pa_cons (pv 2) (pa_cons (pv 2) (pa_cons (pv 2) (pa_cons (pv 2) pa_nil)))))) (pa_cons (pe_tup (pa_cons pe_str (pa_cons pe_int (pa_cons pe_int (pa_cons pe_int (pa_cons (pe_un u_neg pe_int) pa_nil)))))) (pa_cons (pe_tup (pa_cons pe_str (pa_cons pe_int (pa_cons pe_int (pa_cons pe_int (pa_cons (pe_un u_neg pe_int) pa_nil)))))) (pa_cons (pe_tup (pa_cons pe_str (pa_cons (pe_op o_addU (pv 2) (pv 1)) (pa_cons pe_int (pa_cons pe_int (pa_cons pe_int pa_nil)))))) pa_nil)))))) (pss_cons (ps_expr (pe_bm PySem.F.plainAttrs_list PySem.F.slot_list_append PySem.F.type_list_append mt_append (pv 3) (pa_cons (pe_tup (pa_cons pe_str (pa_cons (pe_un u_neg pe_int) pa_nil))) pa_nil))) (pss_cons (ps_expr (pe_bm PySem.F.plainAttrs_list PySem.F.slot_list_extend PySem.F.type_list_extend mt_extend (pv 3) (pa_cons (pe_lst (pa_cons (pe_tup (pa_cons pe_str (pa_cons pe_int (pa_cons pe_int pa_nil)))) (pa_cons (pe_tup (pa_cons pe_str (pa_cons (pe_un u_neg pe_int) (pa_cons pe_int pa_nil)))) (pa_cons (pe_tup (pa_cons pe_str (pa_cons pe_int (pa_cons (pe_op o_addU (pv 2) (pv 1)) pa_nil)))) (pa_cons (pe_tup (pa_cons pe_str (pa_cons (pv 2) pa_nil))) (pa_cons (pe_tup (pa_cons pe_str (pa_cons (pe_un u_neg pe_int) pa_nil))) pa_nil)))))) pa_nil))) (pss_cons (ps_expr (pe_bm PySem.F.plainAttrs_list PySem.F.slot_list_append PySem.F.type_list_append mt_append (pv 3) (pa_cons (pe_tup (pa_cons pe_str (pa_cons pe_int (pa_cons pe_int pa_nil)))) pa_nil))) (pss_cons (ps_expr (pe_bm PySem.F.plainAttrs_list PySem.F.slot_list_extend PySem.F.type_list_extend mt_extend (pv 3) (pa_cons (pe_lst (pa_cons (pe_tup (pa_cons pe_str (pa_cons (pe_tup (pa_cons pe_int (pa_cons pe_int (pa_cons pe_int pa_nil)))) pa_nil))) (pa_cons (pe_tup (pa_cons pe_str (pa_cons (pv 2) (pa_cons (pv 2) (pa_cons (pv 2) pa_nil))))) (pa_cons (pe_tup (pa_cons pe_str (pa_cons pe_int (pa_cons pe_int pa_nil)))) (pa_cons (pe_tup (pa_cons pe_str (pa_cons pe_int (pa_cons (pe_un u_neg pe_int) pa_nil)))) (pa_cons (pe_tup (pa_cons pe_str pa_nil)) pa_nil)))))) pa_nil))) (pss_cons (ps_expr (pe_bm PySem.F.plainAttrs_list PySem.F.slot_list_append PySem.F.type_list_append mt_append (pv 3) (pa_cons (pe_tup (pa_cons pe_str pa_nil)) pa_nil))) (pss_cons (ps_expr (pe_bm PySem.F.plainAttrs_list PySem.F.slot_list_extend PySem.F.type_list_extend mt_extend (pv 3) (pa_cons (pe_lst (pa_cons (pe_lst (pa_cons pe_str (pa_cons pe_int pa_nil))) (pa_cons (pe_tup pa_nil) (pa_cons pe_non (pa_cons pe_str (pa_cons (pe_tup (pa_cons pe_str (pa_cons pe_bl pa_nil))) (pa_cons (pe_tup (pa_cons pe_str (pa_cons pe_int (pa_cons pe_int (pa_cons pe_int pa_nil))))) (pa_cons (pe_tup (pa_cons pe_str (pa_cons pe_int (pa_cons pe_int (pa_cons pe_int (pa_cons pe_int (pa_cons pe_int pa_nil))))))) pa_nil)))))))) pa_nil))) (pss_cons (ps_expr (pe_bm PySem.F.plainAttrs_list PySem.F.slot_list_append PySem.F.type_list_append mt_append (pv 3) (pa_cons (pe_tup (pa_cons pe_str (pa_cons (pe_op o_addU (pv 2) (pv 1)) pa_nil))) pa_nil))) (pss_cons (ps_if (pt_cmpR (o_neU hr.units) (pe_lc (own := [("thing", 6)]) (by rfl) sc_law_dl_planted_right.nd (pi_list (pv 3)) (blkOk_by (own := [("thing", 6)]) (N := n_law_dl_planted_right) (sc := defScope s_law_dl_planted_right) (by decide +kernel)) (fun _ _ _ _ _ => (pg_name (i := 6) sc_law_dl_planted_right.nd rfl (.inl rfl))) (fun _ _ _ _ _ => (pts_one (pt_not (pt_val (pe_call G_law_dl_thing_right (hr.mono (by decide)) rfl F.g_law_dl_thing_right F.p_law_dl_thing_right (b_law_dl_thing_right F) .nil pass0 (pa_cons (pv 6) pa_nil)))))) (fun _ _ _ _ _ => (pv 6))) (pe_lst pa_nil) (nomark _)) (pss_one (ps_ret pe_bl)) pss_nil) (pss_cons (ps_set (i := 4) sc_law_dl_planted_right.nd rfl (.inl rfl) (pe_op o_mulU pe_str (pe_op o_addU pe_int (pv 1)))) (pss_cons (ps_set (i := 5) sc_law_dl_planted_right.nd rfl (.inl rfl) (pe_lst (pa_cons pe_str (pa_cons pe_str (pa_cons pe_str (pa_cons pe_str (pa_cons pe_str (pa_cons pe_str (pa_cons pe_str (pa_cons pe_str (pa_cons pe_str (pa_cons pe_str pa_nil)))))))))))) (pss_cons (ps_expr (pe_bm PySem.F.plainAttrs_list PySem.F.slot_list_append PySem.F.type_list_append mt_append (pv 5) (pa_cons pe_str pa_nil))) (pss_cons (ps_expr (pe_bm PySem.F.plainAttrs_list PySem.F.slot_list_extend PySem.F.type_list_extend mt_extend (pv 5) (pa_cons (pe_lst (pa_cons pe_str (pa_cons pe_str (pa_cons pe_str (pa_cons pe_str (pa_cons pe_str (pa_cons pe_str pa_nil))))))) pa_nil))) (pss_cons (ps_expr (pe_bm PySem.F.plainAttrs_list PySem.F.slot_list_extend PySem.F.type_list_extend mt_extend (pv 5) (pa_cons (pe_lst (pa_cons pe_str (pa_cons pe_str pa_nil))) pa_nil))) (pss_cons (ps_expr (pe_bm PySem.F.plainAttrs_list PySem.F.slot_list_extend PySem.F.type_list_extend mt_extend (pv 5) (pa_cons (pe_lst (pa_cons pe_str (pa_cons pe_str (pa_cons pe_str (pa_cons pe_str (pa_cons pe_str (pa_cons pe_str pa_nil))))))) pa_nil))) (pss_cons (ps_expr (pe_bm PySem.F.plainAttrs_list PySem.F.slot_list_append PySem.F.type_list_append mt_append (pv 5) (pa_cons (pe_op o_addU pe_str (pv 4)) pa_nil))) (pss_cons (ps_expr (pe_bm PySem.F.plainAttrs_list PySem.F.slot_list_extend PySem.F.type_list_extend mt_extend (pv 5) (pa_cons (pe_lst (pa_cons pe_str (pa_cons pe_str (pa_cons pe_str (pa_cons pe_str (pa_cons pe_str (pa_cons pe_str pa_nil))))))) pa_nil))) (pss_cons (ps_expr (pe_bm PySem.F.plainAttrs_list PySem.F.slot_list_extend PySem.F.type_list_extend mt_extend (pv 5) (pa_cons (pe_lst (pa_cons pe_str (pa_cons pe_str pa_nil))) pa_nil))) (pss_cons (ps_expr (pe_bm PySem.F.plainAttrs_list PySem.F.slot_list_extend PySem.F.type_list_extend mt_extend (pv 5) (pa_cons (pe_lst (pa_cons pe_str (pa_cons pe_str (pa_cons pe_str (pa_cons (pe_op o_addU pe_str (pv 4)) (pa_cons pe_str pa_nil)))))) pa_nil))) (pss_cons (ps_expr (pe_bm PySem.F.plainAttrs_list PySem.F.slot_list_extend PySem.F.type_list_extend mt_extend (pv 5) (pa_cons (pe_lst (pa_cons (pe_op o_addU (pe_op o_addU pe_str (pv 4)) pe_str) (pa_cons pe_str pa_nil))) pa_nil))) (pss_one (ps_ret (pe_cmpR (o_eqU hr.units) (pe_lc (own := [("text", 7)]) (by rfl) sc_law_dl_planted_right.nd (pi_list (pv 5)) (blkOk_by (own := [("text", 7)]) (N := n_law_dl_planted_right) (sc := defScope s_law_dl_planted_right) (by decide +kernel)) (fun _ _ _ _ _ => (pg_name (i := 7) sc_law_dl_planted_right.nd rfl (.inl rfl))) (fun _ _ _ _ _ => (pts_one (pt_not (pt_val (pe_call G_law_dl_text_right (hr.mono (by decide)) rfl F.g_law_dl_text_right F.p_law_dl_text_right (b_law_dl_text_right F) .nil pass0 (pa_cons (pv 7) pa_nil)))))) (fun _ _ _ _ _ => (pv 7))) (pe_lst pa_nil) (nomark _)))))))))))))))))))))))))
end
end K83

/-! ## WA -/
set_option Elab.async false
set_option linter.all false
set_option maxRecDepth 100000
set_option maxHeartbeats 4000000
namespace K83
open PySem PySem.Spec PyProof.Rows L2 Zd
local macro_rules | `(tactic| walk_at "z") => `(tactic| first
  | (with_reducible refine w_int ?_) | (with_reducible refine w_str ?_) | (with_reducible refine w_bl ?_) | (with_reducible refine w_non ?_)
  | (with_reducible refine w_varR ?_; refine ⟨_, rfl, ?_⟩)
  | (with_reducible refine w_isInt ?_) | (with_reducible refine w_isBool ?_) | (with_reducible refine w_isStr ?_) | (with_reducible refine w_isTup ?_) | (with_reducible refine w_isLst ?_)
  | (with_reducible refine w_kdGet (by assumption) ?_) | (with_reducible refine w_kdIn (by assumption) ?_) | (with_reducible refine w_kdNotIn (by assumption) ?_) | (with_reducible refine w_k (by assumption) ?_)
  | (with_reducible refine w_ixOR ?_; refine ⟨_, _, rfl, ?_⟩) | (with_reducible refine w_lenOR ?_; refine ⟨_, _, rfl, ?_⟩) | (with_reducible refine w_slOR ?_; refine ⟨_, _, rfl, ?_⟩) | (with_reducible refine w_callJR ?_; refine ⟨_, _, rfl, ?_⟩)
  | (with_reducible refine w_op ?_) | (with_reducible refine w_cb ?_) | (with_reducible refine w_nil ?_) | (with_reducible refine w_cons ?_)
  | (with_reducible refine w_disp ?_) | (with_reducible refine p_cons ?_) | (with_reducible refine p_nil ?_) | (with_reducible refine w_revT ?_) | (with_reducible refine w_dget ?_) | (with_reducible refine w_din ?_) | (with_reducible refine w_dnin ?_)
  | (with_reducible refine w_tup ?_) | (with_reducible refine w_lst ?_) | (with_reducible refine w_test ?_) | (with_reducible refine w_tB ?_)
  | (with_reducible refine w_not ?_) | (with_reducible refine w_and ?_) | (with_reducible refine w_or ?_) | (with_reducible refine w_if ?_)
  | (with_reducible refine w_notV ?_) | (with_reducible refine w_andV ?_) | (with_reducible refine w_orV ?_) | (with_reducible refine w_chain ?_) | (with_reducible refine w_neg ?_)
  | (with_reducible refine w_sl ?_) | (with_reducible refine o_none ?_) | (with_reducible refine o_some ?_) | (with_reducible refine w_m1 ?_)
  | (with_reducible refine u_addI ?_) | (with_reducible refine u_sub ?_) | (with_reducible refine u_lt ?_) | (with_reducible refine u_le ?_) | (with_reducible refine u_gt ?_) | (with_reducible refine u_ge ?_)
  | (with_reducible refine u_eqI ?_) | (with_reducible refine u_neI ?_) | (with_reducible refine u_eqS ?_) | (with_reducible refine u_neS ?_)
  | (with_reducible refine u_inT ?_) | (with_reducible refine u_eqT0 ?_) | (with_reducible refine u_neT0 ?_) | (with_reducible refine u_neL0 ?_) | (with_reducible refine u_eqL0 ?_)
  | (with_reducible refine r_isN ?_) | (with_reducible refine r_notN ?_) | (with_reducible refine u_int ?_) | (with_reducible refine u_intB ?_)
  | (with_reducible refine k_strS ?_) | (with_reducible refine k_max2 ?_) | (with_reducible refine k_min2 ?_)
  | (with_reducible refine k_tup ?_) | (with_reducible refine k_lenT ?_) | (with_reducible refine k_lenL ?_) | (with_reducible refine u_ixT atI_zero ?_) | (with_reducible refine u_ixL atI_zero ?_) | (with_reducible refine w_callE ?_) | (with_reducible refine w_callX ?_) | (with_reducible refine s_raise (by assumption) ?_) | (with_reducible refine i_rng1 ?_) | (with_reducible refine i_rng2 ?_) | (with_reducible refine i_list ?_) | (with_reducible refine i_tup ?_) | (with_reducible refine i_str ?_) | (with_reducible refine u_slT ?_) | (with_reducible refine u_slL ?_)
  | (with_reducible refine q_set ?_) | (with_reducible refine q_drop ?_) | (with_reducible refine q_par ?_) | (with_reducible refine q_when ?_) | (with_reducible refine q_if ?_)
  | (with_reducible refine s_ret ?_) | (with_reducible refine s_retNon ?_) | (with_reducible refine s_next ?_)
  | (refine ⟨_, rfl, ?_⟩) | (refine ⟨Nat.le_of_ble_eq_true rfl, ?_⟩) | (refine knownT rfl ?_) | (refine knownF rfl ?_) | (refine orT rfl ?_) | (refine orF rfl ?_))
local macro_rules | `(tactic| walk_at "zz") => `(tactic| repeat walk_at "z")
local macro_rules | `(tactic| walk_at "kt") => `(tactic| refine ⟨_, rfl, knownT rfl ?_⟩)
local macro_rules | `(tactic| walk_at "kf") => `(tactic| refine ⟨_, rfl, knownF rfl ?_⟩)
local macro_rules | `(tactic| walk_at "ot") => `(tactic| refine ⟨_, rfl, orT rfl ?_⟩)
local macro_rules | `(tactic| walk_at "of") => `(tactic| refine ⟨_, rfl, orF rfl ?_⟩)
local macro_rules | `(tactic| walk_at "t") => `(tactic| refine knownT rfl ?_)
local macro_rules | `(tactic| walk_at "f") => `(tactic| refine knownF rfl ?_)
local macro_rules | `(tactic| walk_at "bl") => `(tactic| refine ⟨_, rfl, ?_⟩)
local macro_rules | `(tactic| walk_at "br") => `(tactic| refine ⟨fun h => ?_, fun h => ?_⟩)

/-! ### what stands in the written part -/
def sizeT : List (Str × D) := sizeL.map fun p => (p.1, .int p.2)
structure Kf (K : PySem.W.Frag) : Prop where
  kd : KdOk K (He.ga K "DEED_SIZES") sizeT
  kt : ∀ G, Rp K G (.tup (pricedL.map D.str)) (.ref (He.ga K "PRICED_DEEDS"))
  e1 : ErrC K (He.ga K "BadDeed")
  e2 : ErrC K (He.ga K "BadText")
  e3 : ErrC K (He.ga K "TooMany")
  e4 : ErrC K (He.ga K "WrongLine")
theorem size_look (z : Str) : sizeT.lookup z = (sizeL.lookup z).map fun n => D.int n := by
  unfold sizeT
  generalize sizeL = l
  induction l with
  | nil => rfl
  | cons p r ih =>
    rw [List.map_cons, List.lookup_cons, List.lookup_cons]
    cases z == p.1 with
    | true => rfl
    | false => exact ih
/-! ### plain functions -/
def MOST : Int := 99999999999999999999
def wholeD (t : D) (lo hi : Int) : Bool := match t with
  | .int i => decide (lo ≤ i) && decide (i ≤ hi)
  | _ => false
def leastP (w : Str) (a : Int) : Int := if w ∈ pricedL ∧ (sizeL.lookup w).map (fun n => (n : Int)) = some a then -1 else 0
def isDeed : D → Bool
  | .tup (.str w :: r) => match sizeL.lookup w with
    | some n => decide (r.length = n) && (List.range n).all fun i => wholeD (r.getD i .non) (leastP w ((i : Int) + 1)) MOST
    | none => false
  | _ => false
variable {K : PySem.W.Frag} {T : Tb} {w : World} {vs : List V} {H : Hp} {Q : VK} {E : XK}
/-- isinstance(x, int) and not isinstance(x, bool) and .. -/
abbrev preWhole (ds : List D) : Prop := ∃ t lo hi, ds = [t, .int lo, .int hi]
abbrev postWhole (ds : List D) (d : D) : Prop := ∀ t lo hi, ds = [t, .int lo, .int hi] → d = .bl (wholeD t lo hi)
abbrev spWhole (K : PySem.W.Frag) (T : Tb) : Sp := SpP K T preWhole postWhole noExc
theorem ws_whole (c : Cd) (ds : List D) (hp : preWhole ds) : WpS c (t_whole c.K) (Ret (postWhole ds)) (args ds 0) := by
  obtain ⟨t, lo, hi, rfl⟩ := hp
  unfold t_whole
  cases t
  case int i =>
    walk_at "zz"
    refine ⟨fun h => ?_, fun h => ?_⟩
    · walk_at "zz"
      rintro _ _ _ ⟨⟩
      simp only [wholeD, h, Bool.true_and]
    · walk_at "zz"
      rintro _ _ _ ⟨⟩
      simp only [wholeD, h, Bool.false_and]
  all_goals
    walk_at "zz"
    rintro _ _ _ ⟨⟩
    rfl
theorem wp_whole (h : spWhole K T vs H Q E) : t_whole K { nx := fun _ H' => Q .non H', rt := Q } (L2.start n_whole vs) H :=
  fn_PR 3 h (by rintro ds ⟨t, lo, hi, rfl⟩; rfl) fun c ds e1 _ _ _ _ hp => by subst e1; exact ws_whole c ds hp
/-! ### least_part -/
abbrev preLeast (ds : List D) : Prop := ∃ w n a, ds = [.str w, .int a] ∧ sizeL.lookup w = some n
abbrev postLeast (ds : List D) (d : D) : Prop := ∀ w a, ds = [.str w, .int a] → d = .int (leastP w a)
abbrev spLeast (K : PySem.W.Frag) (T : Tb) : Sp := SpP K T preLeast postLeast noExc
theorem ws_least (c : Cd) (F : Kf c.K) (ds : List D) (hp : preLeast ds) : WpS c (t_least_part c.K w) (Ret (postLeast ds)) (args ds 0) := by
  obtain ⟨x, n, a, rfl, hs⟩ := hp
  obtain ⟨kd, kt, e1, e2, e3, e4⟩ := F
  unfold t_least_part
  walk_at "zz"
  refine ⟨fun h => ?_, fun h => ?_⟩
  · walk_at "zz"
    refine ⟨_, _, rfl, by rw [size_look, hs]; rfl, ?_⟩
    walk_at "zz"
    refine ⟨fun h2 => ?_, fun h2 => ?_⟩
    · walk_at "zz"
      rintro _ _ ⟨⟩
      have z : a = (n : Int) := of_decide_eq_true h2
      rw [leastP, if_pos ⟨of_decide_eq_true h, by rw [hs, z]; rfl⟩]
    · walk_at "zz"
      rintro _ _ ⟨⟩
      have z : a ≠ (n : Int) := of_decide_eq_false h2
      rw [leastP, if_neg fun y => z (by have y := y.2; rw [hs] at y; exact (Option.some.inj y).symm)]
  · walk_at "zz"
    rintro _ _ ⟨⟩
    rw [leastP, if_neg fun y => of_decide_eq_false h y.1]
theorem wp_least (F : Kf K) (h : spLeast K T vs H Q E) : t_least_part K w { nx := fun _ H' => Q .non H', rt := Q } (L2.start n_least_part vs) H :=
  fn_PR 2 h (by rintro ds ⟨x, n, a, rfl, _⟩; rfl) fun c ds e1 _ _ _ _ hp => by subst e1; exact ws_least c F ds hp
/-! ### is_deed -/
abbrev preIs (ds : List D) : Prop := ∃ t, ds = [t] ∧ ∀ r, t = .tup r → r.length < 1000
abbrev postIs (ds : List D) (d : D) : Prop := ∀ t, ds = [t] → d = .bl (isDeed t)
abbrev spIs (K : PySem.W.Frag) (T : Tb) : Sp := SpP K T preIs postIs noExc
theorem ws_is (c : Cd) (F : Kf c.K) (ds : List D) (hp : preIs ds) : WpS c (t_is_deed c.K w (spLeast c.K c.T) (spWhole c.K c.T)) (Ret (postIs ds)) (args ds 2) := by
  obtain ⟨t, rfl, hl⟩ := hp
  obtain ⟨kd, kt, e1, e2, e3, e4⟩ := F
  unfold t_is_deed
  cases t
  case tup r =>
    cases r
    case nil =>
      walk_at "zz"
      rintro _ ⟨⟩
      rfl
    case cons x r =>
      have hr := hl _ rfl
      cases x
      case str x =>
        cases hs : sizeL.lookup x with
        | none =>
          walk_at "zz"
          refine known true (by rw [size_look, hs]; rfl) (fun _ => ?_) (fun z => nomatch z)
          walk_at "zz"
          rintro _ ⟨⟩
          show D.bl false = D.bl (match sizeL.lookup x with | some n => decide (r.length = n) && (List.range n).all fun i => wholeD (r.getD i .non) (leastP x ((i : Int) + 1)) MOST | none => false)
          rw [hs]
        | some n =>
          have hd : isDeed (.tup (.str x :: r)) = (decide (r.length = n) && (List.range n).all fun i => wholeD (r.getD i .non) (leastP x ((i : Int) + 1)) MOST) := by
            show (match sizeL.lookup x with | some n => decide (r.length = n) && (List.range n).all fun i => wholeD (r.getD i .non) (leastP x ((i : Int) + 1)) MOST | none => false) = _
            rw [hs]
          walk_at "zz"
          refine known false (by rw [size_look, hs]; rfl) (fun z => nomatch z) (fun _ => ?_)
          walk_at "zz"
          refine ⟨_, _, rfl, by rw [size_look, hs]; rfl, ?_⟩
          walk_at "zz"
          refine ⟨fun h => ?_, fun h => ?_⟩
          · walk_at "zz"
            rintro _ ⟨⟩
            rw [hd]
            have z : r.length ≠ n := fun y => by
              subst y
              simp at h
            rw [decide_eq_false z]
            rfl
          · have hn : r.length = n := by
              simp at h
              omega
            walk_at "zz"
            refine w_mapR (fun i => .bl (wholeD (r.getD i .non) (leastP x ((i : Int) + 1)) MOST)) ?_
            walk_at "zz"
            refine ⟨_, _, rfl, by simp at hr ⊢; omega, 1, n, by simp [hn], by have : sizeLine = 16777216 := sizeLine_eq; simp at hr; omega, rfl, Nat.le_of_ble_eq_true rfl, fun k hk => ?_, ?_⟩
            · walk_at "zz"
              have h1 : r[k]? = some (r.getD k .non) := by
                rw [List.getD_eq_getElem?_getD, List.getElem?_eq_getElem (by omega)]
                rfl
              refine u_ixT (d := r.getD k .non) ?_ ?_
              · have z : ((1 : Int) + (k : Int)) = ((k + 1 : Nat) : Int) := by omega
                rw [z]
                exact atI_nat (by rw [List.getElem?_cons_succ]; exact h1)
              walk_at "zz"
              refine ⟨⟨x, n, _, rfl, hs⟩, fun d hd2 => ?_⟩
              rw [hd2 _ _ rfl]
              walk_at "zz"
              refine ⟨⟨_, _, _, rfl⟩, fun d hd3 => ⟨rfl, ?_⟩⟩
              rw [hd3 _ _ _ rfl, Int.add_comm]
              rfl
            · walk_at "zz"
              have e : (List.range n).map (fun i => D.bl (wholeD (r.getD i .non) (leastP x ((i : Int) + 1)) MOST)) = ((List.range n).map fun i => wholeD (r.getD i .non) (leastP x ((i : Int) + 1)) MOST).map D.bl := by
                rw [List.map_map]
                rfl
              rw [e]
              refine k_all ?_
              walk_at "zz"
              rintro _ ⟨⟩
              rw [hd, decide_eq_true hn, List.all_map]
              rfl
      all_goals
        walk_at "zz"
        rintro _ ⟨⟩
        rfl
  all_goals
    walk_at "zz"
    rintro _ ⟨⟩
    rfl
end K83

/-! ## WB -/
set_option Elab.async false
set_option linter.all false
set_option maxRecDepth 100000
set_option maxHeartbeats 4000000
namespace K83
open PySem PySem.Spec PyProof.Rows L2 Zd
local macro_rules | `(tactic| walk_at "z") => `(tactic| first
  | (with_reducible refine w_int ?_) | (with_reducible refine w_str ?_) | (with_reducible refine w_bl ?_) | (with_reducible refine w_non ?_)
  | (with_reducible refine w_varR ?_; refine ⟨_, rfl, ?_⟩)
  | (with_reducible refine w_isInt ?_) | (with_reducible refine w_isBool ?_) | (with_reducible refine w_isStr ?_) | (with_reducible refine w_isTup ?_) | (with_reducible refine w_isLst ?_)
  | (with_reducible refine w_kdGet (by assumption) ?_) | (with_reducible refine w_kdIn (by assumption) ?_) | (with_reducible refine w_kdNotIn (by assumption) ?_) | (with_reducible refine w_k (by assumption) ?_)
  | (with_reducible refine w_ixOR ?_; refine ⟨_, _, rfl, ?_⟩) | (with_reducible refine w_lenOR ?_; refine ⟨_, _, rfl, ?_⟩) | (with_reducible refine w_slOR ?_; refine ⟨_, _, rfl, ?_⟩) | (with_reducible refine w_callJR ?_; refine ⟨_, _, rfl, ?_⟩)
  | (with_reducible refine w_op ?_) | (with_reducible refine w_cb ?_) | (with_reducible refine w_nil ?_) | (with_reducible refine w_cons ?_)
  | (with_reducible refine w_disp ?_) | (with_reducible refine p_cons ?_) | (with_reducible refine p_nil ?_) | (with_reducible refine w_revT ?_) | (with_reducible refine w_dget ?_) | (with_reducible refine w_din ?_) | (with_reducible refine w_dnin ?_)
  | (with_reducible refine w_tup ?_) | (with_reducible refine w_lst ?_) | (with_reducible refine w_test ?_) | (with_reducible refine w_tB ?_)
  | (with_reducible refine w_not ?_) | (with_reducible refine w_and ?_) | (with_reducible refine w_or ?_) | (with_reducible refine w_if ?_)
  | (with_reducible refine w_notV ?_) | (with_reducible refine w_andV ?_) | (with_reducible refine w_orV ?_) | (with_reducible refine w_chain ?_) | (with_reducible refine w_neg ?_)
  | (with_reducible refine w_sl ?_) | (with_reducible refine o_none ?_) | (with_reducible refine o_some ?_) | (with_reducible refine w_m1 ?_)
  | (with_reducible refine u_addI ?_) | (with_reducible refine u_sub ?_) | (with_reducible refine u_lt ?_) | (with_reducible refine u_le ?_) | (with_reducible refine u_gt ?_) | (with_reducible refine u_ge ?_)
  | (with_reducible refine u_eqI ?_) | (with_reducible refine u_neI ?_) | (with_reducible refine u_eqS ?_) | (with_reducible refine u_neS ?_)
  | (with_reducible refine u_inT ?_) | (with_reducible refine u_eqT0 ?_) | (with_reducible refine u_neT0 ?_) | (with_reducible refine u_neL0 ?_) | (with_reducible refine u_eqL0 ?_)
  | (with_reducible refine r_isN ?_) | (with_reducible refine r_notN ?_) | (with_reducible refine u_int ?_) | (with_reducible refine u_intB ?_)
  | (with_reducible refine k_strS ?_) | (with_reducible refine k_max2 ?_) | (with_reducible refine k_min2 ?_)
  | (with_reducible refine k_tup ?_) | (with_reducible refine k_lenT ?_) | (with_reducible refine k_lenL ?_) | (with_reducible refine u_ixT atI_zero ?_) | (with_reducible refine u_ixL atI_zero ?_) | (with_reducible refine w_callE ?_) | (with_reducible refine w_callX ?_) | (with_reducible refine s_raise (by assumption) ?_) | (with_reducible refine i_rng1 ?_) | (with_reducible refine i_rng2 ?_) | (with_reducible refine i_list ?_) | (with_reducible refine i_tup ?_) | (with_reducible refine i_str ?_) | (with_reducible refine u_slT ?_) | (with_reducible refine u_slL ?_)
  | (with_reducible refine q_set ?_) | (with_reducible refine q_drop ?_) | (with_reducible refine q_par ?_) | (with_reducible refine q_when ?_) | (with_reducible refine q_if ?_)
  | (with_reducible refine s_ret ?_) | (with_reducible refine s_retNon ?_) | (with_reducible refine s_next ?_)
  | (refine ⟨_, rfl, ?_⟩) | (refine ⟨Nat.le_of_ble_eq_true rfl, ?_⟩) | (refine knownT rfl ?_) | (refine knownF rfl ?_) | (refine orT rfl ?_) | (refine orF rfl ?_))
local macro_rules | `(tactic| walk_at "zz") => `(tactic| repeat walk_at "z")
local macro_rules | `(tactic| walk_at "kt") => `(tactic| refine ⟨_, rfl, knownT rfl ?_⟩)
local macro_rules | `(tactic| walk_at "kf") => `(tactic| refine ⟨_, rfl, knownF rfl ?_⟩)
local macro_rules | `(tactic| walk_at "ot") => `(tactic| refine ⟨_, rfl, orT rfl ?_⟩)
local macro_rules | `(tactic| walk_at "of") => `(tactic| refine ⟨_, rfl, orF rfl ?_⟩)
local macro_rules | `(tactic| walk_at "t") => `(tactic| refine knownT rfl ?_)
local macro_rules | `(tactic| walk_at "f") => `(tactic| refine knownF rfl ?_)
local macro_rules | `(tactic| walk_at "bl") => `(tactic| refine ⟨_, rfl, ?_⟩)
local macro_rules | `(tactic| walk_at "br") => `(tactic| refine ⟨fun h => ?_, fun h => ?_⟩)

/-! ### plain functions over texts -/
abbrev lns (s : Str) : List Str := Txt.split s "\n"
abbrev wds (s : Str) : List Str := Txt.split s " "
def isDig (n : Nat) : Bool := decide (n ∈ ("0123456789" : Str).cps.toList)
def numOf (w : Str) : Option Int := if (decide (1 ≤ w.length) && decide (w.length ≤ 20) && w.cps.toList.all isDig) = true then (if w.cps.toList.head? = some 48 ∧ 1 < w.length then none else some ((NumText.digitsVal w.cps.toList : Nat) : Int)) else none
def optD : Option Int → D
  | none => .non
  | some i => .int i
def partOf (dw : Str) (at_ : Int) (x : Str) : Option Int := if x = "firm" ∧ leastP dw at_ = -1 then some (-1) else numOf x
def collect (f : Nat → Option Int) : Nat → Except Nat (List Int)
  | 0 => .ok []
  | k + 1 => match collect f k with
    | .error a => .error a
    | .ok l => match f (k + 1) with
      | none => .error (k + 1)
      | some i => .ok (l ++ [i])
def partAt (ws : List Str) (k : Nat) : Option Int := (ws[k]?).bind fun x => partOf (ws.headD "") k x
/-- what a line's words say: the deed's numbers, or the first wrong word -/
def deedOf (ws : List Str) : Except Nat (List Int) := match sizeL.lookup (ws.headD "") with
  | none => .error 0
  | some n => match collect (partAt ws) n with
    | .error a => .error a
    | .ok l => if ws.length = n + 1 then .ok l else .error (n + 1)
def deedD (dw : Str) (l : List Int) : D := .tup (.str dw :: l.map D.int)
def priceT (i : Int) : Str := if i = -1 then "firm" else toString i
def deedT (dw : Str) (l : List Int) : Str := Txt.join " " (dw :: l.map priceT)
theorem collect_len {f : Nat → Option Int} : ∀ {k : Nat} {l : List Int}, collect f k = .ok l → l.length = k
  | 0, l, h => by cases h; rfl
  | k + 1, l, h => by
    unfold collect at h
    cases e : collect f k with
    | error a => rw [e] at h; cases h
    | ok r =>
      rw [e] at h
      simp only at h
      cases e2 : f (k + 1) with
      | none => rw [e2] at h; cases h
      | some i =>
        rw [e2] at h
        cases h
        rw [List.length_append, collect_len e]
        rfl
theorem collect_err {f : Nat → Option Int} {a : Nat} : ∀ {n k : Nat}, collect f k = .error a → k ≤ n → collect f n = .error a
  | 0, k, h, hk => by
    have : k = 0 := by omega
    subst this
    exact h
  | n + 1, k, h, hk => by
    by_cases e : k = n + 1
    · subst e
      exact h
    · unfold collect
      rw [collect_err h (by omega)]
theorem collect_step {f : Nat → Option Int} {k : Nat} {l : List Int} (h : collect f k = .ok l) : collect f (k + 1) = match f (k + 1) with
    | none => .error (k + 1)
    | some i => .ok (l ++ [i]) := by
  show (match collect f k with
    | .error a => Except.error a
    | .ok l => match f (k + 1) with
      | none => .error (k + 1)
      | some i => .ok (l ++ [i])) = _
  rw [h]
variable {K : PySem.W.Frag} {T : Tb} {w : World} {vs : List V} {H : Hp} {Q : VK} {E : XK}
/-! ### number_of, and the law's -/
abbrev preNum (ds : List D) : Prop := ∃ x : Str, ds = [.str x] ∧ x.length ≤ sizeLine
abbrev postNum (ds : List D) (d : D) : Prop := ∀ x, ds = [.str x] → d = optD (numOf x)
abbrev spNum (K : PySem.W.Frag) (T : Tb) : Sp := SpP K T preNum postNum noExc
theorem len_cps (x : Str) : x.cps.toList.length = x.length := Array.length_toList
theorem dig_iff (n : Nat) : isDig n = true ↔ 48 ≤ n ∧ n ≤ 57 := by
  unfold isDig
  rw [decide_eq_true_iff]
  have e : ("0123456789" : Str).cps.toList = [48, 49, 50, 51, 52, 53, 54, 55, 56, 57] := by decide +kernel
  rw [e]
  simp
  omega
theorem digs_all {x : Str} (h : x.cps.toList.all isDig = true) : NumText.AllDigits x.cps.toList := fun c hc => (dig_iff c).mp (List.all_eq_true.mp h c hc)
theorem num_int {x : Str} (h1 : 1 ≤ x.length) (h2 : x.length ≤ 20) (h : x.cps.toList.all isDig = true) : PySem.intText? x = some ((NumText.digitsVal x.cps.toList : Nat) : Int) := by
  refine intText_digits (digs_all h) (fun e => ?_) (by omega)
  have := len_cps x
  rw [e] at this
  simp at this
  omega
theorem ws_num (c : Cd) (ds : List D) (hp : preNum ds) : WpS c (t_number_of c.K) (Ret (postNum ds)) (args ds 1) := by
  obtain ⟨x, rfl, hl⟩ := hp
  have hc := len_cps x
  have hz : sizeLine = 16777216 := sizeLine_eq
  unfold t_number_of
  walk_at "zz"
  refine k_lenS hl ?_
  walk_at "zz"
  refine ⟨fun h1 => ?_, fun h1 => ?_⟩
  · have g1 : 1 ≤ x.length := by
      have := of_decide_eq_true h1
      omega
    walk_at "zz"
    refine ⟨fun h2 => ?_, fun h2 => ?_⟩
    · have g2 : x.length ≤ 20 := by
        simp at h2
        omega
      walk_at "zz"
      refine w_mapG (fun n => .str ⟨#[n]⟩) (fun n => .bl (isDig n)) ?_
      walk_at "zz"
      refine ⟨by omega, rfl, Nat.le_of_ble_eq_true rfl, fun n _ => ?_, ?_⟩
      · walk_at "zz"
        refine r_inS ⟨rfl, rfl⟩
      · walk_at "zz"
        rw [show x.cps.toList.map (fun n => D.bl (isDig n)) = (x.cps.toList.map isDig).map D.bl by rw [List.map_map]; rfl]
        refine k_all ?_
        rw [List.all_map, show (id ∘ isDig) = isDig from rfl]
        walk_at "zz"
        refine ⟨fun h3 => ?_, fun h3 => ?_⟩
        · walk_at "zz"
          rintro _ ⟨⟩
          rw [numOf, if_neg]
          · rfl
          · simp only [Bool.not_eq_true'] at h3
            rw [h3]
            simp
        · have g3 : x.cps.toList.all isDig = true := by simpa using h3
          have gn : numOf x = if x.cps.toList.head? = some 48 ∧ 1 < x.length then none else some ((NumText.digitsVal x.cps.toList : Nat) : Int) := by
            rw [numOf, if_pos (by rw [g3, decide_eq_true g1, decide_eq_true g2]; rfl)]
          cases hx : x.cps.toList with
          | nil =>
            rw [hx] at hc
            simp at hc
            omega
          | cons n ns =>
            walk_at "zz"
            refine u_ixS hl (n := n) (by rw [hx]; exact atI_zero) ?_
            walk_at "zz"
            have e0 : decide ((⟨#[n]⟩ : Str) = "0") = decide (n = 48) := dec_iff ⟨fun z => by
              have y := congrArg (fun s : Str => s.cps.toList) z
              have y0 : ("0" : Str).cps.toList = [48] := by decide +kernel
              simp only [y0] at y
              exact (List.cons.inj y).1, fun z => by subst z; decide +kernel⟩
            rw [e0]
            refine ⟨fun h4 => ?_, fun h4 => ?_⟩
            · walk_at "zz"
              refine k_lenS hl ?_
              walk_at "zz"
              refine ⟨fun h5 => ?_, fun h5 => ?_⟩
              · walk_at "zz"
                rintro _ ⟨⟩
                rw [gn, if_pos ⟨by rw [hx, of_decide_eq_true h4]; rfl, by have := of_decide_eq_true h5; omega⟩]
                rfl
              · walk_at "zz"
                refine u_intS (num_int g1 g2 g3) (by omega) ?_
                walk_at "zz"
                rintro _ ⟨⟩
                rw [gn, if_neg fun y => (of_decide_eq_false h5) (by omega)]
                rfl
            · walk_at "zz"
              refine u_intS (num_int g1 g2 g3) (by omega) ?_
              walk_at "zz"
              rintro _ ⟨⟩
              rw [gn, if_neg fun y => (of_decide_eq_false h4) (by have := y.1; rw [hx] at this; exact Option.some.inj this)]
              rfl
    · walk_at "zz"
      rintro _ ⟨⟩
      have g2 : ¬ x.length ≤ 20 := by
        simp at h2
        omega
      rw [numOf, if_neg]
      · rfl
      · rw [decide_eq_false g2]
        simp
  · walk_at "zz"
    rintro _ ⟨⟩
    have g1 : ¬ 1 ≤ x.length := by
      have := of_decide_eq_false h1
      omega
    rw [numOf, if_neg]
    · rfl
    · rw [decide_eq_false g1]
      simp
theorem wp_num (h : spNum K T vs H Q E) : t_number_of K { nx := fun _ H' => Q .non H', rt := Q } (L2.start n_number_of vs) H :=
  fn_PR 1 h (by rintro ds ⟨x, rfl, _⟩; rfl) fun c ds e1 _ _ _ _ hp => by subst e1; exact ws_num c ds hp
end K83

/-! ## WC -/
set_option Elab.async false
set_option linter.all false
set_option maxRecDepth 100000
set_option maxHeartbeats 4000000
namespace K83
open PySem PySem.Spec PyProof.Rows L2 Zd
local macro_rules | `(tactic| walk_at "z") => `(tactic| first
  | (with_reducible refine w_int ?_) | (with_reducible refine w_str ?_) | (with_reducible refine w_bl ?_) | (with_reducible refine w_non ?_)
  | (with_reducible refine w_varR ?_; refine ⟨_, rfl, ?_⟩)
  | (with_reducible refine w_isInt ?_) | (with_reducible refine w_isBool ?_) | (with_reducible refine w_isStr ?_) | (with_reducible refine w_isTup ?_) | (with_reducible refine w_isLst ?_)
  | (with_reducible refine w_kdGet (by assumption) ?_) | (with_reducible refine w_kdIn (by assumption) ?_) | (with_reducible refine w_kdNotIn (by assumption) ?_) | (with_reducible refine w_k (by assumption) ?_)
  | (with_reducible refine w_ixOR ?_; refine ⟨_, _, rfl, ?_⟩) | (with_reducible refine w_lenOR ?_; refine ⟨_, _, rfl, ?_⟩) | (with_reducible refine w_slOR ?_; refine ⟨_, _, rfl, ?_⟩) | (with_reducible refine w_callJR ?_; refine ⟨_, _, rfl, ?_⟩)
  | (with_reducible refine w_op ?_) | (with_reducible refine w_cb ?_) | (with_reducible refine w_nil ?_) | (with_reducible refine w_cons ?_)
  | (with_reducible refine w_disp ?_) | (with_reducible refine p_cons ?_) | (with_reducible refine p_nil ?_) | (with_reducible refine w_revT ?_) | (with_reducible refine w_dget ?_) | (with_reducible refine w_din ?_) | (with_reducible refine w_dnin ?_)
  | (with_reducible refine w_tup ?_) | (with_reducible refine w_lst ?_) | (with_reducible refine w_test ?_) | (with_reducible refine w_tB ?_)
  | (with_reducible refine w_not ?_) | (with_reducible refine w_and ?_) | (with_reducible refine w_or ?_) | (with_reducible refine w_if ?_)
  | (with_reducible refine w_notV ?_) | (with_reducible refine w_andV ?_) | (with_reducible refine w_orV ?_) | (with_reducible refine w_chain ?_) | (with_reducible refine w_neg ?_)
  | (with_reducible refine w_sl ?_) | (with_reducible refine o_none ?_) | (with_reducible refine o_some ?_) | (with_reducible refine w_m1 ?_)
  | (with_reducible refine u_addI ?_) | (with_reducible refine u_sub ?_) | (with_reducible refine u_lt ?_) | (with_reducible refine u_le ?_) | (with_reducible refine u_gt ?_) | (with_reducible refine u_ge ?_)
  | (with_reducible refine u_eqI ?_) | (with_reducible refine u_neI ?_) | (with_reducible refine u_eqS ?_) | (with_reducible refine u_neS ?_)
  | (with_reducible refine u_inT ?_) | (with_reducible refine u_eqT0 ?_) | (with_reducible refine u_neT0 ?_) | (with_reducible refine u_neL0 ?_) | (with_reducible refine u_eqL0 ?_)
  | (with_reducible refine r_isN ?_) | (with_reducible refine r_notN ?_) | (with_reducible refine u_int ?_) | (with_reducible refine u_intB ?_)
  | (with_reducible refine k_strS ?_) | (with_reducible refine k_max2 ?_) | (with_reducible refine k_min2 ?_)
  | (with_reducible refine k_tup ?_) | (with_reducible refine k_lenT ?_) | (with_reducible refine k_lenL ?_) | (with_reducible refine u_ixT atI_zero ?_) | (with_reducible refine u_ixL atI_zero ?_) | (with_reducible refine w_callE ?_) | (with_reducible refine w_callX ?_) | (with_reducible refine s_raise (by assumption) ?_) | (with_reducible refine i_rng1 ?_) | (with_reducible refine i_rng2 ?_) | (with_reducible refine i_list ?_) | (with_reducible refine i_tup ?_) | (with_reducible refine i_str ?_) | (with_reducible refine u_slT ?_) | (with_reducible refine u_slL ?_)
  | (with_reducible refine q_set ?_) | (with_reducible refine q_drop ?_) | (with_reducible refine q_par ?_) | (with_reducible refine q_when ?_) | (with_reducible refine q_if ?_)
  | (with_reducible refine s_ret ?_) | (with_reducible refine s_retNon ?_) | (with_reducible refine s_next ?_)
  | (refine ⟨_, rfl, ?_⟩) | (refine ⟨Nat.le_of_ble_eq_true rfl, ?_⟩) | (refine knownT rfl ?_) | (refine knownF rfl ?_) | (refine orT rfl ?_) | (refine orF rfl ?_))
local macro_rules | `(tactic| walk_at "zz") => `(tactic| repeat walk_at "z")
local macro_rules | `(tactic| walk_at "kt") => `(tactic| refine ⟨_, rfl, knownT rfl ?_⟩)
local macro_rules | `(tactic| walk_at "kf") => `(tactic| refine ⟨_, rfl, knownF rfl ?_⟩)
local macro_rules | `(tactic| walk_at "ot") => `(tactic| refine ⟨_, rfl, orT rfl ?_⟩)
local macro_rules | `(tactic| walk_at "of") => `(tactic| refine ⟨_, rfl, orF rfl ?_⟩)
local macro_rules | `(tactic| walk_at "t") => `(tactic| refine knownT rfl ?_)
local macro_rules | `(tactic| walk_at "f") => `(tactic| refine knownF rfl ?_)
local macro_rules | `(tactic| walk_at "bl") => `(tactic| refine ⟨_, rfl, ?_⟩)
local macro_rules | `(tactic| walk_at "br") => `(tactic| refine ⟨fun h => ?_, fun h => ?_⟩)

variable {K : PySem.W.Frag} {T : Tb} {w : World} {vs : List V} {H : Hp} {Q : VK} {E : XK}
def askX (K : PySem.W.Frag) (ds : List D) (C : Addr) (w : D) : Prop := (∃ t, ds = [t] ∧ isStrD t = false ∧ C = He.ga K "BadText" ∧ w = .int (-1)) ∨ ∃ s : Str, ds = [.str s] ∧ 200000 < s.length ∧ C = He.ga K "TooMany" ∧ w = .int s.length
abbrev preAsk (ds : List D) : Prop := ∃ t, ds = [t] ∧ ∀ s : Str, t = .str s → s.length ≤ 1000000
abbrev postAsk (ds : List D) (d : D) : Prop := ∃ s : Str, ds = [.str s] ∧ s.length ≤ 200000 ∧ d = .str s
abbrev spAsk (K : PySem.W.Frag) (T : Tb) : Sp := SpP K T preAsk postAsk (askX K)
theorem ws_ask (c : Cd) (F : Kf c.K) (ds : List D) (hz : c.RZ = askX c.K ds) (hp : preAsk ds) : WpS c (t_asked_text c.K c.E) (Ret (postAsk ds)) (args ds 0) := by
  obtain ⟨t, rfl, hl⟩ := hp
  obtain ⟨kd, kt, e1, e2, e3, e4⟩ := F
  have hs : sizeLine = 16777216 := sizeLine_eq
  unfold t_asked_text
  cases t
  case str s =>
    have hl := hl s rfl
    walk_at "zz"
    refine k_lenS (by omega) ?_
    walk_at "zz"
    refine ⟨fun h => ?_, fun h => ?_⟩
    · walk_at "zz"
      refine k_lenS (by omega) ?_
      walk_at "zz"
      rw [hz]
      exact .inr ⟨s, rfl, by have := of_decide_eq_true h; omega, rfl, rfl⟩
    · walk_at "zz"
      exact ⟨by have := of_decide_eq_false h; omega, rfl⟩
  all_goals
    walk_at "zz"
    rw [hz]
    exact .inl ⟨_, rfl, rfl, rfl, rfl⟩
theorem wp_ask (F : Kf K) (h : spAsk K T vs H Q E) : t_asked_text K E { nx := fun _ H' => Q .non H', rt := Q } (L2.start n_asked_text vs) H :=
  fn_PR 1 h (by rintro ds ⟨x, rfl, _⟩; rfl) fun c ds a1 a2 a3 a4 _ hp => by subst a1 a3; exact ws_ask c F ds a4 hp
/-! ### lines, words -/
abbrev preTx (ds : List D) : Prop := ∃ s : Str, ds = [.str s] ∧ s.length ≤ 1000000
abbrev postLn (ds : List D) (d : D) : Prop := ∀ s, ds = [.str s] → d = .lst ((lns s).map D.str)
abbrev postWd (ds : List D) (d : D) : Prop := ∀ s, ds = [.str s] → d = .lst ((wds s).map D.str)
abbrev spLn (K : PySem.W.Frag) (T : Tb) : Sp := SpP K T preTx postLn noExc
abbrev spWd (K : PySem.W.Frag) (T : Tb) : Sp := SpP K T preTx postWd noExc
theorem ws_ln (c : Cd) (ds : List D) (hp : preTx ds) : WpS c (t_lines_of c.K) (Ret (postLn ds)) (args ds 0) := by
  obtain ⟨s, rfl, hl⟩ := hp
  have hs : sizeLine = 16777216 := sizeLine_eq
  unfold t_lines_of
  walk_at "zz"
  refine MD.of_N (k_split (by decide +kernel) (by omega) ?_)
  walk_at "zz"
  rintro _ ⟨⟩
  rfl
theorem ws_wd (c : Cd) (ds : List D) (hp : preTx ds) : WpS c (t_words_of c.K) (Ret (postWd ds)) (args ds 0) := by
  obtain ⟨s, rfl, hl⟩ := hp
  have hs : sizeLine = 16777216 := sizeLine_eq
  unfold t_words_of
  walk_at "zz"
  refine MD.of_N (k_split (by decide +kernel) (by omega) ?_)
  walk_at "zz"
  rintro _ ⟨⟩
  rfl
theorem wp_ln (h : spLn K T vs H Q E) : t_lines_of K { nx := fun _ H' => Q .non H', rt := Q } (L2.start n_lines_of vs) H :=
  fn_PR 1 h (by rintro ds ⟨x, rfl, _⟩; rfl) fun c ds a1 a2 a3 a4 _ hp => by subst a1; exact ws_ln c ds hp
theorem wp_wd (h : spWd K T vs H Q E) : t_words_of K { nx := fun _ H' => Q .non H', rt := Q } (L2.start n_words_of vs) H :=
  fn_PR 1 h (by rintro ds ⟨x, rfl, _⟩; rfl) fun c ds a1 a2 a3 a4 _ hp => by subst a1; exact ws_wd c ds hp
def linesD (s : Str) : D := .lst ((lns s).map fun l => .lst ((wds l).map D.str))
abbrev postAl (ds : List D) (d : D) : Prop := ∃ s : Str, ds = [.str s] ∧ s.length ≤ 200000 ∧ d = linesD s
abbrev spAl (K : PySem.W.Frag) (T : Tb) : Sp := SpP K T preAsk postAl (askX K)
theorem ws_al (c : Cd) (ds : List D) (hz : c.RZ = askX c.K ds) (hp : preAsk ds) : WpS c (t_asked_lines c.K (spAsk c.K c.T) (spLn c.K c.T) (spWd c.K c.T) c.E) (Ret (postAl ds)) (args ds 1) := by
  obtain ⟨t, rfl, hl⟩ := hp
  have hs : sizeLine = 16777216 := sizeLine_eq
  unfold t_asked_lines
  walk_at "zz"
  refine w_mapG (α := Str) D.str (fun l => .lst ((wds l).map D.str)) ?_
  walk_at "zz"
  refine ⟨⟨t, rfl, hl⟩, fun C d h => by rw [hz]; exact h, fun d hd => ?_⟩
  obtain ⟨s, ⟨⟩, h2, rfl⟩ := hd
  walk_at "zz"
  refine ⟨⟨s, rfl, by omega⟩, fun d hd => ?_⟩
  rw [hd s rfl]
  have hb : (lns s).length ≤ s.length + 2 := split_le s "\n"
  refine ⟨_, rfl, _, rfl, by omega, rfl, Nat.le_of_ble_eq_true rfl, fun l hm => ?_, ?_⟩
  · have := part_short hm
    walk_at "zz"
    refine ⟨⟨l, rfl, by omega⟩, fun d hd => ⟨rfl, ?_⟩⟩
    rw [hd l rfl]
  · walk_at "zz"
    exact ⟨h2, rfl⟩
theorem wp_al (h : spAl K T vs H Q E) : t_asked_lines K (spAsk K T) (spLn K T) (spWd K T) E { nx := fun _ H' => Q .non H', rt := Q } (L2.start n_asked_lines vs) H :=
  fn_PR 1 h (by rintro ds ⟨x, rfl, _⟩; rfl) fun c ds a1 a2 a3 a4 _ hp => by subst a1 a2 a3; exact ws_al c ds a4 hp
/-! ### asked_end -/
abbrev preEnd (ds : List D) : Prop := ∃ (ls : List D) (n : Int), ds = [.lst ls, .int n]
abbrev postEnd (ds : List D) (d : D) : Prop := ∀ (ls : List D) (n : Int), ds = [.lst ls, .int n] → (ls.length : Int) ≤ n ∧ d = .non
def endX (K : PySem.W.Frag) (ds : List D) (C : Addr) (w : D) : Prop := ∀ (ls : List D) (n : Int), ds = [.lst ls, .int n] → n < (ls.length : Int) ∧ C = He.ga K "WrongLine" ∧ w = .tup [.int n, .int 0]
abbrev spEnd (K : PySem.W.Frag) (T : Tb) : Sp := SpP K T preEnd postEnd (endX K)
theorem ws_end (c : Cd) (F : Kf c.K) (ds : List D) (hz : c.RZ = endX c.K ds) (hp : preEnd ds) : WpS c (t_asked_end c.K c.E) (Ret (postEnd ds)) (args ds 0) := by
  obtain ⟨ls, n, rfl⟩ := hp
  obtain ⟨kd, kt, e1, e2, e3, e4⟩ := F
  unfold t_asked_end
  refine s_if ?_
  walk_at "zz"
  refine ⟨fun h => ?_, fun h => ?_⟩
  · walk_at "zz"
    rw [hz]
    rintro _ _ ⟨⟩
    exact ⟨of_decide_eq_true h, rfl, rfl⟩
  · refine s_next ?_
    rintro _ _ ⟨⟩
    exact ⟨by have := of_decide_eq_false h; omega, rfl⟩
theorem wp_end (F : Kf K) (h : spEnd K T vs H Q E) : t_asked_end K E { nx := fun _ H' => Q .non H', rt := Q } (L2.start n_asked_end vs) H :=
  fn_PR 2 h (by rintro ds ⟨x, y, rfl⟩; rfl) fun c ds a1 a2 a3 a4 _ hp => by subst a1 a3; exact ws_end c F ds a4 hp
/-! ### price_text, row_text -/
theorem log_small {i : Int} (h : -1 ≤ i) (h2 : i ≤ MOST) : i.natAbs.log2 < 1920 := by
  by_cases e : i.natAbs = 0
  · rw [e]
    decide
  · rw [Nat.log2_lt e]
    have a : i.natAbs ≤ 99999999999999999999 := by
      unfold MOST at h2
      omega
    have b : (99999999999999999999 : Nat) < 2 ^ 1920 := by decide +kernel
    omega
abbrev prePr (ds : List D) : Prop := ∃ i : Int, ds = [.int i] ∧ -1 ≤ i ∧ i ≤ MOST
abbrev postPr (ds : List D) (d : D) : Prop := ∀ i : Int, ds = [.int i] → d = .str (priceT i)
abbrev spPr (K : PySem.W.Frag) (T : Tb) : Sp := SpP K T prePr postPr noExc
theorem ws_pr (c : Cd) (ds : List D) (hp : prePr ds) : WpS c (t_price_text c.K) (Ret (postPr ds)) (args ds 0) := by
  obtain ⟨i, rfl, h1, h2⟩ := hp
  unfold t_price_text
  walk_at "zz"
  refine ⟨fun h => ?_, fun h => ?_⟩
  · walk_at "zz"
    rintro _ ⟨⟩
    rw [priceT, if_pos (of_decide_eq_true h)]
  · walk_at "zz"
    refine k_strI (log_small h1 h2) ?_
    walk_at "zz"
    rintro _ ⟨⟩
    rw [priceT, if_neg (of_decide_eq_false h)]
theorem wp_pr (h : spPr K T vs H Q E) : t_price_text K { nx := fun _ H' => Q .non H', rt := Q } (L2.start n_price_text vs) H :=
  fn_PR 1 h (by rintro ds ⟨x, rfl, _⟩; rfl) fun c ds a1 a2 a3 a4 _ hp => by subst a1; exact ws_pr c ds hp
abbrev sumL (l : List Str) : Nat := (l.map (·.length)).sum + l.length
abbrev preRow (ds : List D) : Prop := ∃ (x : Str) (l : List Str), ds = [.str x, .lst (l.map D.str)] ∧ sumL (x :: l) ≤ 1000000
abbrev postRow (ds : List D) (d : D) : Prop := ∀ (x : Str) (l : List Str), ds = [.str x, .lst (l.map D.str)] → d = .str (Txt.join " " (x :: l))
abbrev spRow (K : PySem.W.Frag) (T : Tb) : Sp := SpP K T preRow postRow noExc
theorem strs_inj {l m : List Str} (h : l.map D.str = m.map D.str) : l = m := by
  refine List.map_inj_right (f := D.str) (fun a b z => by cases z; rfl) |>.mp h
theorem ws_row (c : Cd) (ds : List D) (hp : preRow ds) : WpS c (t_row_text c.K) (Ret (postRow ds)) (args ds 1) := by
  obtain ⟨x, l, rfl, hl⟩ := hp
  have hs : sizeLine = 16777216 := sizeLine_eq
  have hn : l.length ≤ 1000000 := by simp [sumL] at hl; omega
  unfold t_row_text
  walk_at "zz"
  refine w_star ?_
  refine w_mapG (α := Str) D.str D.str ?_
  walk_at "zz"
  refine ⟨by omega, rfl, Nat.le_of_ble_eq_true rfl, fun n _ => ?_, ?_⟩
  · walk_at "zz"
    exact ⟨rfl, rfl⟩
  · walk_at "zz"
    refine ⟨by rw [List.append_nil, List.length_cons, List.length_map]; omega, ?_⟩
    rw [List.append_nil, show D.str x :: l.map D.str = (x :: l).map D.str from rfl]
    refine k_join ?_ ?_
    · have e : (" " : Str).length = 1 := by decide +kernel
      rw [e]
      simp [sumL] at hl ⊢
      omega
    walk_at "zz"
    intro y m e
    have e1 := List.cons.inj e
    have e2 := (List.cons.inj e1.2).1
    cases e1.1
    have := strs_inj (D.lst.inj e2)
    rw [this]
theorem wp_row (h : spRow K T vs H Q E) : t_row_text K { nx := fun _ H' => Q .non H', rt := Q } (L2.start n_row_text vs) H :=
  fn_PR 2 h (by rintro ds ⟨x, l, rfl, _⟩; rfl) fun c ds a1 a2 a3 a4 _ hp => by subst a1; exact ws_row c ds hp
/-! ### part_of_deed -/
abbrev prePart (ds : List D) : Prop := ∃ (dw : Str) (n : Nat) (a : Int) (x : Str), ds = [.str dw, .int a, .str x] ∧ sizeL.lookup dw = some n ∧ x.length ≤ sizeLine
abbrev postPart (ds : List D) (d : D) : Prop := ∀ (dw : Str) (a : Int) (x : Str), ds = [.str dw, .int a, .str x] → d = optD (partOf dw a x)
abbrev spPart (K : PySem.W.Frag) (T : Tb) : Sp := SpP K T prePart postPart noExc
theorem ws_part (c : Cd) (ds : List D) (hp : prePart ds) : WpS c (t_part_of_deed c.K (spLeast c.K c.T) (spNum c.K c.T)) (Ret (postPart ds)) (args ds 0) := by
  obtain ⟨dw, n, a, x, rfl, hs, hl⟩ := hp
  unfold t_part_of_deed
  walk_at "zz"
  refine ⟨fun h => ?_, fun h => ?_⟩
  · walk_at "zz"
    refine ⟨⟨dw, n, a, rfl, hs⟩, fun d hd => ?_⟩
    rw [hd _ _ rfl]
    walk_at "zz"
    refine ⟨fun h2 => ?_, fun h2 => ?_⟩
    · walk_at "zz"
      rintro _ _ _ ⟨⟩
      rw [partOf, if_pos ⟨of_decide_eq_true h, of_decide_eq_true h2⟩]
      rfl
    · walk_at "zz"
      refine ⟨⟨x, rfl, hl⟩, fun d hd => ?_⟩
      rw [hd _ rfl]
      walk_at "zz"
      rintro _ _ _ ⟨⟩
      rw [partOf, if_neg fun y => of_decide_eq_false h2 y.2]
  · walk_at "zz"
    refine ⟨⟨x, rfl, hl⟩, fun d hd => ?_⟩
    rw [hd _ rfl]
    walk_at "zz"
    rintro _ _ _ ⟨⟩
    rw [partOf, if_neg fun y => of_decide_eq_false h y.1]
theorem wp_part (h : spPart K T vs H Q E) : t_part_of_deed K (spLeast K T) (spNum K T) { nx := fun _ H' => Q .non H', rt := Q } (L2.start n_part_of_deed vs) H :=
  fn_PR 3 h (by rintro ds ⟨_, _, _, _, rfl, _⟩; rfl) fun c ds a1 a2 a3 a4 _ hp => by subst a1 a2; exact ws_part c ds hp
end K83

/-! ## WD -/
set_option Elab.async false
set_option linter.all false
set_option maxRecDepth 100000
set_option maxHeartbeats 4000000
namespace K83
open PySem PySem.Spec PyProof.Rows L2 Zd
local macro_rules | `(tactic| walk_at "z") => `(tactic| first
  | (with_reducible refine w_int ?_) | (with_reducible refine w_str ?_) | (with_reducible refine w_bl ?_) | (with_reducible refine w_non ?_)
  | (with_reducible refine w_varR ?_; refine ⟨_, rfl, ?_⟩)
  | (with_reducible refine w_isInt ?_) | (with_reducible refine w_isBool ?_) | (with_reducible refine w_isStr ?_) | (with_reducible refine w_isTup ?_) | (with_reducible refine w_isLst ?_)
  | (with_reducible refine w_kdGet (by assumption) ?_) | (with_reducible refine w_kdIn (by assumption) ?_) | (with_reducible refine w_kdNotIn (by assumption) ?_) | (with_reducible refine w_k (by assumption) ?_)
  | (with_reducible refine w_ixOR ?_; refine ⟨_, _, rfl, ?_⟩) | (with_reducible refine w_lenOR ?_; refine ⟨_, _, rfl, ?_⟩) | (with_reducible refine w_slOR ?_; refine ⟨_, _, rfl, ?_⟩) | (with_reducible refine w_callJR ?_; refine ⟨_, _, rfl, ?_⟩)
  | (with_reducible refine w_op ?_) | (with_reducible refine w_cb ?_) | (with_reducible refine w_nil ?_) | (with_reducible refine w_cons ?_)
  | (with_reducible refine w_disp ?_) | (with_reducible refine p_cons ?_) | (with_reducible refine p_nil ?_) | (with_reducible refine w_revT ?_) | (with_reducible refine w_dget ?_) | (with_reducible refine w_din ?_) | (with_reducible refine w_dnin ?_)
  | (with_reducible refine w_tup ?_) | (with_reducible refine w_lst ?_) | (with_reducible refine w_test ?_) | (with_reducible refine w_tB ?_)
  | (with_reducible refine w_not ?_) | (with_reducible refine w_and ?_) | (with_reducible refine w_or ?_) | (with_reducible refine w_if ?_)
  | (with_reducible refine w_notV ?_) | (with_reducible refine w_andV ?_) | (with_reducible refine w_orV ?_) | (with_reducible refine w_chain ?_) | (with_reducible refine w_neg ?_)
  | (with_reducible refine w_sl ?_) | (with_reducible refine o_none ?_) | (with_reducible refine o_some ?_) | (with_reducible refine w_m1 ?_)
  | (with_reducible refine u_addI ?_) | (with_reducible refine u_sub ?_) | (with_reducible refine u_lt ?_) | (with_reducible refine u_le ?_) | (with_reducible refine u_gt ?_) | (with_reducible refine u_ge ?_)
  | (with_reducible refine u_eqI ?_) | (with_reducible refine u_neI ?_) | (with_reducible refine u_eqS ?_) | (with_reducible refine u_neS ?_)
  | (with_reducible refine u_inT ?_) | (with_reducible refine u_eqT0 ?_) | (with_reducible refine u_neT0 ?_) | (with_reducible refine u_neL0 ?_) | (with_reducible refine u_eqL0 ?_)
  | (with_reducible refine r_isN ?_) | (with_reducible refine r_notN ?_) | (with_reducible refine u_int ?_) | (with_reducible refine u_intB ?_)
  | (with_reducible refine k_strS ?_) | (with_reducible refine k_max2 ?_) | (with_reducible refine k_min2 ?_)
  | (with_reducible refine k_tup ?_) | (with_reducible refine k_lenT ?_) | (with_reducible refine k_lenL ?_) | (with_reducible refine u_ixT atI_zero ?_) | (with_reducible refine u_ixL atI_zero ?_) | (with_reducible refine w_callE ?_) | (with_reducible refine w_callX ?_) | (with_reducible refine s_raise (by assumption) ?_) | (with_reducible refine i_rng1 ?_) | (with_reducible refine i_rng2 ?_) | (with_reducible refine i_list ?_) | (with_reducible refine i_tup ?_) | (with_reducible refine i_str ?_) | (with_reducible refine u_slT ?_) | (with_reducible refine u_slL ?_)
  | (with_reducible refine q_set ?_) | (with_reducible refine q_drop ?_) | (with_reducible refine q_par ?_) | (with_reducible refine q_when ?_) | (with_reducible refine q_if ?_)
  | (with_reducible refine s_ret ?_) | (with_reducible refine s_retNon ?_) | (with_reducible refine s_next ?_)
  | (refine ⟨_, rfl, ?_⟩) | (refine ⟨Nat.le_of_ble_eq_true rfl, ?_⟩) | (refine knownT rfl ?_) | (refine knownF rfl ?_) | (refine orT rfl ?_) | (refine orF rfl ?_))
local macro_rules | `(tactic| walk_at "zz") => `(tactic| repeat walk_at "z")
local macro_rules | `(tactic| walk_at "kt") => `(tactic| refine ⟨_, rfl, knownT rfl ?_⟩)
local macro_rules | `(tactic| walk_at "kf") => `(tactic| refine ⟨_, rfl, knownF rfl ?_⟩)
local macro_rules | `(tactic| walk_at "ot") => `(tactic| refine ⟨_, rfl, orT rfl ?_⟩)
local macro_rules | `(tactic| walk_at "of") => `(tactic| refine ⟨_, rfl, orF rfl ?_⟩)
local macro_rules | `(tactic| walk_at "t") => `(tactic| refine knownT rfl ?_)
local macro_rules | `(tactic| walk_at "f") => `(tactic| refine knownF rfl ?_)
local macro_rules | `(tactic| walk_at "bl") => `(tactic| refine ⟨_, rfl, ?_⟩)
local macro_rules | `(tactic| walk_at "br") => `(tactic| refine ⟨fun h => ?_, fun h => ?_⟩)

variable {K : PySem.W.Frag} {T : Tb} {w : World} {vs : List V} {H : Hp} {Q : VK} {E : XK}
def deedR (ws : List Str) : D := match deedOf ws with
  | .ok l => .tup [deedD (ws.headD "") l, .non]
  | .error a => .tup [.non, .int a]
abbrev preOf (ds : List D) : Prop := ∃ ws : List Str, ds = [.lst (ws.map D.str)] ∧ ws ≠ [] ∧ ws.length ≤ 2000000 ∧ ∀ x, x ∈ ws → x.length ≤ sizeLine
abbrev postOf (ds : List D) (d : D) : Prop := ∀ ws : List Str, ds = [.lst (ws.map D.str)] → d = deedR ws
abbrev spOf (K : PySem.W.Frag) (T : Tb) : Sp := SpP K T preOf postOf noExc
theorem sizeL_small {x : Str} {n : Nat} (h : sizeL.lookup x = some n) : 1 ≤ n ∧ n ≤ 4 := by
  unfold sizeL at h
  simp only [List.lookup_cons] at h
  repeat' split at h
  all_goals first | (cases h; omega) | (cases h)
theorem optD_non {o : Option Int} : isNon (optD o) = o.isNone := by
  cases o <;> rfl
theorem ws_of (c : Cd) (F : Kf c.K) (hS : ∀ q, ¬ c.S q) (ds : List D) (hp : preOf ds) : WpS c (t_deed_of c.K w (spPart c.K c.T)) (Ret (postOf ds)) (args ds 3) := by
  obtain ⟨ws, rfl, hne, hn, hx⟩ := hp
  obtain ⟨kd, kt, e1, e2, e3, e4⟩ := F
  have hz : sizeLine = 16777216 := sizeLine_eq
  have post : ∀ d, d = deedR ws → postOf [.lst (ws.map D.str)] d := fun d e ws' h => by
    have h1 := D.lst.inj (List.cons.inj h).1
    rw [← strs_inj h1]
    exact e
  cases ws with
  | nil => exact absurd rfl hne
  | cons x r =>
  have hl : (D.str x :: r.map D.str).length = r.length + 1 := by simp
  rw [List.map_cons] at post ⊢
  unfold t_deed_of
  cases hs : sizeL.lookup x with
  | none =>
    have hd : deedOf (x :: r) = .error 0 := by
      show (match sizeL.lookup x with | none => Except.error 0 | some n => _) = _
      rw [hs]
    walk_at "zz"
    refine known true (by rw [size_look, hs]; rfl) (fun _ => ?_) (fun z => nomatch z)
    walk_at "zz"
    refine post _ ?_
    rw [deedR, hd]
    rfl
  | some n =>
    obtain ⟨n1, n4⟩ := sizeL_small hs
    have hd : deedOf (x :: r) = match collect (partAt (x :: r)) n with
        | .error a => .error a
        | .ok l => if r.length + 1 = n + 1 then .ok l else .error (n + 1) := by
      show (match sizeL.lookup x with | none => Except.error 0 | some n => _) = _
      rw [hs]
      rfl
    walk_at "zz"
    refine known false (by rw [size_look, hs]; rfl) (fun z => nomatch z) (fun _ => ?_)
    refine q_setN ?_
    refine w_lstN ?_
    walk_at "zz"
    intro p
    refine q_for ?_
    walk_at "zz"
    refine ⟨_, _, rfl, by rw [size_look, hs]; rfl, ?_⟩
    walk_at "zz"
    refine ⟨_, _, rfl, by omega, ?_⟩
    rw [show ((n : Int) + 1 - 1).toNat = n by omega]
    refine ⟨fun i ρ => ∃ l a b, collect (partAt (x :: r)) i = .ok l ∧ ρ = [some (.dat (.lst (D.str x :: r.map D.str))), some (.own p (.str x :: l.map D.int)), a, b], ⟨[], _, _, rfl, rfl⟩, fun i d ρ2 hd2 hin => ?_, fun ρ2 hin => ?_⟩
    · obtain ⟨l, a, b, hc, rfl⟩ := hin
      obtain ⟨hi, rfl⟩ := upto_get hd2
      have hstep := collect_step hc
      have hlen := collect_len hc
      refine g_name (Nat.le_of_ble_eq_true rfl) ?_
      -- what follows the part
      have key : ∀ (o : Option Int), partAt (x :: r) (i + 1) = o → WpS c
          (tSeq (tIfS (tTest (tOp rIsN (tVar 3) (tC .non))) (tRet (tTup (tCons (tC .non) (tCons (tVar 2) tNil)))) tNext) (tDrop (tBM c.K "list" rAppend (tVar 1) (tCons (tVar 3) tNil))))
          { nx := fun ρ => ∃ l a b, collect (partAt (x :: r)) (i + 1) = .ok l ∧ ρ = [some (.dat (.lst (D.str x :: r.map D.str))), some (.own p (.str x :: l.map D.int)), a, b], rt := (Ret (postOf [.lst (D.str x :: r.map D.str)])).rt,
            bk := fun ρ4 => WpS c (tRet (tIf (tTest (tOp (rEqU c.K) (tCB (rLenV c.K) (tCons (tVar 0) tNil)) (tCB (rLenV c.K) (tCons (tVar 1) tNil)))) (tTup (tCons (tCB (rTupO c.K) (tCons (tVar 1) tNil)) (tCons (tC .non) tNil))) (tTup (tCons (tC .non) (tCons (tCB (rLenV c.K) (tCons (tVar 1) tNil)) tNil))))) (Ret (postOf [.lst (D.str x :: r.map D.str)])) ρ4,
            ct := fun ρ => ∃ l a b, collect (partAt (x :: r)) (i + 1) = .ok l ∧ ρ = [some (.dat (.lst (D.str x :: r.map D.str))), some (.own p (.str x :: l.map D.int)), a, b] }
          [some (.dat (.lst (D.str x :: r.map D.str))), some (.own p (.str x :: l.map D.int)), some (.dat (.int (1 + i))), some (.dat (optD o))] := fun o ho => by
        rw [ho] at hstep
        walk_at "zz"
        rw [optD_non]
        cases o with
        | none =>
          walk_at "zz"
          refine post _ ?_
          rw [deedR, hd, collect_err hstep (by omega)]
          show D.tup [.non, .int (1 + i)] = D.tup [.non, .int ((i + 1 : Nat) : Int)]
          rw [show (1 + (i : Int)) = ((i + 1 : Nat) : Int) by omega]
        | some k =>
          walk_at "zz"
          refine s_app ⟨p, _, rfl⟩ ?_
          walk_at "zz"
          refine ⟨p, _, rfl, by rw [List.length_cons, List.length_map]; omega, l ++ [k], some (.dat (.int (1 + i))), some (.dat (optD (some k))), hstep, by rw [List.map_append]; rfl⟩
      refine q_set ?_
      walk_at "zz"
      by_cases hlt : i + 1 < r.length + 1
      · obtain ⟨y, hy⟩ : ∃ y, (x :: r)[i + 1]? = some y := ⟨_, List.getElem?_eq_getElem (by simpa using hlt)⟩
        refine known true (by rw [hl]; exact decide_eq_true (by omega)) (fun _ => ?_) (fun z => nomatch z)
        walk_at "zz"
        refine u_ixL (d := .str y) ?_ ?_
        · rw [show (1 + (i : Int)) = ((i + 1 : Nat) : Int) by omega]
          exact atI_nat (by rw [show D.str x :: r.map D.str = (x :: r).map D.str from rfl, List.getElem?_map, hy]; rfl)
        walk_at "zz"
        refine ⟨⟨x, n, _, y, rfl, hs, hx y (List.mem_of_getElem? hy)⟩, fun d hd3 => ⟨Nat.le_of_ble_eq_true rfl, ?_⟩⟩
        rw [hd3 _ _ _ rfl]
        refine key _ ?_
        show ((x :: r)[i + 1]?).bind _ = _
        rw [hy, show (1 + (i : Int)) = ((i + 1 : Nat) : Int) by omega]
        rfl
      · refine known false (by rw [hl]; exact decide_eq_false (by omega)) (fun z => nomatch z) (fun _ => ?_)
        refine w_non ⟨Nat.le_of_ble_eq_true rfl, key none ?_⟩
        show ((x :: r)[i + 1]?).bind _ = _
        rw [List.getElem?_eq_none (by simp; omega)]
        rfl
    · rw [upto_len] at hin
      obtain ⟨l, a, b, hc, rfl⟩ := hin
      have hlen := collect_len hc
      refine s_frz 1 rfl (fun q z => absurd z (hS q)) ?_
      walk_at "zz"
      have e1 : ((D.str x :: l.map D.int).length : Int) = n + 1 := by
        rw [List.length_cons, List.length_map, hlen]
        omega
      rw [e1, hl]
      refine ⟨fun h => ?_, fun h => ?_⟩
      · walk_at "zz"
        refine post _ ?_
        rw [deedR, hd, hc]
        have := of_decide_eq_true h
        show _ = (match (if r.length + 1 = n + 1 then Except.ok l else Except.error (n + 1) : Except Nat (List Int)) with | .ok l => _ | .error a => _)
        rw [if_pos (by omega)]
        rfl
      · walk_at "zz"
        refine post _ ?_
        rw [deedR, hd, hc]
        have := of_decide_eq_false h
        show _ = (match (if r.length + 1 = n + 1 then Except.ok l else Except.error (n + 1) : Except Nat (List Int)) with | .ok l => _ | .error a => _)
        rw [if_neg (by omega), e1]
        rfl
theorem wp_of (F : Kf K) (h : spOf K T vs H Q E) : t_deed_of K w (spPart K T) { nx := fun _ H' => Q .non H', rt := Q } (L2.start n_deed_of vs) H :=
  fn_PR 1 h (by rintro ds ⟨_, rfl, _⟩; rfl) fun c ds a1 a2 a3 a4 a5 hp => by subst a1 a2; exact ws_of c F a5 ds hp
/-! ### read_deed -/
abbrev firstW (s : Str) : List Str := wds ((lns s).headD "")
def readX (K : PySem.W.Frag) (ds : List D) (C : Addr) (w : D) : Prop := askX K ds C w ∨ ∃ s : Str, ds = [.str s] ∧ s.length ≤ 200000 ∧ C = He.ga K "WrongLine" ∧
  ((∃ a, deedOf (firstW s) = .error a ∧ w = .tup [.int 0, .int a]) ∨ ∃ l, deedOf (firstW s) = .ok l ∧ 1 < (lns s).length ∧ w = .tup [.int 1, .int 0])
abbrev postRead (ds : List D) (d : D) : Prop := ∃ s : Str, ds = [.str s] ∧ s.length ≤ 200000 ∧ ∃ l, deedOf (firstW s) = .ok l ∧ (lns s).length = 1 ∧ d = deedD ((firstW s).headD "") l
abbrev spRead (K : PySem.W.Frag) (T : Tb) : Sp := SpP K T preAsk postRead (readX K)
theorem wds_ne (l : Str) : wds l ≠ [] := fun e => by
  have := split_pos l " "
  rw [show Txt.split l " " = [] from e] at this
  exact absurd this (by decide)
theorem ws_read (c : Cd) (F : Kf c.K) (hS : ∀ q, ¬ c.S q) (ds : List D) (hz : c.RZ = readX c.K ds) (hp : preAsk ds) : WpS c (t_read_deed c.K (spAl c.K c.T) (spOf c.K c.T) (spEnd c.K c.T) c.E) (Ret (postRead ds)) (args ds 3) := by
  obtain ⟨t, rfl, hl⟩ := hp
  obtain ⟨kd, kt, e1, e2, e3, e4⟩ := F
  have hs : sizeLine = 16777216 := sizeLine_eq
  unfold t_read_deed
  walk_at "zz"
  refine ⟨⟨t, rfl, hl⟩, fun C d h => by rw [hz]; exact .inl h, fun d hd => ?_⟩
  obtain ⟨s, ⟨⟩, h2, rfl⟩ := hd
  have hp := split_pos s "\n"
  cases hL : lns s with
  | nil =>
    rw [show Txt.split s "\n" = [] from hL] at hp
    exact absurd hp (by decide)
  | cons l r =>
  have hm : l ∈ Txt.split s "\n" := by
    rw [show Txt.split s "\n" = l :: r from hL]
    exact List.mem_cons_self ..
  have hll := part_short hm
  have hfw : firstW s = wds l := by
    show wds ((lns s).headD "") = _
    rw [hL]
    rfl
  have eL : linesD s = .lst (.lst ((wds l).map D.str) :: r.map fun l => .lst ((wds l).map D.str)) := by
    unfold linesD
    rw [hL]
    rfl
  rw [eL]
  refine ⟨Nat.le_of_ble_eq_true rfl, ?_⟩
  refine q_asg ?_
  walk_at "zz"
  refine ⟨⟨wds l, rfl, wds_ne l, by have : (wds l).length ≤ l.length + 2 := split_le l " "; omega, fun x hx => by have := part_short hx; omega⟩, fun d hd => ?_⟩
  rw [hd _ rfl]
  cases hdo : deedOf (wds l) with
  | error a =>
    have er : deedR (wds l) = .tup [.non, .int a] := by rw [deedR, hdo]
    rw [er]
    refine g_tup ⟨_, rfl, rfl, g_cons ⟨_, _, rfl, g_name (Nat.le_of_ble_eq_true rfl) (g_cons ⟨_, _, rfl, g_name (Nat.le_of_ble_eq_true rfl) (g_nil rfl ?_)⟩)⟩⟩
    walk_at "zz"
    rw [hz]
    exact .inr ⟨s, rfl, h2, rfl, .inl ⟨a, by rw [hfw]; exact hdo, rfl⟩⟩
  | ok m =>
    have er : deedR (wds l) = .tup [deedD ((wds l).headD "") m, .non] := by rw [deedR, hdo]
    rw [er]
    refine g_tup ⟨_, rfl, rfl, g_cons ⟨_, _, rfl, g_name (Nat.le_of_ble_eq_true rfl) (g_cons ⟨_, _, rfl, g_name (Nat.le_of_ble_eq_true rfl) (g_nil rfl ?_)⟩)⟩⟩
    walk_at "zz"
    refine ⟨⟨_, _, rfl⟩, fun C d h => ?_, fun d h => ?_⟩
    · obtain ⟨h3, rfl, rfl⟩ := h _ _ rfl
      rw [hz]
      refine .inr ⟨s, rfl, h2, rfl, .inr ⟨m, by rw [hfw]; exact hdo, ?_, rfl⟩⟩
      rw [hL]
      simp at h3 ⊢
      omega
    · obtain ⟨h3, rfl⟩ := h _ _ rfl
      walk_at "zz"
      refine ⟨h2, m, by rw [hfw]; exact hdo, ?_, by rw [hfw]⟩
      rw [hL]
      rw [List.length_cons, List.length_map] at h3
      rw [List.length_cons]
      omega
theorem wp_read (F : Kf K) (h : spRead K T vs H Q E) : t_read_deed K (spAl K T) (spOf K T) (spEnd K T) E { nx := fun _ H' => Q .non H', rt := Q } (L2.start n_read_deed vs) H :=
  fn_PR 1 h (by rintro ds ⟨_, rfl, _⟩; rfl) fun c ds a1 a2 a3 a4 a5 hp => by subst a1 a2 a3; exact ws_read c F a5 ds a4 hp
end K83

/-! ## WE -/
set_option Elab.async false
set_option linter.all false
set_option maxRecDepth 100000
set_option maxHeartbeats 4000000
namespace K83
open PySem PySem.Spec PyProof.Rows L2 Zd
local macro_rules | `(tactic| walk_at "z") => `(tactic| first
  | (with_reducible refine w_int ?_) | (with_reducible refine w_str ?_) | (with_reducible refine w_bl ?_) | (with_reducible refine w_non ?_)
  | (with_reducible refine w_varR ?_; refine ⟨_, rfl, ?_⟩)
  | (with_reducible refine w_isInt ?_) | (with_reducible refine w_isBool ?_) | (with_reducible refine w_isStr ?_) | (with_reducible refine w_isTup ?_) | (with_reducible refine w_isLst ?_)
  | (with_reducible refine w_kdGet (by assumption) ?_) | (with_reducible refine w_kdIn (by assumption) ?_) | (with_reducible refine w_kdNotIn (by assumption) ?_) | (with_reducible refine w_k (by assumption) ?_)
  | (with_reducible refine w_ixOR ?_; refine ⟨_, _, rfl, ?_⟩) | (with_reducible refine w_lenOR ?_; refine ⟨_, _, rfl, ?_⟩) | (with_reducible refine w_slOR ?_; refine ⟨_, _, rfl, ?_⟩) | (with_reducible refine w_callJR ?_; refine ⟨_, _, rfl, ?_⟩)
  | (with_reducible refine w_op ?_) | (with_reducible refine w_cb ?_) | (with_reducible refine w_nil ?_) | (with_reducible refine w_cons ?_)
  | (with_reducible refine w_disp ?_) | (with_reducible refine p_cons ?_) | (with_reducible refine p_nil ?_) | (with_reducible refine w_revT ?_) | (with_reducible refine w_dget ?_) | (with_reducible refine w_din ?_) | (with_reducible refine w_dnin ?_)
  | (with_reducible refine w_tup ?_) | (with_reducible refine w_lst ?_) | (with_reducible refine w_test ?_) | (with_reducible refine w_tB ?_)
  | (with_reducible refine w_not ?_) | (with_reducible refine w_and ?_) | (with_reducible refine w_or ?_) | (with_reducible refine w_if ?_)
  | (with_reducible refine w_notV ?_) | (with_reducible refine w_andV ?_) | (with_reducible refine w_orV ?_) | (with_reducible refine w_chain ?_) | (with_reducible refine w_neg ?_)
  | (with_reducible refine w_sl ?_) | (with_reducible refine o_none ?_) | (with_reducible refine o_some ?_) | (with_reducible refine w_m1 ?_)
  | (with_reducible refine u_addI ?_) | (with_reducible refine u_sub ?_) | (with_reducible refine u_lt ?_) | (with_reducible refine u_le ?_) | (with_reducible refine u_gt ?_) | (with_reducible refine u_ge ?_)
  | (with_reducible refine u_eqI ?_) | (with_reducible refine u_neI ?_) | (with_reducible refine u_eqS ?_) | (with_reducible refine u_neS ?_)
  | (with_reducible refine u_inT ?_) | (with_reducible refine u_eqT0 ?_) | (with_reducible refine u_neT0 ?_) | (with_reducible refine u_neL0 ?_) | (with_reducible refine u_eqL0 ?_)
  | (with_reducible refine r_isN ?_) | (with_reducible refine r_notN ?_) | (with_reducible refine u_int ?_) | (with_reducible refine u_intB ?_)
  | (with_reducible refine k_strS ?_) | (with_reducible refine k_max2 ?_) | (with_reducible refine k_min2 ?_)
  | (with_reducible refine k_tup ?_) | (with_reducible refine k_lenT ?_) | (with_reducible refine k_lenL ?_) | (with_reducible refine u_ixT atI_zero ?_) | (with_reducible refine u_ixL atI_zero ?_) | (with_reducible refine w_callE ?_) | (with_reducible refine w_callX ?_) | (with_reducible refine s_raise (by assumption) ?_) | (with_reducible refine i_rng1 ?_) | (with_reducible refine i_rng2 ?_) | (with_reducible refine i_list ?_) | (with_reducible refine i_tup ?_) | (with_reducible refine i_str ?_) | (with_reducible refine u_slT ?_) | (with_reducible refine u_slL ?_)
  | (with_reducible refine q_set ?_) | (with_reducible refine q_drop ?_) | (with_reducible refine q_par ?_) | (with_reducible refine q_when ?_) | (with_reducible refine q_if ?_)
  | (with_reducible refine s_ret ?_) | (with_reducible refine s_retNon ?_) | (with_reducible refine s_next ?_)
  | (refine ⟨_, rfl, ?_⟩) | (refine ⟨Nat.le_of_ble_eq_true rfl, ?_⟩) | (refine knownT rfl ?_) | (refine knownF rfl ?_) | (refine orT rfl ?_) | (refine orF rfl ?_))
local macro_rules | `(tactic| walk_at "zz") => `(tactic| repeat walk_at "z")
local macro_rules | `(tactic| walk_at "kt") => `(tactic| refine ⟨_, rfl, knownT rfl ?_⟩)
local macro_rules | `(tactic| walk_at "kf") => `(tactic| refine ⟨_, rfl, knownF rfl ?_⟩)
local macro_rules | `(tactic| walk_at "ot") => `(tactic| refine ⟨_, rfl, orT rfl ?_⟩)
local macro_rules | `(tactic| walk_at "of") => `(tactic| refine ⟨_, rfl, orF rfl ?_⟩)
local macro_rules | `(tactic| walk_at "t") => `(tactic| refine knownT rfl ?_)
local macro_rules | `(tactic| walk_at "f") => `(tactic| refine knownF rfl ?_)
local macro_rules | `(tactic| walk_at "bl") => `(tactic| refine ⟨_, rfl, ?_⟩)
local macro_rules | `(tactic| walk_at "br") => `(tactic| refine ⟨fun h => ?_, fun h => ?_⟩)

variable {K : PySem.W.Frag} {T : Tb} {w : World} {vs : List V} {H : Hp} {Q : VK} {E : XK}
theorem leastP_ge (dw : Str) (a : Int) : -1 ≤ leastP dw a := by
  unfold leastP
  split <;> omega
theorem leastP_le (dw : Str) (a : Int) : leastP dw a ≤ 0 := by
  unfold leastP
  split <;> omega
theorem isDeed_look {x : Str} {r : List D} {n : Nat} (hs : sizeL.lookup x = some n) : isDeed (.tup (.str x :: r)) = (decide (r.length = n) && (List.range n).all fun i => wholeD (r.getD i .non) (leastP x ((i : Int) + 1)) MOST) := by
  show (match sizeL.lookup x with | some n => decide (r.length = n) && (List.range n).all fun i => wholeD (r.getD i .non) (leastP x ((i : Int) + 1)) MOST | none => false) = _
  rw [hs]
theorem whole_int {d : D} {lo hi : Int} (h : wholeD d lo hi = true) : ∃ i, d = .int i ∧ lo ≤ i ∧ i ≤ hi := by
  cases d with
  | int i =>
    unfold wholeD at h
    simp only [Bool.and_eq_true, decide_eq_true_eq] at h
    exact ⟨i, rfl, h⟩
  | _ => cases h
def toI : D → Int
  | .int i => i
  | _ => 0
/-- what a deed is -/
theorem isDeed_spec {t : D} (h : isDeed t = true) : ∃ (dw : Str) (n : Nat) (l : List Int), t = deedD dw l ∧ sizeL.lookup dw = some n ∧ l.length = n ∧ ∀ (i : Nat) x, l[i]? = some x → leastP dw ((i : Int) + 1) ≤ x ∧ x ≤ MOST := by
  cases t with
  | tup r =>
    cases r with
    | nil => cases h
    | cons d r =>
      cases d with
      | str x =>
        cases hs : sizeL.lookup x with
        | none =>
          have e : isDeed (.tup (.str x :: r)) = false := by
            show (match sizeL.lookup x with | some n => decide (r.length = n) && (List.range n).all fun i => wholeD (r.getD i .non) (leastP x ((i : Int) + 1)) MOST | none => false) = _
            rw [hs]
          rw [e] at h
          cases h
        | some n =>
          rw [isDeed_look hs, Bool.and_eq_true, decide_eq_true_iff, List.all_eq_true] at h
          obtain ⟨h1, h2⟩ := h
          have key : ∀ (i : Nat) d, r[i]? = some d → ∃ k, d = .int k ∧ leastP x ((i : Int) + 1) ≤ k ∧ k ≤ MOST := fun i d hd => by
            have hi : i < r.length := (List.getElem?_eq_some_iff.mp hd).1
            have := whole_int (h2 i (List.mem_range.mpr (by omega)))
            rw [List.getD_eq_getElem?_getD, hd] at this
            exact this
          refine ⟨x, n, r.map toI, ?_, hs, by rw [List.length_map]; exact h1, fun i y hy => ?_⟩
          · unfold deedD
            rw [List.map_map]
            have : r.map (D.int ∘ toI) = r := by
              apply List.ext_getElem?
              intro i
              rw [List.getElem?_map]
              cases hd : r[i]? with
              | none => rfl
              | some d =>
                obtain ⟨k, rfl, _⟩ := key i d hd
                rfl
            rw [this]
          · rw [List.getElem?_map] at hy
            cases hd : r[i]? with
            | none => rw [hd] at hy; cases hy
            | some d =>
              rw [hd] at hy
              obtain ⟨k, rfl, h3⟩ := key i d hd
              cases hy
              exact h3
      | _ => cases h
  | _ => cases h
theorem isDeed_of {dw : Str} {n : Nat} {l : List Int} (hs : sizeL.lookup dw = some n) (hl : l.length = n) (h : ∀ (i : Nat) x, l[i]? = some x → leastP dw ((i : Int) + 1) ≤ x ∧ x ≤ MOST) : isDeed (deedD dw l) = true := by
  unfold deedD
  rw [isDeed_look hs, Bool.and_eq_true, decide_eq_true_iff, List.all_eq_true]
  refine ⟨by rw [List.length_map]; exact hl, fun i hi => ?_⟩
  have hi := List.mem_range.mp hi
  obtain ⟨y, hy⟩ : ∃ y, l[i]? = some y := ⟨_, List.getElem?_eq_getElem (by omega)⟩
  rw [List.getD_eq_getElem?_getD, List.getElem?_map, hy]
  obtain ⟨h1, h2⟩ := h i y hy
  show (decide _ && decide _) = true
  rw [decide_eq_true h1, decide_eq_true h2]
  rfl
theorem tl_len (x : Str) : (TL.tl x).length = x.length := Array.length_toList
theorem tos_tl {n : Nat} : (Str.ofString (toString ((n : Nat) : Int))).cps.toList = TL.numL n := TL.tl_num n
theorem tos_len {i : Int} (h : 0 ≤ i) (h2 : i ≤ MOST) : (Str.ofString (toString i)).length ≤ 20 := by
  obtain ⟨n, rfl⟩ := Int.eq_ofNat_of_zero_le h
  have e := congrArg List.length (tos_tl (n := n))
  rw [len_cps] at e
  rw [e]
  refine TL.numL_len (by decide) ?_
  unfold MOST at h2
  omega
theorem price_len {i : Int} (h : -1 ≤ i) (h2 : i ≤ MOST) : (priceT i).length ≤ 20 := by
  unfold priceT
  split
  · decide +kernel
  · exact tos_len (by omega) h2
theorem word_len {dw : Str} {n : Nat} (h : sizeL.lookup dw = some n) : dw.length ≤ 7 := by
  unfold sizeL at h
  simp only [List.lookup_cons] at h
  repeat' split at h
  all_goals first | (cases h; rename_i q; rw [eq_of_beq q]; decide +kernel) | (cases h)
theorem sumL_le {m : Nat} : ∀ {l : List Str}, (∀ x, x ∈ l → x.length ≤ m) → sumL l ≤ l.length * (m + 1)
  | [], _ => Nat.zero_le _
  | x :: r, h => by
    have h1 := h x (List.mem_cons_self ..)
    have h2 := sumL_le fun y hy => h y (List.mem_cons_of_mem _ hy)
    simp only [sumL, List.map_cons, List.sum_cons, List.length_cons] at h2 ⊢
    rw [Nat.succ_mul]
    omega
theorem mem_idx {α : Type} {l : List α} {x : α} (h : x ∈ l) : ∃ i : Nat, l[i]? = some x := List.getElem?_of_mem h
theorem prices_sum {dw : Str} {n : Nat} {l : List Int} (hs : sizeL.lookup dw = some n) (hl : l.length = n) (h : ∀ (i : Nat) x, l[i]? = some x → leastP dw ((i : Int) + 1) ≤ x ∧ x ≤ MOST) : sumL (dw :: l.map priceT) ≤ 200 := by
  have a := word_len hs
  have b := sizeL_small hs
  have c2 := sumL_le (m := 20) (l := l.map priceT) fun x hx => by
    obtain ⟨y, hy, rfl⟩ := List.mem_map.mp hx
    obtain ⟨i, hi⟩ := mem_idx hy
    obtain ⟨h1, h2⟩ := h i y hi
    have := leastP_ge dw ((i : Int) + 1)
    exact price_len (by omega) h2
  rw [List.length_map, hl] at c2
  simp only [sumL, List.map_cons, List.sum_cons, List.length_cons] at c2 ⊢
  omega
/-! ### deed_text -/
abbrev preDt (ds : List D) : Prop := preIs ds
def deedX (K : PySem.W.Frag) (ds : List D) (C : Addr) (w : D) : Prop := ∃ t, ds = [t] ∧ isDeed t = false ∧ C = He.ga K "BadDeed" ∧ w = .int 0
abbrev postDt (ds : List D) (d : D) : Prop := ∃ t, ds = [t] ∧ isDeed t = true ∧ ∀ dw l, t = deedD dw l → d = .str (deedT dw l)
abbrev spDt (K : PySem.W.Frag) (T : Tb) : Sp := SpP K T preDt postDt (deedX K)
theorem ints_inj {l m : List Int} (h : l.map D.int = m.map D.int) : l = m := by
  refine List.map_inj_right (f := D.int) (fun a b z => by cases z; rfl) |>.mp h
theorem deedD_inj {a b : Str} {l m : List Int} (h : deedD a l = deedD b m) : a = b ∧ l = m := by
  have h1 := List.cons.inj (D.tup.inj h)
  exact ⟨D.str.inj h1.1, ints_inj h1.2⟩
theorem cutL_tail {α : Type} (x : α) (r : List α) : cutL (x :: r) (some 1) none = r := by
  unfold cutL
  show ((x :: r).drop (HT.sIx (r.length + 1) 0 (some ((1 : Nat) : Int)))).take _ = r
  rw [HT.sIx_nat]
  have e : min 1 (r.length + 1) = 1 := by omega
  rw [e]
  show r.take (HT.sIx (r.length + 1) (r.length + 1) none - HT.sIx (r.length + 1) 0 (some ((1 : Nat) : Int))) = r
  rw [HT.sIx_nat, HT.sIx_none, e]
  exact List.take_of_length_le (by omega)
theorem ws_dt (c : Cd) (F : Kf c.K) (ds : List D) (hz : c.RZ = deedX c.K ds) (hp : preDt ds) : WpS c (t_deed_text c.K (spIs c.K c.T) (spPr c.K c.T) (spRow c.K c.T) c.E) (Ret (postDt ds)) (args ds 1) := by
  obtain ⟨t, rfl, hl⟩ := hp
  obtain ⟨kd, kt, e1, e2, e3, e4⟩ := F
  have hs : sizeLine = 16777216 := sizeLine_eq
  unfold t_deed_text
  walk_at "zz"
  refine ⟨⟨t, rfl, hl⟩, fun d hd => ?_⟩
  rw [hd t rfl]
  walk_at "zz"
  refine ⟨fun h => ?_, fun h => ?_⟩
  · walk_at "zz"
    rw [hz]
    exact ⟨t, rfl, by simpa using h, rfl, rfl⟩
  · have hD : isDeed t = true := by simpa using h
    obtain ⟨dw, n, l, rfl, h1, h2, h3⟩ := isDeed_spec hD
    have hsm := sizeL_small h1
    unfold deedD
    walk_at "zz"
    refine w_mapG (α := Int) D.int (fun i => .str (priceT i)) ?_
    walk_at "zz"
    rw [cutL_tail]
    refine ⟨_, rfl, ?_⟩
    walk_at "zz"
    refine ⟨by omega, rfl, Nat.le_of_ble_eq_true rfl, fun i hi => ?_, ?_⟩
    · walk_at "zz"
      obtain ⟨j, hj⟩ := mem_idx hi
      obtain ⟨g1, g2⟩ := h3 j i hj
      have := leastP_ge dw ((j : Int) + 1)
      refine ⟨⟨i, rfl, by omega, g2⟩, fun d hd => ⟨rfl, ?_⟩⟩
      rw [hd i rfl]
    · walk_at "zz"
      have e : l.map (fun i => D.str (priceT i)) = (l.map priceT).map D.str := by rw [List.map_map]; rfl
      rw [e]
      refine ⟨⟨dw, l.map priceT, rfl, by have := prices_sum h1 h2 h3; omega⟩, fun d hd => ?_⟩
      rw [hd _ _ rfl]
      walk_at "zz"
      refine ⟨hD, fun dw' l' e' => ?_⟩
      obtain ⟨rfl, rfl⟩ := deedD_inj (a := dw) (l := l) e'
      rfl
theorem wp_dt (F : Kf K) (h : spDt K T vs H Q E) : t_deed_text K (spIs K T) (spPr K T) (spRow K T) E { nx := fun _ H' => Q .non H', rt := Q } (L2.start n_deed_text vs) H :=
  fn_PR 1 h (by rintro ds ⟨_, rfl, _⟩; rfl) fun c ds a1 a2 a3 a4 a5 hp => by subst a1 a2 a3; exact ws_dt c F ds a4 hp
end K83

/-! ## WF -/
set_option Elab.async false
set_option linter.all false
set_option maxRecDepth 100000
set_option maxHeartbeats 4000000
namespace K83
open PySem PySem.Spec PyProof.Rows L2 Zd
local macro_rules | `(tactic| walk_at "z") => `(tactic| first
  | (with_reducible refine w_int ?_) | (with_reducible refine w_str ?_) | (with_reducible refine w_bl ?_) | (with_reducible refine w_non ?_)
  | (with_reducible refine w_varR ?_; refine ⟨_, rfl, ?_⟩)
  | (with_reducible refine w_isInt ?_) | (with_reducible refine w_isBool ?_) | (with_reducible refine w_isStr ?_) | (with_reducible refine w_isTup ?_) | (with_reducible refine w_isLst ?_)
  | (with_reducible refine w_kdGet (by assumption) ?_) | (with_reducible refine w_kdIn (by assumption) ?_) | (with_reducible refine w_kdNotIn (by assumption) ?_) | (with_reducible refine w_k (by assumption) ?_)
  | (with_reducible refine w_ixOR ?_; refine ⟨_, _, rfl, ?_⟩) | (with_reducible refine w_lenOR ?_; refine ⟨_, _, rfl, ?_⟩) | (with_reducible refine w_slOR ?_; refine ⟨_, _, rfl, ?_⟩) | (with_reducible refine w_callJR ?_; refine ⟨_, _, rfl, ?_⟩)
  | (with_reducible refine w_op ?_) | (with_reducible refine w_cb ?_) | (with_reducible refine w_nil ?_) | (with_reducible refine w_cons ?_)
  | (with_reducible refine w_disp ?_) | (with_reducible refine p_cons ?_) | (with_reducible refine p_nil ?_) | (with_reducible refine w_revT ?_) | (with_reducible refine w_dget ?_) | (with_reducible refine w_din ?_) | (with_reducible refine w_dnin ?_)
  | (with_reducible refine w_tup ?_) | (with_reducible refine w_lst ?_) | (with_reducible refine w_test ?_) | (with_reducible refine w_tB ?_)
  | (with_reducible refine w_not ?_) | (with_reducible refine w_and ?_) | (with_reducible refine w_or ?_) | (with_reducible refine w_if ?_)
  | (with_reducible refine w_notV ?_) | (with_reducible refine w_andV ?_) | (with_reducible refine w_orV ?_) | (with_reducible refine w_chain ?_) | (with_reducible refine w_neg ?_)
  | (with_reducible refine w_sl ?_) | (with_reducible refine o_none ?_) | (with_reducible refine o_some ?_) | (with_reducible refine w_m1 ?_)
  | (with_reducible refine u_addI ?_) | (with_reducible refine u_sub ?_) | (with_reducible refine u_lt ?_) | (with_reducible refine u_le ?_) | (with_reducible refine u_gt ?_) | (with_reducible refine u_ge ?_)
  | (with_reducible refine u_eqI ?_) | (with_reducible refine u_neI ?_) | (with_reducible refine u_eqS ?_) | (with_reducible refine u_neS ?_)
  | (with_reducible refine u_inT ?_) | (with_reducible refine u_eqT0 ?_) | (with_reducible refine u_neT0 ?_) | (with_reducible refine u_neL0 ?_) | (with_reducible refine u_eqL0 ?_)
  | (with_reducible refine r_isN ?_) | (with_reducible refine r_notN ?_) | (with_reducible refine u_int ?_) | (with_reducible refine u_intB ?_)
  | (with_reducible refine k_strS ?_) | (with_reducible refine k_max2 ?_) | (with_reducible refine k_min2 ?_)
  | (with_reducible refine k_tup ?_) | (with_reducible refine k_lenT ?_) | (with_reducible refine k_lenL ?_) | (with_reducible refine u_ixT atI_zero ?_) | (with_reducible refine u_ixL atI_zero ?_) | (with_reducible refine w_callE ?_) | (with_reducible refine w_callX ?_) | (with_reducible refine s_raise (by assumption) ?_) | (with_reducible refine i_rng1 ?_) | (with_reducible refine i_rng2 ?_) | (with_reducible refine i_list ?_) | (with_reducible refine i_tup ?_) | (with_reducible refine i_str ?_) | (with_reducible refine u_slT ?_) | (with_reducible refine u_slL ?_)
  | (with_reducible refine q_set ?_) | (with_reducible refine q_drop ?_) | (with_reducible refine q_par ?_) | (with_reducible refine q_when ?_) | (with_reducible refine q_if ?_)
  | (with_reducible refine s_ret ?_) | (with_reducible refine s_retNon ?_) | (with_reducible refine s_next ?_)
  | (refine ⟨_, rfl, ?_⟩) | (refine ⟨Nat.le_of_ble_eq_true rfl, ?_⟩) | (refine knownT rfl ?_) | (refine knownF rfl ?_) | (refine orT rfl ?_) | (refine orF rfl ?_))
local macro_rules | `(tactic| walk_at "zz") => `(tactic| repeat walk_at "z")
local macro_rules | `(tactic| walk_at "kt") => `(tactic| refine ⟨_, rfl, knownT rfl ?_⟩)
local macro_rules | `(tactic| walk_at "kf") => `(tactic| refine ⟨_, rfl, knownF rfl ?_⟩)
local macro_rules | `(tactic| walk_at "ot") => `(tactic| refine ⟨_, rfl, orT rfl ?_⟩)
local macro_rules | `(tactic| walk_at "of") => `(tactic| refine ⟨_, rfl, orF rfl ?_⟩)
local macro_rules | `(tactic| walk_at "t") => `(tactic| refine knownT rfl ?_)
local macro_rules | `(tactic| walk_at "f") => `(tactic| refine knownF rfl ?_)
local macro_rules | `(tactic| walk_at "bl") => `(tactic| refine ⟨_, rfl, ?_⟩)
local macro_rules | `(tactic| walk_at "br") => `(tactic| refine ⟨fun h => ?_, fun h => ?_⟩)

variable {K : PySem.W.Frag} {T : Tb} {w : World} {vs : List V} {H : Hp} {Q : VK} {E : XK}
/-! ### is_whole -/
abbrev preIw (ds : List D) : Prop := ∃ t, ds = [t]
abbrev postIw (ds : List D) (d : D) : Prop := ∀ t, ds = [t] → d = .bl (match t with | .int _ => true | _ => false)
abbrev spIw (K : PySem.W.Frag) (T : Tb) : Sp := SpP K T preIw postIw noExc
theorem ws_iw (c : Cd) (ds : List D) (hp : preIw ds) : WpS c (t_law_zq_is_whole c.K) (Ret (postIw ds)) (args ds 0) := by
  obtain ⟨t, rfl⟩ := hp
  unfold t_law_zq_is_whole
  cases t
  all_goals
    walk_at "zz"
    rintro _ ⟨⟩
    rfl
theorem wp_iw (h : spIw K T vs H Q E) : t_law_zq_is_whole K { nx := fun _ H' => Q .non H', rt := Q } (L2.start n_law_zq_is_whole vs) H :=
  fn_PR 1 h (by rintro ds ⟨_, rfl⟩; rfl) fun c ds a1 a2 a3 a4 a5 hp => by subst a1; exact ws_iw c ds hp
/-! ### number -/
theorem eq_empty {x : Str} (h : x.length = 0) : x = "" := by
  have e : x.cps.toList = [] := List.eq_nil_of_length_eq_zero (by rw [len_cps]; exact h)
  have e2 : x.cps = #[] := by
    have := congrArg List.toArray e
    simpa using this
  cases x
  simp only at e2
  rw [e2]
  decide +kernel
theorem ws_lnum (c : Cd) (ds : List D) (hp : preNum ds) : WpS c (t_law_zt_number c.K) (Ret (postNum ds)) (args ds 1) := by
  obtain ⟨x, rfl, hl⟩ := hp
  have hc := len_cps x
  have hz : sizeLine = 16777216 := sizeLine_eq
  unfold t_law_zt_number
  walk_at "zz"
  refine ⟨fun h1 => ?_, fun h1 => ?_⟩
  · have g0 : x ≠ "" := of_decide_eq_false h1
    have g1 : 1 ≤ x.length := by
      by_cases z : x.length = 0
      · exact absurd (eq_empty z) g0
      · omega
    walk_at "zz"
    refine k_lenS hl ?_
    walk_at "zz"
    refine ⟨fun h2 => ?_, fun h2 => ?_⟩
    · have g2 : x.length ≤ 20 := by
        have := of_decide_eq_false h2
        omega
      walk_at "zz"
      refine w_filterG (fun n => .str ⟨#[n]⟩) (fun n => !isDig n) ?_
      walk_at "zz"
      refine ⟨by omega, rfl, Nat.le_of_ble_eq_true rfl, fun n _ => ?_, ?_⟩
      · walk_at "zz"
        refine r_notInS ?_
        exact ⟨_, rfl, rfl, rfl⟩
      · walk_at "zz"
        have em : ((x.cps.toList.filter fun n => !isDig n).map fun n => D.str ⟨#[n]⟩).isEmpty = x.cps.toList.all isDig := by
          rw [List.isEmpty_map]
          generalize x.cps.toList = l
          induction l with
          | nil => rfl
          | cons a r ih =>
            rw [List.filter_cons, List.all_cons]
            cases isDig a with
            | true => simpa using ih
            | false => rfl
        rw [em]
        refine ⟨fun h3 => ?_, fun h3 => ?_⟩
        · walk_at "zz"
          rintro _ ⟨⟩
          rw [numOf, if_neg]
          · rfl
          · simp only [Bool.not_eq_true'] at h3
            rw [h3]
            simp
        · have g3 : x.cps.toList.all isDig = true := by simpa using h3
          have gn : numOf x = if x.cps.toList.head? = some 48 ∧ 1 < x.length then none else some ((NumText.digitsVal x.cps.toList : Nat) : Int) := by
            rw [numOf, if_pos (by rw [g3, decide_eq_true g1, decide_eq_true g2]; rfl)]
          cases hx : x.cps.toList with
          | nil =>
            rw [hx] at hc
            simp at hc
            omega
          | cons n ns =>
            have hlen : x.length = ns.length + 1 := by rw [← hc, hx]; rfl
            have y0 : ("0" : Str).cps.toList = [48] := by decide +kernel
            have ex : x = "0" ↔ n = 48 ∧ ns = [] := ⟨fun z => by
              rw [z, y0] at hx
              exact ⟨((List.cons.inj hx).1).symm, ((List.cons.inj hx).2).symm⟩, fun ⟨z1, z2⟩ => by
              subst z1 z2
              cases x with
              | mk cp =>
                have q : cp = #[48] := by
                  have := congrArg List.toArray hx
                  simpa using this
                rw [q]
                decide +kernel⟩
            walk_at "zz"
            have fin : ∀ d : D, d = (if n = 48 ∧ ns ≠ [] then D.non else .int ((NumText.digitsVal x.cps.toList : Nat) : Int)) → postNum [.str x] d := by
              rintro d e _ ⟨⟩
              rw [e, gn, hx]
              have z : ((n :: ns).head? = some 48 ∧ 1 < x.length) ↔ (n = 48 ∧ ns ≠ []) := by
                rw [hlen]
                constructor
                · rintro ⟨a, b⟩
                  exact ⟨Option.some.inj a, fun q => by rw [q] at b; simp at b⟩
                · rintro ⟨a, b⟩
                  refine ⟨by rw [a]; rfl, ?_⟩
                  cases ns with
                  | nil => exact absurd rfl b
                  | cons q r => simp
              by_cases q : n = 48 ∧ ns ≠ []
              · rw [if_pos q, if_pos (z.mpr q)]
                rfl
              · rw [if_neg q, if_neg fun y => q (z.mp y)]
                rfl
            refine ⟨fun h4 => ?_, fun h4 => ?_⟩
            · have q := of_decide_eq_false h4
              walk_at "zz"
              refine u_ixS hl (n := n) (by rw [hx]; exact atI_zero) ?_
              walk_at "zz"
              have e0 : decide ((⟨#[n]⟩ : Str) = "0") = decide (n = 48) := dec_iff ⟨fun z => by
                have y := congrArg (fun s : Str => s.cps.toList) z
                simp only [y0] at y
                exact (List.cons.inj y).1, fun z => by subst z; decide +kernel⟩
              rw [e0]
              refine ⟨fun h5 => ?_, fun h5 => ?_⟩
              · walk_at "zz"
                refine u_intS (num_int g1 g2 g3) (by omega) ?_
                walk_at "zz"
                have q2 : n ≠ 48 := by simpa using h5
                exact fin _ (by rw [if_neg fun y => q2 y.1])
              · walk_at "zz"
                have q2 : n = 48 := by simpa using h5
                exact fin _ (by rw [if_pos ⟨q2, fun z => q (ex.mpr ⟨q2, z⟩)⟩])
            · have q := ex.mp (of_decide_eq_true h4)
              walk_at "zz"
              refine u_intS (num_int g1 g2 g3) (by omega) ?_
              walk_at "zz"
              exact fin _ (by rw [if_neg fun y => y.2 q.2])
    · walk_at "zz"
      rintro _ ⟨⟩
      have g2 : ¬ x.length ≤ 20 := by
        have := of_decide_eq_true h2
        omega
      rw [numOf, if_neg]
      · rfl
      · rw [decide_eq_false g2]
        simp
  · walk_at "zz"
    rintro _ ⟨⟩
    have g1 : ¬ 1 ≤ x.length := by
      rw [of_decide_eq_true h1]
      decide +kernel
    rw [numOf, if_neg]
    · rfl
    · rw [decide_eq_false g1]
      simp
theorem wp_lnum (h : spNum K T vs H Q E) : t_law_zt_number K { nx := fun _ H' => Q .non H', rt := Q } (L2.start n_law_zt_number vs) H :=
  fn_PR 1 h (by rintro ds ⟨x, rfl, _⟩; rfl) fun c ds e1 _ _ _ _ hp => by subst e1; exact ws_lnum c ds hp
end K83

/-! ## WG -/
set_option Elab.async false
set_option linter.all false
set_option maxRecDepth 100000
set_option maxHeartbeats 4000000
namespace K83
open PySem PySem.Spec PyProof.Rows L2 Zd
local macro_rules | `(tactic| walk_at "z") => `(tactic| first
  | (with_reducible refine w_int ?_) | (with_reducible refine w_str ?_) | (with_reducible refine w_bl ?_) | (with_reducible refine w_non ?_)
  | (with_reducible refine w_varR ?_; refine ⟨_, rfl, ?_⟩)
  | (with_reducible refine w_isInt ?_) | (with_reducible refine w_isBool ?_) | (with_reducible refine w_isStr ?_) | (with_reducible refine w_isTup ?_) | (with_reducible refine w_isLst ?_)
  | (with_reducible refine w_kdGet (by assumption) ?_) | (with_reducible refine w_kdIn (by assumption) ?_) | (with_reducible refine w_kdNotIn (by assumption) ?_) | (with_reducible refine w_k (by assumption) ?_)
  | (with_reducible refine w_ixOR ?_; refine ⟨_, _, rfl, ?_⟩) | (with_reducible refine w_lenOR ?_; refine ⟨_, _, rfl, ?_⟩) | (with_reducible refine w_slOR ?_; refine ⟨_, _, rfl, ?_⟩) | (with_reducible refine w_callJR ?_; refine ⟨_, _, rfl, ?_⟩)
  | (with_reducible refine w_op ?_) | (with_reducible refine w_cb ?_) | (with_reducible refine w_nil ?_) | (with_reducible refine w_cons ?_)
  | (with_reducible refine w_disp ?_) | (with_reducible refine p_cons ?_) | (with_reducible refine p_nil ?_) | (with_reducible refine w_revT ?_) | (with_reducible refine w_dget ?_) | (with_reducible refine w_din ?_) | (with_reducible refine w_dnin ?_)
  | (with_reducible refine w_tup ?_) | (with_reducible refine w_lst ?_) | (with_reducible refine w_test ?_) | (with_reducible refine w_tB ?_)
  | (with_reducible refine w_not ?_) | (with_reducible refine w_and ?_) | (with_reducible refine w_or ?_) | (with_reducible refine w_if ?_)
  | (with_reducible refine w_notV ?_) | (with_reducible refine w_andV ?_) | (with_reducible refine w_orV ?_) | (with_reducible refine w_chain ?_) | (with_reducible refine w_neg ?_)
  | (with_reducible refine w_sl ?_) | (with_reducible refine o_none ?_) | (with_reducible refine o_some ?_) | (with_reducible refine w_m1 ?_)
  | (with_reducible refine u_addI ?_) | (with_reducible refine u_sub ?_) | (with_reducible refine u_lt ?_) | (with_reducible refine u_le ?_) | (with_reducible refine u_gt ?_) | (with_reducible refine u_ge ?_)
  | (with_reducible refine u_eqI ?_) | (with_reducible refine u_neI ?_) | (with_reducible refine u_eqS ?_) | (with_reducible refine u_neS ?_)
  | (with_reducible refine u_inT ?_) | (with_reducible refine u_eqT0 ?_) | (with_reducible refine u_neT0 ?_) | (with_reducible refine u_neL0 ?_) | (with_reducible refine u_eqL0 ?_)
  | (with_reducible refine r_isN ?_) | (with_reducible refine r_notN ?_) | (with_reducible refine u_int ?_) | (with_reducible refine u_intB ?_)
  | (with_reducible refine k_strS ?_) | (with_reducible refine k_max2 ?_) | (with_reducible refine k_min2 ?_)
  | (with_reducible refine k_tup ?_) | (with_reducible refine k_lenT ?_) | (with_reducible refine k_lenL ?_) | (with_reducible refine u_ixT atI_zero ?_) | (with_reducible refine u_ixL atI_zero ?_) | (with_reducible refine w_callE ?_) | (with_reducible refine w_callX ?_) | (with_reducible refine s_raise (by assumption) ?_) | (with_reducible refine i_rng1 ?_) | (with_reducible refine i_rng2 ?_) | (with_reducible refine i_list ?_) | (with_reducible refine i_tup ?_) | (with_reducible refine i_str ?_) | (with_reducible refine u_slT ?_) | (with_reducible refine u_slL ?_)
  | (with_reducible refine q_set ?_) | (with_reducible refine q_drop ?_) | (with_reducible refine q_par ?_) | (with_reducible refine q_when ?_) | (with_reducible refine q_if ?_)
  | (with_reducible refine s_ret ?_) | (with_reducible refine s_retNon ?_) | (with_reducible refine s_next ?_)
  | (refine ⟨_, rfl, ?_⟩) | (refine ⟨Nat.le_of_ble_eq_true rfl, ?_⟩) | (refine knownT rfl ?_) | (refine knownF rfl ?_) | (refine orT rfl ?_) | (refine orF rfl ?_))
local macro_rules | `(tactic| walk_at "zz") => `(tactic| repeat walk_at "z")
local macro_rules | `(tactic| walk_at "kt") => `(tactic| refine ⟨_, rfl, knownT rfl ?_⟩)
local macro_rules | `(tactic| walk_at "kf") => `(tactic| refine ⟨_, rfl, knownF rfl ?_⟩)
local macro_rules | `(tactic| walk_at "ot") => `(tactic| refine ⟨_, rfl, orT rfl ?_⟩)
local macro_rules | `(tactic| walk_at "of") => `(tactic| refine ⟨_, rfl, orF rfl ?_⟩)
local macro_rules | `(tactic| walk_at "t") => `(tactic| refine knownT rfl ?_)
local macro_rules | `(tactic| walk_at "f") => `(tactic| refine knownF rfl ?_)
local macro_rules | `(tactic| walk_at "bl") => `(tactic| refine ⟨_, rfl, ?_⟩)
local macro_rules | `(tactic| walk_at "br") => `(tactic| refine ⟨fun h => ?_, fun h => ?_⟩)

variable {K : PySem.W.Frag} {T : Tb} {w : World} {vs : List V} {H : Hp} {Q : VK} {E : XK}
theorem numOf_ge {x : Str} {i : Int} (h : numOf x = some i) : 0 ≤ i ∧ i ≤ MOST := by
  unfold numOf at h
  split at h
  · rename_i g
    split at h
    · cases h
    · cases h
      refine ⟨by omega, ?_⟩
      simp only [Bool.and_eq_true, decide_eq_true_eq] at g
      have hd := digs_all g.2
      have key : ∀ (l : List Nat) (a : Nat), NumText.AllDigits l → l.foldl (fun acc c => acc * 10 + (c - 48)) a < (a + 1) * 10 ^ l.length := fun l => by
        induction l with
        | nil => intro a _; simp
        | cons d r ih =>
          intro a hh
          have h1 := ih (a * 10 + (d - 48)) hh.tail
          have h2 := hh.head
          rw [List.foldl_cons, List.length_cons, Nat.pow_succ]
          refine Nat.lt_of_lt_of_le h1 ?_
          have : a * 10 + (d - 48) + 1 ≤ (a + 1) * 10 := by omega
          calc (a * 10 + (d - 48) + 1) * 10 ^ r.length ≤ ((a + 1) * 10) * 10 ^ r.length := Nat.mul_le_mul_right _ this
            _ = (a + 1) * (10 ^ r.length * 10) := by rw [Nat.mul_assoc, Nat.mul_comm 10]
      have k : NumText.digitsVal _ < _ := key _ 0 hd
      rw [len_cps, Nat.zero_add, Nat.one_mul] at k
      have : (10 : Nat) ^ x.length ≤ 10 ^ 20 := Nat.pow_le_pow_right (by decide) g.1.2
      unfold MOST
      omega
  · cases h
/-! ### price -/
def priceOf (x : Str) : Option Int := if x = "firm" then some (-1) else numOf x
abbrev preLp (ds : List D) : Prop := ∃ x : Str, ds = [.str x, .int 0, .non] ∧ x.length ≤ sizeLine
abbrev postLp (ds : List D) (d : D) : Prop := ∀ x, ds = [.str x, .int 0, .non] → d = optD (priceOf x)
abbrev spLp (K : PySem.W.Frag) (T : Tb) : Sp := SpP K T preLp postLp noExc
theorem ws_lp (c : Cd) (ds : List D) (hp : preLp ds) : WpS c (t_law_zt_price c.K (spNum c.K c.T)) (Ret (postLp ds)) (args ds 1) := by
  obtain ⟨x, rfl, hl⟩ := hp
  unfold t_law_zt_price
  walk_at "zz"
  refine ⟨fun h => ?_, fun h => ?_⟩
  · walk_at "zz"
    rintro _ ⟨⟩
    rw [priceOf, if_pos (of_decide_eq_true h)]
    rfl
  · walk_at "zz"
    refine ⟨⟨x, rfl, hl⟩, fun d hd => ⟨Nat.le_of_ble_eq_true rfl, ?_⟩⟩
    rw [hd x rfl]
    cases hn : numOf x with
    | none =>
      walk_at "zz"
      rintro _ ⟨⟩
      rw [priceOf, if_neg (of_decide_eq_false h), hn]
      rfl
    | some i =>
      obtain ⟨h0, h1⟩ := numOf_ge hn
      show WpS c _ _ (List.set (args [D.str x, D.int 0, D.non] 1) 3 (some (.dat (.int i))))
      walk_at "zz"
      refine known true (decide_eq_true h0) (fun _ => ?_) (fun z => nomatch z)
      walk_at "zz"
      refine orF (decide_eq_false (by omega)) ?_
      walk_at "zz"
      rintro _ ⟨⟩
      rw [priceOf, if_neg (of_decide_eq_false h), hn]
      rfl
theorem wp_lp (h : spLp K T vs H Q E) : t_law_zt_price K (spNum K T) { nx := fun _ H' => Q .non H', rt := Q } (L2.start n_law_zt_price vs) H :=
  fn_PR 3 h (by rintro ds ⟨x, rfl, _⟩; rfl) fun c ds e1 e2 _ _ _ hp => by subst e1 e2; exact ws_lp c ds hp
theorem ws_lpw (c : Cd) (ds : List D) (hp : prePr ds) : WpS c (t_law_zt_price_word c.K) (Ret (postPr ds)) (args ds 0) := by
  obtain ⟨i, rfl, h1, h2⟩ := hp
  unfold t_law_zt_price_word
  walk_at "zz"
  refine ⟨fun h => ?_, fun h => ?_⟩
  · walk_at "zz"
    rintro _ ⟨⟩
    rw [priceT, if_pos (of_decide_eq_true h)]
  · walk_at "zz"
    refine k_strI (log_small h1 h2) ?_
    walk_at "zz"
    rintro _ ⟨⟩
    rw [priceT, if_neg (of_decide_eq_false h)]
theorem wp_lpw (h : spPr K T vs H Q E) : t_law_zt_price_word K { nx := fun _ H' => Q .non H', rt := Q } (L2.start n_law_zt_price_word vs) H :=
  fn_PR 1 h (by rintro ds ⟨x, rfl, _⟩; rfl) fun c ds a1 a2 a3 a4 _ hp => by subst a1; exact ws_lpw c ds hp
/-! ### line -/
def keyT : Key → Str
  | .inl i => toString i
  | .inr x => x
abbrev keyOk (k : Key) : Prop := ∀ i, k = .inl i → -1 ≤ i ∧ i ≤ MOST
abbrev preLl (ds : List D) : Prop := ∃ (x : Str) (l : List Key), ds = [.str x, .lst (l.map keyD)] ∧ sumL (x :: l.map keyT) ≤ 1000000 ∧ ∀ k, k ∈ l → keyOk k
abbrev postLl (ds : List D) (d : D) : Prop := ∀ (x : Str) (l : List Key), ds = [.str x, .lst (l.map keyD)] → d = .str (Txt.join " " (x :: l.map keyT))
abbrev spLl (K : PySem.W.Frag) (T : Tb) : Sp := SpP K T preLl postLl noExc
theorem keyD_inj {a b : Key} (h : keyD a = keyD b) : a = b := by
  cases a <;> cases b <;> first | (cases h; rfl) | (cases h)
theorem keys_inj {l m : List Key} (h : l.map keyD = m.map keyD) : l = m := by
  refine List.map_inj_right (f := keyD) (fun a b z => keyD_inj z) |>.mp h
theorem ws_ll (c : Cd) (ds : List D) (hp : preLl ds) : WpS c (t_law_zt_line c.K) (Ret (postLl ds)) (args ds 1) := by
  obtain ⟨x, l, rfl, hl, hk⟩ := hp
  have hs : sizeLine = 16777216 := sizeLine_eq
  have hn : l.length ≤ 1000000 := by simp [sumL] at hl; omega
  unfold t_law_zt_line
  walk_at "zz"
  refine w_mapG (α := Key) keyD (fun k => .str (keyT k)) ?_
  walk_at "zz"
  refine ⟨by omega, rfl, Nat.le_of_ble_eq_true rfl, fun k hm => ?_, ?_⟩
  · walk_at "zz"
    cases k with
    | inl i =>
      obtain ⟨h1, h2⟩ := hk _ hm i rfl
      exact k_strI (log_small h1 h2) ⟨rfl, rfl⟩
    | inr y => exact k_strS ⟨rfl, rfl⟩
  · refine u_addL (by rw [List.length_map]; show 1 + l.length ≤ _; omega) ?_
    rw [show [D.str x] ++ l.map (fun k => D.str (keyT k)) = (x :: l.map keyT).map D.str by rw [List.map_cons, List.map_map]; rfl]
    refine k_join ?_ ?_
    · have e : (" " : Str).length = 1 := by decide +kernel
      rw [e]
      simp [sumL] at hl ⊢
      omega
    walk_at "zz"
    intro y m e
    have e1 := List.cons.inj e
    have e2 := (List.cons.inj e1.2).1
    cases e1.1
    have := keys_inj (D.lst.inj e2)
    rw [this]
theorem wp_ll (h : spLl K T vs H Q E) : t_law_zt_line K { nx := fun _ H' => Q .non H', rt := Q } (L2.start n_law_zt_line vs) H :=
  fn_PR 2 h (by rintro ds ⟨x, l, rfl, _⟩; rfl) fun c ds a1 a2 a3 a4 _ hp => by subst a1; exact ws_ll c ds hp
/-! ### lines -/
abbrev postLs (ds : List D) (d : D) : Prop := ∀ s, ds = [.str s] → d = linesD s
abbrev spLs (K : PySem.W.Frag) (T : Tb) : Sp := SpP K T preTx postLs noExc
theorem ws_ls (c : Cd) (ds : List D) (hp : preTx ds) : WpS c (t_law_zt_lines c.K) (Ret (postLs ds)) (args ds 1) := by
  obtain ⟨s, rfl, hl⟩ := hp
  have hs : sizeLine = 16777216 := sizeLine_eq
  unfold t_law_zt_lines
  walk_at "zz"
  refine w_mapG (α := Str) D.str (fun l => .lst ((wds l).map D.str)) ?_
  walk_at "zz"
  refine MD.of_N (k_split (by decide +kernel) (by omega) ?_)
  have hb : (Txt.split s "\n").length ≤ s.length + 2 := split_le s "\n"
  refine ⟨_, rfl, _, rfl, by omega, rfl, Nat.le_of_ble_eq_true rfl, fun l hm => ?_, ?_⟩
  · have := part_short hm
    walk_at "zz"
    refine MD.of_N (k_split (by decide +kernel) (by omega) ?_)
    exact ⟨rfl, rfl⟩
  · walk_at "zz"
    rintro _ ⟨⟩
    rfl
theorem wp_ls (h : spLs K T vs H Q E) : t_law_zt_lines K { nx := fun _ H' => Q .non H', rt := Q } (L2.start n_law_zt_lines vs) H :=
  fn_PR 1 h (by rintro ds ⟨x, rfl, _⟩; rfl) fun c ds a1 a2 a3 a4 _ hp => by subst a1; exact ws_ls c ds hp
/-! ### wrong, end -/
abbrev preWr (ds : List D) : Prop := ∃ a b, ds = [a, b]
abbrev postWr (ds : List D) (d : D) : Prop := ∀ a b, ds = [a, b] → d = .tup [.str "WrongLine", .tup [a, b]]
abbrev spWr (K : PySem.W.Frag) (T : Tb) : Sp := SpP K T preWr postWr noExc
theorem ws_wr (c : Cd) (ds : List D) (hp : preWr ds) : WpS c (t_law_zt_wrong c.K) (Ret (postWr ds)) (args ds 0) := by
  obtain ⟨a, b, rfl⟩ := hp
  unfold t_law_zt_wrong
  walk_at "zz"
  rintro _ _ ⟨⟩
  rfl
theorem wp_wr (h : spWr K T vs H Q E) : t_law_zt_wrong K { nx := fun _ H' => Q .non H', rt := Q } (L2.start n_law_zt_wrong vs) H :=
  fn_PR 2 h (by rintro ds ⟨_, _, rfl⟩; rfl) fun c ds a1 a2 a3 a4 _ hp => by subst a1; exact ws_wr c ds hp
/-- what a reading tells: a deed and how many words, or the first wrong word -/
def shareD : Except Nat (D × Nat) → D
  | .error a => .tup [.str "wrong", .int a]
  | .ok (d, n) => .tup [.str "told", d, .int n]
def endOf (len : Nat) : Except Nat (D × Nat) → Except Nat (D × Nat)
  | .error a => .error a
  | .ok (d, n) => if n < len then .error n else .ok (d, n)
abbrev preLe (ds : List D) : Prop := ∃ (ls : List D) (o : Except Nat (D × Nat)), ds = [.lst ls, shareD o]
abbrev postLe (ds : List D) (d : D) : Prop := ∃ (ls : List D) (o : Except Nat (D × Nat)), ds = [.lst ls, shareD o] ∧ d = shareD (endOf ls.length o)
abbrev spLe (K : PySem.W.Frag) (T : Tb) : Sp := SpP K T preLe postLe noExc
theorem ws_le (c : Cd) (ds : List D) (hp : preLe ds) : WpS c (t_law_zt_end c.K) (Ret (postLe ds)) (args ds 0) := by
  obtain ⟨ls, o, rfl⟩ := hp
  unfold t_law_zt_end
  cases o with
  | error a =>
    unfold shareD
    walk_at "zz"
    try refine knownF (decide_eq_false (by decide +kernel)) ?_
    walk_at "zz"
    exact ⟨ls, .error a, rfl, rfl⟩
  | ok p =>
    obtain ⟨d, n⟩ := p
    unfold shareD
    walk_at "zz"
    have e2 : atI [D.str "told", d, .int n] 2 = some (.int n) := atI_nat (j := 2) rfl
    try refine knownT (decide_eq_true rfl) ?_
    walk_at "zz"
    refine u_ixT e2 ?_
    walk_at "zz"
    refine ⟨fun h => ?_, fun h => ?_⟩
    · walk_at "zz"
      refine u_ixT e2 ?_
      walk_at "zz"
      refine ⟨ls, .ok (d, n), rfl, ?_⟩
      have := of_decide_eq_true h
      show _ = shareD (if n < ls.length then .error n else .ok (d, n))
      rw [if_pos (by omega)]
      rfl
    · walk_at "zz"
      refine ⟨ls, .ok (d, n), rfl, ?_⟩
      have := of_decide_eq_false h
      show _ = shareD (if n < ls.length then .error n else .ok (d, n))
      rw [if_neg (by omega)]
      rfl
theorem wp_le (h : spLe K T vs H Q E) : t_law_zt_end K { nx := fun _ H' => Q .non H', rt := Q } (L2.start n_law_zt_end vs) H :=
  fn_PR 2 h (by rintro ds ⟨_, _, rfl⟩; rfl) fun c ds a1 a2 a3 a4 _ hp => by subst a1; exact ws_le c ds hp
end K83

/-! ## WH -/
set_option Elab.async false
set_option linter.all false
set_option maxRecDepth 100000
set_option maxHeartbeats 4000000
namespace K83
open PySem PySem.Spec PyProof.Rows L2 Zd
local macro_rules | `(tactic| walk_at "z") => `(tactic| first
  | (with_reducible refine w_int ?_) | (with_reducible refine w_str ?_) | (with_reducible refine w_bl ?_) | (with_reducible refine w_non ?_)
  | (with_reducible refine w_varR ?_; refine ⟨_, rfl, ?_⟩)
  | (with_reducible refine w_isInt ?_) | (with_reducible refine w_isBool ?_) | (with_reducible refine w_isStr ?_) | (with_reducible refine w_isTup ?_) | (with_reducible refine w_isLst ?_)
  | (with_reducible refine w_kdGet (by assumption) ?_) | (with_reducible refine w_kdIn (by assumption) ?_) | (with_reducible refine w_kdNotIn (by assumption) ?_) | (with_reducible refine w_k (by assumption) ?_)
  | (with_reducible refine w_ixOR ?_; refine ⟨_, _, rfl, ?_⟩) | (with_reducible refine w_lenOR ?_; refine ⟨_, _, rfl, ?_⟩) | (with_reducible refine w_slOR ?_; refine ⟨_, _, rfl, ?_⟩) | (with_reducible refine w_callJR ?_; refine ⟨_, _, rfl, ?_⟩)
  | (with_reducible refine w_op ?_) | (with_reducible refine w_cb ?_) | (with_reducible refine w_nil ?_) | (with_reducible refine w_cons ?_)
  | (with_reducible refine w_disp ?_) | (with_reducible refine p_cons ?_) | (with_reducible refine p_nil ?_) | (with_reducible refine w_revT ?_) | (with_reducible refine w_dget ?_) | (with_reducible refine w_din ?_) | (with_reducible refine w_dnin ?_)
  | (with_reducible refine w_tup ?_) | (with_reducible refine w_lst ?_) | (with_reducible refine w_test ?_) | (with_reducible refine w_tB ?_)
  | (with_reducible refine w_not ?_) | (with_reducible refine w_and ?_) | (with_reducible refine w_or ?_) | (with_reducible refine w_if ?_)
  | (with_reducible refine w_notV ?_) | (with_reducible refine w_andV ?_) | (with_reducible refine w_orV ?_) | (with_reducible refine w_chain ?_) | (with_reducible refine w_neg ?_)
  | (with_reducible refine w_sl ?_) | (with_reducible refine o_none ?_) | (with_reducible refine o_some ?_) | (with_reducible refine w_m1 ?_)
  | (with_reducible refine u_addI ?_) | (with_reducible refine u_sub ?_) | (with_reducible refine u_lt ?_) | (with_reducible refine u_le ?_) | (with_reducible refine u_gt ?_) | (with_reducible refine u_ge ?_)
  | (with_reducible refine u_eqI ?_) | (with_reducible refine u_neI ?_) | (with_reducible refine u_eqS ?_) | (with_reducible refine u_neS ?_)
  | (with_reducible refine u_inT ?_) | (with_reducible refine u_eqT0 ?_) | (with_reducible refine u_neT0 ?_) | (with_reducible refine u_neL0 ?_) | (with_reducible refine u_eqL0 ?_)
  | (with_reducible refine r_isN ?_) | (with_reducible refine r_notN ?_) | (with_reducible refine u_int ?_) | (with_reducible refine u_intB ?_)
  | (with_reducible refine k_strS ?_) | (with_reducible refine k_max2 ?_) | (with_reducible refine k_min2 ?_)
  | (with_reducible refine k_tup ?_) | (with_reducible refine k_lenT ?_) | (with_reducible refine k_lenL ?_) | (with_reducible refine u_ixT atI_zero ?_) | (with_reducible refine u_ixL atI_zero ?_) | (with_reducible refine w_callE ?_) | (with_reducible refine w_callX ?_) | (with_reducible refine s_raise (by assumption) ?_) | (with_reducible refine i_rng1 ?_) | (with_reducible refine i_rng2 ?_) | (with_reducible refine i_list ?_) | (with_reducible refine i_tup ?_) | (with_reducible refine i_str ?_) | (with_reducible refine u_slT ?_) | (with_reducible refine u_slL ?_)
  | (with_reducible refine q_set ?_) | (with_reducible refine q_drop ?_) | (with_reducible refine q_par ?_) | (with_reducible refine q_when ?_) | (with_reducible refine q_if ?_)
  | (with_reducible refine s_ret ?_) | (with_reducible refine s_retNon ?_) | (with_reducible refine s_next ?_)
  | (refine ⟨_, rfl, ?_⟩) | (refine ⟨Nat.le_of_ble_eq_true rfl, ?_⟩) | (refine knownT rfl ?_) | (refine knownF rfl ?_) | (refine orT rfl ?_) | (refine orF rfl ?_))
local macro_rules | `(tactic| walk_at "zz") => `(tactic| repeat walk_at "z")
local macro_rules | `(tactic| walk_at "kt") => `(tactic| refine ⟨_, rfl, knownT rfl ?_⟩)
local macro_rules | `(tactic| walk_at "kf") => `(tactic| refine ⟨_, rfl, knownF rfl ?_⟩)
local macro_rules | `(tactic| walk_at "ot") => `(tactic| refine ⟨_, rfl, orT rfl ?_⟩)
local macro_rules | `(tactic| walk_at "of") => `(tactic| refine ⟨_, rfl, orF rfl ?_⟩)
local macro_rules | `(tactic| walk_at "t") => `(tactic| refine knownT rfl ?_)
local macro_rules | `(tactic| walk_at "f") => `(tactic| refine knownF rfl ?_)
local macro_rules | `(tactic| walk_at "bl") => `(tactic| refine ⟨_, rfl, ?_⟩)
local macro_rules | `(tactic| walk_at "br") => `(tactic| refine ⟨fun h => ?_, fun h => ?_⟩)

variable {K : PySem.W.Frag} {T : Tb} {w : World} {vs : List V} {H : Hp} {Q : VK} {E : XK}
/-! ### the law's sorts -/
def sortsK : List Key := [.inr "add", .inr "drop", .inr "price", .inr "budget", .inr "floor", .inr "unfloor"]
def sortsD : List D := [.tup [.int 3, .bl true], .tup [.int 1, .bl false], .tup [.int 1, .bl true], .tup [.int 1, .bl false], .tup [.int 3, .bl false], .tup [.int 2, .bl false]]
abbrev postSo (ds : List D) (d : D) : Prop := d = .dic sortsK sortsD
abbrev spSo (K : PySem.W.Frag) (T : Tb) : Sp := SpP K T (fun ds => ds = []) postSo noExc
theorem merge6 (vs : List V) (h : vs.length = 6) : mergeK [] (sortsK.zip vs) = sortsK.zip vs := by
  match vs, h with
  | [a, b, c, d, e, f], _ => rfl
theorem ws_so (c : Cd) (ds : List D) (hp : ds = []) : WpS c (t_law_zt_deed_sorts c.K) (Ret (postSo ds)) (args ds 0) := by
  subst hp
  unfold t_law_zt_deed_sorts
  walk_at "zz"
  refine ⟨sortsK, rfl, by decide, merge6, ?_⟩
  walk_at "zz"
  rfl
theorem wp_so (h : spSo K T vs H Q E) : t_law_zt_deed_sorts K { nx := fun _ H' => Q .non H', rt := Q } (L2.start n_law_zt_deed_sorts vs) H :=
  fn_PR 0 h (by rintro ds rfl; rfl) fun c ds a1 a2 a3 a4 _ hp => by subst a1; exact ws_so c ds hp
theorem sorts_some {x : Str} {n : Nat} (h : sizeL.lookup x = some n) : ∃ (m : Nat) (b : Bool), lookD sortsK sortsD (.inr x) = some (.tup [.int m, .bl b]) ∧ m + (if b then 1 else 0) = n ∧ b = decide (x ∈ pricedL) ∧ 1 ≤ m := by
  unfold sizeL at h
  simp only [List.lookup_cons] at h
  split at h
  · rename_i q
    cases h
    rw [eq_of_beq q]
    exact ⟨3, true, rfl, rfl, by decide +kernel, by decide⟩
  split at h
  · rename_i q
    cases h
    rw [eq_of_beq q]
    exact ⟨1, false, rfl, rfl, by decide +kernel, by decide⟩
  split at h
  · rename_i q
    cases h
    rw [eq_of_beq q]
    exact ⟨1, true, rfl, rfl, by decide +kernel, by decide⟩
  split at h
  · rename_i q
    cases h
    rw [eq_of_beq q]
    exact ⟨1, false, rfl, rfl, by decide +kernel, by decide⟩
  split at h
  · rename_i q
    cases h
    rw [eq_of_beq q]
    exact ⟨3, false, rfl, rfl, by decide +kernel, by decide⟩
  split at h
  · rename_i q
    cases h
    rw [eq_of_beq q]
    exact ⟨2, false, rfl, rfl, by decide +kernel, by decide⟩
  cases h
theorem sorts_none {x : Str} (h : sizeL.lookup x = none) : lookD sortsK sortsD (.inr x) = none := by
  unfold sizeL at h
  simp only [List.lookup_cons] at h
  repeat' split at h
  all_goals first | (cases h; done) | skip
  rename_i q6 _ q5 _ q4 _ q3 _ q2 _ q1
  have ne : ∀ {y : Str}, (x == y) = false → ¬ (Sum.inr y : Key) = Sum.inr x := fun {y} z e => by
    cases e
    rw [beq_self_eq_true] at z
    cases z
  unfold sortsK sortsD lookD
  rw [if_neg (ne (by assumption))]
  unfold lookD
  rw [if_neg (ne (by assumption))]
  unfold lookD
  rw [if_neg (ne (by assumption))]
  unfold lookD
  rw [if_neg (ne (by assumption))]
  unfold lookD
  rw [if_neg (ne (by assumption))]
  unfold lookD
  rw [if_neg (ne (by assumption))]
  rfl
/-! ### deed_in -/
def inE (ws : List Str) : Except Nat (D × Nat) := match sizeL.lookup (ws.headD "") with
  | none => .error 0
  | some n => match collect (partAt ws) n with
    | .error a => .error a
    | .ok l => .ok (deedD (ws.headD "") l, n + 1)
abbrev postIn (ds : List D) (d : D) : Prop := ∀ ws : List Str, ds = [.lst (ws.map D.str)] → d = shareD (inE ws)
abbrev spIn (K : PySem.W.Frag) (T : Tb) : Sp := SpP K T preOf postIn noExc
theorem numOf_empty : numOf "" = none := by
  rw [numOf, if_neg]
  decide +kernel
theorem least_iff {x : Str} {n : Nat} {a : Nat} (hs : sizeL.lookup x = some n) : leastP x (a : Int) = -1 ↔ x ∈ pricedL ∧ a = n := by
  unfold leastP
  rw [hs]
  constructor
  · intro h
    split at h
    · rename_i q
      have q2 : (n : Int) = (a : Int) := Option.some.inj q.2
      exact ⟨q.1, by omega⟩
    · cases h
  · rintro ⟨h1, rfl⟩
    rw [if_pos ⟨h1, rfl⟩]
theorem ws_in (c : Cd) (hS : ∀ q, ¬ c.S q) (ds : List D) (hp : preOf ds) : WpS c (t_law_zt_deed_in c.K (spSo c.K c.T) (spLp c.K c.T) (spNum c.K c.T)) (Ret (postIn ds)) (args ds 7) := by
  obtain ⟨ws, rfl, hne, hn, hx⟩ := hp
  have hz : sizeLine = 16777216 := sizeLine_eq
  have post : ∀ d, d = shareD (inE ws) → postIn [.lst (ws.map D.str)] d := fun d e ws' h => by
    have h1 := D.lst.inj (List.cons.inj h).1
    rw [← strs_inj h1]
    exact e
  cases ws with
  | nil => exact absurd rfl hne
  | cons x r =>
  have hl : (D.str x :: r.map D.str).length = r.length + 1 := by simp
  rw [List.map_cons] at post ⊢
  unfold t_law_zt_deed_in
  refine q_parN ?_
  walk_at "zz"
  refine ⟨rfl, fun d hd => ?_⟩
  have hd : d = .dic sortsK sortsD := hd
  subst hd
  refine w_lstN ?_
  walk_at "zz"
  refine ⟨fun p es z => (nomatch z), fun p => ?_⟩
  cases hs : sizeL.lookup x with
  | none =>
    have hd : inE (x :: r) = .error 0 := by
      show (match sizeL.lookup x with | none => Except.error 0 | some n => _) = _
      rw [hs]
    walk_at "zz"
    refine ⟨_, _, .inr x, rfl, rfl, ?_⟩
    rw [sorts_none hs]
    walk_at "zz"
    exact post _ (by rw [hd]; rfl)
  | some n =>
    obtain ⟨n1, n4⟩ := sizeL_small hs
    obtain ⟨m, b, hlk, hmb, hb, hm1⟩ := sorts_some hs
    have hd : inE (x :: r) = match collect (partAt (x :: r)) n with
        | .error a => .error a
        | .ok l => .ok (deedD x l, n + 1) := by
      show (match sizeL.lookup x with | none => Except.error 0 | some n => _) = _
      rw [hs]
      rfl
    walk_at "zz"
    refine ⟨_, _, .inr x, rfl, rfl, ?_⟩
    rw [hlk]
    walk_at "zz"
    refine q_asg ?_
    walk_at "zz"
    refine ⟨_, _, .inr x, _, rfl, rfl, hlk, ?_⟩
    refine g_tup ⟨_, rfl, rfl, g_cons ⟨_, _, rfl, g_name (Nat.le_of_ble_eq_true rfl) (g_cons ⟨_, _, rfl, g_name (Nat.le_of_ble_eq_true rfl) (g_nil rfl ?_)⟩)⟩⟩
    refine q_for ?_
    walk_at "zz"
    refine ⟨_, _, rfl, by cases b <;> simp at hmb ⊢ <;> omega, ?_⟩
    rw [show ((m : Int) + 1 + (if b = true then 1 else 0) - 1).toNat = n by cases b <;> simp at hmb ⊢ <;> omega]
    refine ⟨fun i ρ => ∃ l a1 a2 a3, collect (partAt (x :: r)) i = .ok l ∧ ρ = [some (.dat (.lst (D.str x :: r.map D.str))), some (.dat (.dic sortsK sortsD)), some (.own p (.str x :: l.map D.int)), some (.dat (.int m)), some (.dat (.bl b)), a1, a2, a3], ⟨[], _, _, _, rfl, rfl⟩, fun i d ρ2 hd2 hin => ?_, fun ρ2 hin => ?_⟩
    · obtain ⟨l, a1, a2, a3, hc, rfl⟩ := hin
      obtain ⟨hi, rfl⟩ := upto_get hd2
      have hstep := collect_step hc
      have hlen := collect_len hc
      have e1i : (1 + (i : Int)) = ((i + 1 : Nat) : Int) := by omega
      refine g_name (Nat.le_of_ble_eq_true rfl) ?_
      -- the token
      obtain ⟨y, hy, hyl, hpa⟩ : ∃ y : Str, (if h : i + 1 < r.length + 1 then (x :: r)[i + 1]? = some y else y = "") ∧ y.length ≤ sizeLine ∧ partAt (x :: r) (i + 1) = partOf x ((i + 1 : Nat) : Int) y := by
        by_cases hlt : i + 1 < r.length + 1
        · obtain ⟨y, hy⟩ : ∃ y, (x :: r)[i + 1]? = some y := ⟨_, List.getElem?_eq_getElem (by simpa using hlt)⟩
          refine ⟨y, by rw [dif_pos hlt]; exact hy, hx y (List.mem_of_getElem? hy), ?_⟩
          show ((x :: r)[i + 1]?).bind _ = _
          rw [hy]
          rfl
        · refine ⟨"", by rw [dif_neg hlt], by rw [hz]; decide +kernel, ?_⟩
          show ((x :: r)[i + 1]?).bind _ = _
          rw [List.getElem?_eq_none (by simp; omega)]
          have ne : ¬ (("" : Str) = "firm" ∧ leastP x ((i + 1 : Nat) : Int) = -1) := fun z => absurd z.1 (by decide +kernel)
          rw [partOf, if_neg ne, numOf_empty]
          rfl
      refine q_set ?_
      -- what follows the token
      have key1 : WpS c (tSeq (tAsg (tIf (tTest (tOp Zd.rGt (tVar 5) (tVar 3))) (tCall (spLp c.K c.T) [] E0 (tCons (tVar 6) (tCons (tC (.int 0)) (tCons (tC .non) tNil)))) (tCall (spNum c.K c.T) [] E0 (tCons (tVar 6) tNil))) (gName 7)) (tSeq (tIfS (tTest (tOp rIsN (tVar 7) (tC .non))) (tRet (tTup (tCons (tC (.str "wrong")) (tCons (tVar 5) tNil)))) tNext) (tDrop (tBM c.K "list" rAppend (tVar 2) (tCons (tVar 7) tNil)))))
          { nx := fun ρ => ∃ l a1 a2 a3, collect (partAt (x :: r)) (i + 1) = .ok l ∧ ρ = [some (.dat (.lst (D.str x :: r.map D.str))), some (.dat (.dic sortsK sortsD)), some (.own p (.str x :: l.map D.int)), some (.dat (.int m)), some (.dat (.bl b)), a1, a2, a3], rt := (Ret (postIn [.lst (D.str x :: r.map D.str)])).rt,
            bk := fun ρ4 => WpS c (tRet (tTup (tCons (tC (.str "told")) (tCons (tCB (rTupO c.K) (tCons (tVar 2) tNil)) (tCons (tCB (rLenV c.K) (tCons (tVar 2) tNil)) tNil))))) (Ret (postIn [.lst (D.str x :: r.map D.str)])) ρ4,
            ct := fun ρ => ∃ l a1 a2 a3, collect (partAt (x :: r)) (i + 1) = .ok l ∧ ρ = [some (.dat (.lst (D.str x :: r.map D.str))), some (.dat (.dic sortsK sortsD)), some (.own p (.str x :: l.map D.int)), some (.dat (.int m)), some (.dat (.bl b)), a1, a2, a3] }
          [some (.dat (.lst (D.str x :: r.map D.str))), some (.dat (.dic sortsK sortsD)), some (.own p (.str x :: l.map D.int)), some (.dat (.int m)), some (.dat (.bl b)), some (.dat (.int (1 + i))), some (.dat (.str y)), a3] := by
        refine q_set ?_
        -- what follows the part
        have key2 : ∀ o, partOf x ((i + 1 : Nat) : Int) y = o → WpS c (tSeq (tIfS (tTest (tOp rIsN (tVar 7) (tC .non))) (tRet (tTup (tCons (tC (.str "wrong")) (tCons (tVar 5) tNil)))) tNext) (tDrop (tBM c.K "list" rAppend (tVar 2) (tCons (tVar 7) tNil))))
          { nx := fun ρ => ∃ l a1 a2 a3, collect (partAt (x :: r)) (i + 1) = .ok l ∧ ρ = [some (.dat (.lst (D.str x :: r.map D.str))), some (.dat (.dic sortsK sortsD)), some (.own p (.str x :: l.map D.int)), some (.dat (.int m)), some (.dat (.bl b)), a1, a2, a3], rt := (Ret (postIn [.lst (D.str x :: r.map D.str)])).rt,
            bk := fun ρ4 => WpS c (tRet (tTup (tCons (tC (.str "told")) (tCons (tCB (rTupO c.K) (tCons (tVar 2) tNil)) (tCons (tCB (rLenV c.K) (tCons (tVar 2) tNil)) tNil))))) (Ret (postIn [.lst (D.str x :: r.map D.str)])) ρ4,
            ct := fun ρ => ∃ l a1 a2 a3, collect (partAt (x :: r)) (i + 1) = .ok l ∧ ρ = [some (.dat (.lst (D.str x :: r.map D.str))), some (.dat (.dic sortsK sortsD)), some (.own p (.str x :: l.map D.int)), some (.dat (.int m)), some (.dat (.bl b)), a1, a2, a3] }
          [some (.dat (.lst (D.str x :: r.map D.str))), some (.dat (.dic sortsK sortsD)), some (.own p (.str x :: l.map D.int)), some (.dat (.int m)), some (.dat (.bl b)), some (.dat (.int (1 + i))), some (.dat (.str y)), some (.dat (optD o))] := fun o ho => by
          rw [hpa, ho] at hstep
          walk_at "zz"
          rw [optD_non]
          cases o with
          | none =>
            walk_at "zz"
            refine post _ ?_
            rw [hd, collect_err hstep (by omega), e1i]
            rfl
          | some k =>
            walk_at "zz"
            refine s_app ⟨p, _, rfl⟩ ?_
            walk_at "zz"
            refine ⟨p, _, rfl, by rw [List.length_cons, List.length_map]; omega, l ++ [k], some (.dat (.int (1 + i))), some (.dat (.str y)), some (.dat (optD (some k))), hstep, by rw [List.map_append]; rfl⟩
        walk_at "zz"
        by_cases hgt : m < i + 1
        · have hbt : b = true := by
            cases b with
            | true => rfl
            | false => simp at hmb; omega
          have hin : i + 1 = n := by rw [hbt] at hmb; simp at hmb; omega
          have hpr : x ∈ pricedL := by rw [hbt] at hb; exact of_decide_eq_true hb.symm
          refine known true (decide_eq_true (by omega)) (fun _ => ?_) (fun z => nomatch z)
          walk_at "zz"
          refine ⟨⟨y, rfl, hyl⟩, fun d hd3 => ⟨Nat.le_of_ble_eq_true rfl, ?_⟩⟩
          rw [hd3 y rfl]
          refine key2 _ ?_
          have hle := (least_iff (a := i + 1) hs).mpr ⟨hpr, hin⟩
          unfold partOf priceOf
          by_cases e : y = "firm"
          · rw [if_pos ⟨e, hle⟩, if_pos e]
          · rw [if_neg fun z => e z.1, if_neg e]
        · refine known false (decide_eq_false (by omega)) (fun z => nomatch z) (fun _ => ?_)
          walk_at "zz"
          refine ⟨⟨y, rfl, hyl⟩, fun d hd3 => ⟨Nat.le_of_ble_eq_true rfl, ?_⟩⟩
          rw [hd3 y rfl]
          refine key2 _ ?_
          have hle : ¬ leastP x ((i + 1 : Nat) : Int) = -1 := fun z => by
            obtain ⟨z1, z2⟩ := (least_iff (a := i + 1) hs).mp z
            rw [decide_eq_true z1] at hb
            rw [hb] at hmb
            simp at hmb
            omega
          rw [partOf, if_neg fun z => hle z.2]
      walk_at "zz"
      by_cases hlt : i + 1 < r.length + 1
      · rw [dif_pos hlt] at hy
        refine known true (by rw [hl]; exact decide_eq_true (by omega)) (fun _ => ?_) (fun z => nomatch z)
        walk_at "zz"
        refine u_ixL (d := .str y) ?_ ?_
        · rw [e1i]
          exact atI_nat (by rw [show D.str x :: r.map D.str = (x :: r).map D.str from rfl, List.getElem?_map, hy]; rfl)
        exact ⟨Nat.le_of_ble_eq_true rfl, key1⟩
      · rw [dif_neg hlt] at hy
        subst hy
        refine known false (by rw [hl]; exact decide_eq_false (by omega)) (fun z => nomatch z) (fun _ => ?_)
        refine w_str ⟨Nat.le_of_ble_eq_true rfl, key1⟩
    · rw [upto_len] at hin
      obtain ⟨l, a1, a2, a3, hc, rfl⟩ := hin
      have hlen := collect_len hc
      refine s_frz 2 rfl (fun q z => absurd z (hS q)) ?_
      walk_at "zz"
      refine post _ ?_
      rw [hd, hc]
      show D.tup [.str "told", deedD x l, .int ((D.str x :: l.map D.int).length : Nat)] = D.tup [.str "told", deedD x l, .int ((n + 1 : Nat) : Int)]
      rw [List.length_cons, List.length_map, hlen]
theorem wp_in (h : spIn K T vs H Q E) : t_law_zt_deed_in K (spSo K T) (spLp K T) (spNum K T) { nx := fun _ H' => Q .non H', rt := Q } (L2.start n_law_zt_deed_in vs) H :=
  fn_PR 1 h (by rintro ds ⟨_, rfl, _⟩; rfl) fun c ds a1 a2 a3 a4 a5 hp => by subst a1 a2; exact ws_in c a5 ds hp
end K83

/-! ## WI -/
set_option Elab.async false
set_option linter.all false
set_option maxRecDepth 100000
set_option maxHeartbeats 4000000
namespace K83
open PySem PySem.Spec PyProof.Rows L2 Zd
local macro_rules | `(tactic| walk_at "z") => `(tactic| first
  | (with_reducible refine w_int ?_) | (with_reducible refine w_str ?_) | (with_reducible refine w_bl ?_) | (with_reducible refine w_non ?_)
  | (with_reducible refine w_varR ?_; refine ⟨_, rfl, ?_⟩)
  | (with_reducible refine w_isInt ?_) | (with_reducible refine w_isBool ?_) | (with_reducible refine w_isStr ?_) | (with_reducible refine w_isTup ?_) | (with_reducible refine w_isLst ?_)
  | (with_reducible refine w_kdGet (by assumption) ?_) | (with_reducible refine w_kdIn (by assumption) ?_) | (with_reducible refine w_kdNotIn (by assumption) ?_) | (with_reducible refine w_k (by assumption) ?_)
  | (with_reducible refine w_ixOR ?_; refine ⟨_, _, rfl, ?_⟩) | (with_reducible refine w_lenOR ?_; refine ⟨_, _, rfl, ?_⟩) | (with_reducible refine w_slOR ?_; refine ⟨_, _, rfl, ?_⟩) | (with_reducible refine w_callJR ?_; refine ⟨_, _, rfl, ?_⟩)
  | (with_reducible refine w_op ?_) | (with_reducible refine w_cb ?_) | (with_reducible refine w_nil ?_) | (with_reducible refine w_cons ?_)
  | (with_reducible refine w_disp ?_) | (with_reducible refine p_cons ?_) | (with_reducible refine p_nil ?_) | (with_reducible refine w_revT ?_) | (with_reducible refine w_dget ?_) | (with_reducible refine w_din ?_) | (with_reducible refine w_dnin ?_)
  | (with_reducible refine w_tup ?_) | (with_reducible refine w_lst ?_) | (with_reducible refine w_test ?_) | (with_reducible refine w_tB ?_)
  | (with_reducible refine w_not ?_) | (with_reducible refine w_and ?_) | (with_reducible refine w_or ?_) | (with_reducible refine w_if ?_)
  | (with_reducible refine w_notV ?_) | (with_reducible refine w_andV ?_) | (with_reducible refine w_orV ?_) | (with_reducible refine w_chain ?_) | (with_reducible refine w_neg ?_)
  | (with_reducible refine w_sl ?_) | (with_reducible refine o_none ?_) | (with_reducible refine o_some ?_) | (with_reducible refine w_m1 ?_)
  | (with_reducible refine u_addI ?_) | (with_reducible refine u_sub ?_) | (with_reducible refine u_lt ?_) | (with_reducible refine u_le ?_) | (with_reducible refine u_gt ?_) | (with_reducible refine u_ge ?_)
  | (with_reducible refine u_eqI ?_) | (with_reducible refine u_neI ?_) | (with_reducible refine u_eqS ?_) | (with_reducible refine u_neS ?_)
  | (with_reducible refine u_inT ?_) | (with_reducible refine u_eqT0 ?_) | (with_reducible refine u_neT0 ?_) | (with_reducible refine u_neL0 ?_) | (with_reducible refine u_eqL0 ?_)
  | (with_reducible refine r_isN ?_) | (with_reducible refine r_notN ?_) | (with_reducible refine u_int ?_) | (with_reducible refine u_intB ?_)
  | (with_reducible refine k_strS ?_) | (with_reducible refine k_max2 ?_) | (with_reducible refine k_min2 ?_)
  | (with_reducible refine k_tup ?_) | (with_reducible refine k_lenT ?_) | (with_reducible refine k_lenL ?_) | (with_reducible refine u_ixT atI_zero ?_) | (with_reducible refine u_ixL atI_zero ?_) | (with_reducible refine w_callE ?_) | (with_reducible refine w_callX ?_) | (with_reducible refine s_raise (by assumption) ?_) | (with_reducible refine i_rng1 ?_) | (with_reducible refine i_rng2 ?_) | (with_reducible refine i_list ?_) | (with_reducible refine i_tup ?_) | (with_reducible refine i_str ?_) | (with_reducible refine u_slT ?_) | (with_reducible refine u_slL ?_)
  | (with_reducible refine q_set ?_) | (with_reducible refine q_drop ?_) | (with_reducible refine q_par ?_) | (with_reducible refine q_when ?_) | (with_reducible refine q_if ?_)
  | (with_reducible refine s_ret ?_) | (with_reducible refine s_retNon ?_) | (with_reducible refine s_next ?_)
  | (refine ⟨_, rfl, ?_⟩) | (refine ⟨Nat.le_of_ble_eq_true rfl, ?_⟩) | (refine knownT rfl ?_) | (refine knownF rfl ?_) | (refine orT rfl ?_) | (refine orF rfl ?_))
local macro_rules | `(tactic| walk_at "zz") => `(tactic| repeat walk_at "z")
local macro_rules | `(tactic| walk_at "kt") => `(tactic| refine ⟨_, rfl, knownT rfl ?_⟩)
local macro_rules | `(tactic| walk_at "kf") => `(tactic| refine ⟨_, rfl, knownF rfl ?_⟩)
local macro_rules | `(tactic| walk_at "ot") => `(tactic| refine ⟨_, rfl, orT rfl ?_⟩)
local macro_rules | `(tactic| walk_at "of") => `(tactic| refine ⟨_, rfl, orF rfl ?_⟩)
local macro_rules | `(tactic| walk_at "t") => `(tactic| refine knownT rfl ?_)
local macro_rules | `(tactic| walk_at "f") => `(tactic| refine knownF rfl ?_)
local macro_rules | `(tactic| walk_at "bl") => `(tactic| refine ⟨_, rfl, ?_⟩)
local macro_rules | `(tactic| walk_at "br") => `(tactic| refine ⟨fun h => ?_, fun h => ?_⟩)

variable {K : PySem.W.Frag} {T : Tb} {w : World} {vs : List V} {H : Hp} {Q : VK} {E : XK}
theorem collect_ok_lt {ws : List Str} : ∀ {n : Nat} {l : List Int}, collect (partAt ws) n = .ok l → n = 0 ∨ n < ws.length
  | 0, _, _ => .inl rfl
  | k + 1, l, h => by
    unfold collect at h
    cases e : collect (partAt ws) k with
    | error a => rw [e] at h; cases h
    | ok r =>
      rw [e] at h
      simp only at h
      cases e2 : partAt ws (k + 1) with
      | none => rw [e2] at h; cases h
      | some i =>
        refine .inr ?_
        unfold partAt at e2
        cases e3 : ws[k + 1]? with
        | none => rw [e3] at e2; cases e2
        | some y => exact (List.getElem?_eq_some_iff.mp e3).1
theorem collect_err_le {ws : List Str} (hne : ws ≠ []) : ∀ {n : Nat} {a : Nat}, collect (partAt ws) n = .error a → a ≤ ws.length
  | 0, a, h => by cases h
  | k + 1, a, h => by
    unfold collect at h
    cases e : collect (partAt ws) k with
    | error b =>
      rw [e] at h
      cases h
      exact collect_err_le hne e
    | ok r =>
      rw [e] at h
      simp only at h
      have hl : 1 ≤ ws.length := by
        cases ws with
        | nil => exact absurd rfl hne
        | cons x r => simp
      cases e2 : partAt ws (k + 1) with
      | none =>
        rw [e2] at h
        cases h
        rcases collect_ok_lt e with z | z <;> omega
      | some i => rw [e2] at h; cases h
/-- the law's reading of a line against the program's -/
theorem end_in {ws : List Str} (hne : ws ≠ []) : match deedOf ws with
    | .error a => ∃ b, endOf ws.length (inE ws) = .error b ∧ min b ws.length = a
    | .ok l => ∃ n, endOf ws.length (inE ws) = .ok (deedD (ws.headD "") l, n) := by
  unfold deedOf inE
  cases hs : sizeL.lookup (ws.headD "") with
  | none => exact ⟨0, rfl, by omega⟩
  | some n =>
    have n1 := sizeL_small hs
    simp only
    cases hc : collect (partAt ws) n with
    | error a => exact ⟨a, rfl, by have := collect_err_le hne hc; omega⟩
    | ok l =>
      have hlt : n < ws.length := by
        rcases collect_ok_lt hc with z | z <;> omega
      simp only
      by_cases e : ws.length = n + 1
      · rw [if_pos e]
        refine ⟨n + 1, ?_⟩
        show (if n + 1 < ws.length then Except.error (n + 1) else .ok (deedD (ws.headD "") l, n + 1)) = _
        rw [if_neg (by omega)]
      · rw [if_neg e]
        refine ⟨n + 1, ?_, by omega⟩
        show (if n + 1 < ws.length then Except.error (n + 1) else .ok (deedD (ws.headD "") l, n + 1)) = _
        rw [if_pos (by omega)]
def dueD (s : Str) : D := match deedOf (firstW s) with
  | .error a => .tup [.str "WrongLine", .tup [.int 0, .int a]]
  | .ok l => if (lns s).length = 1 then .tup [.str "told", deedD ((firstW s).headD "") l] else .tup [.str "WrongLine", .tup [.int 1, .int 0]]
abbrev postDr (ds : List D) (d : D) : Prop := ∀ s, ds = [.str s] → d = dueD s
abbrev spDr (K : PySem.W.Frag) (T : Tb) : Sp := SpP K T preTx postDr noExc
theorem ws_dr (c : Cd) (ds : List D) (hp : preTx ds) : WpS c (t_law_zt_deed_read c.K (spLs c.K c.T) (spIn c.K c.T) (spLe c.K c.T) (spWr c.K c.T)) (Ret (postDr ds)) (args ds 2) := by
  obtain ⟨s, rfl, hl⟩ := hp
  have hs : sizeLine = 16777216 := sizeLine_eq
  unfold t_law_zt_deed_read
  walk_at "zz"
  refine ⟨⟨s, rfl, hl⟩, fun d hd => ?_⟩
  rw [hd s rfl]
  have hp := split_pos s "\n"
  cases hL : lns s with
  | nil =>
    rw [show Txt.split s "\n" = [] from hL] at hp
    exact absurd hp (by decide)
  | cons l r =>
  have hm : l ∈ Txt.split s "\n" := by
    rw [show Txt.split s "\n" = l :: r from hL]
    exact List.mem_cons_self ..
  have hll := part_short hm
  have hfw : firstW s = wds l := by
    show wds ((lns s).headD "") = _
    rw [hL]
    rfl
  have eL : linesD s = .lst (.lst ((wds l).map D.str) :: r.map fun l => .lst ((wds l).map D.str)) := by
    unfold linesD
    rw [hL]
    rfl
  have due : dueD s = match deedOf (wds l) with
      | .error a => .tup [.str "WrongLine", .tup [.int 0, .int a]]
      | .ok m => if r.length + 1 = 1 then .tup [.str "told", deedD ((wds l).headD "") m] else .tup [.str "WrongLine", .tup [.int 1, .int 0]] := by
    unfold dueD
    rw [hfw, hL]
    rfl
  rw [eL]
  refine ⟨Nat.le_of_ble_eq_true rfl, ?_⟩
  have hw2 : (wds l).length ≤ l.length + 2 := split_le l " "
  walk_at "zz"
  refine ⟨⟨wds l, rfl, wds_ne l, by omega, fun x hx => by have := part_short hx; omega⟩, fun d hd => ?_⟩
  rw [hd _ rfl]
  walk_at "zz"
  refine ⟨⟨_, _, rfl⟩, fun d hd => ⟨Nat.le_of_ble_eq_true rfl, ?_⟩⟩
  obtain ⟨ls, o, e1, e2⟩ := hd
  have e3 := D.lst.inj (List.cons.inj e1).1
  have e4 := (List.cons.inj (List.cons.inj e1).2).1
  have oinj : ∀ {o o' : Except Nat (D × Nat)}, shareD o = shareD o' → o = o' := fun {o o'} h => by
    cases o with
    | error a =>
      cases o' with
      | error b =>
        have := D.int.inj (List.cons.inj (List.cons.inj (D.tup.inj h)).2).1
        have : a = b := by omega
        rw [this]
      | ok q => exact absurd (D.str.inj (List.cons.inj (D.tup.inj h)).1) (by decide +kernel)
    | ok p =>
      cases o' with
      | error b => exact absurd (D.str.inj (List.cons.inj (D.tup.inj h)).1) (by decide +kernel)
      | ok q =>
        obtain ⟨a, n⟩ := p
        obtain ⟨b, m⟩ := q
        have h2 := List.cons.inj (List.cons.inj (D.tup.inj h)).2
        have h3 := D.int.inj (List.cons.inj h2.2).1
        have : n = m := by omega
        rw [h2.1, this]
  have e5 := oinj e4
  subst e5
  rw [e2, ← e3, List.length_map]
  have key := end_in (wds_ne l)
  cases hdo : deedOf (wds l) with
  | error a =>
    rw [hdo] at key due
    obtain ⟨b, k1, k2⟩ := key
    rw [k1]
    show WpS c _ _ (List.set _ 2 (some (.dat (.tup [.str "wrong", .int b]))))
    walk_at "zz"
    try refine knownT (by decide +kernel) ?_
    walk_at "zz"
    refine u_ixT (atI_nat (j := 1) rfl) ?_
    walk_at "zz"
    refine ⟨⟨_, _, rfl⟩, fun d hd => ?_⟩
    rw [hd _ _ rfl]
    walk_at "zz"
    rintro _ ⟨⟩
    rw [due, List.length_map]
    show D.tup [.str "WrongLine", .tup [.int 0, .int (min (b : Int) (((wds l).length : Nat) : Int))]] = _
    rw [show min (b : Int) (((wds l).length : Nat) : Int) = (a : Int) by omega]
  | ok m =>
    rw [hdo] at key due
    obtain ⟨n, k1⟩ := key
    rw [k1]
    show WpS c _ _ (List.set _ 2 (some (.dat (.tup [.str "told", deedD ((wds l).headD "") m, .int n]))))
    walk_at "zz"
    try refine knownF (by decide +kernel) ?_
    walk_at "zz"
    rw [show ((D.lst ((wds l).map D.str) :: r.map fun l => D.lst ((wds l).map D.str)).length) = r.length + 1 by simp]
    refine ⟨fun h => ?_, fun h => ?_⟩
    · walk_at "zz"
      refine u_ixT (d := deedD ((wds l).headD "") m) (atI_nat (j := 1) rfl) ?_
      walk_at "zz"
      rintro _ ⟨⟩
      rw [due]
      have := of_decide_eq_true h
      show _ = (if r.length + 1 = 1 then _ else _)
      rw [if_pos (by omega)]
    · walk_at "zz"
      refine ⟨⟨_, _, rfl⟩, fun d hd => ?_⟩
      rw [hd _ _ rfl]
      walk_at "zz"
      rintro _ ⟨⟩
      rw [due]
      have := of_decide_eq_false h
      show _ = (if r.length + 1 = 1 then _ else _)
      rw [if_neg (by omega)]
theorem wp_dr (h : spDr K T vs H Q E) : t_law_zt_deed_read K (spLs K T) (spIn K T) (spLe K T) (spWr K T) { nx := fun _ H' => Q .non H', rt := Q } (L2.start n_law_zt_deed_read vs) H :=
  fn_PR 1 h (by rintro ds ⟨_, rfl, _⟩; rfl) fun c ds a1 a2 a3 a4 a5 hp => by subst a1 a2; exact ws_dr c ds hp
end K83

/-! ## WJ -/
set_option Elab.async false
set_option linter.all false
set_option maxRecDepth 100000
set_option maxHeartbeats 4000000
namespace K83
open PySem PySem.Spec PyProof.Rows L2 Zd
local macro_rules | `(tactic| walk_at "z") => `(tactic| first
  | (with_reducible refine w_int ?_) | (with_reducible refine w_str ?_) | (with_reducible refine w_bl ?_) | (with_reducible refine w_non ?_)
  | (with_reducible refine w_varR ?_; refine ⟨_, rfl, ?_⟩)
  | (with_reducible refine w_isInt ?_) | (with_reducible refine w_isBool ?_) | (with_reducible refine w_isStr ?_) | (with_reducible refine w_isTup ?_) | (with_reducible refine w_isLst ?_)
  | (with_reducible refine w_kdGet (by assumption) ?_) | (with_reducible refine w_kdIn (by assumption) ?_) | (with_reducible refine w_kdNotIn (by assumption) ?_) | (with_reducible refine w_k (by assumption) ?_)
  | (with_reducible refine w_ixOR ?_; refine ⟨_, _, rfl, ?_⟩) | (with_reducible refine w_lenOR ?_; refine ⟨_, _, rfl, ?_⟩) | (with_reducible refine w_slOR ?_; refine ⟨_, _, rfl, ?_⟩) | (with_reducible refine w_callJR ?_; refine ⟨_, _, rfl, ?_⟩)
  | (with_reducible refine w_op ?_) | (with_reducible refine w_cb ?_) | (with_reducible refine w_nil ?_) | (with_reducible refine w_cons ?_)
  | (with_reducible refine w_disp ?_) | (with_reducible refine p_cons ?_) | (with_reducible refine p_nil ?_) | (with_reducible refine w_revT ?_) | (with_reducible refine w_dget ?_) | (with_reducible refine w_din ?_) | (with_reducible refine w_dnin ?_)
  | (with_reducible refine w_tup ?_) | (with_reducible refine w_lst ?_) | (with_reducible refine w_test ?_) | (with_reducible refine w_tB ?_)
  | (with_reducible refine w_not ?_) | (with_reducible refine w_and ?_) | (with_reducible refine w_or ?_) | (with_reducible refine w_if ?_)
  | (with_reducible refine w_notV ?_) | (with_reducible refine w_andV ?_) | (with_reducible refine w_orV ?_) | (with_reducible refine w_chain ?_) | (with_reducible refine w_neg ?_)
  | (with_reducible refine w_sl ?_) | (with_reducible refine o_none ?_) | (with_reducible refine o_some ?_) | (with_reducible refine w_m1 ?_)
  | (with_reducible refine u_addI ?_) | (with_reducible refine u_sub ?_) | (with_reducible refine u_lt ?_) | (with_reducible refine u_le ?_) | (with_reducible refine u_gt ?_) | (with_reducible refine u_ge ?_)
  | (with_reducible refine u_eqI ?_) | (with_reducible refine u_neI ?_) | (with_reducible refine u_eqS ?_) | (with_reducible refine u_neS ?_)
  | (with_reducible refine u_inT ?_) | (with_reducible refine u_eqT0 ?_) | (with_reducible refine u_neT0 ?_) | (with_reducible refine u_neL0 ?_) | (with_reducible refine u_eqL0 ?_)
  | (with_reducible refine r_isN ?_) | (with_reducible refine r_notN ?_) | (with_reducible refine u_int ?_) | (with_reducible refine u_intB ?_)
  | (with_reducible refine k_strS ?_) | (with_reducible refine k_max2 ?_) | (with_reducible refine k_min2 ?_)
  | (with_reducible refine k_tup ?_) | (with_reducible refine k_lenT ?_) | (with_reducible refine k_lenL ?_) | (with_reducible refine u_ixT atI_zero ?_) | (with_reducible refine u_ixL atI_zero ?_) | (with_reducible refine w_callE ?_) | (with_reducible refine w_callX ?_) | (with_reducible refine s_raise (by assumption) ?_) | (with_reducible refine i_rng1 ?_) | (with_reducible refine i_rng2 ?_) | (with_reducible refine i_list ?_) | (with_reducible refine i_tup ?_) | (with_reducible refine i_str ?_) | (with_reducible refine u_slT ?_) | (with_reducible refine u_slL ?_)
  | (with_reducible refine q_set ?_) | (with_reducible refine q_drop ?_) | (with_reducible refine q_par ?_) | (with_reducible refine q_when ?_) | (with_reducible refine q_if ?_)
  | (with_reducible refine s_ret ?_) | (with_reducible refine s_retNon ?_) | (with_reducible refine s_next ?_)
  | (refine ⟨_, rfl, ?_⟩) | (refine ⟨Nat.le_of_ble_eq_true rfl, ?_⟩) | (refine knownT rfl ?_) | (refine knownF rfl ?_) | (refine orT rfl ?_) | (refine orF rfl ?_))
local macro_rules | `(tactic| walk_at "zz") => `(tactic| repeat walk_at "z")
local macro_rules | `(tactic| walk_at "kt") => `(tactic| refine ⟨_, rfl, knownT rfl ?_⟩)
local macro_rules | `(tactic| walk_at "kf") => `(tactic| refine ⟨_, rfl, knownF rfl ?_⟩)
local macro_rules | `(tactic| walk_at "ot") => `(tactic| refine ⟨_, rfl, orT rfl ?_⟩)
local macro_rules | `(tactic| walk_at "of") => `(tactic| refine ⟨_, rfl, orF rfl ?_⟩)
local macro_rules | `(tactic| walk_at "t") => `(tactic| refine knownT rfl ?_)
local macro_rules | `(tactic| walk_at "f") => `(tactic| refine knownF rfl ?_)
local macro_rules | `(tactic| walk_at "bl") => `(tactic| refine ⟨_, rfl, ?_⟩)
local macro_rules | `(tactic| walk_at "br") => `(tactic| refine ⟨fun h => ?_, fun h => ?_⟩)

variable {K : PySem.W.Frag} {T : Tb} {w : World} {vs : List V} {H : Hp} {Q : VK} {E : XK}
/-! ### is_own -/
theorem isDeed_none {x : Str} {r : List D} (hs : sizeL.lookup x = none) : isDeed (.tup (.str x :: r)) = false := by
  show (match sizeL.lookup x with | some n => decide (r.length = n) && (List.range n).all fun i => wholeD (r.getD i .non) (leastP x ((i : Int) + 1)) MOST | none => false) = _
  rw [hs]
theorem whole_i {k lo hi : Int} : wholeD (.int k) lo hi = (decide (lo ≤ k) && decide (k ≤ hi)) := rfl
theorem ws_own (c : Cd) (ds : List D) (hp : preIs ds) : WpS c (t_law_dl_is_own c.K (spSo c.K c.T) (spIw c.K c.T)) (Ret (postIs ds)) (args ds 5) := by
  obtain ⟨t, rfl, hl⟩ := hp
  unfold t_law_dl_is_own
  cases t
  case tup r =>
    cases r
    case nil =>
      walk_at "zz"
      rintro _ ⟨⟩
      rfl
    case cons x r =>
      have hr := hl _ rfl
      cases x
      case str x =>
        cases hs : sizeL.lookup x with
        | none =>
          walk_at "zz"
          refine ⟨rfl, fun d hd => ⟨Nat.le_of_ble_eq_true rfl, ?_⟩⟩
          have hd : d = .dic sortsK sortsD := hd
          subst hd
          walk_at "zz"
          refine ⟨_, _, .inr x, rfl, rfl, ?_⟩
          rw [sorts_none hs]
          walk_at "zz"
          rintro _ ⟨⟩
          rw [isDeed_none hs]
        | some n =>
          have hn4 := sizeL_small hs
          obtain ⟨m, b, hlk, hmb, hb, hm1⟩ := sorts_some hs
          walk_at "zz"
          refine ⟨rfl, fun d hd => ⟨Nat.le_of_ble_eq_true rfl, ?_⟩⟩
          have hd : d = .dic sortsK sortsD := hd
          subst hd
          walk_at "zz"
          refine ⟨_, _, .inr x, rfl, rfl, ?_⟩
          rw [hlk]
          walk_at "zz"
          refine q_asg ?_
          walk_at "zz"
          refine ⟨_, _, .inr x, _, rfl, rfl, hlk, ?_⟩
          refine g_tup ⟨_, rfl, rfl, g_cons ⟨_, _, rfl, g_name (Nat.le_of_ble_eq_true rfl) (g_cons ⟨_, _, rfl, g_name (Nat.le_of_ble_eq_true rfl) (g_nil rfl ?_)⟩)⟩⟩
          walk_at "zz"
          have em : (1 + (m : Int) + (if b = true then 1 else 0)) = n + 1 := by cases b <;> simp at hmb ⊢ <;> omega
          rw [em]
          refine ⟨fun h => ?_, fun h => ?_⟩
          · walk_at "zz"
            rintro _ ⟨⟩
            rw [isDeed_look hs]
            have z : r.length ≠ n := fun y => by
              subst y
              simp at h
            rw [decide_eq_false z]
            rfl
          · have hn : r.length = n := by
              simp at h
              omega
            have bad : ∀ i, i < n → wholeD (r.getD i .non) (leastP x ((i : Int) + 1)) MOST = false → postIs [.tup (.str x :: r)] (.bl false) := fun i hi hw => by
              rintro _ ⟨⟩
              rw [isDeed_look hs, decide_eq_true hn]
              have : ((List.range n).all fun i => wholeD (r.getD i .non) (leastP x ((i : Int) + 1)) MOST) = false := by
                rw [List.all_eq_false]
                exact ⟨i, List.mem_range.mpr hi, by rw [hw]; exact Bool.false_ne_true⟩
              rw [this]
              rfl
            refine q_for ?_
            walk_at "zz"
            refine ⟨_, _, rfl, by simp at hr ⊢; omega, ?_⟩
            have et : (((D.str x :: r).length : Int) - 1).toNat = n := by
              rw [List.length_cons]
              omega
            rw [et]
            refine ⟨fun i ρ => ∃ a1 a2, (∀ j, j < i → wholeD (r.getD j .non) (leastP x ((j : Int) + 1)) MOST = true) ∧ ρ = [some (.dat (.tup (.str x :: r))), some (.dat (.dic sortsK sortsD)), some (.dat (.int m)), some (.dat (.bl b)), a1, a2], ⟨_, _, fun j hj => absurd hj (Nat.not_lt_zero j), rfl⟩, fun i d ρ2 hd2 hin => ?_, fun ρ2 hin => ?_⟩
            · obtain ⟨a1, a2, hall, rfl⟩ := hin
              obtain ⟨hi, rfl⟩ := upto_get hd2
              have e1i : (1 + (i : Int)) = ((i + 1 : Nat) : Int) := by omega
              have h1 : r[i]? = some (r.getD i .non) := by
                rw [List.getD_eq_getElem?_getD, List.getElem?_eq_getElem (by omega)]
                rfl
              refine g_name (Nat.le_of_ble_eq_true rfl) ?_
              refine q_set ?_
              have key : ∀ lo, lo = leastP x ((i : Int) + 1) → WpS c (tIfS (tOr (tNot (tB (tCall (spIw c.K c.T) [] E0 (tCons (tOp (rIx c.K) (tVar 0) (tVar 4)) tNil)))) (tNot (tTest (tChain Zd.rLe Zd.rLt (tVar 5) (tOp (rIx c.K) (tVar 0) (tVar 4)) (tOp Zd.rPow (tC (.int 10)) (tC (.int 20))))))) (tRet (tC (.bl false))) tNext)
                  { nx := fun ρ => ∃ a1 a2, (∀ j, j < i + 1 → wholeD (r.getD j .non) (leastP x ((j : Int) + 1)) MOST = true) ∧ ρ = [some (.dat (.tup (.str x :: r))), some (.dat (.dic sortsK sortsD)), some (.dat (.int m)), some (.dat (.bl b)), a1, a2], rt := (Ret (postIs [.tup (.str x :: r)])).rt,
                    bk := fun ρ4 => WpS c (tRet (tC (.bl true))) (Ret (postIs [.tup (.str x :: r)])) ρ4,
                    ct := fun ρ => ∃ a1 a2, (∀ j, j < i + 1 → wholeD (r.getD j .non) (leastP x ((j : Int) + 1)) MOST = true) ∧ ρ = [some (.dat (.tup (.str x :: r))), some (.dat (.dic sortsK sortsD)), some (.dat (.int m)), some (.dat (.bl b)), a1, a2] }
                  [some (.dat (.tup (.str x :: r))), some (.dat (.dic sortsK sortsD)), some (.dat (.int m)), some (.dat (.bl b)), some (.dat (.int (1 + i))), some (.dat (.int lo))] := fun lo hlo => by
                subst hlo
                refine s_if ?_
                walk_at "zz"
                have hat : atI (D.str x :: r) (1 + (i : Int)) = some (r.getD i .non) := by
                  rw [e1i]
                  exact atI_nat (by rw [List.getElem?_cons_succ]; exact h1)
                refine u_ixT hat ?_
                walk_at "zz"
                refine ⟨⟨_, rfl⟩, fun d hd => ?_⟩
                rw [hd _ rfl]
                have bad' := bad i hi
                revert hat bad'
                generalize hg : r.getD i .non = dd
                intro hat bad'
                cases dd
                case int k =>
                  walk_at "zz"
                  refine u_ixT hat ?_
                  walk_at "zz"
                  refine ⟨fun h5 => ?_, fun h5 => ?_⟩
                  · walk_at "zz"
                    refine u_pow ⟨by decide, by decide, by decide⟩ ?_
                    walk_at "zz"
                    refine ⟨fun h6 => ?_, fun h6 => ?_⟩
                    · walk_at "zz"
                      refine bad' ?_
                      rw [whole_i]
                      unfold MOST
                      have h6 : ¬ k < 10 ^ (20 : Int).toNat := by simpa using h6
                      have e20 : (10 : Int) ^ (20 : Int).toNat = 100000000000000000000 := by decide
                      rw [e20] at h6
                      rw [decide_eq_false (show ¬ k ≤ 99999999999999999999 by omega)]
                      simp
                    · walk_at "zz"
                      refine ⟨_, _, fun j hj => ?_, rfl⟩
                      by_cases e : j = i
                      · subst e
                        rw [hg]
                        rw [whole_i]
                        unfold MOST
                        have h6 : k < 10 ^ (20 : Int).toNat := by simpa using h6
                        have e20 : (10 : Int) ^ (20 : Int).toNat = 100000000000000000000 := by decide
                        rw [e20] at h6
                        rw [h5, decide_eq_true (show k ≤ 99999999999999999999 by omega)]
                        rfl
                      · exact hall j (by omega)
                  · walk_at "zz"
                    refine bad' ?_
                    rw [whole_i, h5]
                    rfl
                all_goals
                  walk_at "zz"
                  exact bad' rfl
              walk_at "zz"
              by_cases hgt : m < i + 1
              · have hbt : b = true := by
                  cases b with
                  | true => rfl
                  | false => simp at hmb; omega
                have hin : i + 1 = n := by rw [hbt] at hmb; simp at hmb; omega
                have hpr : x ∈ pricedL := by rw [hbt] at hb; exact of_decide_eq_true hb.symm
                refine known true (decide_eq_true (by omega)) (fun _ => ?_) (fun z => nomatch z)
                walk_at "zz"
                refine key _ ?_
                exact ((least_iff (a := i + 1) hs).mpr ⟨hpr, hin⟩).symm
              · refine known false (decide_eq_false (by omega)) (fun z => nomatch z) (fun _ => ?_)
                walk_at "zz"
                refine key _ ?_
                have hle : ¬ leastP x ((i + 1 : Nat) : Int) = -1 := fun z => by
                  obtain ⟨z1, z2⟩ := (least_iff (a := i + 1) hs).mp z
                  rw [decide_eq_true z1] at hb
                  rw [hb] at hmb
                  simp at hmb
                  omega
                have g1 := leastP_ge x ((i + 1 : Nat) : Int)
                have g2 := leastP_le x ((i + 1 : Nat) : Int)
                show (0 : Int) = leastP x ((i + 1 : Nat) : Int)
                omega
            · rw [upto_len] at hin
              obtain ⟨a1, a2, hall, rfl⟩ := hin
              walk_at "zz"
              rintro _ ⟨⟩
              rw [isDeed_look hs, decide_eq_true hn]
              have : ((List.range n).all fun i => wholeD (r.getD i .non) (leastP x ((i : Int) + 1)) MOST) = true := List.all_eq_true.mpr fun j hj => hall j (List.mem_range.mp hj)
              rw [this]
              rfl
      all_goals
        walk_at "zz"
        rintro _ ⟨⟩
        rfl
  all_goals
    walk_at "zz"
    rintro _ ⟨⟩
    rfl
theorem wp_own (h : spIs K T vs H Q E) : t_law_dl_is_own K (spSo K T) (spIw K T) { nx := fun _ H' => Q .non H', rt := Q } (L2.start n_law_dl_is_own vs) H :=
  fn_PR 1 h (by rintro ds ⟨_, rfl, _⟩; rfl) fun c ds a1 a2 a3 a4 a5 hp => by subst a1 a2; exact ws_own c ds hp
end K83

/-! ## WK -/
set_option Elab.async false
set_option linter.all false
set_option maxRecDepth 100000
set_option maxHeartbeats 4000000
namespace K83
open PySem PySem.Spec PyProof.Rows L2 Zd
local macro_rules | `(tactic| walk_at "z") => `(tactic| first
  | (with_reducible refine w_int ?_) | (with_reducible refine w_str ?_) | (with_reducible refine w_bl ?_) | (with_reducible refine w_non ?_)
  | (with_reducible refine w_varR ?_; refine ⟨_, rfl, ?_⟩)
  | (with_reducible refine w_isInt ?_) | (with_reducible refine w_isBool ?_) | (with_reducible refine w_isStr ?_) | (with_reducible refine w_isTup ?_) | (with_reducible refine w_isLst ?_)
  | (with_reducible refine w_kdGet (by assumption) ?_) | (with_reducible refine w_kdIn (by assumption) ?_) | (with_reducible refine w_kdNotIn (by assumption) ?_) | (with_reducible refine w_k (by assumption) ?_)
  | (with_reducible refine w_ixOR ?_; refine ⟨_, _, rfl, ?_⟩) | (with_reducible refine w_lenOR ?_; refine ⟨_, _, rfl, ?_⟩) | (with_reducible refine w_slOR ?_; refine ⟨_, _, rfl, ?_⟩) | (with_reducible refine w_callJR ?_; refine ⟨_, _, rfl, ?_⟩)
  | (with_reducible refine w_op ?_) | (with_reducible refine w_cb ?_) | (with_reducible refine w_nil ?_) | (with_reducible refine w_cons ?_)
  | (with_reducible refine w_disp ?_) | (with_reducible refine p_cons ?_) | (with_reducible refine p_nil ?_) | (with_reducible refine w_revT ?_) | (with_reducible refine w_dget ?_) | (with_reducible refine w_din ?_) | (with_reducible refine w_dnin ?_)
  | (with_reducible refine w_tup ?_) | (with_reducible refine w_lst ?_) | (with_reducible refine w_test ?_) | (with_reducible refine w_tB ?_)
  | (with_reducible refine w_not ?_) | (with_reducible refine w_and ?_) | (with_reducible refine w_or ?_) | (with_reducible refine w_if ?_)
  | (with_reducible refine w_notV ?_) | (with_reducible refine w_andV ?_) | (with_reducible refine w_orV ?_) | (with_reducible refine w_chain ?_) | (with_reducible refine w_neg ?_)
  | (with_reducible refine w_sl ?_) | (with_reducible refine o_none ?_) | (with_reducible refine o_some ?_) | (with_reducible refine w_m1 ?_)
  | (with_reducible refine u_addI ?_) | (with_reducible refine u_sub ?_) | (with_reducible refine u_lt ?_) | (with_reducible refine u_le ?_) | (with_reducible refine u_gt ?_) | (with_reducible refine u_ge ?_)
  | (with_reducible refine u_eqI ?_) | (with_reducible refine u_neI ?_) | (with_reducible refine u_eqS ?_) | (with_reducible refine u_neS ?_)
  | (with_reducible refine u_inT ?_) | (with_reducible refine u_eqT0 ?_) | (with_reducible refine u_neT0 ?_) | (with_reducible refine u_neL0 ?_) | (with_reducible refine u_eqL0 ?_)
  | (with_reducible refine r_isN ?_) | (with_reducible refine r_notN ?_) | (with_reducible refine u_int ?_) | (with_reducible refine u_intB ?_)
  | (with_reducible refine k_strS ?_) | (with_reducible refine k_max2 ?_) | (with_reducible refine k_min2 ?_)
  | (with_reducible refine k_tup ?_) | (with_reducible refine k_lenT ?_) | (with_reducible refine k_lenL ?_) | (with_reducible refine u_ixT atI_zero ?_) | (with_reducible refine u_ixL atI_zero ?_) | (with_reducible refine w_callE ?_) | (with_reducible refine w_callX ?_) | (with_reducible refine s_raise (by assumption) ?_) | (with_reducible refine i_rng1 ?_) | (with_reducible refine i_rng2 ?_) | (with_reducible refine i_list ?_) | (with_reducible refine i_tup ?_) | (with_reducible refine i_str ?_) | (with_reducible refine u_slT ?_) | (with_reducible refine u_slL ?_)
  | (with_reducible refine q_set ?_) | (with_reducible refine q_drop ?_) | (with_reducible refine q_par ?_) | (with_reducible refine q_when ?_) | (with_reducible refine q_if ?_)
  | (with_reducible refine s_ret ?_) | (with_reducible refine s_retNon ?_) | (with_reducible refine s_next ?_)
  | (refine ⟨_, rfl, ?_⟩) | (refine ⟨Nat.le_of_ble_eq_true rfl, ?_⟩) | (refine knownT rfl ?_) | (refine knownF rfl ?_) | (refine orT rfl ?_) | (refine orF rfl ?_))
local macro_rules | `(tactic| walk_at "zz") => `(tactic| repeat walk_at "z")
local macro_rules | `(tactic| walk_at "kt") => `(tactic| refine ⟨_, rfl, knownT rfl ?_⟩)
local macro_rules | `(tactic| walk_at "kf") => `(tactic| refine ⟨_, rfl, knownF rfl ?_⟩)
local macro_rules | `(tactic| walk_at "ot") => `(tactic| refine ⟨_, rfl, orT rfl ?_⟩)
local macro_rules | `(tactic| walk_at "of") => `(tactic| refine ⟨_, rfl, orF rfl ?_⟩)
local macro_rules | `(tactic| walk_at "t") => `(tactic| refine knownT rfl ?_)
local macro_rules | `(tactic| walk_at "f") => `(tactic| refine knownF rfl ?_)
local macro_rules | `(tactic| walk_at "bl") => `(tactic| refine ⟨_, rfl, ?_⟩)
local macro_rules | `(tactic| walk_at "br") => `(tactic| refine ⟨fun h => ?_, fun h => ?_⟩)

variable {K : PySem.W.Frag} {T : Tb} {w : World} {vs : List V} {H : Hp} {Q : VK} {E : XK}
/-! ### the law's printer -/
abbrev preLd (ds : List D) : Prop := ∃ t, ds = [t] ∧ isDeed t = true
abbrev postLd (ds : List D) (d : D) : Prop := ∀ dw l, ds = [deedD dw l] → d = .str (deedT dw l)
abbrev spLd (K : PySem.W.Frag) (T : Tb) : Sp := SpP K T preLd postLd noExc
theorem tos_price {i : Int} (h : i ≠ -1) : keyT (.inl i) = priceT i := by
  rw [priceT, if_neg h]
  rfl
theorem ws_ld (c : Cd) (hS : ∀ q, ¬ c.S q) (ds : List D) (hp : preLd ds) : WpS c (t_law_zt_deed c.K (spSo c.K c.T) (spPr c.K c.T) (spLl c.K c.T)) (Ret (postLd ds)) (args ds 1) := by
  obtain ⟨t, rfl, hD⟩ := hp
  obtain ⟨x, n, l, rfl, hs, hln, hall⟩ := isDeed_spec hD
  have hz : sizeLine = 16777216 := sizeLine_eq
  have hn4 := sizeL_small hs
  obtain ⟨m, b, hlk, hmb, hb, hm1⟩ := sorts_some hs
  have hsum := prices_sum hs hln hall
  have post : ∀ d, d = .str (deedT x l) → postLd [deedD x l] d := fun d e dw l' h => by
    obtain ⟨rfl, rfl⟩ := deedD_inj (List.cons.inj h).1
    exact e
  obtain ⟨init, z, rfl⟩ : ∃ init z, l = init ++ [z] := by
    rcases List.eq_nil_or_concat l with e | ⟨a, b, e⟩
    · rw [e] at hln
      simp at hln
      omega
    · exact ⟨a, b, by rw [e, List.concat_eq_append]⟩
  have hin : init.length + 1 = n := by simpa using hln
  have hz0 := hall init.length z (by simp)
  have hz1 := leastP_ge x ((init.length : Nat) + 1 : Int)
  have hi0 : ∀ i, i ∈ init → 0 ≤ i ∧ i ≤ MOST := fun i hi => by
    obtain ⟨j, hj⟩ := mem_idx hi
    have hjl : j < init.length := (List.getElem?_eq_some_iff.mp hj).1
    obtain ⟨g1, g2⟩ := hall j i (by rw [List.getElem?_append_left hjl]; exact hj)
    have hle : ¬ leastP x ((j + 1 : Nat) : Int) = -1 := fun q => by
      obtain ⟨_, q2⟩ := (least_iff (a := j + 1) hs).mp q
      omega
    have g3 := leastP_ge x ((j + 1 : Nat) : Int)
    have g4 := leastP_le x ((j + 1 : Nat) : Int)
    have g5 : ((j : Int) + 1) = ((j + 1 : Nat) : Int) := by omega
    rw [g5] at g1
    exact ⟨by omega, g2⟩
  have eP : deedD x (init ++ [z]) = D.tup (D.str x :: (init.map D.int ++ List.map D.int [z])) := by
    unfold deedD
    rw [List.map_append]
  have post2 : ∀ d, d = .str (deedT x (init ++ [z])) → postLd [D.tup (D.str x :: (init.map D.int ++ List.map D.int [z]))] d := by
    rw [← eP]
    exact post
  unfold t_law_zt_deed
  rw [eP]
  rw [List.map_append] at hsum
  refine q_setN ?_
  refine w_cbN ?_
  walk_at "zz"
  rw [cutL_tail]
  refine k_lstT ⟨Nat.le_of_ble_eq_true rfl, fun p => ?_⟩
  -- what follows: some is made
  have key : ∀ lz : Key, keyT lz = priceT z → keyOk lz → WpS c (tRet (tCall (spLl c.K c.T) [] E0 (tCons (tOp (rIx c.K) (tVar 0) (tC (.int 0))) (tCons (tVar 1) tNil)))) (Ret (postLd [D.tup (D.str x :: (init.map D.int ++ List.map D.int [z]))])) [some (.dat (.tup (.str x :: (init.map D.int ++ List.map D.int [z])))), some (.own p (init.map D.int ++ [keyD lz]))] := fun lz e1 e2 => by
    refine s_frz 1 rfl (fun q y => absurd y (hS q)) ?_
    walk_at "zz"
    have e3 : init.map D.int ++ [keyD lz] = (init.map Sum.inl ++ [lz] : List Key).map keyD := by
      rw [List.map_append, List.map_map]
      rfl
    have e4 : (init.map Sum.inl ++ [lz] : List Key).map keyT = (init ++ [z]).map priceT := by
      rw [List.map_append, List.map_append, List.map_map]
      have : init.map (keyT ∘ Sum.inl) = init.map priceT := List.map_congr_left fun i hi => tos_price (by have := (hi0 i hi).1; omega)
      rw [this, List.map_cons, List.map_cons, e1]
      rfl
    rw [e3]
    refine ⟨⟨x, _, rfl, by rw [e4]; rw [List.map_append]; omega, fun k hk i hi => ?_⟩, fun d hd => ?_⟩
    · rcases List.mem_append.mp hk with hk | hk
      · obtain ⟨j, hj, rfl⟩ := List.mem_map.mp hk
        cases hi
        have := hi0 i hj
        omega
      · rw [List.mem_singleton.mp hk] at hi
        exact e2 i hi
    · rw [hd _ _ rfl, e4]
      walk_at "zz"
      exact post2 _ rfl
  refine q_if ?_
  walk_at "zz"
  refine ⟨rfl, fun d hd => ?_⟩
  have hd : d = .dic sortsK sortsD := hd
  subst hd
  walk_at "zz"
  refine ⟨_, _, .inr x, _, rfl, rfl, hlk, ?_⟩
  walk_at "zz"
  refine u_ixT (d := .bl b) (atI_nat (j := 1) rfl) ?_
  walk_at "zz"
  refine ⟨fun h => ?_, fun h => ?_⟩
  · refine s_setO ?_
    walk_at "zz"
    refine ⟨_, _, _, _, rfl, rfl, atI_last _ _, ?_⟩
    walk_at "zz"
    refine ⟨⟨z, rfl, by omega, hz0.2⟩, fun d hd => ?_⟩
    rw [hd z rfl]
    refine ⟨⟨p, _, rfl⟩, ?_⟩
    walk_at "zz"
    refine ⟨p, _, _, init.length, rfl, rfl, ?_, ?_⟩
    · unfold ixN
      rw [if_neg (by decide), if_pos (by simp; omega)]
      congr 1
      simp
      omega
    have e : (init.map D.int ++ List.map D.int [z]).set init.length (.str (priceT z)) = init.map D.int ++ [keyD (.inr (priceT z))] := by
      rw [List.set_append_right _ _ (by simp)]
      simp
      rfl
    rw [e]
    exact key (.inr (priceT z)) rfl fun i hi => by cases hi
  · refine s_next ?_
    have hle : ¬ leastP x ((init.length + 1 : Nat) : Int) = -1 := fun q => by
      obtain ⟨q1, _⟩ := (least_iff (a := init.length + 1) hs).mp q
      rw [h, decide_eq_true q1] at hb
      cases hb
    have g3 := leastP_ge x ((init.length + 1 : Nat) : Int)
    have g5 : ((init.length : Int) + 1) = ((init.length + 1 : Nat) : Int) := by omega
    rw [g5] at hz0
    exact key (.inl z) (tos_price (by omega)) fun i hi => by cases hi; exact ⟨by omega, hz0.2⟩
theorem wp_ld (h : spLd K T vs H Q E) : t_law_zt_deed K (spSo K T) (spPr K T) (spLl K T) { nx := fun _ H' => Q .non H', rt := Q } (L2.start n_law_zt_deed vs) H :=
  fn_PR 1 h (by rintro ds ⟨_, rfl, _⟩; rfl) fun c ds a1 a2 a3 a4 a5 hp => by subst a1 a2; exact ws_ld c a5 ds hp
end K83

/-! ## M83 -/
set_option Elab.async false
set_option linter.all false
set_option maxRecDepth 100000
set_option maxHeartbeats 4000000
namespace K83
open PySem PySem.Spec PyProof.Rows L2 Zd
/-! ### numbers and their texts -/
theorem numL_head : ∀ (n : Nat), (TL.numL n).head? = some 48 → n = 0 := fun n => by
  induction n using Nat.strongRecOn with
  | _ n ih =>
    intro h
    by_cases h10 : n < 10
    · rw [TL.numL_lt h10] at h
      have := Option.some.inj h
      omega
    · rw [TL.numL_step (by omega)] at h
      have hne := TL.numL_ne (n / 10)
      have h2 : (TL.numL (n / 10)).head? = some 48 := by
        cases e : TL.numL (n / 10) with
        | nil => exact absurd e hne
        | cons a r => rw [e] at h; exact h
      have := ih (n / 10) (by omega) h2
      omega
theorem numOf_tos {n : Nat} (h : (n : Int) ≤ MOST) : numOf (Str.ofString (toString ((n : Nat) : Int))) = some (n : Int) := by
  have e := tos_tl (n := n)
  have hl := tos_len (i := (n : Int)) (by omega) h
  have hlen := len_cps (Str.ofString (toString ((n : Nat) : Int)))
  rw [e] at hlen
  have hne := TL.numL_ne n
  have h1 : 1 ≤ (TL.numL n).length := by
    cases q : TL.numL n with
    | nil => exact absurd q hne
    | cons a r => simp
  have ha : (TL.numL n).all isDig = true := List.all_eq_true.mpr fun c hc => (dig_iff c).mpr (TL.numL_digits n c hc)
  unfold numOf
  rw [e, if_pos (by rw [ha, decide_eq_true (show 1 ≤ _ by omega), decide_eq_true hl]; rfl), if_neg, TL.numL_val]
  rintro ⟨z1, z2⟩
  have := numL_head n z1
  subst this
  have q : TL.numL 0 = [48] := TL.numL_lt (by decide)
  rw [q] at hlen
  have hlen2 : 1 = (Str.ofString (toString ((0 : Nat) : Int))).length := hlen
  omega
theorem chr_back {c : Nat} (h : 48 ≤ c ∧ c ≤ 57) : (Char.ofNat c).toNat = c := by
  obtain ⟨h1, h2⟩ := h
  have : ∀ d : Nat, d < 10 → (Char.ofNat (48 + d)).toNat = 48 + d := by decide
  have h3 := this (c - 48) (by omega)
  rw [show 48 + (c - 48) = c by omega] at h3
  exact h3
theorem str_ext {x y : Str} (h : x.cps.toList = y.cps.toList) : x = y := by
  cases x; cases y
  simp only at h
  have := congrArg List.toArray h
  simpa using this
theorem tos_numOf {y : Str} {v : Int} (h : numOf y = some v) : Str.ofString (toString v) = y := by
  unfold numOf at h
  split at h
  · rename_i g
    simp only [Bool.and_eq_true, decide_eq_true_eq] at g
    split at h
    · cases h
    · rename_i g2
      cases h
      refine str_ext ?_
      rw [tos_tl]
      have hd := digs_all g.2
      have hlen := len_cps y
      have hh : (y.length - 1 = 0 ∨ ∃ c r, y.cps.toList = c :: r ∧ 49 ≤ c) := by
        cases e : y.cps.toList with
        | nil => rw [e] at hlen; simp at hlen; omega
        | cons c r =>
          have hc := hd c (by rw [e]; exact List.mem_cons_self ..)
          by_cases z : c = 48
          · refine .inl ?_
            by_cases z2 : 1 < y.length
            · exact absurd ⟨by rw [e, z]; rfl, z2⟩ g2
            · omega
          · exact .inr ⟨c, r, rfl, by omega⟩
      have k := NumText.toDigits_digitsVal (y.length - 1) y.cps.toList (by rw [hlen]; omega) hd hh
      show (Nat.toDigits 10 _).map Char.toNat = _
      rw [k, List.map_map]
      conv => rhs; rw [← List.map_id y.cps.toList]
      exact List.map_congr_left fun c hc => chr_back (hd c hc)
  · cases h
/-! ### parts -/
theorem firm_num : numOf "firm" = none := by
  rw [numOf, if_neg]
  decide +kernel
theorem part_price {dw : Str} {a : Nat} {i : Int} (h1 : leastP dw (a : Int) ≤ i) (h2 : i ≤ MOST) : partOf dw (a : Int) (priceT i) = some i := by
  have g := leastP_ge dw (a : Int)
  unfold priceT partOf
  by_cases e : i = -1
  · subst e
    rw [if_pos rfl, if_pos ⟨rfl, by omega⟩]
  · rw [if_neg e]
    obtain ⟨n, rfl⟩ := Int.eq_ofNat_of_zero_le (a := i) (by omega)
    have k := numOf_tos h2
    rw [if_neg, k]
    rintro ⟨z, _⟩
    rw [show (Str.ofString (toString ((n : Nat) : Int))) = "firm" from z, firm_num] at k
    cases k
theorem price_part {dw : Str} {a : Nat} {y : Str} {v : Int} (h : partOf dw (a : Int) y = some v) : priceT v = y ∧ leastP dw (a : Int) ≤ v ∧ v ≤ MOST := by
  unfold partOf at h
  split at h
  · rename_i g
    cases h
    exact ⟨by rw [priceT, if_pos rfl, g.1], by omega, by decide⟩
  · have g := numOf_ge h
    have l := leastP_le dw (a : Int)
    refine ⟨?_, by omega, g.2⟩
    rw [priceT, if_neg (by omega)]
    exact tos_numOf h
theorem collect_get {f : Nat → Option Int} : ∀ {n : Nat} {l : List Int}, collect f n = .ok l → ∀ j, j < n → f (j + 1) = l[j]?
  | 0, _, _, j, hj => absurd hj (Nat.not_lt_zero j)
  | k + 1, l, h, j, hj => by
    unfold collect at h
    cases e : collect f k with
    | error a => rw [e] at h; cases h
    | ok r =>
      rw [e] at h
      simp only at h
      have hr := collect_len e
      cases e2 : f (k + 1) with
      | none => rw [e2] at h; cases h
      | some i =>
        rw [e2] at h
        cases h
        by_cases q : j = k
        · subst q
          rw [e2, List.getElem?_append_right (by omega), hr]
          simp
        · rw [List.getElem?_append_left (by omega)]
          exact collect_get e j (by omega)
theorem collect_all {f : Nat → Option Int} {l : List Int} (h : ∀ j, j < l.length → f (j + 1) = l[j]?) : ∀ k, k ≤ l.length → collect f k = .ok (l.take k)
  | 0, _ => by simp; rfl
  | k + 1, hk => by
    have ih := collect_all h k (by omega)
    rw [collect_step ih, h k (by omega), List.getElem?_eq_getElem (by omega), List.take_add_one, List.getElem?_eq_getElem (by omega)]
    rfl
/-- what was read is a deed, and its words are the line's -/
theorem deedOf_ok {ws : List Str} {l : List Int} (h : deedOf ws = .ok l) : isDeed (deedD (ws.headD "") l) = true ∧ ws = ws.headD "" :: l.map priceT := by
  unfold deedOf at h
  cases hs : sizeL.lookup (ws.headD "") with
  | none => rw [hs] at h; cases h
  | some n =>
    rw [hs] at h
    simp only at h
    cases hc : collect (partAt ws) n with
    | error a => rw [hc] at h; cases h
    | ok m =>
      rw [hc] at h
      simp only at h
      split at h
      · rename_i hl
        cases h
        have hm := collect_len hc
        have key : ∀ (j : Nat) v, l[j]? = some v → ∃ y, ws[j + 1]? = some y ∧ priceT v = y ∧ leastP (ws.headD "") ((j + 1 : Nat) : Int) ≤ v ∧ v ≤ MOST := fun j v hv => by
          have hj : j < l.length := (List.getElem?_eq_some_iff.mp hv).1
          have g := collect_get hc j (by omega)
          rw [hv] at g
          unfold partAt at g
          cases e : ws[j + 1]? with
          | none => rw [e] at g; cases g
          | some y =>
            rw [e] at g
            exact ⟨y, rfl, price_part g⟩
        refine ⟨isDeed_of hs hm fun i x hx => ?_, ?_⟩
        · obtain ⟨y, _, _, g1, g2⟩ := key i x hx
          exact ⟨g1, g2⟩
        · cases ws with
          | nil => simp at hl
          | cons x r =>
            show x :: r = x :: l.map priceT
            congr 1
            apply List.ext_getElem?
            intro j
            rw [List.getElem?_map]
            cases hv : l[j]? with
            | none =>
              have : l.length ≤ j := List.getElem?_eq_none_iff.mp hv
              rw [List.getElem?_eq_none (by simp at hl; omega)]
              rfl
            | some v =>
              obtain ⟨y, g0, g1, _⟩ := key j v hv
              rw [List.getElem?_cons_succ] at g0
              rw [g0, ← g1]
              rfl
      · cases h
theorem join_one (y x : Str) : Txt.join y [x] = x := by
  rw [TL.join_eq]
  rfl
theorem text_back {s : Str} {l : List Int} (h1 : (lns s).length = 1) (h : deedOf (firstW s) = .ok l) : isDeed (deedD ((firstW s).headD "") l) = true ∧ deedT ((firstW s).headD "") l = s := by
  obtain ⟨g1, g2⟩ := deedOf_ok h
  refine ⟨g1, ?_⟩
  unfold deedT
  rw [← g2]
  obtain ⟨l0, e⟩ := List.length_eq_one_iff.mp h1
  have j1 := StrLaws.join_split s "\n"
  rw [show Txt.split s "\n" = [l0] from e] at j1
  have e0 : l0 = s := j1
  have ef : firstW s = Txt.split s " " := by
    show wds ((lns s).headD "") = _
    rw [e]
    show wds l0 = _
    rw [e0]
  rw [ef, TL.join_eq]
  exact StrLaws.join_split s " "
/-! ### a printed deed is read back -/
theorem word_free {dw : Str} {n : Nat} (h : sizeL.lookup dw = some n) : 32 ∉ TL.tl dw ∧ 10 ∉ TL.tl dw := by
  unfold sizeL at h
  simp only [List.lookup_cons] at h
  repeat' split at h
  all_goals first | (cases h; rename_i q; rw [eq_of_beq q]; decide +kernel) | (cases h)
theorem price_free {i : Int} (h : -1 ≤ i) : 32 ∉ TL.tl (priceT i) ∧ 10 ∉ TL.tl (priceT i) := by
  unfold priceT
  by_cases e : i = -1
  · rw [if_pos e]
    decide +kernel
  · rw [if_neg e]
    obtain ⟨n, rfl⟩ := Int.eq_ofNat_of_zero_le (a := i) (by omega)
    rw [show TL.tl (Str.ofString (toString ((n : Nat) : Int))) = TL.numL n from TL.tl_num n]
    exact ⟨TL.numL_free (by omega), TL.numL_free (by omega)⟩
theorem joinL_free {s c : Nat} (hc : c ≠ s) : ∀ {ps : List (List Nat)}, (∀ p ∈ ps, c ∉ p) → c ∉ TL.joinL [s] ps
  | [], _, h => by cases h
  | [p], hp, h => hp p (List.mem_singleton.mpr rfl) h
  | p :: q :: r, hp, h => by
    have h : c ∈ p ++ ([s] ++ TL.joinL [s] (q :: r)) := h
    rcases List.mem_append.mp h with h | h
    · exact hp p (List.mem_cons_self ..) h
    · rcases List.mem_append.mp h with h | h
      · exact hc (List.mem_singleton.mp h)
      · exact joinL_free hc (fun z hz => hp z (List.mem_cons_of_mem _ hz)) h
theorem read_back {dw : Str} {l : List Int} (h : isDeed (deedD dw l) = true) : lns (deedT dw l) = [deedT dw l] ∧ (firstW (deedT dw l)).headD "" = dw ∧ deedOf (firstW (deedT dw l)) = .ok l := by
  obtain ⟨dw', n, l', e, hs, hl, hall⟩ := isDeed_spec h
  obtain ⟨rfl, rfl⟩ := deedD_inj e
  have hp : ∀ p, p ∈ dw :: l.map priceT → 32 ∉ TL.tl p ∧ 10 ∉ TL.tl p := fun p hp => by
    rcases List.mem_cons.mp hp with rfl | hp
    · exact word_free hs
    · obtain ⟨i, hi, rfl⟩ := List.mem_map.mp hp
      obtain ⟨j, hj⟩ := mem_idx hi
      have g := (hall j i hj).1
      have g2 := leastP_ge dw ((j : Int) + 1)
      exact price_free (by omega)
  have e1 : lns (deedT dw l) = [deedT dw l] := by
    have k := TL.split_join (y := "\n") (s := 10) (S := []) (by decide +kernel) (by decide +kernel) (parts := [deedT dw l]) (by simp) fun p hp2 => by
      rw [List.mem_singleton.mp hp2]
      unfold deedT
      rw [TL.join_eq, TL.tl_join]
      refine joinL_free (s := 32) (by decide) fun q hq => ?_
      obtain ⟨z, hz, rfl⟩ := List.mem_map.mp hq
      exact (hp z hz).2
    rw [join_one] at k
    exact k
  have e2 : firstW (deedT dw l) = dw :: l.map priceT := by
    show wds ((lns (deedT dw l)).headD "") = _
    rw [e1]
    show Txt.split (deedT dw l) " " = _
    exact TL.split_join (y := " ") (s := 32) (S := []) (by decide +kernel) (by decide +kernel) (parts := dw :: l.map priceT) (by simp) fun p hp2 => (hp p hp2).1
  rw [e2]
  refine ⟨e1, rfl, ?_⟩
  unfold deedOf
  show (match sizeL.lookup dw with | none => Except.error 0 | some n => _) = _
  rw [hs]
  have hc := collect_all (f := partAt (dw :: l.map priceT)) (l := l) (fun j hj => by
    obtain ⟨v, hv⟩ : ∃ v, l[j]? = some v := ⟨_, List.getElem?_eq_getElem hj⟩
    unfold partAt
    rw [List.getElem?_cons_succ, List.getElem?_map, hv]
    show partOf dw ((j + 1 : Nat) : Int) (priceT v) = some v
    obtain ⟨g1, g2⟩ := hall j v hv
    exact part_price g1 g2) n (by omega)
  simp only [hc]
  rw [List.take_of_length_le (by omega), if_pos (by simp; omega)]
end K83

/-! ## WL -/
set_option Elab.async false
set_option linter.all false
set_option maxRecDepth 100000
set_option maxHeartbeats 4000000
namespace Zd
open PySem L2
variable {c : Cd}
section
variable {ρ : Rho} {i : Nat} {a : Addr} {ns : List Int} {P : D → Rho → Prop} {te : TE}
/-- the script, read -/
theorem w_lenK (h : ρ[i]? = some (some (.fn a))) (hs : SqL c.K c.G0 a (ns.map V.int)) (k : P (.int ns.length) ρ) : EvD c (tCB (rLenV c.K) (tCons (tVar i) tNil)) ρ P := fun σ G H Q s q =>
  ⟨.ref a, s.fnV h, .ref a, ns.length, rfl, .inl ⟨_, sql_ex s.ex (sql_ex s.mv.gg hs), by rw [List.length_map]⟩, q _ _ ρ G H k s .refl rfl⟩
theorem w_ixK (h : ρ[i]? = some (some (.fn a))) (hs : SqL c.K c.G0 a (ns.map V.int)) (k : EvD c te ρ fun d ρ2 => ∃ j x, d = .int j ∧ atI ns j = some x ∧ P (.int x) ρ2) : EvD c (tOp (rIx c.K) (tVar i) te) ρ P := fun σ G H Q s q =>
  ⟨.ref a, s.fnV h, k σ G H _ s fun v d ρ2 G2 H2 h2 s2 e2 r2 => by
    obtain ⟨j, x, rfl, hx, hp⟩ := h2
    cases r2
    exact .inl ⟨a, ns.map V.int, j, .int x, rfl, rfl, sql_ex s2.ex (sql_ex s2.mv.gg hs), by rw [atI_map, hx]; rfl, q _ _ ρ2 G2 H2 hp s2 e2 rfl⟩⟩
end
end Zd
namespace K83
open PySem PySem.Spec PyProof.Rows L2 Zd
local macro_rules | `(tactic| walk_at "z") => `(tactic| first
  | (with_reducible refine w_int ?_) | (with_reducible refine w_str ?_) | (with_reducible refine w_bl ?_) | (with_reducible refine w_non ?_)
  | (with_reducible refine w_varR ?_; refine ⟨_, rfl, ?_⟩)
  | (with_reducible refine w_isInt ?_) | (with_reducible refine w_isBool ?_) | (with_reducible refine w_isStr ?_) | (with_reducible refine w_isTup ?_) | (with_reducible refine w_isLst ?_)
  | (with_reducible refine w_kdGet (by assumption) ?_) | (with_reducible refine w_kdIn (by assumption) ?_) | (with_reducible refine w_kdNotIn (by assumption) ?_) | (with_reducible refine w_k (by assumption) ?_)
  | (with_reducible refine w_ixOR ?_; refine ⟨_, _, rfl, ?_⟩) | (with_reducible refine w_lenOR ?_; refine ⟨_, _, rfl, ?_⟩) | (with_reducible refine w_slOR ?_; refine ⟨_, _, rfl, ?_⟩) | (with_reducible refine w_callJR ?_; refine ⟨_, _, rfl, ?_⟩)
  | (with_reducible refine w_op ?_) | (with_reducible refine w_cb ?_) | (with_reducible refine w_nil ?_) | (with_reducible refine w_cons ?_)
  | (with_reducible refine w_disp ?_) | (with_reducible refine p_cons ?_) | (with_reducible refine p_nil ?_) | (with_reducible refine w_revT ?_) | (with_reducible refine w_dget ?_) | (with_reducible refine w_din ?_) | (with_reducible refine w_dnin ?_)
  | (with_reducible refine w_tup ?_) | (with_reducible refine w_lst ?_) | (with_reducible refine w_test ?_) | (with_reducible refine w_tB ?_)
  | (with_reducible refine w_not ?_) | (with_reducible refine w_and ?_) | (with_reducible refine w_or ?_) | (with_reducible refine w_if ?_)
  | (with_reducible refine w_notV ?_) | (with_reducible refine w_andV ?_) | (with_reducible refine w_orV ?_) | (with_reducible refine w_chain ?_) | (with_reducible refine w_neg ?_)
  | (with_reducible refine w_sl ?_) | (with_reducible refine o_none ?_) | (with_reducible refine o_some ?_) | (with_reducible refine w_m1 ?_)
  | (with_reducible refine u_addI ?_) | (with_reducible refine u_sub ?_) | (with_reducible refine u_lt ?_) | (with_reducible refine u_le ?_) | (with_reducible refine u_gt ?_) | (with_reducible refine u_ge ?_)
  | (with_reducible refine u_eqI ?_) | (with_reducible refine u_neI ?_) | (with_reducible refine u_eqS ?_) | (with_reducible refine u_neS ?_)
  | (with_reducible refine u_inT ?_) | (with_reducible refine u_eqT0 ?_) | (with_reducible refine u_neT0 ?_) | (with_reducible refine u_neL0 ?_) | (with_reducible refine u_eqL0 ?_)
  | (with_reducible refine r_isN ?_) | (with_reducible refine r_notN ?_) | (with_reducible refine u_int ?_) | (with_reducible refine u_intB ?_)
  | (with_reducible refine k_strS ?_) | (with_reducible refine k_max2 ?_) | (with_reducible refine k_min2 ?_)
  | (with_reducible refine k_tup ?_) | (with_reducible refine k_lenT ?_) | (with_reducible refine k_lenL ?_) | (with_reducible refine u_ixT atI_zero ?_) | (with_reducible refine u_ixL atI_zero ?_) | (with_reducible refine w_callE ?_) | (with_reducible refine w_callX ?_) | (with_reducible refine s_raise (by assumption) ?_) | (with_reducible refine i_rng1 ?_) | (with_reducible refine i_rng2 ?_) | (with_reducible refine i_list ?_) | (with_reducible refine i_tup ?_) | (with_reducible refine i_str ?_) | (with_reducible refine u_slT ?_) | (with_reducible refine u_slL ?_)
  | (with_reducible refine q_set ?_) | (with_reducible refine q_drop ?_) | (with_reducible refine q_par ?_) | (with_reducible refine q_when ?_) | (with_reducible refine q_if ?_)
  | (with_reducible refine s_ret ?_) | (with_reducible refine s_retNon ?_) | (with_reducible refine s_next ?_)
  | (refine ⟨_, rfl, ?_⟩) | (refine ⟨Nat.le_of_ble_eq_true rfl, ?_⟩) | (refine knownT rfl ?_) | (refine knownF rfl ?_) | (refine orT rfl ?_) | (refine orF rfl ?_))
local macro_rules | `(tactic| walk_at "zz") => `(tactic| repeat walk_at "z")
local macro_rules | `(tactic| walk_at "kt") => `(tactic| refine ⟨_, rfl, knownT rfl ?_⟩)
local macro_rules | `(tactic| walk_at "kf") => `(tactic| refine ⟨_, rfl, knownF rfl ?_⟩)
local macro_rules | `(tactic| walk_at "ot") => `(tactic| refine ⟨_, rfl, orT rfl ?_⟩)
local macro_rules | `(tactic| walk_at "of") => `(tactic| refine ⟨_, rfl, orF rfl ?_⟩)
local macro_rules | `(tactic| walk_at "t") => `(tactic| refine knownT rfl ?_)
local macro_rules | `(tactic| walk_at "f") => `(tactic| refine knownF rfl ?_)
local macro_rules | `(tactic| walk_at "bl") => `(tactic| refine ⟨_, rfl, ?_⟩)
local macro_rules | `(tactic| walk_at "br") => `(tactic| refine ⟨fun h => ?_, fun h => ?_⟩)

variable {K : PySem.W.Frag} {T : Tb} {w : World} {vs : List V} {H : Hp} {Q : VK} {E : XK}
/-! ### the jar -/
def JV (js : List D) : Prop := ∃ d s k : Int, js = [.int d, .int s, .int k] ∧ 0 ≤ s ∧ s < 2147483647 ∧ 0 ≤ d
abbrev preTk (js ds : List D) : Prop := JV js ∧ ∃ m : Int, ds = [.int m] ∧ 0 < m ∧ m < 2 ^ 60
abbrev postTk (js ds : List D) (d : D) (js' : List D) : Prop := JV js' ∧ ∃ r : Int, d = .int r ∧ 0 ≤ r ∧ ∀ m : Int, ds = [.int m] → r < m
abbrev spTk (K : PySem.W.Frag) (T : Tb) : Sp := SpJ K T preTk postTk
theorem log_lt {m : Int} (h : 0 < m) (h2 : m < 2 ^ 60) : m.natAbs.log2 < 9000 := by
  rw [Nat.log2_lt (by omega)]
  have a : m.natAbs < 2 ^ 60 := by omega
  have b : (2 : Nat) ^ 60 ≤ 2 ^ (9000 : Nat) := Nat.pow_le_pow_right (by decide) (by decide)
  omega
theorem ws_tk (c : Cd) (p : Addr) (js ds : List D) (hp : preTk js ds) : WpS c (t_law_take c.K) (RetJ (postTk js ds) p) (some (.own p js) :: args ds 1) := by
  obtain ⟨⟨d, s, k, rfl, h1, h2, h3⟩, m, rfl, h4, h5⟩ := hp
  unfold t_law_take
  walk_at "zz"
  refine ⟨_, _, _, _, rfl, rfl, rfl, ?_⟩
  walk_at "zz"
  refine ⟨fun h => ?_, fun h => ?_⟩
  · walk_at "zz"
    refine ⟨_, _, _, _, rfl, rfl, rfl, ?_⟩
    walk_at "zz"
    refine u_mod h4 ?_
    walk_at "zz"
    refine q_setO ?_
    walk_at "zz"
    refine ⟨_, _, _, _, rfl, rfl, rfl, ?_⟩
    walk_at "zz"
    refine u_div ⟨h4, log_lt h4 h5⟩ ?_
    refine ⟨⟨_, _, rfl⟩, ?_⟩
    walk_at "zz"
    refine ⟨_, _, _, 0, rfl, rfl, rfl, ?_⟩
    walk_at "zz"
    refine ⟨_, _, rfl, rfl, ⟨_, _, _, rfl, h1, h2, ?_⟩, _, rfl, Int.emod_nonneg _ (by omega), fun m' e => ?_⟩
    · exact Int.ediv_nonneg h3 (by omega)
    · cases e
      exact Int.emod_lt_of_pos _ h4
  · refine q_setO ?_
    walk_at "zz"
    refine ⟨_, _, _, _, rfl, rfl, rfl, ?_⟩
    walk_at "zz"
    refine ⟨⟨_, _, rfl⟩, ?_⟩
    walk_at "zz"
    refine ⟨_, _, _, 2, rfl, rfl, rfl, ?_⟩
    refine q_setO ?_
    walk_at "zz"
    refine ⟨_, _, _, _, rfl, rfl, rfl, ?_⟩
    walk_at "zz"
    refine u_mulC (.inr (by decide)) ?_
    walk_at "zz"
    refine ⟨_, _, _, _, rfl, rfl, rfl, ?_⟩
    walk_at "zz"
    refine u_mulC (.inl (by decide)) ?_
    walk_at "zz"
    refine u_mod (by decide) ?_
    refine ⟨⟨_, _, rfl⟩, ?_⟩
    walk_at "zz"
    refine ⟨_, _, _, 1, rfl, rfl, rfl, ?_⟩
    walk_at "zz"
    refine ⟨_, _, _, _, rfl, rfl, rfl, ?_⟩
    walk_at "zz"
    refine ⟨_, _, _, _, rfl, rfl, rfl, ?_⟩
    have g1 : 0 ≤ (s * 39373 + 7919 * (k + 1) + 7) % 2147483647 := Int.emod_nonneg _ (by decide)
    have g2 : (s * 39373 + 7919 * (k + 1) + 7) % 2147483647 < 2147483647 := Int.emod_lt_of_pos _ (by decide)
    refine u_mulC (.inl ⟨by omega, by omega⟩) ?_
    walk_at "zz"
    refine u_mod (by decide) ?_
    walk_at "zz"
    refine u_div ⟨by decide, by decide⟩ ?_
    walk_at "zz"
    refine u_mod h4 ?_
    refine ⟨_, _, rfl, rfl, ⟨_, _, _, rfl, g1, g2, h3⟩, _, rfl, Int.emod_nonneg _ (by omega), fun m' e => ?_⟩
    cases e
    exact Int.emod_lt_of_pos _ h4
theorem wp_tk (h : spTk K T vs H Q E) : t_law_take K { nx := fun _ H' => Q .non H', rt := Q } (L2.start n_law_take vs) H :=
  fn_JR 2 h (by rintro js ds ⟨_, m, rfl, _⟩; rfl) fun c p js ds a1 a2 a3 hp => by subst a1; exact ws_tk c p js ds hp
/-! ### one of a list -/
abbrev preOne (js ds : List D) : Prop := JV js ∧ ∃ xs : List D, ds = [.lst xs] ∧ xs ≠ [] ∧ xs.length ≤ 1000
abbrev postOne (js ds : List D) (d : D) (js' : List D) : Prop := JV js' ∧ ∀ xs : List D, ds = [.lst xs] → d ∈ xs
abbrev spOne (K : PySem.W.Frag) (T : Tb) : Sp := SpJ K T preOne postOne
theorem ws_one (c : Cd) (p : Addr) (js ds : List D) (hp : preOne js ds) : WpS c (t_law_one c.K (spTk c.K c.T)) (RetJ (postOne js ds) p) (some (.own p js) :: args ds 0) := by
  obtain ⟨hj, xs, rfl, hne, hl⟩ := hp
  have h1 : 1 ≤ xs.length := by
    cases xs with
    | nil => exact absurd rfl hne
    | cons x r => simp
  unfold t_law_one
  walk_at "zz"
  refine ⟨⟨hj, _, rfl, by omega, by omega⟩, fun d es he => ?_⟩
  obtain ⟨hj', r, rfl, g1, g2⟩ := he
  have g3 := g2 _ rfl
  obtain ⟨n, rfl⟩ := Int.eq_ofNat_of_zero_le g1
  obtain ⟨y, hy⟩ : ∃ y, xs[n]? = some y := ⟨_, List.getElem?_eq_getElem (by omega)⟩
  refine u_ixL (d := y) (atI_nat hy) ?_
  refine ⟨_, _, rfl, rfl, hj', fun xs' e => ?_⟩
  cases e
  exact List.mem_of_getElem? hy
theorem wp_one (h : spOne K T vs H Q E) : t_law_one K (spTk K T) { nx := fun _ H' => Q .non H', rt := Q } (L2.start n_law_one vs) H :=
  fn_JR 2 h (by rintro js ds ⟨_, m, rfl, _⟩; rfl) fun c p js ds a1 a2 a3 hp => by subst a1 a2; exact ws_one c p js ds hp
end K83

/-! ## GL -/
set_option Elab.async false
set_option linter.all false
set_option maxRecDepth 100000
set_option maxHeartbeats 4000000
namespace K83
open PySem PySem.Spec PyProof.Rows L2 Zd
local macro_rules | `(tactic| walk_at "z") => `(tactic| first
  | (with_reducible refine w_int ?_) | (with_reducible refine w_str ?_) | (with_reducible refine w_bl ?_) | (with_reducible refine w_non ?_)
  | (with_reducible refine w_varR ?_; refine ⟨_, rfl, ?_⟩)
  | (with_reducible refine w_isInt ?_) | (with_reducible refine w_isBool ?_) | (with_reducible refine w_isStr ?_) | (with_reducible refine w_isTup ?_) | (with_reducible refine w_isLst ?_)
  | (with_reducible refine w_kdGet (by assumption) ?_) | (with_reducible refine w_kdIn (by assumption) ?_) | (with_reducible refine w_kdNotIn (by assumption) ?_) | (with_reducible refine w_k (by assumption) ?_)
  | (with_reducible refine w_ixOR ?_; refine ⟨_, _, rfl, ?_⟩) | (with_reducible refine w_lenOR ?_; refine ⟨_, _, rfl, ?_⟩) | (with_reducible refine w_slOR ?_; refine ⟨_, _, rfl, ?_⟩) | (with_reducible refine w_callJR ?_; refine ⟨_, _, rfl, ?_⟩)
  | (with_reducible refine w_op ?_) | (with_reducible refine w_cb ?_) | (with_reducible refine w_nil ?_) | (with_reducible refine w_cons ?_)
  | (with_reducible refine w_disp ?_) | (with_reducible refine p_cons ?_) | (with_reducible refine p_nil ?_) | (with_reducible refine w_revT ?_) | (with_reducible refine w_dget ?_) | (with_reducible refine w_din ?_) | (with_reducible refine w_dnin ?_)
  | (with_reducible refine w_tup ?_) | (with_reducible refine w_lst ?_) | (with_reducible refine w_test ?_) | (with_reducible refine w_tB ?_)
  | (with_reducible refine w_not ?_) | (with_reducible refine w_and ?_) | (with_reducible refine w_or ?_) | (with_reducible refine w_if ?_)
  | (with_reducible refine w_notV ?_) | (with_reducible refine w_andV ?_) | (with_reducible refine w_orV ?_) | (with_reducible refine w_chain ?_) | (with_reducible refine w_neg ?_)
  | (with_reducible refine w_sl ?_) | (with_reducible refine o_none ?_) | (with_reducible refine o_some ?_) | (with_reducible refine w_m1 ?_)
  | (with_reducible refine u_addI ?_) | (with_reducible refine u_sub ?_) | (with_reducible refine u_lt ?_) | (with_reducible refine u_le ?_) | (with_reducible refine u_gt ?_) | (with_reducible refine u_ge ?_)
  | (with_reducible refine u_eqI ?_) | (with_reducible refine u_neI ?_) | (with_reducible refine u_eqS ?_) | (with_reducible refine u_neS ?_)
  | (with_reducible refine u_inT ?_) | (with_reducible refine u_eqT0 ?_) | (with_reducible refine u_neT0 ?_) | (with_reducible refine u_neL0 ?_) | (with_reducible refine u_eqL0 ?_)
  | (with_reducible refine r_isN ?_) | (with_reducible refine r_notN ?_) | (with_reducible refine u_int ?_) | (with_reducible refine u_intB ?_)
  | (with_reducible refine k_strS ?_) | (with_reducible refine k_max2 ?_) | (with_reducible refine k_min2 ?_)
  | (with_reducible refine k_tup ?_) | (with_reducible refine k_lenT ?_) | (with_reducible refine k_lenL ?_) | (with_reducible refine u_ixT atI_zero ?_) | (with_reducible refine u_ixL atI_zero ?_) | (with_reducible refine w_callE ?_) | (with_reducible refine w_callX ?_) | (with_reducible refine s_raise (by assumption) ?_) | (with_reducible refine i_rng1 ?_) | (with_reducible refine i_rng2 ?_) | (with_reducible refine i_list ?_) | (with_reducible refine i_tup ?_) | (with_reducible refine i_str ?_) | (with_reducible refine u_slT ?_) | (with_reducible refine u_slL ?_)
  | (with_reducible refine q_set ?_) | (with_reducible refine q_drop ?_) | (with_reducible refine q_par ?_) | (with_reducible refine q_when ?_) | (with_reducible refine q_if ?_)
  | (with_reducible refine s_ret ?_) | (with_reducible refine s_retNon ?_) | (with_reducible refine s_next ?_)
  | (refine ⟨_, rfl, ?_⟩) | (refine ⟨Nat.le_of_ble_eq_true rfl, ?_⟩) | (refine knownT rfl ?_) | (refine knownF rfl ?_) | (refine orT rfl ?_) | (refine orF rfl ?_))
local macro_rules | `(tactic| walk_at "zz") => `(tactic| repeat walk_at "z")
local macro_rules | `(tactic| walk_at "kt") => `(tactic| refine ⟨_, rfl, knownT rfl ?_⟩)
local macro_rules | `(tactic| walk_at "kf") => `(tactic| refine ⟨_, rfl, knownF rfl ?_⟩)
local macro_rules | `(tactic| walk_at "ot") => `(tactic| refine ⟨_, rfl, orT rfl ?_⟩)
local macro_rules | `(tactic| walk_at "of") => `(tactic| refine ⟨_, rfl, orF rfl ?_⟩)
local macro_rules | `(tactic| walk_at "t") => `(tactic| refine knownT rfl ?_)
local macro_rules | `(tactic| walk_at "f") => `(tactic| refine knownF rfl ?_)
local macro_rules | `(tactic| walk_at "bl") => `(tactic| refine ⟨_, rfl, ?_⟩)
local macro_rules | `(tactic| walk_at "br") => `(tactic| refine ⟨fun h => ?_, fun h => ?_⟩)
structure Fe (K : PySem.W.Frag) : Prop where
  exm : ∀ n, n ∈ errN → PySem.W.exmOne K (.ref (He.ga K n)) (.ref (He.ga K "Refused")) = some true
  ers : ∀ n, n ∈ errN → ErrS K (He.ga K n)
  iso : ∀ a, a ∈ errN → ∀ b, b ∈ errN → PySem.W.kitOne K (.ref (He.ga K a)) (.ref (He.ga K b)) = some (decide (a = b))
def okC (K : PySem.W.Frag) (C : Addr) : Prop := ∃ n, n ∈ errN ∧ C = He.ga K n
def nmC (K : PySem.W.Frag) (C : Addr) : Str := (errN.find? fun n => decide (He.ga K n = C)).getD ""
theorem ga_inj {K : PySem.W.Frag} (FE : Fe K) {a b : Str} (ha : a ∈ errN) (hb : b ∈ errN) (h : He.ga K a = He.ga K b) : a = b := by
  have e1 := FE.iso a ha b hb
  have e2 := FE.iso b hb b hb
  rw [h, e2] at e1
  have e3 := Option.some.inj e1
  rw [decide_eq_true rfl] at e3
  exact of_decide_eq_true e3.symm
theorem nmC_eq {K : PySem.W.Frag} (FE : Fe K) {n : Str} (hn : n ∈ errN) : nmC K (He.ga K n) = n := by
  unfold nmC
  cases e : errN.find? fun m => decide (He.ga K m = He.ga K n) with
  | none =>
    have := List.find?_eq_none.mp e n hn
    simp at this
  | some m =>
    have h1 := List.mem_of_find?_eq_some e
    have h2 := List.find?_some e
    exact ga_inj FE h1 hn (of_decide_eq_true h2)
def TT (K : PySem.W.Frag) : Tb := [((He.cT K ("_law_dl_thing_right", none)).2, "_law_dl_thing_right.<locals>.<lambda>"), ((He.cT K ("_law_dl_text_right", none)).2, "_law_dl_text_right.<locals>.<lambda>"), ((He.cT K ("law", none)).2, "law.<locals>.<lambda>")]
def tIsq (K : PySem.W.Frag) (a : Addr) (cls : Value) (d : Option Addr) (n : Str) : TE := tCB (ZdL.rIsE2 K a cls d) (tCons (tVar 1) (tCons (tC (.ref (He.ga K n))) tNil))
abbrev tIsE (K : PySem.W.Frag) (a : Addr) (cls : Value) (d : Option Addr) (n : Str) : TE := tTup (tCons (tC (.str n)) (tCons (tIsq K a cls d n) tNil))
def tsH (K : PySem.W.Frag) (a : Addr) (cls : Value) (d : Option Addr) : TS :=
  tSeq (tAsg (tLst (tCons (tIsE K a cls d "BadDeed") tNil)) (gName 2)) (tSeq (tDrop (tBM K "list" rExtend (tVar 2) (tCons (tLst (tCons (tIsE K a cls d "BadText") (tCons (tIsE K a cls d "TooMany") tNil))) tNil)))
    (tSeq (tDrop (tBM K "list" rAppend (tVar 2) (tCons (tIsE K a cls d "WrongLine") tNil)))
      (tRet (tTup (tCons (tM1 (rJoin K) (tC (.str " ")) (tLc (iList K (tVar 2)) (gTup K 2 (gCons (gName 3) (gCons (gName 4) gNil))) (tB (tVar 4)) (tVar 3) [3, 4])) (tCons (ZdL.tWhat K a cls d (tVar 1)) tNil))))))
/-- THE RULE for a def whose own code object is wanted -/
theorem FunD.okC {P : Program} {w : World} {K : PySem.W.Frag} {mg : Str → Option Value} {base : Heap} {x qual : Str} {params : Arguments} {body : List Stmt} {scope : Scope} {dvs : List V} {kws : List (Str × V)} {fd : FuncData} {CX : CXT} {N ps : List Str} {k : Nat} {sp : Sp}
    (F : FunD K x qual params body scope dvs kws (He.ga K x) fd) (S : FnScope N ps scope) (len : ∀ vs H Q E, sp vs H Q E → vs.length = ps.length)
    (hbody : ∀ (A : Around) (outer : List Env) (s : Shared) (H : Hp) (vs : List V) (Q : VK) (E : XK), Room k (A.deeper (envOfC qual scope s.heap.objs.size (He.ga K x) (.ref (He.cT K (x, none)).1))) → sp vs H Q E →
      ∃ t, PSs (cxOf CX P w K mg base N qual scope (He.ga K x) (.ref (He.cT K (x, none)).1) A outer s H E) body t ∧ t { nx := fun _ H' => Q .non H', rt := Q } (L2.start N vs) H) : FnOk P w K mg base CX (k + 1) (He.ga K x) fd ps sp := by
  obtain ⟨oc, od, dV, kV, doc, pm, an, cdv, ct, osl, rfl, lk, hcd, _, _⟩ := F.ex
  obtain ⟨cc, rfl⟩ := He.codeIn_ref hcd
  have e : He.codeOf K (x, none) = cc := He.codeOf_eq (p := (x, none)) lk rfl
  have e2 : (He.cT K (x, none)).1 = cc := e
  rw [e2] at hbody
  exact fn_of lk hcd S len fun A outer s H vs Q E hr hsp => hbody A outer s H vs Q E hr hsp
theorem ws_suite' (c : Cd) (FE : Fe c.K) (hS : ∀ q, ¬ c.S q) (a' dx : Addr) (n : Str) (v : V) (d : D) (hn : n ∈ errN) (hd : c.G0 dx = some (whatD v)) (hr : Rp c.K c.G0 d v) :
    WpS c (tsH c.K a' (.ref (He.ga c.K n)) (some dx)) { nx := fun _ => False, rt := fun r _ => r = .dat (.tup [.str n, d]) } [none, some (.fn a'), none, none, none] := by
  have hz : sizeLine = 16777216 := sizeLine_eq
  have hE := FE.ers n hn
  have is : ∀ m, m ∈ errN → ∀ (ρ : Rho) (P : D → Rho → Prop), (ρ[1]? = some (some (.fn a')) ∧ P (.bl (decide (n = m))) ρ) → EvD c (tIsq c.K a' (.ref (He.ga c.K n)) (some dx) m) ρ P := fun m hm ρ P ⟨h1, h2⟩ =>
    w_isE h1 hE hd (FE.iso n hn m hm) h2
  unfold tsH
  refine q_setN ?_
  refine w_lstN ?_
  walk_at "zz"
  refine is "BadDeed" (by decide +kernel) _ _ ⟨rfl, ?_⟩
  walk_at "zz"
  intro p
  refine q_ext ⟨_, _, rfl⟩ ?_
  walk_at "zz"
  refine is "BadText" (by decide +kernel) _ _ ⟨rfl, ?_⟩
  walk_at "zz"
  refine is "TooMany" (by decide +kernel) _ _ ⟨rfl, ?_⟩
  walk_at "zz"
  refine ⟨p, _, _, rfl, rfl, Nat.le_of_ble_eq_true rfl, ?_⟩
  refine q_app ⟨_, _, rfl⟩ ?_
  walk_at "zz"
  refine is "WrongLine" (by decide +kernel) _ _ ⟨rfl, ?_⟩
  walk_at "zz"
  refine ⟨p, _, rfl, Nat.lt_of_lt_of_le (show 3 < 4 by decide) (Nat.le_of_ble_eq_true rfl), ?_⟩
  refine s_frz 2 rfl (fun q z => absurd z (hS q)) ?_
  refine s_ret ?_
  refine w_tup ?_
  refine w_cons ?_
  refine w_m1 ?_
  walk_at "zz"
  -- the names that are
  have f1 : (errN.filter fun m => decide (n = m)) = [n] := by
    unfold errN at hn ⊢
    rcases List.mem_cons.mp hn with rfl | hn
    · decide +kernel
    rcases List.mem_cons.mp hn with rfl | hn
    · decide +kernel
    rcases List.mem_cons.mp hn with rfl | hn
    · decide +kernel
    rcases List.mem_cons.mp hn with rfl | hn
    · decide +kernel
    cases hn
  refine EvD.of_N (PN := fun ds ρ' => _) (w_lcP (fun d => match d with
    | .tup [.str m, .bl b] => if b = true then some (.str m) else none
    | _ => none) ?_) fun _ _ h => h
  walk_at "zz"
  refine ⟨rfl, fun d hm => ?_, ?_⟩
  · have hm : d ∈ (errN.map fun m => D.tup [.str m, .bl (decide (n = m))]) := hm
    obtain ⟨m, hm, rfl⟩ := List.mem_map.mp hm
    refine v_tup ⟨_, rfl, rfl, v_cons ⟨_, _, rfl, v_name (by decide) (Nat.le_of_ble_eq_true rfl) (v_cons ⟨_, _, rfl, v_name (by decide) (Nat.le_of_ble_eq_true rfl) (v_nil rfl ⟨rfl, ?_⟩)⟩)⟩⟩
    walk_at "zz"
    refine ⟨rfl, fun h => ?_, fun h => ?_⟩
    · walk_at "zz"
      refine ⟨rfl, ?_⟩
      show (if decide (n = m) = true then some (D.str m) else none) = some (D.str m)
      rw [if_pos h]
    · show (if decide (n = m) = true then some (D.str m) else none) = none
      rw [if_neg (by rw [h]; exact Bool.false_ne_true)]
  · have e : ∀ l : List Str, (l.map fun m => D.tup [.str m, .bl (decide (n = m))]).filterMap (fun d => match d with
        | .tup [.str m, .bl b] => if b = true then some (D.str m) else none
        | _ => none) = (l.filter fun m => decide (n = m)).map D.str := fun l => by
      induction l with
      | nil => rfl
      | cons m r ih =>
        rw [List.map_cons, List.filterMap_cons, List.filter_cons, ih]
        cases hz : decide (n = m) <;> rfl
    have e2 := e errN
    rw [f1] at e2
    have e3 : ∀ (ll : List D), ll = errN.map (fun m => D.tup [.str m, .bl (decide (n = m))]) → ∀ {P : D → Prop}, P (.str n) → MD c.K (rJoin c.K) (.str " ") [.lst (ll.filterMap (fun d => match d with
        | .tup [.str m, .bl b] => if b = true then some (D.str m) else none
        | _ => none))] P := fun ll hl P hP => by
      rw [hl, e2]
      refine k_join ?_ ?_
      · have hb : n.length ≤ 20 := by
          unfold errN at hn
          rcases List.mem_cons.mp hn with rfl | hn
          · decide +kernel
          rcases List.mem_cons.mp hn with rfl | hn
          · decide +kernel
          rcases List.mem_cons.mp hn with rfl | hn
          · decide +kernel
          rcases List.mem_cons.mp hn with rfl | hn
          · decide +kernel
          cases hn
        have hs : (" " : Str).length = 1 := by decide +kernel
        rw [hs]
        simp
        omega
      rw [TL.join_eq]
      exact hP
    refine e3 _ rfl ?_
    refine w_cons ?_
    refine w_what rfl hE hd hr ?_
    walk_at "zz"
    rfl
theorem ws_suite {K : PySem.W.Frag} {T : Tb} (FE : Fe K) (G H : Hp) (a' C dx : Addr) (v : V) (d : D) (hok : okC K C) (hd : G dx = some (whatD v)) (hr : Rp K G d v) :
    WpS ⟨K, T, fun _ => False, G, H, E0, fun _ _ => False⟩ (tsH K a' (.ref C) (some dx)) { nx := fun _ => False, rt := fun r _ => r = .dat (.tup [.str (nmC K C), d]) } ((List.replicate n_law_dl_heard.length none).set 1 (some (.fn a'))) := by
  obtain ⟨n, hn, rfl⟩ := hok
  rw [nmC_eq FE hn]
  exact ws_suite' ⟨K, T, fun _ => False, G, H, E0, fun _ _ => False⟩ FE (fun _ z => z) a' dx n v d hn hd hr
theorem give_law_dl_heard {X : Cx} {cdg : Value} {q : Str} (FE : Fe X.K) (F : Fx X.prog X.w X.K X.mg) : ZdL.GivesN X n_law_dl_heard "_law_dl_heard" (defScope s_law_dl_heard) (He.ga X.K "_law_dl_heard") cdg (defBody s_law_dl_heard) "call" q (TTh X.K (TT X.K) (okC X.K) (nmC X.K)) := by
  refine ZdL.hgive (R := "Refused") (n := "refused_one") (CR := He.ga X.K "Refused") (ts := tsH X.K) rfl F.k_Refused (by decide) sc_law_dl_heard.nd rfl rfl (by decide) ?_ ?_ ?_
  · rintro C ⟨n, hn, rfl⟩
    exact FE.exm n hn
  · intro f s H a' oe cls d pn hz hf
    obtain ⟨vs0, hv0⟩ := id hf
    have hot : L2H.HotC ((cxOf CX0 X.prog X.w X.K X.mg X.base n_law_dl_heard "_law_dl_heard" (defScope s_law_dl_heard) (He.ga X.K "_law_dl_heard") cdg X.A X.stack s H E0).suite a' ((a', oe) :: pn)) := ⟨(a', oe), ⟨rfl, vs0, hv0, hz.2.2 vs0 hv0⟩, List.mem_cons_self ..⟩
    have zc : Zc cls d oe := hz.zc
    exact pss_cons (ps_set (i := 2) sc_law_dl_heard.nd rfl (.inl rfl) (pe_lst (pa_cons (pe_tup (pa_cons pe_str (pa_cons (pe_callB (ZdL.c_isE2 zc hf) (by rfl) F.b_isinstance boot_isinstance (pa_cons (pv 1) (pa_cons (pe_glob rfl F.k_BadDeed rfl) pa_nil))) pa_nil))) pa_nil)))
      (pss_cons (ps_expr (pe_bm PySem.F.plainAttrs_list PySem.F.slot_list_extend PySem.F.type_list_extend mt_extend (pv 2) (pa_cons (pe_lst (pa_cons (pe_tup (pa_cons pe_str (pa_cons (pe_callB (ZdL.c_isE2 zc hf) (by rfl) F.b_isinstance boot_isinstance (pa_cons (pv 1) (pa_cons (pe_glob rfl F.k_BadText rfl) pa_nil))) pa_nil))) (pa_cons (pe_tup (pa_cons pe_str (pa_cons (pe_callB (ZdL.c_isE2 zc hf) (by rfl) F.b_isinstance boot_isinstance (pa_cons (pv 1) (pa_cons (pe_glob rfl F.k_TooMany rfl) pa_nil))) pa_nil))) pa_nil))) pa_nil)))
      (pss_cons (ps_expr (pe_bm PySem.F.plainAttrs_list PySem.F.slot_list_append PySem.F.type_list_append mt_append (pv 2) (pa_cons (pe_tup (pa_cons pe_str (pa_cons (pe_callB (ZdL.c_isE2 zc hf) (by rfl) F.b_isinstance boot_isinstance (pa_cons (pv 1) (pa_cons (pe_glob rfl F.k_WrongLine rfl) pa_nil))) pa_nil))) pa_nil)))
      (pss_one (ps_ret (pe_tup (pa_cons (pe_m1 PySem.F.slot_str_join PySem.F.type_str_join m_join pe_str (ZdH.pe_lcH (own := [("name", 3), ("is_one", 4)]) hot sc_law_dl_heard.nd (pv 2) (blkOk_by (own := [("name", 3), ("is_one", 4)]) (N := n_law_dl_heard) (sc := defScope s_law_dl_heard) (by decide +kernel))
        (fun _ _ _ _ _ hb => ZdH.pg_tupH hb (pgs_cons (pg_name (i := 3) sc_law_dl_heard.nd rfl (.inl rfl)) (pgs_cons (pg_name (i := 4) sc_law_dl_heard.nd rfl (.inl rfl)) pgs_nil))) (fun _ _ _ _ _ => pts_one (pt_val (pv 4))) (fun _ _ _ _ _ => pv 3))) (pa_cons (ZdL.pe_what zc hf (pv 1)) pa_nil)))))))
  · intro G H a' C dx v d hok hd hr
    exact ws_suite FE G H a' C dx v d hok hd hr
end K83

/-! ## G83b -/
set_option Elab.async false
set_option linter.all false
set_option maxRecDepth 100000
set_option maxHeartbeats 4000000
namespace K83
open PySem PySem.Spec PyProof.Rows L2 Zd
section
variable {P : Program} {w : World} {K : PySem.W.Frag} {mg : Str → Option Value} {base : Heap}
def t_law_zq_same (K : PySem.W.Frag) (sp_law_zq_is_whole sp_law_zq_same : Sp) : TS := (tSeq (tIfS (tTest (tOp rIsN (tVar 1) (tC .non))) (tRet (tOp rIsN (tVar 0) (tC .non))) tNext) (tSeq (tIfS (tB (tCB (rIsi K) (tCons (tVar 1) (tCons (tC (.ty "bool")) tNil)))) (tRet (tIf (tB (tVar 1)) (tOp rIsB (tVar 0) (tC (.bl true))) (tOp rIsB (tVar 0) (tC (.bl false))))) tNext) (tSeq (tIfS (tB (tCB (rIsi K) (tCons (tVar 1) (tCons (tC (.ty "int")) tNil)))) (tRet (tAndV (tCall sp_law_zq_is_whole [] E0 (tCons (tVar 0) tNil)) (tOp (rEqU K) (tVar 0) (tVar 1)))) tNext) (tSeq (tIfS (tB (tCB (rIsi K) (tCons (tVar 1) (tCons (tC (.ty "str")) tNil)))) (tRet (tAndV (tCB (rIsi K) (tCons (tVar 0) (tCons (tC (.ty "str")) tNil))) (tOp (rEqU K) (tVar 0) (tVar 1)))) tNext) (tSeq (tIfS (tAnd (tNot (tB (tCB (rIsi K) (tCons (tVar 1) (tCons (tC (.ty "tuple")) tNil))))) (tNot (tB (tCB (rIsi K) (tCons (tVar 1) (tCons (tC (.ty "list")) tNil)))))) (tRet (tCB rBool1 (tCons (tOp (rEqU K) (tVar 0) (tVar 1)) tNil))) tNext) (tSeq (tIfS (tTest (tOp (rNeU K) (tCB (rIsi K) (tCons (tVar 1) (tCons (tC (.ty "tuple")) tNil))) (tCB (rIsi K) (tCons (tVar 0) (tCons (tC (.ty "tuple")) tNil))))) (tRet (tC (.bl false))) tNext) (tSeq (tIfS (tTest (tOp (rNeU K) (tCB (rIsi K) (tCons (tVar 1) (tCons (tC (.ty "list")) tNil))) (tCB (rIsi K) (tCons (tVar 0) (tCons (tC (.ty "list")) tNil))))) (tRet (tC (.bl false))) tNext) (tSeq (tIfS (tTest (tOp (rNeU K) (tCB (rLenV K) (tCons (tVar 0) tNil)) (tCB (rLenV K) (tCons (tVar 1) tNil)))) (tRet (tC (.bl false))) tNext) (tSeq (tFor (iRng1 (tCons (tCB (rLenV K) (tCons (tVar 1) tNil)) tNil)) (gName 2) (tIfS (tNot (tB (tCall sp_law_zq_same [] E0 (tCons (tOp (rIx K) (tVar 0) (tVar 2)) (tCons (tOp (rIx K) (tVar 1) (tVar 2)) tNil))))) (tRet (tC (.bl false))) tNext)) (tRet (tC (.bl true))))))))))))
theorem ok_law_zq_same {sp : Sp} {sp_law_zq_is_whole sp_law_zq_same : Sp} {k : Nat} (hk : 1 ≤ k) (F : Fx P w K mg) (G_law_zq_is_whole : FnOk P w K mg base CX0 1 (He.ga K "_law_zq_is_whole") F.f_law_zq_is_whole p_law_zq_is_whole sp_law_zq_is_whole) (G_law_zq_same : FnOk P w K mg base CX0 k (He.ga K "_law_zq_same") F.f_law_zq_same p_law_zq_same sp_law_zq_same) (len : ∀ vs H Q E, sp vs H Q E → vs.length = 2) (wp : ∀ vs H Q E, sp vs H Q E → t_law_zq_same K sp_law_zq_is_whole sp_law_zq_same { nx := fun _ H' => Q .non H', rt := Q } (L2.start n_law_zq_same vs) H) : FnOk P w K mg base CX0 (k + 1) (He.ga K "_law_zq_same") F.f_law_zq_same p_law_zq_same sp := by
  refine F.o_law_zq_same.ok sc_law_zq_same len fun cdv A outer s H vs Q E hr h => ⟨t_law_zq_same K sp_law_zq_is_whole sp_law_zq_same, ?_, wp vs H Q E h⟩
  exact PSs.nox (pss_cons (ps_if (pt_cmpR op_isN1 (pv 1) pe_non (nomark _)) (pss_one (ps_ret (pe_cmpR op_isN1 (pv 0) pe_non (nomark _)))) pss_nil) (pss_cons (ps_if (pt_val (pe_callB call_isi (by rfl) F.b_isinstance boot_isinstance (pa_cons (pv 1) (pa_cons (pe_bltn (v := .ty "bool") (by rfl) F.b_bool boot_bool rfl) pa_nil)))) (pss_one (ps_ret (pe_ifExp (pt_val (pv 1)) (pe_cmpR op_isBl (pv 0) pe_bl (nomark _)) (pe_cmpR op_isBl (pv 0) pe_bl (nomark _))))) pss_nil) (pss_cons (ps_if (pt_val (pe_callB call_isi (by rfl) F.b_isinstance boot_isinstance (pa_cons (pv 1) (pa_cons (pe_bltn (v := .ty "int") (by rfl) F.b_int boot_int rfl) pa_nil)))) (pss_one (ps_ret (pe_and (pe_call G_law_zq_is_whole (hr.mono hk) rfl F.g_law_zq_is_whole F.p_law_zq_is_whole (b_law_zq_is_whole F) .nil pass0 (pa_cons (pv 0) pa_nil)) (pe_one (pe_cmpR (o_eqU hr.units) (pv 0) (pv 1) (nomark _)))))) pss_nil) (pss_cons (ps_if (pt_val (pe_callB call_isi (by rfl) F.b_isinstance boot_isinstance (pa_cons (pv 1) (pa_cons (pe_bltn (v := .ty "str") (by rfl) F.b_str boot_str rfl) pa_nil)))) (pss_one (ps_ret (pe_and (pe_callB call_isi (by rfl) F.b_isinstance boot_isinstance (pa_cons (pv 0) (pa_cons (pe_bltn (v := .ty "str") (by rfl) F.b_str boot_str rfl) pa_nil))) (pe_one (pe_cmpR (o_eqU hr.units) (pv 0) (pv 1) (nomark _)))))) pss_nil) (pss_cons (ps_if (PW.pt (pw_and (pt_not (pt_val (pe_callB call_isi (by rfl) F.b_isinstance boot_isinstance (pa_cons (pv 1) (pa_cons (pe_bltn (v := .ty "tuple") (by rfl) F.b_tuple boot_tuple rfl) pa_nil))))) (pw_and1 (pt_not (pt_val (pe_callB call_isi (by rfl) F.b_isinstance boot_isinstance (pa_cons (pv 1) (pa_cons (pe_bltn (v := .ty "list") (by rfl) F.b_list boot_list rfl) pa_nil)))))))) (pss_one (ps_ret (pe_callTy c_bool (by rfl) F.b_bool boot_bool (pa_cons (pe_cmpR (o_eqU hr.units) (pv 0) (pv 1) (nomark _)) pa_nil)))) pss_nil) (pss_cons (ps_if (pt_cmpR (o_neU hr.units) (pe_callB call_isi (by rfl) F.b_isinstance boot_isinstance (pa_cons (pv 1) (pa_cons (pe_bltn (v := .ty "tuple") (by rfl) F.b_tuple boot_tuple rfl) pa_nil))) (pe_callB call_isi (by rfl) F.b_isinstance boot_isinstance (pa_cons (pv 0) (pa_cons (pe_bltn (v := .ty "tuple") (by rfl) F.b_tuple boot_tuple rfl) pa_nil))) (nomark _)) (pss_one (ps_ret pe_bl)) pss_nil) (pss_cons (ps_if (pt_cmpR (o_neU hr.units) (pe_callB call_isi (by rfl) F.b_isinstance boot_isinstance (pa_cons (pv 1) (pa_cons (pe_bltn (v := .ty "list") (by rfl) F.b_list boot_list rfl) pa_nil))) (pe_callB call_isi (by rfl) F.b_isinstance boot_isinstance (pa_cons (pv 0) (pa_cons (pe_bltn (v := .ty "list") (by rfl) F.b_list boot_list rfl) pa_nil))) (nomark _)) (pss_one (ps_ret pe_bl)) pss_nil) (pss_cons (ps_if (pt_cmpR (o_neU hr.units) (pe_callB c_len (by rfl) F.b_len boot_len (pa_cons (pv 0) pa_nil)) (pe_callB c_len (by rfl) F.b_len boot_len (pa_cons (pv 1) pa_nil)) (nomark _)) (pss_one (ps_ret pe_bl)) pss_nil) (pss_cons (ps_for PassesOwn.never rfl (pi_range1 rfl F.b_range (pa_cons (pe_callB c_len (by rfl) F.b_len boot_len (pa_cons (pv 1) pa_nil)) pa_nil)) (pg_name (i := 2) sc_law_zq_same.nd rfl (.inl rfl)) (pss_one (ps_if (pt_not (pt_val (pe_call G_law_zq_same hr rfl F.g_law_zq_same F.p_law_zq_same (b_law_zq_same F) .nil pass0 (pa_cons (pe_ix ix_seq (pv 0) (pv 2) (fun _ _ => rfl)) (pa_cons (pe_ix ix_seq (pv 1) (pv 2) (fun _ _ => rfl)) pa_nil))))) (pss_one (ps_ret pe_bl)) pss_nil))) (pss_one (ps_ret pe_bl)))))))))))
def t_law_dl_thing_right (K : PySem.W.Frag) (sp_is_deed sp_deed_text sp_law_dl_is_own sp_law_zq_same sp_law_zt_deed sp_read_deed : Sp) : TS := (tSeq (tAsg (tLst (tCons (LamX.tLam (TT K) (TTh K (TT K) (okC K) (nmC K)) (fun (E : XK) => (tCall sp_is_deed [] E0 (tCons (tVar 0) tNil)))) tNil)) (gName 1)) (tSeq (tDrop (tBM K "list" rAppend (tVar 1) (tCons (LamX.tLam (TT K) (TTh K (TT K) (okC K) (nmC K)) (fun (E : XK) => (tCall sp_deed_text [] E (tCons (tVar 0) tNil)))) tNil))) (tSeq (tIfS (tNot (tB (tCall sp_law_dl_is_own [] E0 (tCons (tVar 0) tNil)))) (tRet (tCall sp_law_zq_same [] E0 (tCons (tVar 1) (tCons (tLst (tCons (tTup (tCons (tC (.str "told")) (tCons (tC (.bl false)) tNil))) (tCons (tTup (tCons (tC (.str "BadDeed")) (tCons (tC (.int 0)) tNil))) tNil))) tNil)))) tNext) (tSeq (tAsg (tCall sp_law_zt_deed [] E0 (tCons (tVar 0) tNil)) (gName 2)) (tSeq (tDrop (tBM K "list" rAppend (tVar 1) (tCons (LamX.tLam (TT K) (TTh K (TT K) (okC K) (nmC K)) (fun (E : XK) => (tCall sp_read_deed [] E (tCons (tVar 2) tNil)))) tNil))) (tRet (tCall sp_law_zq_same [] E0 (tCons (tVar 1) (tCons (tLst (tCons (tTup (tCons (tC (.str "told")) (tCons (tC (.bl true)) tNil))) (tCons (tTup (tCons (tC (.str "told")) (tCons (tVar 2) tNil))) (tCons (tTup (tCons (tC (.str "told")) (tCons (tVar 0) tNil))) tNil)))) tNil)))))))))
theorem ok_law_dl_thing_right {sp : Sp} {sp_is_deed sp_deed_text sp_law_dl_is_own sp_law_zq_same sp_law_zt_deed sp_read_deed : Sp} (F : Fx P w K mg) (FE : Fe K) (TB : LamX.TabB base mg (He.cT K ("_law_dl_thing_right", none)).1 (He.cT K ("_law_dl_thing_right", none)).2) (hTm : ((He.cT K ("_law_dl_thing_right", none)).2, (("_law_dl_thing_right.<locals>.<lambda>" : Str))) ∈ TT K) (hTu : ∀ p ∈ TT K, p.1 = (He.cT K ("_law_dl_thing_right", none)).2 → p.2 = ("_law_dl_thing_right.<locals>.<lambda>" : Str)) (G_is_deed : FnOk P w K mg base CX0 2 (He.ga K "is_deed") F.f_is_deed p_is_deed sp_is_deed) (G_deed_text : FnOk P w K mg base (L2N.CX P w) 3 (He.ga K "deed_text") F.f_deed_text p_deed_text sp_deed_text) (G_law_dl_is_own : FnOk P w K mg base CX0 2 (He.ga K "_law_dl_is_own") F.f_law_dl_is_own p_law_dl_is_own sp_law_dl_is_own) (G_law_zq_same : FnOk P w K mg base CX0 9 (He.ga K "_law_zq_same") F.f_law_zq_same p_law_zq_same sp_law_zq_same) (G_law_zt_deed : FnOk P w K mg base CX0 2 (He.ga K "_law_zt_deed") F.f_law_zt_deed p_law_zt_deed sp_law_zt_deed) (G_read_deed : FnOk P w K mg base (L2N.CX P w) 5 (He.ga K "read_deed") F.f_read_deed p_read_deed sp_read_deed) (len : ∀ vs H Q E, sp vs H Q E → vs.length = 1) (wp : ∀ vs H Q E, sp vs H Q E → t_law_dl_thing_right K sp_is_deed sp_deed_text sp_law_dl_is_own sp_law_zq_same sp_law_zt_deed sp_read_deed { nx := fun _ H' => Q .non H', rt := Q } (L2.start n_law_dl_thing_right vs) H) : FnOk P w K mg base CX0 10 (He.ga K "_law_dl_thing_right") F.f_law_dl_thing_right p_law_dl_thing_right sp := by
  obtain ⟨ocg, odg, dVg, kVg, docg, pmg, ang, cdg, ctg, oslg, efg, lkg, hcg, _, _⟩ := F.o_law_dl_heard.ex
  have bg := b_law_dl_heard F
  rw [efg] at bg lkg
  refine FunD.okC F.o_law_dl_thing_right sc_law_dl_thing_right len fun A outer s H vs Q E hr h => ⟨t_law_dl_thing_right K sp_is_deed sp_deed_text sp_law_dl_is_own sp_law_zq_same sp_law_zt_deed sp_read_deed, ?_, wp vs H Q E h⟩
  exact PSs.nox (pss_cons (ps_set (i := 1) sc_law_dl_thing_right.nd rfl (.inl rfl) (pe_lst (pa_cons (ZdL.pe_lamN (k := 2) (T := TT K) (TT := TTh K (TT K) (okC K) (nmC K)) (t := fun (E : XK) => (tCall sp_is_deed [] E0 (tCons (tVar 0) tNil))) (a := "call") (Ng := n_law_dl_heard) rfl F.g_law_dl_heard F.p_law_dl_heard lkg hcg bg sc_law_dl_heard rfl (.inl rfl) (give_law_dl_heard FE F) TB rfl hTm hTu (hr.mono (by decide)) (show LamX.LamS (defScope s_law_dl_thing_right) _ from LamX.lamS_by (by decide +kernel)) rfl (fun _ _ _ _ _ => rfl) (fun A outer s H E f c' hr => (pe_call G_is_deed (hr.mono (by decide)) rfl F.g_is_deed F.p_is_deed (b_is_deed F) .nil pass0 (pa_cons (pv 0) pa_nil)))) pa_nil))) (pss_cons (ps_expr (pe_bm PySem.F.plainAttrs_list PySem.F.slot_list_append PySem.F.type_list_append mt_append (pv 1) (pa_cons (ZdL.pe_lamN (k := 3) (T := TT K) (TT := TTh K (TT K) (okC K) (nmC K)) (t := fun (E : XK) => (tCall sp_deed_text [] E (tCons (tVar 0) tNil))) (a := "call") (Ng := n_law_dl_heard) rfl F.g_law_dl_heard F.p_law_dl_heard lkg hcg bg sc_law_dl_heard rfl (.inl rfl) (give_law_dl_heard FE F) TB rfl hTm hTu (hr.mono (by decide)) (show LamX.LamS (defScope s_law_dl_thing_right) _ from LamX.lamS_by (by decide +kernel)) rfl (fun _ _ _ _ _ => rfl) (fun A outer s H E f c' hr => (pe_call G_deed_text (hr.mono (by decide)) rfl F.g_deed_text F.p_deed_text (b_deed_text F) .nil (L2N.passes_call (show L2N.Takes _ (fun cls d _ H => E cls d H) from L2N.takes_of rfl rfl rfl rfl) (fun _ _ _ _ z => z)) (pa_cons (pv 0) pa_nil)))) pa_nil))) (pss_cons (ps_if (pt_not (pt_val (pe_call G_law_dl_is_own (hr.mono (by decide)) rfl F.g_law_dl_is_own F.p_law_dl_is_own (b_law_dl_is_own F) .nil pass0 (pa_cons (pv 0) pa_nil)))) (pss_one (ps_ret (pe_call G_law_zq_same (hr.mono (by decide)) rfl F.g_law_zq_same F.p_law_zq_same (b_law_zq_same F) .nil pass0 (pa_cons (pv 1) (pa_cons (pe_lst (pa_cons (pe_tup (pa_cons pe_str (pa_cons pe_bl pa_nil))) (pa_cons (pe_tup (pa_cons pe_str (pa_cons pe_int pa_nil))) pa_nil))) pa_nil))))) pss_nil) (pss_cons (ps_set (i := 2) sc_law_dl_thing_right.nd rfl (.inr rfl) (pe_call G_law_zt_deed (hr.mono (by decide)) rfl F.g_law_zt_deed F.p_law_zt_deed (b_law_zt_deed F) .nil pass0 (pa_cons (pv 0) pa_nil))) (pss_cons (ps_expr (pe_bm PySem.F.plainAttrs_list PySem.F.slot_list_append PySem.F.type_list_append mt_append (pv 1) (pa_cons (ZdL.pe_lamN (k := 5) (T := TT K) (TT := TTh K (TT K) (okC K) (nmC K)) (t := fun (E : XK) => (tCall sp_read_deed [] E (tCons (tVar 2) tNil))) (a := "call") (Ng := n_law_dl_heard) rfl F.g_law_dl_heard F.p_law_dl_heard lkg hcg bg sc_law_dl_heard rfl (.inl rfl) (give_law_dl_heard FE F) TB rfl hTm hTu (hr.mono (by decide)) (show LamX.LamS (defScope s_law_dl_thing_right) _ from LamX.lamS_by (by decide +kernel)) rfl (fun _ _ _ _ _ => rfl) (fun A outer s H E f c' hr => (pe_call G_read_deed (hr.mono (by decide)) rfl F.g_read_deed F.p_read_deed (b_read_deed F) .nil (L2N.passes_call (show L2N.Takes _ (fun cls d _ H => E cls d H) from L2N.takes_of rfl rfl rfl rfl) (fun _ _ _ _ z => z)) (pa_cons (pv 2) pa_nil)))) pa_nil))) (pss_one (ps_ret (pe_call G_law_zq_same (hr.mono (by decide)) rfl F.g_law_zq_same F.p_law_zq_same (b_law_zq_same F) .nil pass0 (pa_cons (pv 1) (pa_cons (pe_lst (pa_cons (pe_tup (pa_cons pe_str (pa_cons pe_bl pa_nil))) (pa_cons (pe_tup (pa_cons pe_str (pa_cons (pv 2) pa_nil))) (pa_cons (pe_tup (pa_cons pe_str (pa_cons (pv 0) pa_nil))) pa_nil)))) pa_nil))))))))))
def t_law_dl_text_right (K : PySem.W.Frag) (sp_law_zt_deed_read sp_read_deed sp_law_zq_same sp_deed_text : Sp) : TS := (tSeq (tAsg (tCall sp_law_zt_deed_read [] E0 (tCons (tVar 0) tNil)) (gName 1)) (tSeq (tIfS (tNot (tB (tCall sp_law_zq_same [] E0 (tCons (LamX.tLam (TT K) (TTh K (TT K) (okC K) (nmC K)) (fun (E : XK) => (tCall sp_read_deed [] E (tCons (tVar 0) tNil)))) (tCons (tVar 1) tNil))))) (tRet (tC (.bl false))) tNext) (tRet (tOrV (tOp (rNeU K) (tOp (rIx K) (tVar 1) (tC (.int 0))) (tC (.str "told"))) (tCall sp_law_zq_same [] E0 (tCons (LamX.tLam (TT K) (TTh K (TT K) (okC K) (nmC K)) (fun (E : XK) => (tCall sp_deed_text [] E (tCons (tOp (rIx K) (tVar 1) (tC (.int 1))) tNil)))) (tCons (tTup (tCons (tC (.str "told")) (tCons (tVar 0) tNil))) tNil)))))))
theorem ok_law_dl_text_right {sp : Sp} {sp_law_zt_deed_read sp_read_deed sp_law_zq_same sp_deed_text : Sp} (F : Fx P w K mg) (FE : Fe K) (TB : LamX.TabB base mg (He.cT K ("_law_dl_text_right", none)).1 (He.cT K ("_law_dl_text_right", none)).2) (hTm : ((He.cT K ("_law_dl_text_right", none)).2, (("_law_dl_text_right.<locals>.<lambda>" : Str))) ∈ TT K) (hTu : ∀ p ∈ TT K, p.1 = (He.cT K ("_law_dl_text_right", none)).2 → p.2 = ("_law_dl_text_right.<locals>.<lambda>" : Str)) (G_law_zt_deed_read : FnOk P w K mg base CX0 4 (He.ga K "_law_zt_deed_read") F.f_law_zt_deed_read p_law_zt_deed_read sp_law_zt_deed_read) (G_read_deed : FnOk P w K mg base (L2N.CX P w) 5 (He.ga K "read_deed") F.f_read_deed p_read_deed sp_read_deed) (G_law_zq_same : FnOk P w K mg base CX0 9 (He.ga K "_law_zq_same") F.f_law_zq_same p_law_zq_same sp_law_zq_same) (G_deed_text : FnOk P w K mg base (L2N.CX P w) 3 (He.ga K "deed_text") F.f_deed_text p_deed_text sp_deed_text) (len : ∀ vs H Q E, sp vs H Q E → vs.length = 1) (wp : ∀ vs H Q E, sp vs H Q E → t_law_dl_text_right K sp_law_zt_deed_read sp_read_deed sp_law_zq_same sp_deed_text { nx := fun _ H' => Q .non H', rt := Q } (L2.start n_law_dl_text_right vs) H) : FnOk P w K mg base CX0 10 (He.ga K "_law_dl_text_right") F.f_law_dl_text_right p_law_dl_text_right sp := by
  obtain ⟨ocg, odg, dVg, kVg, docg, pmg, ang, cdg, ctg, oslg, efg, lkg, hcg, _, _⟩ := F.o_law_dl_heard.ex
  have bg := b_law_dl_heard F
  rw [efg] at bg lkg
  refine FunD.okC F.o_law_dl_text_right sc_law_dl_text_right len fun A outer s H vs Q E hr h => ⟨t_law_dl_text_right K sp_law_zt_deed_read sp_read_deed sp_law_zq_same sp_deed_text, ?_, wp vs H Q E h⟩
  exact PSs.nox (pss_cons (ps_set (i := 1) sc_law_dl_text_right.nd rfl (.inr rfl) (pe_call G_law_zt_deed_read (hr.mono (by decide)) rfl F.g_law_zt_deed_read F.p_law_zt_deed_read (b_law_zt_deed_read F) .nil pass0 (pa_cons (pv 0) pa_nil))) (pss_cons (ps_if (pt_not (pt_val (pe_call G_law_zq_same (hr.mono (by decide)) rfl F.g_law_zq_same F.p_law_zq_same (b_law_zq_same F) .nil pass0 (pa_cons (ZdL.pe_lamN (k := 5) (T := TT K) (TT := TTh K (TT K) (okC K) (nmC K)) (t := fun (E : XK) => (tCall sp_read_deed [] E (tCons (tVar 0) tNil))) (a := "call") (Ng := n_law_dl_heard) rfl F.g_law_dl_heard F.p_law_dl_heard lkg hcg bg sc_law_dl_heard rfl (.inl rfl) (give_law_dl_heard FE F) TB rfl hTm hTu (hr.mono (by decide)) (show LamX.LamS (defScope s_law_dl_text_right) _ from LamX.lamS_by (by decide +kernel)) rfl (fun _ _ _ _ _ => rfl) (fun A outer s H E f c' hr => (pe_call G_read_deed (hr.mono (by decide)) rfl F.g_read_deed F.p_read_deed (b_read_deed F) .nil (L2N.passes_call (show L2N.Takes _ (fun cls d _ H => E cls d H) from L2N.takes_of rfl rfl rfl rfl) (fun _ _ _ _ z => z)) (pa_cons (pv 0) pa_nil)))) (pa_cons (pv 1) pa_nil))))) (pss_one (ps_ret pe_bl)) pss_nil) (pss_one (ps_ret (pe_or (pe_cmpR (o_neU hr.units) (pe_ix ix_seq (pv 1) pe_int (fun _ _ => rfl)) pe_str (nomark _)) (pe_one (pe_call G_law_zq_same (hr.mono (by decide)) rfl F.g_law_zq_same F.p_law_zq_same (b_law_zq_same F) .nil pass0 (pa_cons (ZdL.pe_lamN (k := 3) (T := TT K) (TT := TTh K (TT K) (okC K) (nmC K)) (t := fun (E : XK) => (tCall sp_deed_text [] E (tCons (tOp (rIx K) (tVar 1) (tC (.int 1))) tNil))) (a := "call") (Ng := n_law_dl_heard) rfl F.g_law_dl_heard F.p_law_dl_heard lkg hcg bg sc_law_dl_heard rfl (.inl rfl) (give_law_dl_heard FE F) TB rfl hTm hTu (hr.mono (by decide)) (show LamX.LamS (defScope s_law_dl_text_right) _ from LamX.lamS_by (by decide +kernel)) rfl (fun _ _ _ _ _ => rfl) (fun A outer s H E f c' hr => (pe_call G_deed_text (hr.mono (by decide)) rfl F.g_deed_text F.p_deed_text (b_deed_text F) .nil (L2N.passes_call (show L2N.Takes _ (fun cls d _ H => E cls d H) from L2N.takes_of rfl rfl rfl rfl) (fun _ _ _ _ z => z)) (pa_cons (pe_ix ix_seq (pv 1) pe_int (fun _ _ => rfl)) pa_nil)))) (pa_cons (pe_tup (pa_cons pe_str (pa_cons (pv 0) pa_nil))) pa_nil)))))))))
end
end K83

/-! ## WN -/
set_option Elab.async false
set_option linter.all false
set_option maxRecDepth 100000
set_option maxHeartbeats 4000000
namespace K83
open PySem PySem.Spec PyProof.Rows L2 Zd
local macro_rules | `(tactic| walk_at "z") => `(tactic| first
  | (with_reducible refine w_int ?_) | (with_reducible refine w_str ?_) | (with_reducible refine w_bl ?_) | (with_reducible refine w_non ?_)
  | (with_reducible refine w_varR ?_; refine ⟨_, rfl, ?_⟩)
  | (with_reducible refine w_isInt ?_) | (with_reducible refine w_isBool ?_) | (with_reducible refine w_isStr ?_) | (with_reducible refine w_isTup ?_) | (with_reducible refine w_isLst ?_)
  | (with_reducible refine w_kdGet (by assumption) ?_) | (with_reducible refine w_kdIn (by assumption) ?_) | (with_reducible refine w_kdNotIn (by assumption) ?_) | (with_reducible refine w_k (by assumption) ?_)
  | (with_reducible refine w_ixOR ?_; refine ⟨_, _, rfl, ?_⟩) | (with_reducible refine w_lenOR ?_; refine ⟨_, _, rfl, ?_⟩) | (with_reducible refine w_slOR ?_; refine ⟨_, _, rfl, ?_⟩) | (with_reducible refine w_callJR ?_; refine ⟨_, _, rfl, ?_⟩)
  | (with_reducible refine w_op ?_) | (with_reducible refine w_cb ?_) | (with_reducible refine w_nil ?_) | (with_reducible refine w_cons ?_)
  | (with_reducible refine w_disp ?_) | (with_reducible refine p_cons ?_) | (with_reducible refine p_nil ?_) | (with_reducible refine w_revT ?_) | (with_reducible refine w_dget ?_) | (with_reducible refine w_din ?_) | (with_reducible refine w_dnin ?_)
  | (with_reducible refine w_tup ?_) | (with_reducible refine w_lst ?_) | (with_reducible refine w_test ?_) | (with_reducible refine w_tB ?_)
  | (with_reducible refine w_not ?_) | (with_reducible refine w_and ?_) | (with_reducible refine w_or ?_) | (with_reducible refine w_if ?_)
  | (with_reducible refine w_notV ?_) | (with_reducible refine w_andV ?_) | (with_reducible refine w_orV ?_) | (with_reducible refine w_chain ?_) | (with_reducible refine w_neg ?_)
  | (with_reducible refine w_sl ?_) | (with_reducible refine o_none ?_) | (with_reducible refine o_some ?_) | (with_reducible refine w_m1 ?_)
  | (with_reducible refine u_addI ?_) | (with_reducible refine u_sub ?_) | (with_reducible refine u_lt ?_) | (with_reducible refine u_le ?_) | (with_reducible refine u_gt ?_) | (with_reducible refine u_ge ?_)
  | (with_reducible refine u_eqI ?_) | (with_reducible refine u_neI ?_) | (with_reducible refine u_eqS ?_) | (with_reducible refine u_neS ?_)
  | (with_reducible refine u_inT ?_) | (with_reducible refine u_eqT0 ?_) | (with_reducible refine u_neT0 ?_) | (with_reducible refine u_neL0 ?_) | (with_reducible refine u_eqL0 ?_)
  | (with_reducible refine r_isN ?_) | (with_reducible refine r_notN ?_) | (with_reducible refine u_int ?_) | (with_reducible refine u_intB ?_)
  | (with_reducible refine k_strS ?_) | (with_reducible refine k_max2 ?_) | (with_reducible refine k_min2 ?_)
  | (with_reducible refine k_tup ?_) | (with_reducible refine k_lenT ?_) | (with_reducible refine k_lenL ?_) | (with_reducible refine u_ixT atI_zero ?_) | (with_reducible refine u_ixL atI_zero ?_) | (with_reducible refine w_callE ?_) | (with_reducible refine w_callX ?_) | (with_reducible refine s_raise (by assumption) ?_) | (with_reducible refine i_rng1 ?_) | (with_reducible refine i_rng2 ?_) | (with_reducible refine i_list ?_) | (with_reducible refine i_tup ?_) | (with_reducible refine i_str ?_) | (with_reducible refine u_slT ?_) | (with_reducible refine u_slL ?_)
  | (with_reducible refine q_set ?_) | (with_reducible refine q_drop ?_) | (with_reducible refine q_par ?_) | (with_reducible refine q_when ?_) | (with_reducible refine q_if ?_)
  | (with_reducible refine s_ret ?_) | (with_reducible refine s_retNon ?_) | (with_reducible refine s_next ?_)
  | (refine ⟨_, rfl, ?_⟩) | (refine ⟨Nat.le_of_ble_eq_true rfl, ?_⟩) | (refine knownT rfl ?_) | (refine knownF rfl ?_) | (refine orT rfl ?_) | (refine orF rfl ?_))
local macro_rules | `(tactic| walk_at "zz") => `(tactic| repeat walk_at "z")
local macro_rules | `(tactic| walk_at "kt") => `(tactic| refine ⟨_, rfl, knownT rfl ?_⟩)
local macro_rules | `(tactic| walk_at "kf") => `(tactic| refine ⟨_, rfl, knownF rfl ?_⟩)
local macro_rules | `(tactic| walk_at "ot") => `(tactic| refine ⟨_, rfl, orT rfl ?_⟩)
local macro_rules | `(tactic| walk_at "of") => `(tactic| refine ⟨_, rfl, orF rfl ?_⟩)
local macro_rules | `(tactic| walk_at "t") => `(tactic| refine knownT rfl ?_)
local macro_rules | `(tactic| walk_at "f") => `(tactic| refine knownF rfl ?_)
local macro_rules | `(tactic| walk_at "bl") => `(tactic| refine ⟨_, rfl, ?_⟩)
local macro_rules | `(tactic| walk_at "br") => `(tactic| refine ⟨fun h => ?_, fun h => ?_⟩)

variable {K : PySem.W.Frag} {T : Tb} {w : World} {vs : List V} {H : Hp} {Q : VK} {E : XK}
/-! ### same -/
def okD : Nat → D → Prop
  | n, .tup ds => match n with
    | 0 => False
    | m + 1 => ds.length < 1000 ∧ ∀ x, x ∈ ds → okD m x
  | n, .lst ds => match n with
    | 0 => False
    | m + 1 => ds.length < 1000 ∧ ∀ x, x ∈ ds → okD m x
  | _, .dic _ _ => False
  | _, _ => True
theorem okD_tup {n : Nat} {ds : List D} : okD (n + 1) (.tup ds) ↔ ds.length < 1000 ∧ ∀ x, x ∈ ds → okD n x := by
  rw [okD]
theorem okD_lst {n : Nat} {ds : List D} : okD (n + 1) (.lst ds) ↔ ds.length < 1000 ∧ ∀ x, x ∈ ds → okD n x := by
  rw [okD]
theorem okD_mono : ∀ {n : Nat} {d : D}, okD n d → okD (n + 1) d
  | 0, .tup ds, h => by unfold okD at h; exact h.elim
  | 0, .lst ds, h => by unfold okD at h; exact h.elim
  | n + 1, .tup ds, h => by
    have h := okD_tup.mp h
    exact okD_tup.mpr ⟨h.1, fun x hx => okD_mono (h.2 x hx)⟩
  | n + 1, .lst ds, h => by
    have h := okD_lst.mp h
    exact okD_lst.mpr ⟨h.1, fun x hx => okD_mono (h.2 x hx)⟩
  | 0, .dic _ _, h => by unfold okD at h; exact h.elim
  | n + 1, .dic _ _, h => by unfold okD at h; exact h.elim
  | _, .non, _ => by unfold okD; trivial
  | _, .bl _, _ => by unfold okD; trivial
  | _, .int _, _ => by unfold okD; trivial
  | _, .str _, _ => by unfold okD; trivial
theorem okD_non {n : Nat} : okD n .non := by unfold okD; trivial
theorem okD_bl {n : Nat} {b : Bool} : okD n (.bl b) := by unfold okD; trivial
theorem okD_int {n : Nat} {i : Int} : okD n (.int i) := by unfold okD; trivial
theorem okD_str {n : Nat} {s : Str} : okD n (.str s) := by unfold okD; trivial
abbrev spSame (K : PySem.W.Frag) (T : Tb) (pre : D → Prop) : Sp := SpP K T (fun ds => ∃ d, ds = [d, d] ∧ pre d) (fun _ d => d = .bl true) noExc
theorem ws_same (c : Cd) (n : Nat) (below : D → Prop) (hb : ∀ m, n = m + 1 → ∀ d, okD m d → below d) (d : D) (hd : okD n d) : WpS c (t_law_zq_same c.K (spIw c.K c.T) (spSame c.K c.T below)) (Ret fun r => r = .bl true) [some (.dat d), some (.dat d), none] := by
  have hz : sizeLine = 16777216 := sizeLine_eq
  unfold t_law_zq_same
  cases d
  case dic => unfold okD at hd; exact hd.elim
  case non =>
    walk_at "zz"
    rfl
  case bl b =>
    walk_at "zz"
    cases b
    · walk_at "zz"
      refine r_isB ?_
      walk_at "zz"
      rfl
    · walk_at "zz"
      refine r_isB ?_
      walk_at "zz"
      rfl
  case int i =>
    walk_at "zz"
    refine ⟨⟨_, rfl⟩, fun d hd => ?_⟩
    rw [hd _ rfl]
    walk_at "zz"
    show D.bl (decide (i = i)) = _
    rw [decide_eq_true rfl]
  case str s =>
    walk_at "zz"
    show D.bl (decide (s = s)) = _
    rw [decide_eq_true rfl]
  case tup xs =>
    cases n with
    | zero => rw [okD] at hd; exact hd.elim
    | succ m =>
      obtain ⟨hl, hx⟩ := okD_tup.mp hd
      walk_at "zz"
      refine u_ne rfl ?_
      walk_at "zz"
      refine u_ne rfl ?_
      walk_at "zz"
      refine known false (by simp) (fun z => nomatch z) (fun _ => ?_)
      refine q_for ?_
      walk_at "zz"
      refine ⟨by omega, ?_⟩
      rw [show ((xs.length : Nat) : Int).toNat = xs.length by omega]
      refine ⟨fun i ρ => ∃ a, ρ = [some (.dat (.tup xs)), some (.dat (.tup xs)), a], ⟨_, rfl⟩, fun i d ρ2 hd2 hin => ?_, fun ρ2 hin => ?_⟩
      · obtain ⟨a, rfl⟩ := hin
        obtain ⟨hi, rfl⟩ := upto_get hd2
        obtain ⟨y, hy⟩ : ∃ y, xs[i]? = some y := ⟨_, List.getElem?_eq_getElem hi⟩
        have hat : atI xs (0 + (i : Int)) = some y := by
          rw [Int.zero_add]
          exact atI_nat hy
        refine g_name (Nat.le_of_ble_eq_true rfl) ?_
        refine s_if ?_
        walk_at "zz"
        refine u_ixT hat ?_
        walk_at "zz"
        refine u_ixT hat ?_
        walk_at "zz"
        refine ⟨⟨y, rfl, hb m rfl y (hx y (List.mem_of_getElem? hy))⟩, fun d hd3 => ?_⟩
        have hd3 : d = .bl true := hd3
        subst hd3
        walk_at "zz"
        exact ⟨_, rfl⟩
      · obtain ⟨a, rfl⟩ := hin
        walk_at "zz"
        rfl
  case lst xs =>
    cases n with
    | zero => rw [okD] at hd; exact hd.elim
    | succ m =>
      obtain ⟨hl, hx⟩ := okD_lst.mp hd
      walk_at "zz"
      refine u_ne rfl ?_
      walk_at "zz"
      refine u_ne rfl ?_
      walk_at "zz"
      refine known false (by simp) (fun z => nomatch z) (fun _ => ?_)
      refine q_for ?_
      walk_at "zz"
      refine ⟨by omega, ?_⟩
      rw [show ((xs.length : Nat) : Int).toNat = xs.length by omega]
      refine ⟨fun i ρ => ∃ a, ρ = [some (.dat (.lst xs)), some (.dat (.lst xs)), a], ⟨_, rfl⟩, fun i d ρ2 hd2 hin => ?_, fun ρ2 hin => ?_⟩
      · obtain ⟨a, rfl⟩ := hin
        obtain ⟨hi, rfl⟩ := upto_get hd2
        obtain ⟨y, hy⟩ : ∃ y, xs[i]? = some y := ⟨_, List.getElem?_eq_getElem hi⟩
        have hat : atI xs (0 + (i : Int)) = some y := by
          rw [Int.zero_add]
          exact atI_nat hy
        refine g_name (Nat.le_of_ble_eq_true rfl) ?_
        refine s_if ?_
        walk_at "zz"
        refine u_ixL hat ?_
        walk_at "zz"
        refine u_ixL hat ?_
        walk_at "zz"
        refine ⟨⟨y, rfl, hb m rfl y (hx y (List.mem_of_getElem? hy))⟩, fun d hd3 => ?_⟩
        have hd3 : d = .bl true := hd3
        subst hd3
        walk_at "zz"
        exact ⟨_, rfl⟩
      · obtain ⟨a, rfl⟩ := hin
        walk_at "zz"
        rfl
theorem wp_same (n : Nat) (below : D → Prop) (hb : ∀ m, n = m + 1 → ∀ d, okD m d → below d) (h : spSame K T (okD n) vs H Q E) : t_law_zq_same K (spIw K T) (spSame K T below) { nx := fun _ H' => Q .non H', rt := Q } (L2.start n_law_zq_same vs) H :=
  fn_PR 2 h (by rintro ds ⟨_, rfl, _⟩; rfl) fun c ds a1 a2 a3 a4 a5 hp => by
    subst a1 a2
    obtain ⟨d, rfl, hd⟩ := hp
    exact ws_same c n below hb d hd
end K83

/-! ## WO -/
set_option Elab.async false
set_option linter.all false
set_option maxRecDepth 100000
set_option maxHeartbeats 4000000
namespace K83
open PySem PySem.Spec PyProof.Rows L2 Zd
local macro_rules | `(tactic| walk_at "z") => `(tactic| first
  | (with_reducible refine w_int ?_) | (with_reducible refine w_str ?_) | (with_reducible refine w_bl ?_) | (with_reducible refine w_non ?_)
  | (with_reducible refine w_varR ?_; refine ⟨_, rfl, ?_⟩)
  | (with_reducible refine w_isInt ?_) | (with_reducible refine w_isBool ?_) | (with_reducible refine w_isStr ?_) | (with_reducible refine w_isTup ?_) | (with_reducible refine w_isLst ?_)
  | (with_reducible refine w_kdGet (by assumption) ?_) | (with_reducible refine w_kdIn (by assumption) ?_) | (with_reducible refine w_kdNotIn (by assumption) ?_) | (with_reducible refine w_k (by assumption) ?_)
  | (with_reducible refine w_ixOR ?_; refine ⟨_, _, rfl, ?_⟩) | (with_reducible refine w_lenOR ?_; refine ⟨_, _, rfl, ?_⟩) | (with_reducible refine w_slOR ?_; refine ⟨_, _, rfl, ?_⟩) | (with_reducible refine w_callJR ?_; refine ⟨_, _, rfl, ?_⟩)
  | (with_reducible refine w_op ?_) | (with_reducible refine w_cb ?_) | (with_reducible refine w_nil ?_) | (with_reducible refine w_cons ?_)
  | (with_reducible refine w_disp ?_) | (with_reducible refine p_cons ?_) | (with_reducible refine p_nil ?_) | (with_reducible refine w_revT ?_) | (with_reducible refine w_dget ?_) | (with_reducible refine w_din ?_) | (with_reducible refine w_dnin ?_)
  | (with_reducible refine w_tup ?_) | (with_reducible refine w_lst ?_) | (with_reducible refine w_test ?_) | (with_reducible refine w_tB ?_)
  | (with_reducible refine w_not ?_) | (with_reducible refine w_and ?_) | (with_reducible refine w_or ?_) | (with_reducible refine w_if ?_)
  | (with_reducible refine w_notV ?_) | (with_reducible refine w_andV ?_) | (with_reducible refine w_orV ?_) | (with_reducible refine w_chain ?_) | (with_reducible refine w_neg ?_)
  | (with_reducible refine w_sl ?_) | (with_reducible refine o_none ?_) | (with_reducible refine o_some ?_) | (with_reducible refine w_m1 ?_)
  | (with_reducible refine u_addI ?_) | (with_reducible refine u_sub ?_) | (with_reducible refine u_lt ?_) | (with_reducible refine u_le ?_) | (with_reducible refine u_gt ?_) | (with_reducible refine u_ge ?_)
  | (with_reducible refine u_eqI ?_) | (with_reducible refine u_neI ?_) | (with_reducible refine u_eqS ?_) | (with_reducible refine u_neS ?_)
  | (with_reducible refine u_inT ?_) | (with_reducible refine u_eqT0 ?_) | (with_reducible refine u_neT0 ?_) | (with_reducible refine u_neL0 ?_) | (with_reducible refine u_eqL0 ?_)
  | (with_reducible refine r_isN ?_) | (with_reducible refine r_notN ?_) | (with_reducible refine u_int ?_) | (with_reducible refine u_intB ?_)
  | (with_reducible refine k_strS ?_) | (with_reducible refine k_max2 ?_) | (with_reducible refine k_min2 ?_)
  | (with_reducible refine k_tup ?_) | (with_reducible refine k_lenT ?_) | (with_reducible refine k_lenL ?_) | (with_reducible refine u_ixT atI_zero ?_) | (with_reducible refine u_ixL atI_zero ?_) | (with_reducible refine w_callE ?_) | (with_reducible refine w_callX ?_) | (with_reducible refine s_raise (by assumption) ?_) | (with_reducible refine i_rng1 ?_) | (with_reducible refine i_rng2 ?_) | (with_reducible refine i_list ?_) | (with_reducible refine i_tup ?_) | (with_reducible refine i_str ?_) | (with_reducible refine u_slT ?_) | (with_reducible refine u_slL ?_)
  | (with_reducible refine q_set ?_) | (with_reducible refine q_drop ?_) | (with_reducible refine q_par ?_) | (with_reducible refine q_when ?_) | (with_reducible refine q_if ?_)
  | (with_reducible refine s_ret ?_) | (with_reducible refine s_retNon ?_) | (with_reducible refine s_next ?_)
  | (refine ⟨_, rfl, ?_⟩) | (refine ⟨Nat.le_of_ble_eq_true rfl, ?_⟩) | (refine knownT rfl ?_) | (refine knownF rfl ?_) | (refine orT rfl ?_) | (refine orF rfl ?_))
local macro_rules | `(tactic| walk_at "zz") => `(tactic| repeat walk_at "z")
local macro_rules | `(tactic| walk_at "kt") => `(tactic| refine ⟨_, rfl, knownT rfl ?_⟩)
local macro_rules | `(tactic| walk_at "kf") => `(tactic| refine ⟨_, rfl, knownF rfl ?_⟩)
local macro_rules | `(tactic| walk_at "ot") => `(tactic| refine ⟨_, rfl, orT rfl ?_⟩)
local macro_rules | `(tactic| walk_at "of") => `(tactic| refine ⟨_, rfl, orF rfl ?_⟩)
local macro_rules | `(tactic| walk_at "t") => `(tactic| refine knownT rfl ?_)
local macro_rules | `(tactic| walk_at "f") => `(tactic| refine knownF rfl ?_)
local macro_rules | `(tactic| walk_at "bl") => `(tactic| refine ⟨_, rfl, ?_⟩)
local macro_rules | `(tactic| walk_at "br") => `(tactic| refine ⟨fun h => ?_, fun h => ?_⟩)

variable {K : PySem.W.Frag} {T : Tb} {w : World} {vs : List V} {H : Hp} {Q : VK} {E : XK}
theorem okD_pair {n : Nat} {a b : D} (h1 : okD n a) (h2 : okD n b) : okD (n + 1) (.tup [a, b]) := okD_tup.mpr ⟨Nat.le_of_ble_eq_true rfl, fun x hx => by
  rcases List.mem_cons.mp hx with rfl | hx
  · exact h1
  · rw [List.mem_singleton.mp hx]
    exact h2⟩
theorem okD_l2 {n : Nat} {a b : D} (h1 : okD n a) (h2 : okD n b) : okD (n + 1) (.lst [a, b]) := okD_lst.mpr ⟨Nat.le_of_ble_eq_true rfl, fun x hx => by
  rcases List.mem_cons.mp hx with rfl | hx
  · exact h1
  · rw [List.mem_singleton.mp hx]
    exact h2⟩
theorem okD_l3 {n : Nat} {a b d : D} (h1 : okD n a) (h2 : okD n b) (h3 : okD n d) : okD (n + 1) (.lst [a, b, d]) := okD_lst.mpr ⟨Nat.le_of_ble_eq_true rfl, fun x hx => by
  rcases List.mem_cons.mp hx with rfl | hx
  · exact h1
  rcases List.mem_cons.mp hx with rfl | hx
  · exact h2
  · rw [List.mem_singleton.mp hx]
    exact h3⟩
theorem okC_in {K : PySem.W.Frag} {n : Str} (h : n ∈ errN) : okC K (He.ga K n) := ⟨n, h, rfl⟩
abbrev preTh (ds : List D) : Prop := ∃ t, ds = [t] ∧ okD 3 t
abbrev spTrue (K : PySem.W.Frag) (T : Tb) (pre : List D → Prop) : Sp := SpP K T pre (fun _ d => d = .bl true) noExc
theorem deedT_len {dw : Str} {l : List Int} (h : isDeed (deedD dw l) = true) : (deedT dw l).length ≤ 200 := by
  obtain ⟨dw', n, l', e, hs, hl, hall⟩ := isDeed_spec h
  obtain ⟨rfl, rfl⟩ := deedD_inj e
  have h1 := prices_sum hs hl hall
  unfold deedT
  rw [TL.join_eq]
  have h2 := StrLaws.join_length_le " " (dw :: l.map priceT)
  have h3 : (" " : Str).length = 1 := by decide +kernel
  rw [h3, Nat.mul_one] at h2
  simp only [sumL] at h1
  omega
theorem ws_th (c : Cd) (FE : Fe c.K) (hT : c.T = TT c.K) (hS : ∀ q, ¬ c.S q) (ds : List D) (hp : preTh ds) : WpS c (t_law_dl_thing_right c.K (spIs c.K c.T) (spDt c.K c.T) (spIs c.K c.T) (spSame c.K c.T (okD 7)) (spLd c.K c.T) (spRead c.K c.T)) (Ret fun r => r = .bl true) (args ds 2) := by
  obtain ⟨t, rfl, ht⟩ := hp
  have hl : ∀ r, t = .tup r → r.length < 1000 := fun r e => by
    subst e
    exact (okD_tup.mp ht).1
  have m1 : ("BadDeed" : Str) ∈ errN := by decide +kernel
  unfold t_law_dl_thing_right
  rw [← hT]
  refine q_setN ?_
  refine w_lstN ?_
  refine w_cons ?_
  refine w_lam (fun d => d = .bl (isDeed t)) (fun _ _ => False) (fun G H E => ?_) (fun _ _ z => z.elim) (fun d hd => ?_) (fun _ _ z => z.elim)
  · walk_at "zz"
    exact ⟨⟨t, rfl, hl⟩, fun d hd => hd t rfl⟩
  subst hd
  walk_at "zz"
  intro p
  refine q_app ⟨_, _, rfl⟩ ?_
  cases hD : isDeed t with
  | false =>
    refine w_lam (fun _ => False) (fun C w => C = He.ga c.K "BadDeed" ∧ w = .int 0) (fun G H E => ?_) (fun C w z => by rw [z.1]; exact okC_in m1) (fun d hd => hd.elim) (fun C w z => ?_)
    · walk_at "zz"
      refine ⟨⟨t, rfl, hl⟩, fun C w z => ?_, fun d hd => ?_⟩
      · obtain ⟨t', ⟨⟩, _, z1, z2⟩ := z
        exact ⟨z1, z2⟩
      · obtain ⟨t', ⟨⟩, z1, _⟩ := hd
        rw [hD] at z1
        cases z1
    obtain ⟨rfl, rfl⟩ := z
    rw [nmC_eq FE m1]
    refine ⟨p, _, rfl, Nat.lt_of_lt_of_le (show 1 < 2 by decide) (Nat.le_of_ble_eq_true rfl), ?_⟩
    walk_at "zz"
    refine ⟨⟨t, rfl, hl⟩, fun d hd => ?_⟩
    rw [hd t rfl, hD]
    refine ⟨_, rfl, knownT rfl ?_⟩
    refine s_frz 1 rfl (fun q z => absurd z (hS q)) ?_
    walk_at "zz"
    refine ⟨⟨_, rfl, okD_l2 (okD_pair okD_str okD_bl) (okD_pair okD_str okD_int)⟩, fun d hd => ?_⟩
    have hd : d = .bl true := hd
    subst hd
    walk_at "zz"
    rfl
  | true =>
    obtain ⟨dw, n, l, rfl, hs, hln, hall⟩ := isDeed_spec hD
    obtain ⟨r1, r2, r3⟩ := read_back hD
    refine w_lam (fun d => d = .str (deedT dw l)) (fun _ _ => False) (fun G H E => ?_) (fun _ _ z => z.elim) (fun d hd => ?_) (fun _ _ z => z.elim)
    · walk_at "zz"
      refine ⟨⟨_, rfl, hl⟩, fun C w z => ?_, fun d hd => ?_⟩
      · obtain ⟨t', ⟨⟩, z0, _⟩ := z
        rw [hD] at z0
        cases z0
      · obtain ⟨t', e, z1, z2⟩ := hd
        exact z2 dw l (List.cons.inj e).1.symm
    subst hd
    refine ⟨p, _, rfl, Nat.lt_of_lt_of_le (show 1 < 2 by decide) (Nat.le_of_ble_eq_true rfl), ?_⟩
    walk_at "zz"
    refine ⟨⟨_, rfl, hl⟩, fun d hd => ?_⟩
    rw [hd _ rfl, hD]
    walk_at "zz"
    refine ⟨⟨_, rfl, hD⟩, fun d hd => ⟨Nat.le_of_ble_eq_true rfl, ?_⟩⟩
    rw [hd _ _ rfl]
    refine q_app ⟨_, _, rfl⟩ ?_
    have hlen := deedT_len hD
    refine w_lam (fun d => d = deedD dw l) (fun _ _ => False) (fun G H E => ?_) (fun _ _ z => z.elim) (fun d hd => ?_) (fun _ _ z => z.elim)
    · walk_at "zz"
      refine ⟨⟨_, rfl, fun s e => by cases e; omega⟩, fun C w z => ?_, fun d hd => ?_⟩
      · rcases z with z | z
        · rcases z with ⟨t', ⟨⟩, z0, _⟩ | ⟨s, e, z0, _⟩
          · cases z0
          · cases e
            omega
        · obtain ⟨s, e, _, _, z⟩ := z
          cases e
          rcases z with ⟨a, z1, _⟩ | ⟨m, _, z2, _⟩
          · rw [r3] at z1
            cases z1
          · rw [r1] at z2
            simp at z2
      · obtain ⟨s, e, _, m, z1, _, z2⟩ := hd
        cases e
        rw [r3] at z1
        cases z1
        rw [z2, r2]
    subst hd
    refine ⟨p, _, rfl, Nat.lt_of_lt_of_le (show 2 < 3 by decide) (Nat.le_of_ble_eq_true rfl), ?_⟩
    refine s_frz 1 rfl (fun q z => absurd z (hS q)) ?_
    walk_at "zz"
    refine ⟨⟨_, rfl, okD_l3 (okD_pair okD_str okD_bl) (okD_pair okD_str okD_str) (okD_pair okD_str (okD_mono (okD_mono ht)))⟩, fun d hd => ?_⟩
    have hd : d = .bl true := hd
    subst hd
    exact ⟨_, rfl, rfl⟩
theorem wp_th (FE : Fe K) (h : spTrue K (TT K) preTh vs H Q E) : t_law_dl_thing_right K (spIs K (TT K)) (spDt K (TT K)) (spIs K (TT K)) (spSame K (TT K) (okD 7)) (spLd K (TT K)) (spRead K (TT K)) { nx := fun _ H' => Q .non H', rt := Q } (L2.start n_law_dl_thing_right vs) H :=
  fn_PR 1 h (by rintro ds ⟨_, rfl, _⟩; rfl) fun c ds a1 a2 a3 a4 a5 hp => by
    subst a1
    rw [← a2]
    exact ws_th c FE a2 a5 ds hp
end K83

/-! ## WP -/
set_option Elab.async false
set_option linter.all false
set_option maxRecDepth 100000
set_option maxHeartbeats 4000000
namespace K83
open PySem PySem.Spec PyProof.Rows L2 Zd
local macro_rules | `(tactic| walk_at "z") => `(tactic| first
  | (with_reducible refine w_int ?_) | (with_reducible refine w_str ?_) | (with_reducible refine w_bl ?_) | (with_reducible refine w_non ?_)
  | (with_reducible refine w_varR ?_; refine ⟨_, rfl, ?_⟩)
  | (with_reducible refine w_isInt ?_) | (with_reducible refine w_isBool ?_) | (with_reducible refine w_isStr ?_) | (with_reducible refine w_isTup ?_) | (with_reducible refine w_isLst ?_)
  | (with_reducible refine w_kdGet (by assumption) ?_) | (with_reducible refine w_kdIn (by assumption) ?_) | (with_reducible refine w_kdNotIn (by assumption) ?_) | (with_reducible refine w_k (by assumption) ?_)
  | (with_reducible refine w_ixOR ?_; refine ⟨_, _, rfl, ?_⟩) | (with_reducible refine w_lenOR ?_; refine ⟨_, _, rfl, ?_⟩) | (with_reducible refine w_slOR ?_; refine ⟨_, _, rfl, ?_⟩) | (with_reducible refine w_callJR ?_; refine ⟨_, _, rfl, ?_⟩)
  | (with_reducible refine w_op ?_) | (with_reducible refine w_cb ?_) | (with_reducible refine w_nil ?_) | (with_reducible refine w_cons ?_)
  | (with_reducible refine w_disp ?_) | (with_reducible refine p_cons ?_) | (with_reducible refine p_nil ?_) | (with_reducible refine w_revT ?_) | (with_reducible refine w_dget ?_) | (with_reducible refine w_din ?_) | (with_reducible refine w_dnin ?_)
  | (with_reducible refine w_tup ?_) | (with_reducible refine w_lst ?_) | (with_reducible refine w_test ?_) | (with_reducible refine w_tB ?_)
  | (with_reducible refine w_not ?_) | (with_reducible refine w_and ?_) | (with_reducible refine w_or ?_) | (with_reducible refine w_if ?_)
  | (with_reducible refine w_notV ?_) | (with_reducible refine w_andV ?_) | (with_reducible refine w_orV ?_) | (with_reducible refine w_chain ?_) | (with_reducible refine w_neg ?_)
  | (with_reducible refine w_sl ?_) | (with_reducible refine o_none ?_) | (with_reducible refine o_some ?_) | (with_reducible refine w_m1 ?_)
  | (with_reducible refine u_addI ?_) | (with_reducible refine u_sub ?_) | (with_reducible refine u_lt ?_) | (with_reducible refine u_le ?_) | (with_reducible refine u_gt ?_) | (with_reducible refine u_ge ?_)
  | (with_reducible refine u_eqI ?_) | (with_reducible refine u_neI ?_) | (with_reducible refine u_eqS ?_) | (with_reducible refine u_neS ?_)
  | (with_reducible refine u_inT ?_) | (with_reducible refine u_eqT0 ?_) | (with_reducible refine u_neT0 ?_) | (with_reducible refine u_neL0 ?_) | (with_reducible refine u_eqL0 ?_)
  | (with_reducible refine r_isN ?_) | (with_reducible refine r_notN ?_) | (with_reducible refine u_int ?_) | (with_reducible refine u_intB ?_)
  | (with_reducible refine k_strS ?_) | (with_reducible refine k_max2 ?_) | (with_reducible refine k_min2 ?_)
  | (with_reducible refine k_tup ?_) | (with_reducible refine k_lenT ?_) | (with_reducible refine k_lenL ?_) | (with_reducible refine u_ixT atI_zero ?_) | (with_reducible refine u_ixL atI_zero ?_) | (with_reducible refine w_callE ?_) | (with_reducible refine w_callX ?_) | (with_reducible refine s_raise (by assumption) ?_) | (with_reducible refine i_rng1 ?_) | (with_reducible refine i_rng2 ?_) | (with_reducible refine i_list ?_) | (with_reducible refine i_tup ?_) | (with_reducible refine i_str ?_) | (with_reducible refine u_slT ?_) | (with_reducible refine u_slL ?_)
  | (with_reducible refine q_set ?_) | (with_reducible refine q_drop ?_) | (with_reducible refine q_par ?_) | (with_reducible refine q_when ?_) | (with_reducible refine q_if ?_)
  | (with_reducible refine s_ret ?_) | (with_reducible refine s_retNon ?_) | (with_reducible refine s_next ?_)
  | (refine ⟨_, rfl, ?_⟩) | (refine ⟨Nat.le_of_ble_eq_true rfl, ?_⟩) | (refine knownT rfl ?_) | (refine knownF rfl ?_) | (refine orT rfl ?_) | (refine orF rfl ?_))
local macro_rules | `(tactic| walk_at "zz") => `(tactic| repeat walk_at "z")
local macro_rules | `(tactic| walk_at "kt") => `(tactic| refine ⟨_, rfl, knownT rfl ?_⟩)
local macro_rules | `(tactic| walk_at "kf") => `(tactic| refine ⟨_, rfl, knownF rfl ?_⟩)
local macro_rules | `(tactic| walk_at "ot") => `(tactic| refine ⟨_, rfl, orT rfl ?_⟩)
local macro_rules | `(tactic| walk_at "of") => `(tactic| refine ⟨_, rfl, orF rfl ?_⟩)
local macro_rules | `(tactic| walk_at "t") => `(tactic| refine knownT rfl ?_)
local macro_rules | `(tactic| walk_at "f") => `(tactic| refine knownF rfl ?_)
local macro_rules | `(tactic| walk_at "bl") => `(tactic| refine ⟨_, rfl, ?_⟩)
local macro_rules | `(tactic| walk_at "br") => `(tactic| refine ⟨fun h => ?_, fun h => ?_⟩)

variable {K : PySem.W.Frag} {T : Tb} {w : World} {vs : List V} {H : Hp} {Q : VK} {E : XK}
abbrev preTr (ds : List D) : Prop := ∃ s : Str, ds = [.str s] ∧ s.length ≤ 150000
theorem okD_deed {dw : Str} {l : List Int} (h : isDeed (deedD dw l) = true) : okD 3 (deedD dw l) := by
  obtain ⟨dw', n, l', e, hs, hl, hall⟩ := isDeed_spec h
  obtain ⟨rfl, rfl⟩ := deedD_inj e
  have := sizeL_small hs
  refine okD_tup.mpr ⟨by rw [List.length_cons, List.length_map]; omega, fun x hx => ?_⟩
  rcases List.mem_cons.mp hx with rfl | hx
  · exact okD_str
  · obtain ⟨i, _, rfl⟩ := List.mem_map.mp hx
    exact okD_int
theorem okD_up {d : D} (h : okD 3 d) : okD 6 d := okD_mono (okD_mono (okD_mono h))
theorem ws_tr (c : Cd) (FE : Fe c.K) (hT : c.T = TT c.K) (ds : List D) (hp : preTr ds) : WpS c (t_law_dl_text_right c.K (spDr c.K c.T) (spRead c.K c.T) (spSame c.K c.T (okD 7)) (spDt c.K c.T)) (Ret fun r => r = .bl true) (args ds 1) := by
  obtain ⟨s, rfl, hl⟩ := hp
  have m4 : ("WrongLine" : Str) ∈ errN := by decide +kernel
  unfold t_law_dl_text_right
  rw [← hT]
  walk_at "zz"
  refine ⟨⟨s, rfl, by omega⟩, fun d hd => ⟨Nat.le_of_ble_eq_true rfl, ?_⟩⟩
  rw [hd s rfl]
  refine q_when ?_
  refine w_not ?_
  refine w_tB ?_
  refine w_callE ?_
  refine w_cons ?_
  cases hdo : deedOf (firstW s) with
  | error a =>
    have due : dueD s = .tup [.str "WrongLine", .tup [.int 0, .int a]] := by rw [dueD, hdo]
    rw [due]
    refine w_lam (fun _ => False) (fun C w => C = He.ga c.K "WrongLine" ∧ w = .tup [.int 0, .int a]) (fun G H E => ?_) (fun C w z => by rw [z.1]; exact okC_in m4) (fun d hd => hd.elim) (fun C w z => ?_)
    · walk_at "zz"
      refine ⟨⟨_, rfl, fun s' e => by cases e; omega⟩, fun C w z => ?_, fun d hd => ?_⟩
      · rcases z with z | z
        · rcases z with ⟨t', ⟨⟩, z0, _⟩ | ⟨s', e, z0, _⟩
          · cases z0
          · cases e
            omega
        · obtain ⟨s', e, _, z0, z⟩ := z
          cases e
          rcases z with ⟨b, z1, z2⟩ | ⟨m, z1, _⟩
          · rw [hdo] at z1
            cases z1
            exact ⟨z0, z2⟩
          · rw [hdo] at z1
            cases z1
      · obtain ⟨s', e, _, m, z1, _⟩ := hd
        cases e
        rw [hdo] at z1
        cases z1
    obtain ⟨rfl, rfl⟩ := z
    rw [nmC_eq FE m4]
    walk_at "zz"
    refine ⟨⟨_, rfl, okD_pair okD_str (okD_pair okD_int okD_int)⟩, fun d hd => ?_⟩
    have hd : d = .bl true := hd
    subst hd
    walk_at "zz"
    try refine orT (by decide +kernel) ?_
    walk_at "zz"
    rfl
  | ok l =>
    by_cases h1 : (lns s).length = 1
    · obtain ⟨hD, hback⟩ := text_back h1 hdo
      have due : dueD s = .tup [.str "told", deedD ((firstW s).headD "") l] := by rw [dueD, hdo]; exact if_pos h1
      rw [due]
      refine w_lam (fun d => d = deedD ((firstW s).headD "") l) (fun _ _ => False) (fun G H E => ?_) (fun _ _ z => z.elim) (fun d hd => ?_) (fun _ _ z => z.elim)
      · walk_at "zz"
        refine ⟨⟨_, rfl, fun s' e => by cases e; omega⟩, fun C w z => ?_, fun d hd => ?_⟩
        · rcases z with z | z
          · rcases z with ⟨t', ⟨⟩, z0, _⟩ | ⟨s', e, z0, _⟩
            · cases z0
            · cases e
              omega
          · obtain ⟨s', e, _, z0, z⟩ := z
            cases e
            rcases z with ⟨b, z1, z2⟩ | ⟨m, z1, z2, _⟩
            · rw [hdo] at z1
              cases z1
            · omega
        · obtain ⟨s', e, _, m, z1, _, z2⟩ := hd
          cases e
          rw [hdo] at z1
          cases z1
          exact z2
      subst hd
      walk_at "zz"
      refine ⟨⟨_, rfl, okD_pair okD_str (okD_up (okD_deed hD))⟩, fun d hd => ?_⟩
      have hd : d = .bl true := hd
      subst hd
      refine ⟨_, rfl, knownF rfl ?_⟩
      refine s_ret ?_
      refine w_orV ?_
      walk_at "zz"
      try refine orF (by decide +kernel) ?_
      refine w_lam (fun d => d = .str s) (fun _ _ => False) (fun G H E => ?_) (fun _ _ z => z.elim) (fun d hd => ?_) (fun _ _ z => z.elim)
      · walk_at "zz"
        refine u_ixT (d := deedD ((firstW s).headD "") l) (atI_nat (j := 1) rfl) ?_
        walk_at "zz"
        refine ⟨⟨_, rfl, fun r e => ?_⟩, fun C w z => ?_, fun d hd => ?_⟩
        · have := okD_deed hD
          rw [e] at this
          exact (okD_tup.mp this).1
        · obtain ⟨t', e, z0, _⟩ := z
          cases (List.cons.inj e).1
          rw [hD] at z0
          cases z0
        · obtain ⟨t', e, _, z2⟩ := hd
          rw [z2 _ l (List.cons.inj e).1.symm, hback]
      subst hd
      walk_at "zz"
      refine ⟨⟨_, rfl, okD_pair okD_str okD_str⟩, fun d hd => ?_⟩
      have hd : d = .bl true := hd
      subst hd
      exact ⟨_, rfl, rfl⟩
    · have due : dueD s = .tup [.str "WrongLine", .tup [.int 1, .int 0]] := by rw [dueD, hdo]; exact if_neg h1
      rw [due]
      refine w_lam (fun _ => False) (fun C w => C = He.ga c.K "WrongLine" ∧ w = .tup [.int 1, .int 0]) (fun G H E => ?_) (fun C w z => by rw [z.1]; exact okC_in m4) (fun d hd => hd.elim) (fun C w z => ?_)
      · walk_at "zz"
        refine ⟨⟨_, rfl, fun s' e => by cases e; omega⟩, fun C w z => ?_, fun d hd => ?_⟩
        · rcases z with z | z
          · rcases z with ⟨t', ⟨⟩, z0, _⟩ | ⟨s', e, z0, _⟩
            · cases z0
            · cases e
              omega
          · obtain ⟨s', e, _, z0, z⟩ := z
            cases e
            rcases z with ⟨b, z1, z2⟩ | ⟨m, z1, _, z2⟩
            · rw [hdo] at z1
              cases z1
            · exact ⟨z0, z2⟩
        · obtain ⟨s', e, _, m, z1, z2, _⟩ := hd
          cases e
          exact absurd z2 h1
      obtain ⟨rfl, rfl⟩ := z
      rw [nmC_eq FE m4]
      walk_at "zz"
      refine ⟨⟨_, rfl, okD_pair okD_str (okD_pair okD_int okD_int)⟩, fun d hd => ?_⟩
      have hd : d = .bl true := hd
      subst hd
      walk_at "zz"
      try refine orT (by decide +kernel) ?_
      walk_at "zz"
      rfl
theorem wp_tr (FE : Fe K) (h : spTrue K (TT K) preTr vs H Q E) : t_law_dl_text_right K (spDr K (TT K)) (spRead K (TT K)) (spSame K (TT K) (okD 7)) (spDt K (TT K)) { nx := fun _ H' => Q .non H', rt := Q } (L2.start n_law_dl_text_right vs) H :=
  fn_PR 1 h (by rintro ds ⟨_, rfl, _⟩; rfl) fun c ds a1 a2 a3 a4 a5 hp => by
    subst a1
    rw [← a2]
    exact ws_tr c FE a2 ds hp
end K83

/-! ## WQ -/
set_option Elab.async false
set_option linter.all false
set_option maxRecDepth 100000
set_option maxHeartbeats 4000000
namespace K83
open PySem PySem.Spec PyProof.Rows L2 Zd
local macro_rules | `(tactic| walk_at "z") => `(tactic| first
  | (with_reducible refine w_int ?_) | (with_reducible refine w_str ?_) | (with_reducible refine w_bl ?_) | (with_reducible refine w_non ?_)
  | (with_reducible refine w_varR ?_; refine ⟨_, rfl, ?_⟩)
  | (with_reducible refine w_isInt ?_) | (with_reducible refine w_isBool ?_) | (with_reducible refine w_isStr ?_) | (with_reducible refine w_isTup ?_) | (with_reducible refine w_isLst ?_)
  | (with_reducible refine w_kdGet (by assumption) ?_) | (with_reducible refine w_kdIn (by assumption) ?_) | (with_reducible refine w_kdNotIn (by assumption) ?_) | (with_reducible refine w_k (by assumption) ?_)
  | (with_reducible refine w_ixOR ?_; refine ⟨_, _, rfl, ?_⟩) | (with_reducible refine w_lenOR ?_; refine ⟨_, _, rfl, ?_⟩) | (with_reducible refine w_slOR ?_; refine ⟨_, _, rfl, ?_⟩) | (with_reducible refine w_callJR ?_; refine ⟨_, _, rfl, ?_⟩)
  | (with_reducible refine w_op ?_) | (with_reducible refine w_cb ?_) | (with_reducible refine w_nil ?_) | (with_reducible refine w_cons ?_)
  | (with_reducible refine w_disp ?_) | (with_reducible refine p_cons ?_) | (with_reducible refine p_nil ?_) | (with_reducible refine w_revT ?_) | (with_reducible refine w_dget ?_) | (with_reducible refine w_din ?_) | (with_reducible refine w_dnin ?_)
  | (with_reducible refine w_tup ?_) | (with_reducible refine w_lst ?_) | (with_reducible refine w_test ?_) | (with_reducible refine w_tB ?_)
  | (with_reducible refine w_not ?_) | (with_reducible refine w_and ?_) | (with_reducible refine w_or ?_) | (with_reducible refine w_if ?_)
  | (with_reducible refine w_notV ?_) | (with_reducible refine w_andV ?_) | (with_reducible refine w_orV ?_) | (with_reducible refine w_chain ?_) | (with_reducible refine w_neg ?_)
  | (with_reducible refine w_sl ?_) | (with_reducible refine o_none ?_) | (with_reducible refine o_some ?_) | (with_reducible refine w_m1 ?_)
  | (with_reducible refine u_addI ?_) | (with_reducible refine u_sub ?_) | (with_reducible refine u_lt ?_) | (with_reducible refine u_le ?_) | (with_reducible refine u_gt ?_) | (with_reducible refine u_ge ?_)
  | (with_reducible refine u_eqI ?_) | (with_reducible refine u_neI ?_) | (with_reducible refine u_eqS ?_) | (with_reducible refine u_neS ?_)
  | (with_reducible refine u_inT ?_) | (with_reducible refine u_eqT0 ?_) | (with_reducible refine u_neT0 ?_) | (with_reducible refine u_neL0 ?_) | (with_reducible refine u_eqL0 ?_)
  | (with_reducible refine r_isN ?_) | (with_reducible refine r_notN ?_) | (with_reducible refine u_int ?_) | (with_reducible refine u_intB ?_)
  | (with_reducible refine k_strS ?_) | (with_reducible refine k_max2 ?_) | (with_reducible refine k_min2 ?_)
  | (with_reducible refine k_tup ?_) | (with_reducible refine k_lenT ?_) | (with_reducible refine k_lenL ?_) | (with_reducible refine u_ixT atI_zero ?_) | (with_reducible refine u_ixL atI_zero ?_) | (with_reducible refine w_callE ?_) | (with_reducible refine w_callX ?_) | (with_reducible refine s_raise (by assumption) ?_) | (with_reducible refine i_rng1 ?_) | (with_reducible refine i_rng2 ?_) | (with_reducible refine i_list ?_) | (with_reducible refine i_tup ?_) | (with_reducible refine i_str ?_) | (with_reducible refine u_slT ?_) | (with_reducible refine u_slL ?_)
  | (with_reducible refine q_set ?_) | (with_reducible refine q_drop ?_) | (with_reducible refine q_par ?_) | (with_reducible refine q_when ?_) | (with_reducible refine q_if ?_)
  | (with_reducible refine s_ret ?_) | (with_reducible refine s_retNon ?_) | (with_reducible refine s_next ?_)
  | (refine ⟨_, rfl, ?_⟩) | (refine ⟨Nat.le_of_ble_eq_true rfl, ?_⟩) | (refine knownT rfl ?_) | (refine knownF rfl ?_) | (refine orT rfl ?_) | (refine orF rfl ?_))
local macro_rules | `(tactic| walk_at "zz") => `(tactic| repeat walk_at "z")
local macro_rules | `(tactic| walk_at "kt") => `(tactic| refine ⟨_, rfl, knownT rfl ?_⟩)
local macro_rules | `(tactic| walk_at "kf") => `(tactic| refine ⟨_, rfl, knownF rfl ?_⟩)
local macro_rules | `(tactic| walk_at "ot") => `(tactic| refine ⟨_, rfl, orT rfl ?_⟩)
local macro_rules | `(tactic| walk_at "of") => `(tactic| refine ⟨_, rfl, orF rfl ?_⟩)
local macro_rules | `(tactic| walk_at "t") => `(tactic| refine knownT rfl ?_)
local macro_rules | `(tactic| walk_at "f") => `(tactic| refine knownF rfl ?_)
local macro_rules | `(tactic| walk_at "bl") => `(tactic| refine ⟨_, rfl, ?_⟩)
local macro_rules | `(tactic| walk_at "br") => `(tactic| refine ⟨fun h => ?_, fun h => ?_⟩)

variable {K : PySem.W.Frag} {T : Tb} {w : World} {vs : List V} {H : Hp} {Q : VK} {E : XK}
def wordB (d : D) : Bool := match d with
  | .str x => decide (x.length ≤ 22)
  | _ => false
theorem wordB_ok {d : D} (h : wordB d = true) : ∃ x : Str, d = .str x ∧ x.length ≤ 22 := by
  cases d with
  | str x => exact ⟨x, rfl, of_decide_eq_true h⟩
  | _ => cases h
abbrev preWd1 (js ds : List D) : Prop := JV js ∧ ds = []
abbrev postWd1 (js ds : List D) (d : D) (js' : List D) : Prop := JV js' ∧ ∃ x : Str, d = .str x ∧ x.length ≤ 22
abbrev spWord (K : PySem.W.Frag) (T : Tb) : Sp := SpJ K T preWd1 postWd1
theorem log_k {i : Int} (h : 0 ≤ i) (h2 : i ≤ 10 ^ 21) : i.natAbs.log2 < 1920 := by
  by_cases e : i.natAbs = 0
  · rw [e]
    decide
  · rw [Nat.log2_lt e]
    have a : i.natAbs ≤ 1000000000000000000000 := by omega
    have b : (1000000000000000000000 : Nat) < 2 ^ (1920 : Nat) := by decide +kernel
    omega
theorem ws_word (c : Cd) (p : Addr) (js ds : List D) (hp : preWd1 js ds) : WpS c (t_law_zt_word_drawn c.K (spOne c.K c.T)) (RetJ (postWd1 js ds) p) (some (.own p js) :: args ds 1) := by
  obtain ⟨hj, rfl⟩ := hp
  have lk : ∀ {i : Int} {ρ : Rho} {P : D → Rho → Prop}, 0 ≤ i → i ≤ 10 ^ 21 → P (.str (toString i)) ρ → CD c.K rStr [.int i] (fun d => P d ρ) := fun h1 h2 k => k_strI (log_k h1 h2) k
  unfold t_law_zt_word_drawn
  walk_at "zz"
  refine u_pow ⟨by decide, by decide, by decide⟩ ?_
  walk_at "zz"
  refine k_strI (log_k (by decide) (by decide)) ?_
  walk_at "zz"
  refine u_pow ⟨by decide, by decide, by decide⟩ ?_
  walk_at "zz"
  refine k_strI (log_k (by decide) (by decide)) ?_
  walk_at "zz"
  refine u_addL (Nat.le_of_ble_eq_true rfl) ?_
  walk_at "zz"
  refine u_addL (Nat.le_of_ble_eq_true rfl) ?_
  walk_at "zz"
  refine u_addL (Nat.le_of_ble_eq_true rfl) ?_
  walk_at "zz"
  refine u_pow ⟨by decide, by decide, by decide⟩ ?_
  walk_at "zz"
  refine k_strI (log_k (by decide) (by decide)) ?_
  walk_at "zz"
  refine u_pow ⟨by decide, by decide, by decide⟩ ?_
  walk_at "zz"
  refine k_strI (log_k (by decide) (by decide)) ?_
  walk_at "zz"
  refine u_addL (Nat.le_of_ble_eq_true rfl) ?_
  walk_at "zz"
  refine ⟨⟨hj, _, rfl, by simp, Nat.le_of_ble_eq_true rfl⟩, fun d es he => ?_⟩
  obtain ⟨h1, h2⟩ := he
  have h3 := h2 _ rfl
  refine ⟨_, _, rfl, rfl, h1, wordB_ok ?_⟩
  revert h3
  generalize d = dd
  intro h3
  refine List.all_eq_true.mp ?_ dd h3
  decide +kernel
theorem wp_word (h : spWord K T vs H Q E) : t_law_zt_word_drawn K (spOne K T) { nx := fun _ H' => Q .non H', rt := Q } (L2.start n_law_zt_word_drawn vs) H :=
  fn_JR 1 h (by rintro js ds ⟨_, rfl⟩; rfl) fun c p js ds a1 a2 a3 hp => by subst a1 a2; exact ws_word c p js ds hp
end K83

/-! ## WR -/
set_option Elab.async false
set_option linter.all false
set_option maxRecDepth 100000
set_option maxHeartbeats 4000000
namespace K83
open PySem PySem.Spec PyProof.Rows L2 Zd
local macro_rules | `(tactic| walk_at "z") => `(tactic| first
  | (with_reducible refine w_int ?_) | (with_reducible refine w_str ?_) | (with_reducible refine w_bl ?_) | (with_reducible refine w_non ?_)
  | (with_reducible refine w_varR ?_; refine ⟨_, rfl, ?_⟩)
  | (with_reducible refine w_isInt ?_) | (with_reducible refine w_isBool ?_) | (with_reducible refine w_isStr ?_) | (with_reducible refine w_isTup ?_) | (with_reducible refine w_isLst ?_)
  | (with_reducible refine w_kdGet (by assumption) ?_) | (with_reducible refine w_kdIn (by assumption) ?_) | (with_reducible refine w_kdNotIn (by assumption) ?_) | (with_reducible refine w_k (by assumption) ?_)
  | (with_reducible refine w_ixOR ?_; refine ⟨_, _, rfl, ?_⟩) | (with_reducible refine w_lenOR ?_; refine ⟨_, _, rfl, ?_⟩) | (with_reducible refine w_slOR ?_; refine ⟨_, _, rfl, ?_⟩) | (with_reducible refine w_callJR ?_; refine ⟨_, _, rfl, ?_⟩)
  | (with_reducible refine w_op ?_) | (with_reducible refine w_cb ?_) | (with_reducible refine w_nil ?_) | (with_reducible refine w_cons ?_)
  | (with_reducible refine w_disp ?_) | (with_reducible refine p_cons ?_) | (with_reducible refine p_nil ?_) | (with_reducible refine w_revT ?_) | (with_reducible refine w_dget ?_) | (with_reducible refine w_din ?_) | (with_reducible refine w_dnin ?_)
  | (with_reducible refine w_tup ?_) | (with_reducible refine w_lst ?_) | (with_reducible refine w_test ?_) | (with_reducible refine w_tB ?_)
  | (with_reducible refine w_not ?_) | (with_reducible refine w_and ?_) | (with_reducible refine w_or ?_) | (with_reducible refine w_if ?_)
  | (with_reducible refine w_notV ?_) | (with_reducible refine w_andV ?_) | (with_reducible refine w_orV ?_) | (with_reducible refine w_chain ?_) | (with_reducible refine w_neg ?_)
  | (with_reducible refine w_sl ?_) | (with_reducible refine o_none ?_) | (with_reducible refine o_some ?_) | (with_reducible refine w_m1 ?_)
  | (with_reducible refine u_addI ?_) | (with_reducible refine u_sub ?_) | (with_reducible refine u_lt ?_) | (with_reducible refine u_le ?_) | (with_reducible refine u_gt ?_) | (with_reducible refine u_ge ?_)
  | (with_reducible refine u_eqI ?_) | (with_reducible refine u_neI ?_) | (with_reducible refine u_eqS ?_) | (with_reducible refine u_neS ?_)
  | (with_reducible refine u_inT ?_) | (with_reducible refine u_eqT0 ?_) | (with_reducible refine u_neT0 ?_) | (with_reducible refine u_neL0 ?_) | (with_reducible refine u_eqL0 ?_)
  | (with_reducible refine r_isN ?_) | (with_reducible refine r_notN ?_) | (with_reducible refine u_int ?_) | (with_reducible refine u_intB ?_)
  | (with_reducible refine k_strS ?_) | (with_reducible refine k_max2 ?_) | (with_reducible refine k_min2 ?_)
  | (with_reducible refine k_tup ?_) | (with_reducible refine k_lenT ?_) | (with_reducible refine k_lenL ?_) | (with_reducible refine u_ixT atI_zero ?_) | (with_reducible refine u_ixL atI_zero ?_) | (with_reducible refine w_callE ?_) | (with_reducible refine w_callX ?_) | (with_reducible refine s_raise (by assumption) ?_) | (with_reducible refine i_rng1 ?_) | (with_reducible refine i_rng2 ?_) | (with_reducible refine i_list ?_) | (with_reducible refine i_tup ?_) | (with_reducible refine i_str ?_) | (with_reducible refine u_slT ?_) | (with_reducible refine u_slL ?_)
  | (with_reducible refine q_set ?_) | (with_reducible refine q_drop ?_) | (with_reducible refine q_par ?_) | (with_reducible refine q_when ?_) | (with_reducible refine q_if ?_)
  | (with_reducible refine s_ret ?_) | (with_reducible refine s_retNon ?_) | (with_reducible refine s_next ?_)
  | (refine ⟨_, rfl, ?_⟩) | (refine ⟨Nat.le_of_ble_eq_true rfl, ?_⟩) | (refine knownT rfl ?_) | (refine knownF rfl ?_) | (refine orT rfl ?_) | (refine orF rfl ?_))
local macro_rules | `(tactic| walk_at "zz") => `(tactic| repeat walk_at "z")
local macro_rules | `(tactic| walk_at "kt") => `(tactic| refine ⟨_, rfl, knownT rfl ?_⟩)
local macro_rules | `(tactic| walk_at "kf") => `(tactic| refine ⟨_, rfl, knownF rfl ?_⟩)
local macro_rules | `(tactic| walk_at "ot") => `(tactic| refine ⟨_, rfl, orT rfl ?_⟩)
local macro_rules | `(tactic| walk_at "of") => `(tactic| refine ⟨_, rfl, orF rfl ?_⟩)
local macro_rules | `(tactic| walk_at "t") => `(tactic| refine knownT rfl ?_)
local macro_rules | `(tactic| walk_at "f") => `(tactic| refine knownF rfl ?_)
local macro_rules | `(tactic| walk_at "bl") => `(tactic| refine ⟨_, rfl, ?_⟩)
local macro_rules | `(tactic| walk_at "br") => `(tactic| refine ⟨fun h => ?_, fun h => ?_⟩)

variable {K : PySem.W.Frag} {T : Tb} {w : World} {vs : List V} {H : Hp} {Q : VK} {E : XK}
abbrev postDd (js ds : List D) (d : D) (js' : List D) : Prop := JV js' ∧ isDeed d = true
abbrev spDd (K : PySem.W.Frag) (T : Tb) : Sp := SpJ K T preWd1 postDd
def intB (lo : Int) (d : D) : Bool := wholeD d lo MOST
theorem ints_of {lo : Int} : ∀ {ds : List D}, (∀ d, d ∈ ds → wholeD d lo MOST = true) → ∃ l : List Int, ds = l.map D.int ∧ ∀ x, x ∈ l → lo ≤ x ∧ x ≤ MOST
  | [], _ => ⟨[], rfl, fun x hx => by cases hx⟩
  | d :: ds, h => by
    obtain ⟨i, rfl, h1, h2⟩ := whole_int (h d (List.mem_cons_self ..))
    obtain ⟨l, rfl, h3⟩ := ints_of fun x hx => h x (List.mem_cons_of_mem _ hx)
    exact ⟨i :: l, rfl, fun x hx => by
      rcases List.mem_cons.mp hx with rfl | hx
      · exact ⟨h1, h2⟩
      · exact h3 x hx⟩
def sixD : List D := [.str "add", .str "drop", .str "price", .str "budget", .str "floor", .str "unfloor"]
theorem six_ok {d : D} (h : d ∈ sixD) : ∃ (x : Str) (n : Nat), d = .str x ∧ sizeL.lookup x = some n := by
  have key : ∀ d, d ∈ sixD → (match d with | .str x => (sizeL.lookup x).isSome | _ => false) = true := fun d hd => List.all_eq_true.mp (by decide +kernel : (sixD.all fun d => match d with | .str x => (sizeL.lookup x).isSome | _ => false) = true) d hd
  have k := key d h
  cases d with
  | str x =>
    obtain ⟨n, hn⟩ := Option.isSome_iff_exists.mp (show (sizeL.lookup x).isSome = true from k)
    exact ⟨x, n, rfl, hn⟩
  | _ => cases k
theorem ws_dd (c : Cd) (p : Addr) (js ds : List D) (hp : preWd1 js ds) : WpS c (t_law_zt_deed_drawn c.K (spOne c.K c.T) (spSo c.K c.T)) (RetJ (postDd js ds) p) (some (.own p js) :: args ds 6) := by
  obtain ⟨hj, rfl⟩ := hp
  have hz : sizeLine = 16777216 := sizeLine_eq
  unfold t_law_zt_deed_drawn
  refine q_asg ?_
  walk_at "zz"
  refine ⟨⟨hj, _, rfl, by simp, Nat.le_of_ble_eq_true rfl⟩, fun d es he => ?_⟩
  obtain ⟨hj1, h2⟩ := he
  obtain ⟨x, n, rfl, hs⟩ := six_ok (h2 _ rfl)
  have hn4 := sizeL_small hs
  obtain ⟨m, b, hlk, hmb, hb, hm1⟩ := sorts_some hs
  walk_at "zz"
  refine u_pow ⟨by decide, by decide, by decide⟩ ?_
  walk_at "zz"
  refine g_tup ⟨_, rfl, rfl, g_cons ⟨_, _, rfl, g_name (Nat.le_of_ble_eq_true rfl) (g_cons ⟨_, _, rfl, g_name (Nat.le_of_ble_eq_true rfl) (g_nil rfl ?_)⟩)⟩⟩
  refine q_asg ?_
  walk_at "zz"
  refine ⟨rfl, fun d hd => ?_⟩
  have hd : d = .dic sortsK sortsD := hd
  subst hd
  walk_at "zz"
  refine ⟨_, _, .inr x, _, rfl, rfl, hlk, ?_⟩
  refine g_tup ⟨_, rfl, rfl, g_cons ⟨_, _, rfl, g_name (Nat.le_of_ble_eq_true rfl) (g_cons ⟨_, _, rfl, g_name (Nat.le_of_ble_eq_true rfl) (g_nil rfl ?_)⟩)⟩⟩
  refine q_set ?_
  refine w_lc ?_
  walk_at "zz"
  refine ⟨by omega, by rw [upto_len]; omega, ?_⟩
  rw [show ((m : Nat) : Int).toNat = m by omega]
  refine ⟨fun i acc ρ => ∃ js', JV js' ∧ acc.length = i ∧ (∀ d, d ∈ acc → wholeD d 0 MOST = true) ∧ ρ = [some (.own p js'), some (.dat (.str x)), some (.dat (.int (10 ^ (20 : Int).toNat - 1))), some (.dat (.int m)), some (.dat (.bl b)), none, none], ⟨es, hj1, rfl, fun d hd => (nomatch hd), rfl⟩, fun i d acc ρ2 hd2 hin hai => ?_, fun acc ρ2 hin hal => ?_⟩
  · obtain ⟨js', hj', hla, hacc, rfl⟩ := hin
    refine v_name (List.mem_cons_self ..) (Nat.le_of_ble_eq_true rfl) (t_yes ⟨fun _ => ?_, fun z => by cases z⟩)
    walk_at "zz"
    refine u_pow ⟨by decide, by decide, by decide⟩ ?_
    walk_at "zz"
    refine ⟨⟨hj', _, rfl, by simp, Nat.le_of_ble_eq_true rfl⟩, fun d es he => ?_⟩
    obtain ⟨hj2, h3⟩ := he
    refine ⟨es, hj2, by rw [List.length_append, hla]; rfl, fun y hy => ?_, rfl⟩
    rcases List.mem_append.mp hy with hy | hy
    · exact hacc y hy
    · rw [List.mem_singleton.mp hy]
      have h4 := h3 _ rfl
      revert h4
      generalize d = dd
      intro h4
      refine (List.all_eq_true (p := fun d => wholeD d 0 MOST)).mp ?_ dd h4
      decide +kernel
  · rw [upto_len] at hin
    obtain ⟨js', hj', hla, hacc, rfl⟩ := hin
    obtain ⟨l, rfl, hl⟩ := ints_of hacc
    have hlm : l.length = m := by simpa using hla
    refine ⟨Nat.le_of_ble_eq_true rfl, ?_⟩
    have fin : ∀ (js2 : List D) (last : List Int), JV js2 → (last = [] ∧ b = false ∨ ∃ z, last = [z] ∧ b = true ∧ -1 ≤ z ∧ z ≤ MOST) → (RetJ (postDd js []) p).rt (.dat (.tup ([.str x] ++ (l.map D.int ++ last.map D.int)))) [some (.own p js2), some (.dat (.str x)), some (.dat (.int (10 ^ (20 : Int).toNat - 1))), some (.dat (.int m)), some (.dat (.bl b)), some (.dat (.lst (l.map D.int))), none] := fun js2 last hj3 hlast => by
      refine ⟨_, _, rfl, rfl, hj3, ?_⟩
      rw [← List.map_append]
      refine isDeed_of hs ?_ fun i y hy => ?_
      · rw [List.length_append, hlm, ← hmb]
        rcases hlast with ⟨rfl, rfl⟩ | ⟨z, rfl, rfl, _⟩ <;> rfl
      · have g4 := leastP_le x ((i : Int) + 1)
        by_cases hi : i < l.length
        · rw [List.getElem?_append_left hi] at hy
          have := hl y (List.mem_of_getElem? hy)
          omega
        · rw [List.getElem?_append_right (by omega)] at hy
          rcases hlast with ⟨rfl, rfl⟩ | ⟨z, rfl, hbt, h5, h6⟩
          · cases hy
          · have hi0 : i - l.length = 0 := by
              by_cases q : i - l.length = 0
              · exact q
              · rw [List.getElem?_eq_none (by simp; omega)] at hy
                cases hy
            rw [hi0] at hy
            cases hy
            have hpr : x ∈ pricedL := by rw [hbt] at hb; exact of_decide_eq_true hb.symm
            have hin : i + 1 = n := by rw [hbt] at hmb; simp at hmb; omega
            have := (least_iff (a := i + 1) hs).mpr ⟨hpr, hin⟩
            have e5 : ((i : Int) + 1) = ((i + 1 : Nat) : Int) := by omega
            rw [e5]
            exact ⟨by omega, h6⟩
    walk_at "zz"
    cases b with
    | true =>
      walk_at "zz"
      refine ⟨⟨hj', _, rfl, by simp, Nat.le_of_ble_eq_true rfl⟩, fun d es he => ?_⟩
      obtain ⟨hj2, h3⟩ := he
      have h4 : wholeD d (-1) MOST = true := by
        have h4 := h3 _ rfl
        revert h4
        generalize d = dd
        intro h4
        refine (List.all_eq_true (p := fun d => wholeD d (-1) MOST)).mp ?_ dd h4
        decide +kernel
      obtain ⟨z, rfl, h5, h6⟩ := whole_int h4
      walk_at "zz"
      refine u_addL (by rw [List.length_map]; show l.length + 1 ≤ _; omega) ?_
      walk_at "zz"
      refine u_addT (by simp; omega) ?_
      exact fin es [z] hj2 (.inr ⟨z, rfl, rfl, h5, h6⟩)
    | false =>
      walk_at "zz"
      refine u_addL (by rw [List.length_map]; show l.length + 0 ≤ _; omega) ?_
      walk_at "zz"
      refine u_addT (by simp; omega) ?_
      exact fin js' [] hj' (.inl ⟨rfl, rfl⟩)
theorem wp_dd (h : spDd K T vs H Q E) : t_law_zt_deed_drawn K (spOne K T) (spSo K T) { nx := fun _ H' => Q .non H', rt := Q } (L2.start n_law_zt_deed_drawn vs) H :=
  fn_JR 1 h (by rintro js ds ⟨_, rfl⟩; rfl) fun c p js ds a1 a2 a3 hp => by subst a1 a2; exact ws_dd c p js ds hp
end K83

/-! ## WS -/
set_option Elab.async false
set_option linter.all false
set_option maxRecDepth 100000
set_option maxHeartbeats 4000000
namespace K83
open PySem PySem.Spec PyProof.Rows L2 Zd
local macro_rules | `(tactic| walk_at "z") => `(tactic| first
  | (with_reducible refine w_int ?_) | (with_reducible refine w_str ?_) | (with_reducible refine w_bl ?_) | (with_reducible refine w_non ?_)
  | (with_reducible refine w_varR ?_; refine ⟨_, rfl, ?_⟩)
  | (with_reducible refine w_isInt ?_) | (with_reducible refine w_isBool ?_) | (with_reducible refine w_isStr ?_) | (with_reducible refine w_isTup ?_) | (with_reducible refine w_isLst ?_)
  | (with_reducible refine w_kdGet (by assumption) ?_) | (with_reducible refine w_kdIn (by assumption) ?_) | (with_reducible refine w_kdNotIn (by assumption) ?_) | (with_reducible refine w_k (by assumption) ?_)
  | (with_reducible refine w_ixOR ?_; refine ⟨_, _, rfl, ?_⟩) | (with_reducible refine w_lenOR ?_; refine ⟨_, _, rfl, ?_⟩) | (with_reducible refine w_slOR ?_; refine ⟨_, _, rfl, ?_⟩) | (with_reducible refine w_callJR ?_; refine ⟨_, _, rfl, ?_⟩)
  | (with_reducible refine w_op ?_) | (with_reducible refine w_cb ?_) | (with_reducible refine w_nil ?_) | (with_reducible refine w_cons ?_)
  | (with_reducible refine w_disp ?_) | (with_reducible refine p_cons ?_) | (with_reducible refine p_nil ?_) | (with_reducible refine w_revT ?_) | (with_reducible refine w_dget ?_) | (with_reducible refine w_din ?_) | (with_reducible refine w_dnin ?_)
  | (with_reducible refine w_tup ?_) | (with_reducible refine w_lst ?_) | (with_reducible refine w_test ?_) | (with_reducible refine w_tB ?_)
  | (with_reducible refine w_not ?_) | (with_reducible refine w_and ?_) | (with_reducible refine w_or ?_) | (with_reducible refine w_if ?_)
  | (with_reducible refine w_notV ?_) | (with_reducible refine w_andV ?_) | (with_reducible refine w_orV ?_) | (with_reducible refine w_chain ?_) | (with_reducible refine w_neg ?_)
  | (with_reducible refine w_sl ?_) | (with_reducible refine o_none ?_) | (with_reducible refine o_some ?_) | (with_reducible refine w_m1 ?_)
  | (with_reducible refine u_addI ?_) | (with_reducible refine u_sub ?_) | (with_reducible refine u_lt ?_) | (with_reducible refine u_le ?_) | (with_reducible refine u_gt ?_) | (with_reducible refine u_ge ?_)
  | (with_reducible refine u_eqI ?_) | (with_reducible refine u_neI ?_) | (with_reducible refine u_eqS ?_) | (with_reducible refine u_neS ?_)
  | (with_reducible refine u_inT ?_) | (with_reducible refine u_eqT0 ?_) | (with_reducible refine u_neT0 ?_) | (with_reducible refine u_neL0 ?_) | (with_reducible refine u_eqL0 ?_)
  | (with_reducible refine r_isN ?_) | (with_reducible refine r_notN ?_) | (with_reducible refine u_int ?_) | (with_reducible refine u_intB ?_)
  | (with_reducible refine k_strS ?_) | (with_reducible refine k_max2 ?_) | (with_reducible refine k_min2 ?_)
  | (with_reducible refine k_tup ?_) | (with_reducible refine k_lenT ?_) | (with_reducible refine k_lenL ?_) | (with_reducible refine u_ixT atI_zero ?_) | (with_reducible refine u_ixL atI_zero ?_) | (with_reducible refine w_callE ?_) | (with_reducible refine w_callX ?_) | (with_reducible refine s_raise (by assumption) ?_) | (with_reducible refine i_rng1 ?_) | (with_reducible refine i_rng2 ?_) | (with_reducible refine i_list ?_) | (with_reducible refine i_tup ?_) | (with_reducible refine i_str ?_) | (with_reducible refine u_slT ?_) | (with_reducible refine u_slL ?_)
  | (with_reducible refine q_set ?_) | (with_reducible refine q_drop ?_) | (with_reducible refine q_par ?_) | (with_reducible refine q_when ?_) | (with_reducible refine q_if ?_)
  | (with_reducible refine s_ret ?_) | (with_reducible refine s_retNon ?_) | (with_reducible refine s_next ?_)
  | (refine ⟨_, rfl, ?_⟩) | (refine ⟨Nat.le_of_ble_eq_true rfl, ?_⟩) | (refine knownT rfl ?_) | (refine knownF rfl ?_) | (refine orT rfl ?_) | (refine orF rfl ?_))
local macro_rules | `(tactic| walk_at "zz") => `(tactic| repeat walk_at "z")
local macro_rules | `(tactic| walk_at "kt") => `(tactic| refine ⟨_, rfl, knownT rfl ?_⟩)
local macro_rules | `(tactic| walk_at "kf") => `(tactic| refine ⟨_, rfl, knownF rfl ?_⟩)
local macro_rules | `(tactic| walk_at "ot") => `(tactic| refine ⟨_, rfl, orT rfl ?_⟩)
local macro_rules | `(tactic| walk_at "of") => `(tactic| refine ⟨_, rfl, orF rfl ?_⟩)
local macro_rules | `(tactic| walk_at "t") => `(tactic| refine knownT rfl ?_)
local macro_rules | `(tactic| walk_at "f") => `(tactic| refine knownF rfl ?_)
local macro_rules | `(tactic| walk_at "bl") => `(tactic| refine ⟨_, rfl, ?_⟩)
local macro_rules | `(tactic| walk_at "br") => `(tactic| refine ⟨fun h => ?_, fun h => ?_⟩)

variable {K : PySem.W.Frag} {T : Tb} {w : World} {vs : List V} {H : Hp} {Q : VK} {E : XK}
theorem cutL_mem {α : Type} {xs : List α} {lo hi : Option Int} {x : α} (h : x ∈ cutL xs lo hi) : x ∈ xs := List.mem_of_mem_drop (List.mem_of_mem_take h)
theorem cutL_len {α : Type} {xs : List α} {lo hi : Option Int} : (cutL xs lo hi).length ≤ xs.length := by
  unfold cutL
  rw [List.length_take, List.length_drop]
  omega
abbrev preBe (js ds : List D) : Prop := JV js ∧ ∃ r : List D, ds = [.tup r] ∧ 1 ≤ r.length ∧ r.length ≤ 10 ∧ ∀ x, x ∈ r → okD 0 x
abbrev postBe (js ds : List D) (d : D) (js' : List D) : Prop := JV js' ∧ okD 3 d
abbrev spBe (K : PySem.W.Frag) (T : Tb) : Sp := SpJ K T preBe postBe
theorem okD_2 {d : D} (h : okD 2 d) : okD 3 d := okD_mono h
theorem okD_1 {d : D} (h : okD 1 d) : okD 2 d := okD_mono h
theorem okD_0 {d : D} (h : okD 0 d) : okD 1 d := okD_mono h
theorem okD_nil {n : Nat} : okD (n + 1) (.tup []) := okD_tup.mpr ⟨Nat.le_of_ble_eq_true rfl, fun x hx => by cases hx⟩
theorem okD_one {n : Nat} {a : D} (h : okD n a) : okD (n + 1) (.tup [a]) := okD_tup.mpr ⟨Nat.le_of_ble_eq_true rfl, fun x hx => by rw [List.mem_singleton.mp hx]; exact h⟩
theorem okD_cat {n : Nat} {a b : List D} (h1 : a.length + b.length < 1000) (h2 : ∀ x, x ∈ a → okD n x) (h3 : ∀ x, x ∈ b → okD n x) : okD (n + 1) (.tup (a ++ b)) := okD_tup.mpr ⟨by rw [List.length_append]; exact h1, fun x hx => by
  rcases List.mem_append.mp hx with hx | hx
  · exact h2 x hx
  · exact h3 x hx⟩
theorem fa_cons {n : Nat} {a : D} {r : List D} (h : okD n a) (h2 : ∀ x, x ∈ r → okD n x) : ∀ x, x ∈ a :: r → okD n x := fun x hx => by
  rcases List.mem_cons.mp hx with rfl | hx
  · exact h
  · exact h2 x hx
theorem fa_nil {n : Nat} : ∀ x, x ∈ ([] : List D) → okD n x := fun x hx => by cases hx
theorem ws_be (c : Cd) (p : Addr) (js ds : List D) (hp : preBe js ds) : WpS c (t_law_dl_bent c.K (spTk c.K c.T) (spOne c.K c.T)) (RetJ (postBe js ds) p) (some (.own p js) :: args ds 4) := by
  obtain ⟨hj, r, rfl, hl1, hl2, hr⟩ := hp
  have hz : sizeLine = 16777216 := sizeLine_eq
  have h1 : okD 1 (.tup r) := okD_tup.mpr ⟨by omega, hr⟩
  have cut : ∀ lo hi, ∀ x, x ∈ cutL r lo hi → okD 0 x := fun lo hi x hx => hr x (cutL_mem hx)
  have cl : ∀ lo hi, (cutL r lo hi).length ≤ 10 := fun lo hi => by have := cutL_len (xs := r) (lo := lo) (hi := hi); omega
  obtain ⟨x0, r0, rfl⟩ : ∃ x0 r0, r = x0 :: r0 := by
    cases r with
    | nil => simp at hl1
    | cons a b => exact ⟨a, b, rfl⟩
  unfold t_law_dl_bent
  walk_at "zz"
  refine ⟨⟨hj, _, rfl, by omega, by omega⟩, fun d es he => ?_⟩
  obtain ⟨hj1, at_, rfl, g1, g2⟩ := he
  have g2 := g2 _ rfl
  walk_at "zz"
  refine ⟨⟨hj1, _, rfl, by decide, by decide⟩, fun d es2 he => ?_⟩
  obtain ⟨hj2, form, rfl, g3, g4⟩ := he
  walk_at "zz"
  refine ⟨_, _, rfl, Nat.le_of_ble_eq_true rfl, Nat.le_of_ble_eq_true rfl, ?_⟩
  walk_at "zz"
  refine ⟨fun h => ?_, fun h => ?_⟩
  · walk_at "zz"
    have a1 := cl none (some at_)
    have a2 := cl (some (at_ + 1)) none
    refine u_addT (by omega) ?_
    exact ⟨_, _, rfl, rfl, hj2, okD_2 (okD_1 (okD_cat (by omega) (cut _ _) (cut _ _)))⟩
  walk_at "zz"
  refine ⟨fun h => ?_, fun h => ?_⟩
  · walk_at "zz"
    have a1 := cl (some at_) (some (at_ + 1))
    refine u_addT (by omega) ?_
    exact ⟨_, _, rfl, rfl, hj2, okD_2 (okD_1 (okD_cat (by omega) hr (cut _ _)))⟩
  walk_at "zz"
  refine ⟨fun h => ?_, fun h => ?_⟩
  · walk_at "zz"
    refine CD.of_N (k_lstT ?_)
    walk_at "zz"
    refine ⟨⟨hj2, _, rfl, by simp, Nat.le_of_ble_eq_true rfl⟩, fun d es he => ?_⟩
    obtain ⟨hj3, h3⟩ := he
    refine ⟨_, _, rfl, rfl, hj3, okD_2 ?_⟩
    have all : ∀ x, x ∈ [D.non, .tup [], .lst (x0 :: r0), x0, .int 5, .tup [.tup (x0 :: r0)], .tup (x0 :: r0).reverse, .tup [.str "undo"], .tup [.str "redo"]] → okD 2 x :=
      fa_cons okD_non (fa_cons okD_nil (fa_cons (okD_mono (okD_lst.mpr ⟨by omega, hr⟩)) (fa_cons (okD_mono (okD_mono (hr x0 (List.mem_cons_self ..)))) (fa_cons okD_int (fa_cons (okD_one h1) (fa_cons (okD_1 (okD_tup.mpr ⟨by rw [List.length_reverse]; omega, fun x hx => hr x (List.mem_reverse.mp hx)⟩)) (fa_cons (okD_one okD_str) (fa_cons (okD_one okD_str) fa_nil))))))))
    exact all d (h3 _ rfl)
  walk_at "zz"
  refine u_pow ⟨by decide, by decide, by decide⟩ ?_
  walk_at "zz"
  refine u_pow ⟨by decide, by decide, by decide⟩ ?_
  walk_at "zz"
  obtain ⟨k, rfl⟩ := Int.eq_ofNat_of_zero_le g1
  obtain ⟨y, hy⟩ : ∃ y, (x0 :: r0)[k]? = some y := ⟨_, List.getElem?_eq_getElem (by omega)⟩
  refine u_ixT (d := y) (atI_nat hy) ?_
  walk_at "zz"
  have hy0 := hr y (List.mem_of_getElem? hy)
  -- what is put in
  have fin : ∀ (e : D) (js3 : List D) (ρ : Rho), JV js3 → okD 1 e → ρ[0]? = some (some (.own p js3)) → ρ[1]? = some (some (.dat (.tup (x0 :: r0)))) → ρ[2]? = some (some (.dat (.int k))) →
      EvA c tNil ρ fun ds ρ2 => (e :: ds).length ≤ sizeLine ∧ RD c.K (rAddU c.K) (.tup (cutL (x0 :: r0) none (some (k : Int)))) (.tup (e :: ds)) fun d => EvD c (tSl (rSlU c.K) (tVar 1) (tPart (tOp (rAddU c.K) (tVar 2) (tC (.int 1)))) tNoPart) ρ2 fun d2 ρ3 => RD c.K (rAddU c.K) d d2 fun d => (RetJ (postBe js [.tup (x0 :: r0)]) p).rt (.dat d) ρ3 := fun e js3 ρ hj3 he0 e0 e1 e2 => by
    refine w_nil ⟨by show 1 ≤ _; omega, ?_⟩
    have a1 := cl none (some (k : Int))
    have a2 := cl (some ((k : Int) + 1)) none
    refine u_addT (by show _ + 1 ≤ _; omega) ?_
    refine w_sl (w_var e1 (o_some (w_op (w_var e2 (w_int (u_addI ⟨_, rfl, ?_⟩))))))
    refine o_none (u_slT ?_)
    have a3 : (cutL (x0 :: r0) none (some (k : Int)) ++ [e]).length ≤ 11 := by rw [List.length_append]; show _ + 1 ≤ _; omega
    refine u_addT (by omega) ?_
    refine ⟨_, _, rfl, e0, hj3, okD_2 (okD_cat (by omega) (fun z hz2 => ?_) fun z hz2 => okD_0 (cut _ _ z hz2))⟩
    rcases List.mem_append.mp hz2 with hz2 | hz2
    · exact okD_0 (cut _ _ z hz2)
    · rw [List.mem_singleton.mp hz2]
      exact he0
  refine ⟨fun h => ?_, fun h => ?_⟩
  · walk_at "zz"
    refine ⟨⟨hj2, _, rfl, by simp, Nat.le_of_ble_eq_true rfl⟩, fun d es he => ?_⟩
    obtain ⟨hj3, h3⟩ := he
    have all : ∀ x, x ∈ [D.str "add", .str "drop", .str "price", .str "budget", .str "floor", .str "unfloor", .str "Add", .str "", .non, .int 0] → okD 1 x :=
      fa_cons okD_str (fa_cons okD_str (fa_cons okD_str (fa_cons okD_str (fa_cons okD_str (fa_cons okD_str (fa_cons okD_str (fa_cons okD_str (fa_cons okD_non (fa_cons okD_int fa_nil)))))))))
    exact fin d es _ hj3 (all d (h3 _ rfl)) rfl rfl rfl
  · walk_at "zz"
    refine ⟨⟨hj2, _, rfl, by simp, Nat.le_of_ble_eq_true rfl⟩, fun d es he => ?_⟩
    obtain ⟨hj3, h3⟩ := he
    have all : ∀ x, x ∈ [D.int 0, .int (-1), .int (-2), .int (10 ^ (20 : Int).toNat - 1), .int (10 ^ (20 : Int).toNat), .bl true, .bl false, .non, .str "1", .tup [.int 1], y] → okD 1 x :=
      fa_cons okD_int (fa_cons okD_int (fa_cons okD_int (fa_cons okD_int (fa_cons okD_int (fa_cons okD_bl (fa_cons okD_bl (fa_cons okD_non (fa_cons okD_str (fa_cons (okD_one okD_int) (fa_cons (okD_0 hy0) fa_nil))))))))))
    exact fin d es _ hj3 (all d (h3 _ rfl)) rfl rfl rfl
theorem wp_be (h : spBe K T vs H Q E) : t_law_dl_bent K (spTk K T) (spOne K T) { nx := fun _ H' => Q .non H', rt := Q } (L2.start n_law_dl_bent vs) H :=
  fn_JR 2 h (by rintro js ds ⟨_, _, rfl, _⟩; rfl) fun c p js ds a1 a2 a3 hp => by subst a1 a2; exact ws_be c p js ds hp
end K83

/-! ## WT -/
set_option Elab.async false
set_option linter.all false
set_option maxRecDepth 100000
set_option maxHeartbeats 4000000
namespace K83
open PySem PySem.Spec PyProof.Rows L2 Zd
local macro_rules | `(tactic| walk_at "z") => `(tactic| first
  | (with_reducible refine w_int ?_) | (with_reducible refine w_str ?_) | (with_reducible refine w_bl ?_) | (with_reducible refine w_non ?_)
  | (with_reducible refine w_varR ?_; refine ⟨_, rfl, ?_⟩)
  | (with_reducible refine w_isInt ?_) | (with_reducible refine w_isBool ?_) | (with_reducible refine w_isStr ?_) | (with_reducible refine w_isTup ?_) | (with_reducible refine w_isLst ?_)
  | (with_reducible refine w_kdGet (by assumption) ?_) | (with_reducible refine w_kdIn (by assumption) ?_) | (with_reducible refine w_kdNotIn (by assumption) ?_) | (with_reducible refine w_k (by assumption) ?_)
  | (with_reducible refine w_ixOR ?_; refine ⟨_, _, rfl, ?_⟩) | (with_reducible refine w_lenOR ?_; refine ⟨_, _, rfl, ?_⟩) | (with_reducible refine w_slOR ?_; refine ⟨_, _, rfl, ?_⟩) | (with_reducible refine w_callJR ?_; refine ⟨_, _, rfl, ?_⟩)
  | (with_reducible refine w_op ?_) | (with_reducible refine w_cb ?_) | (with_reducible refine w_nil ?_) | (with_reducible refine w_cons ?_)
  | (with_reducible refine w_disp ?_) | (with_reducible refine p_cons ?_) | (with_reducible refine p_nil ?_) | (with_reducible refine w_revT ?_) | (with_reducible refine w_dget ?_) | (with_reducible refine w_din ?_) | (with_reducible refine w_dnin ?_)
  | (with_reducible refine w_tup ?_) | (with_reducible refine w_lst ?_) | (with_reducible refine w_test ?_) | (with_reducible refine w_tB ?_)
  | (with_reducible refine w_not ?_) | (with_reducible refine w_and ?_) | (with_reducible refine w_or ?_) | (with_reducible refine w_if ?_)
  | (with_reducible refine w_notV ?_) | (with_reducible refine w_andV ?_) | (with_reducible refine w_orV ?_) | (with_reducible refine w_chain ?_) | (with_reducible refine w_neg ?_)
  | (with_reducible refine w_sl ?_) | (with_reducible refine o_none ?_) | (with_reducible refine o_some ?_) | (with_reducible refine w_m1 ?_)
  | (with_reducible refine u_addI ?_) | (with_reducible refine u_sub ?_) | (with_reducible refine u_lt ?_) | (with_reducible refine u_le ?_) | (with_reducible refine u_gt ?_) | (with_reducible refine u_ge ?_)
  | (with_reducible refine u_eqI ?_) | (with_reducible refine u_neI ?_) | (with_reducible refine u_eqS ?_) | (with_reducible refine u_neS ?_)
  | (with_reducible refine u_inT ?_) | (with_reducible refine u_eqT0 ?_) | (with_reducible refine u_neT0 ?_) | (with_reducible refine u_neL0 ?_) | (with_reducible refine u_eqL0 ?_)
  | (with_reducible refine r_isN ?_) | (with_reducible refine r_notN ?_) | (with_reducible refine u_int ?_) | (with_reducible refine u_intB ?_)
  | (with_reducible refine k_strS ?_) | (with_reducible refine k_max2 ?_) | (with_reducible refine k_min2 ?_)
  | (with_reducible refine k_tup ?_) | (with_reducible refine k_lenT ?_) | (with_reducible refine k_lenL ?_) | (with_reducible refine u_ixT atI_zero ?_) | (with_reducible refine u_ixL atI_zero ?_) | (with_reducible refine w_callE ?_) | (with_reducible refine w_callX ?_) | (with_reducible refine s_raise (by assumption) ?_) | (with_reducible refine i_rng1 ?_) | (with_reducible refine i_rng2 ?_) | (with_reducible refine i_list ?_) | (with_reducible refine i_tup ?_) | (with_reducible refine i_str ?_) | (with_reducible refine u_slT ?_) | (with_reducible refine u_slL ?_)
  | (with_reducible refine q_set ?_) | (with_reducible refine q_drop ?_) | (with_reducible refine q_par ?_) | (with_reducible refine q_when ?_) | (with_reducible refine q_if ?_)
  | (with_reducible refine s_ret ?_) | (with_reducible refine s_retNon ?_) | (with_reducible refine s_next ?_)
  | (refine ⟨_, rfl, ?_⟩) | (refine ⟨Nat.le_of_ble_eq_true rfl, ?_⟩) | (refine knownT rfl ?_) | (refine knownF rfl ?_) | (refine orT rfl ?_) | (refine orF rfl ?_))
local macro_rules | `(tactic| walk_at "zz") => `(tactic| repeat walk_at "z")
local macro_rules | `(tactic| walk_at "kt") => `(tactic| refine ⟨_, rfl, knownT rfl ?_⟩)
local macro_rules | `(tactic| walk_at "kf") => `(tactic| refine ⟨_, rfl, knownF rfl ?_⟩)
local macro_rules | `(tactic| walk_at "ot") => `(tactic| refine ⟨_, rfl, orT rfl ?_⟩)
local macro_rules | `(tactic| walk_at "of") => `(tactic| refine ⟨_, rfl, orF rfl ?_⟩)
local macro_rules | `(tactic| walk_at "t") => `(tactic| refine knownT rfl ?_)
local macro_rules | `(tactic| walk_at "f") => `(tactic| refine knownF rfl ?_)
local macro_rules | `(tactic| walk_at "bl") => `(tactic| refine ⟨_, rfl, ?_⟩)
local macro_rules | `(tactic| walk_at "br") => `(tactic| refine ⟨fun h => ?_, fun h => ?_⟩)

variable {K : PySem.W.Frag} {T : Tb} {w : World} {vs : List V} {H : Hp} {Q : VK} {E : XK}
theorem fa_app {α : Type} {p : α → Prop} {a b : List α} (h1 : ∀ x, x ∈ a → p x) (h2 : ∀ x, x ∈ b → p x) : ∀ x, x ∈ a ++ b → p x := fun x hx => by
  rcases List.mem_append.mp hx with hx | hx
  · exact h1 x hx
  · exact h2 x hx
theorem fg_cons {α : Type} {p : α → Prop} {a : α} {r : List α} (h : p a) (h2 : ∀ x, x ∈ r → p x) : ∀ x, x ∈ a :: r → p x := fun x hx => by
  rcases List.mem_cons.mp hx with rfl | hx
  · exact h
  · exact h2 x hx
theorem fg_nil {α : Type} {p : α → Prop} : ∀ x, x ∈ ([] : List α) → p x := fun x hx => by cases hx
theorem rep_len (x : Str) (n : Nat) : (ZdU.rep x n).length = n * x.length := by
  have key : ∀ (n : Nat) (a : Array Nat), ((List.replicate n x.cps).foldl (· ++ ·) a).size = a.size + n * x.cps.size := fun n => by
    induction n with
    | zero => intro a; simp
    | succ k ih =>
      intro a
      rw [List.replicate_succ, List.foldl_cons, ih, Array.size_append, Nat.succ_mul]
      omega
  show ((List.replicate n x.cps).foldl (· ++ ·) #[]).size = n * x.cps.size
  rw [key]
  simp
theorem app_len (a b : Str) : (a ++ b).length = a.length + b.length := Array.size_append
def txtOk (d : D) : Prop := ∃ s : Str, d = .str s ∧ s.length ≤ 150000
theorem txt_lit {s : Str} (h : decide (s.length ≤ 150000) = true) : txtOk (.str s) := ⟨s, rfl, of_decide_eq_true h⟩
abbrev postPl (js ds : List D) (d : D) (js' : List D) : Prop := JV js' ∧ d = .bl true
abbrev spPl (K : PySem.W.Frag) (T : Tb) : Sp := SpJ K T preWd1 postPl
theorem filter_none (ds : List D) : ds.filter (fun _ => false) = [] := List.filter_eq_nil_iff.mpr fun _ _ z => by cases z
abbrev stA (p : Addr) (es : List D) (k : Int) (q : Addr) (L : List D) : Rho := [some (.own p es), some (.dat (.int k)), some (.dat (.int (10 ^ (20 : Int).toNat - 1))), some (.own q L), none, none, none, none]
abbrev stB (p : Addr) (es : List D) (k : Int) (L0 : List D) (nine : Str) (q : Addr) (L : List D) : Rho := [some (.own p es), some (.dat (.int k)), some (.dat (.int (10 ^ (20 : Int).toNat - 1))), some (.dat (.lst L0)), some (.dat (.str nine)), some (.own q L), none, none]
theorem ws_pl (c : Cd) (p : Addr) (hS : ∀ q, c.S q → q = p) (js ds : List D) (hp : preWd1 js ds) : WpS c (t_law_dl_planted_right c.K (spTk c.K c.T) (spTrue c.K c.T preTh) (spTrue c.K c.T preTr)) (RetJ (postPl js ds) p) (some (.own p js) :: args ds 7) := by
  obtain ⟨hj, rfl⟩ := hp
  have hz : sizeLine = 16777216 := sizeLine_eq
  unfold t_law_dl_planted_right
  walk_at "zz"
  refine ⟨⟨hj, _, rfl, by decide, by decide⟩, fun d es he => ?_⟩
  obtain ⟨hj1, k, rfl, g1, g2⟩ := he
  have g2 := g2 _ rfl
  walk_at "zz"
  refine u_pow ⟨by decide, by decide, by decide⟩ ?_
  walk_at "zz"
  refine ⟨_, _, rfl, Nat.le_of_ble_eq_true rfl, Nat.le_of_ble_eq_true rfl, ?_⟩
  refine q_setN ?_
  refine w_lstN ?_
  walk_at "zz"
  intro q
  obtain ⟨L, eL⟩ : ∃ L, L = [D.tup [.str "add", .int (10 ^ (20 : Int).toNat - 1), .int (10 ^ (20 : Int).toNat - 1), .int (10 ^ (20 : Int).toNat - 1), .int (10 ^ (20 : Int).toNat - 1)], .tup [.str "add", .int 0, .int 0, .int 0, .int (-1)], .tup [.str "add", .int 0, .int 0, .int 0, .int (-2)], .tup [.str "add", .int (10 ^ (20 : Int).toNat - 1 + k), .int 0, .int 2, .int 1]] := ⟨_, rfl⟩
  have hL : (∀ x, x ∈ L → okD 3 x) ∧ L.length ≤ 4 := by
    rw [eL]
    refine ⟨?_, Nat.le_of_ble_eq_true rfl⟩
    repeat' first
      | exact okD_int | exact okD_str | exact okD_bl | exact okD_non | exact fa_nil
      | refine fa_cons ?_ ?_
      | refine okD_tup.mpr ⟨Nat.le_of_ble_eq_true rfl, ?_⟩
      | refine okD_lst.mpr ⟨Nat.le_of_ble_eq_true rfl, ?_⟩
  show WpS c _ _ (stA p es k q [_, _, _, _])
  rw [← eL]
  clear eL
  refine q_appP (p := okD 3) (n := 4) rfl hL (by rw [hz]; decide) ?_
  walk_at "zz"
  refine ⟨rfl, ?_, fun L hL => ?_⟩
  · repeat' first
      | exact okD_int | exact okD_str | exact okD_bl | exact okD_non | exact fa_nil
      | refine fa_cons ?_ ?_
      | refine okD_tup.mpr ⟨Nat.le_of_ble_eq_true rfl, ?_⟩
      | refine okD_lst.mpr ⟨Nat.le_of_ble_eq_true rfl, ?_⟩
  show WpS c _ _ (stA p es k q L)
  refine q_extP (p := okD 3) (n := 5) (k := 5) rfl hL (by rw [hz]; decide) ?_
  walk_at "zz"
  refine ⟨rfl, _, rfl, Nat.le_of_ble_eq_true rfl, ?_, fun L hL => ?_⟩
  · repeat' first
      | exact okD_int | exact okD_str | exact okD_bl | exact okD_non | exact fa_nil
      | refine fa_cons ?_ ?_
      | refine okD_tup.mpr ⟨Nat.le_of_ble_eq_true rfl, ?_⟩
      | refine okD_lst.mpr ⟨Nat.le_of_ble_eq_true rfl, ?_⟩
  show WpS c _ _ (stA p es k q L)
  refine q_appP (p := okD 3) (n := 10) rfl hL (by rw [hz]; decide) ?_
  walk_at "zz"
  refine ⟨rfl, ?_, fun L hL => ?_⟩
  · repeat' first
      | exact okD_int | exact okD_str | exact okD_bl | exact okD_non | exact fa_nil
      | refine fa_cons ?_ ?_
      | refine okD_tup.mpr ⟨Nat.le_of_ble_eq_true rfl, ?_⟩
      | refine okD_lst.mpr ⟨Nat.le_of_ble_eq_true rfl, ?_⟩
  show WpS c _ _ (stA p es k q L)
  refine q_extP (p := okD 3) (n := 11) (k := 5) rfl hL (by rw [hz]; decide) ?_
  walk_at "zz"
  refine ⟨rfl, _, rfl, Nat.le_of_ble_eq_true rfl, ?_, fun L hL => ?_⟩
  · repeat' first
      | exact okD_int | exact okD_str | exact okD_bl | exact okD_non | exact fa_nil
      | refine fa_cons ?_ ?_
      | refine okD_tup.mpr ⟨Nat.le_of_ble_eq_true rfl, ?_⟩
      | refine okD_lst.mpr ⟨Nat.le_of_ble_eq_true rfl, ?_⟩
  show WpS c _ _ (stA p es k q L)
  refine q_appP (p := okD 3) (n := 16) rfl hL (by rw [hz]; decide) ?_
  walk_at "zz"
  refine ⟨rfl, ?_, fun L hL => ?_⟩
  · repeat' first
      | exact okD_int | exact okD_str | exact okD_bl | exact okD_non | exact fa_nil
      | refine fa_cons ?_ ?_
      | refine okD_tup.mpr ⟨Nat.le_of_ble_eq_true rfl, ?_⟩
      | refine okD_lst.mpr ⟨Nat.le_of_ble_eq_true rfl, ?_⟩
  show WpS c _ _ (stA p es k q L)
  refine q_extP (p := okD 3) (n := 17) (k := 7) rfl hL (by rw [hz]; decide) ?_
  walk_at "zz"
  refine ⟨rfl, _, rfl, Nat.le_of_ble_eq_true rfl, ?_, fun L hL => ?_⟩
  · repeat' first
      | exact okD_int | exact okD_str | exact okD_bl | exact okD_non | exact fa_nil
      | refine fa_cons ?_ ?_
      | refine okD_tup.mpr ⟨Nat.le_of_ble_eq_true rfl, ?_⟩
      | refine okD_lst.mpr ⟨Nat.le_of_ble_eq_true rfl, ?_⟩
  show WpS c _ _ (stA p es k q L)
  refine q_appP (p := okD 3) (n := 24) rfl hL (by rw [hz]; decide) ?_
  walk_at "zz"
  refine ⟨rfl, ?_, fun L hL => ?_⟩
  · repeat' first
      | exact okD_int | exact okD_str | exact okD_bl | exact okD_non | exact fa_nil
      | refine fa_cons ?_ ?_
      | refine okD_tup.mpr ⟨Nat.le_of_ble_eq_true rfl, ?_⟩
      | refine okD_lst.mpr ⟨Nat.le_of_ble_eq_true rfl, ?_⟩
  show WpS c _ _ (stA p es k q L)
  refine s_frz 3 rfl (fun a z => ⟨0, by decide, es, by have e := hS a z; subst e; rfl⟩) ?_
  refine q_when ?_
  refine w_test ?_
  refine w_op ?_
  refine w_filter (fun _ => false) ?_
  walk_at "zz"
  refine ⟨by have := hL.2; omega, rfl, Nat.le_of_ble_eq_true rfl, fun d hm => ?_, ?_⟩
  · walk_at "zz"
    refine ⟨⟨d, rfl, hL.1 d hm⟩, fun d hd => ?_⟩
    have hd : d = .bl true := hd
    subst hd
    exact ⟨_, rfl, rfl, rfl⟩
  rw [filter_none]
  walk_at "zz"
  have hk : (20 + k).toNat = 20 ∨ (20 + k).toNat = 21 := by omega
  have hr : (ZdU.rep "9" (20 + k).toNat).length ≤ 21 := by
    rw [rep_len, show ("9" : Str).length = 1 by decide +kernel]
    omega
  have h9 : ("9" : Str).length = 1 := by decide +kernel
  refine u_mulS (by omega) (by omega) (by rw [h9]; exact Nat.le_refl 1) (by rw [h9]; omega) (by omega) ?_
  refine ⟨Nat.le_of_ble_eq_true rfl, ?_⟩
  revert hr
  generalize ZdU.rep "9" (20 + k).toNat = nine
  intro hr
  have hb : ("budget " : Str).length = 7 := by decide +kernel
  have hd5 : ("drop " : Str).length = 5 := by decide +kernel
  have hp6 : ("price " : Str).length = 6 := by decide +kernel
  have h2 : (" 1" : Str).length = 2 := by decide +kernel
  have tb : txtOk (.str ("budget " ++ nine)) := ⟨_, rfl, by rw [app_len]; omega⟩
  have td : txtOk (.str ("drop " ++ nine)) := ⟨_, rfl, by rw [app_len]; omega⟩
  have tp : txtOk (.str ("price " ++ nine ++ " 1")) := ⟨_, rfl, by rw [app_len, app_len]; omega⟩
  generalize L = L0
  refine q_setN ?_
  refine w_lstN ?_
  walk_at "zz"
  intro q2
  obtain ⟨L, eL⟩ : ∃ L, L = [D.str "", .str "\n", .str "drop 0", .str "drop 0\n", .str "drop 0\ndrop 0", .str "drop 0 ", .str " drop 0", .str "undo", .str "redo", .str "Drop 0"] := ⟨_, rfl⟩
  clear hL
  have hL : (∀ x, x ∈ L → txtOk x) ∧ L.length ≤ 10 := by
    rw [eL]
    refine ⟨?_, Nat.le_of_ble_eq_true rfl⟩
    repeat' first
      | assumption | exact fg_nil
      | exact txt_lit (by decide +kernel)
      | refine fg_cons ?_ ?_
  show WpS c _ _ (stB p es k L0 nine q2 [_, _, _, _, _, _, _, _, _, _])
  rw [← eL]
  clear eL
  refine q_appP (p := txtOk) (n := 10) rfl hL (by rw [hz]; decide) ?_
  walk_at "zz"
  refine ⟨rfl, ?_, fun L hL => ?_⟩
  · repeat' first
      | assumption | exact fg_nil
      | exact txt_lit (by decide +kernel)
      | refine fg_cons ?_ ?_
  show WpS c _ _ (stB p es k L0 nine q2 L)
  refine q_extP (p := txtOk) (n := 11) (k := 6) rfl hL (by rw [hz]; decide) ?_
  walk_at "zz"
  refine ⟨rfl, _, rfl, Nat.le_of_ble_eq_true rfl, ?_, fun L hL => ?_⟩
  · repeat' first
      | assumption | exact fg_nil
      | exact txt_lit (by decide +kernel)
      | refine fg_cons ?_ ?_
  show WpS c _ _ (stB p es k L0 nine q2 L)
  refine q_extP (p := txtOk) (n := 17) (k := 2) rfl hL (by rw [hz]; decide) ?_
  walk_at "zz"
  refine ⟨rfl, _, rfl, Nat.le_of_ble_eq_true rfl, ?_, fun L hL => ?_⟩
  · repeat' first
      | assumption | exact fg_nil
      | exact txt_lit (by decide +kernel)
      | refine fg_cons ?_ ?_
  show WpS c _ _ (stB p es k L0 nine q2 L)
  refine q_extP (p := txtOk) (n := 19) (k := 6) rfl hL (by rw [hz]; decide) ?_
  walk_at "zz"
  refine ⟨rfl, _, rfl, Nat.le_of_ble_eq_true rfl, ?_, fun L hL => ?_⟩
  · repeat' first
      | assumption | exact fg_nil
      | exact txt_lit (by decide +kernel)
      | refine fg_cons ?_ ?_
  show WpS c _ _ (stB p es k L0 nine q2 L)
  refine q_appP (p := txtOk) (n := 25) rfl hL (by rw [hz]; decide) ?_
  walk_at "zz"
  refine u_addS (by omega) ?_
  refine ⟨rfl, ?_, fun L hL => ?_⟩
  · repeat' first
      | assumption | exact fg_nil
      | exact txt_lit (by decide +kernel)
      | refine fg_cons ?_ ?_
  show WpS c _ _ (stB p es k L0 nine q2 L)
  refine q_extP (p := txtOk) (n := 26) (k := 6) rfl hL (by rw [hz]; decide) ?_
  walk_at "zz"
  refine ⟨rfl, _, rfl, Nat.le_of_ble_eq_true rfl, ?_, fun L hL => ?_⟩
  · repeat' first
      | assumption | exact fg_nil
      | exact txt_lit (by decide +kernel)
      | refine fg_cons ?_ ?_
  show WpS c _ _ (stB p es k L0 nine q2 L)
  refine q_extP (p := txtOk) (n := 32) (k := 2) rfl hL (by rw [hz]; decide) ?_
  walk_at "zz"
  refine ⟨rfl, _, rfl, Nat.le_of_ble_eq_true rfl, ?_, fun L hL => ?_⟩
  · repeat' first
      | assumption | exact fg_nil
      | exact txt_lit (by decide +kernel)
      | refine fg_cons ?_ ?_
  show WpS c _ _ (stB p es k L0 nine q2 L)
  refine q_extP (p := txtOk) (n := 34) (k := 5) rfl hL (by rw [hz]; decide) ?_
  walk_at "zz"
  refine u_addS (by omega) ?_
  walk_at "zz"
  refine ⟨rfl, _, rfl, Nat.le_of_ble_eq_true rfl, ?_, fun L hL => ?_⟩
  · repeat' first
      | assumption | exact fg_nil
      | exact txt_lit (by decide +kernel)
      | refine fg_cons ?_ ?_
  show WpS c _ _ (stB p es k L0 nine q2 L)
  refine q_extP (p := txtOk) (n := 39) (k := 2) rfl hL (by rw [hz]; decide) ?_
  walk_at "zz"
  refine u_addS (by omega) ?_
  walk_at "zz"
  refine u_addS (by rw [app_len]; omega) ?_
  walk_at "zz"
  refine ⟨rfl, _, rfl, Nat.le_of_ble_eq_true rfl, ?_, fun L hL => ?_⟩
  · repeat' first
      | assumption | exact fg_nil
      | exact txt_lit (by decide +kernel)
      | refine fg_cons ?_ ?_
  show WpS c _ _ (stB p es k L0 nine q2 L)
  refine s_frz 5 rfl (fun a z => ⟨0, by decide, es, by have e := hS a z; subst e; rfl⟩) ?_
  refine s_ret ?_
  refine w_op ?_
  refine w_filter (fun _ => false) ?_
  walk_at "zz"
  refine ⟨by have := hL.2; omega, rfl, Nat.le_of_ble_eq_true rfl, fun d hm => ?_, ?_⟩
  · obtain ⟨s, rfl, hs⟩ := hL.1 d hm
    walk_at "zz"
    refine ⟨⟨s, rfl, hs⟩, fun d hd => ?_⟩
    have hd : d = .bl true := hd
    subst hd
    exact ⟨_, rfl, rfl, rfl⟩
  rw [filter_none]
  walk_at "zz"
  exact ⟨_, _, rfl, rfl, hj1, rfl⟩
theorem wp_pl (h : spPl K T vs H Q E) : t_law_dl_planted_right K (spTk K T) (spTrue K T preTh) (spTrue K T preTr) { nx := fun _ H' => Q .non H', rt := Q } (L2.start n_law_dl_planted_right vs) H :=
  fn_JR 1 h (by rintro js ds ⟨_, rfl⟩; rfl) fun c p js ds a1 a2 a3 hp => by subst a1 a2; exact ws_pl c p a3 js ds hp
end K83

/-! ## WU -/
set_option Elab.async false
set_option linter.all false
set_option maxRecDepth 100000
set_option maxHeartbeats 4000000
namespace K83
open PySem PySem.Spec PyProof.Rows L2 Zd
local macro_rules | `(tactic| walk_at "z") => `(tactic| first
  | (with_reducible refine w_int ?_) | (with_reducible refine w_str ?_) | (with_reducible refine w_bl ?_) | (with_reducible refine w_non ?_)
  | (with_reducible refine w_varR ?_; refine ⟨_, rfl, ?_⟩)
  | (with_reducible refine w_isInt ?_) | (with_reducible refine w_isBool ?_) | (with_reducible refine w_isStr ?_) | (with_reducible refine w_isTup ?_) | (with_reducible refine w_isLst ?_)
  | (with_reducible refine w_kdGet (by assumption) ?_) | (with_reducible refine w_kdIn (by assumption) ?_) | (with_reducible refine w_kdNotIn (by assumption) ?_) | (with_reducible refine w_k (by assumption) ?_)
  | (with_reducible refine w_ixOR ?_; refine ⟨_, _, rfl, ?_⟩) | (with_reducible refine w_lenOR ?_; refine ⟨_, _, rfl, ?_⟩) | (with_reducible refine w_slOR ?_; refine ⟨_, _, rfl, ?_⟩) | (with_reducible refine w_callJR ?_; refine ⟨_, _, rfl, ?_⟩)
  | (with_reducible refine w_op ?_) | (with_reducible refine w_cb ?_) | (with_reducible refine w_nil ?_) | (with_reducible refine w_cons ?_)
  | (with_reducible refine w_disp ?_) | (with_reducible refine p_cons ?_) | (with_reducible refine p_nil ?_) | (with_reducible refine w_revT ?_) | (with_reducible refine w_dget ?_) | (with_reducible refine w_din ?_) | (with_reducible refine w_dnin ?_)
  | (with_reducible refine w_tup ?_) | (with_reducible refine w_lst ?_) | (with_reducible refine w_test ?_) | (with_reducible refine w_tB ?_)
  | (with_reducible refine w_not ?_) | (with_reducible refine w_and ?_) | (with_reducible refine w_or ?_) | (with_reducible refine w_if ?_)
  | (with_reducible refine w_notV ?_) | (with_reducible refine w_andV ?_) | (with_reducible refine w_orV ?_) | (with_reducible refine w_chain ?_) | (with_reducible refine w_neg ?_)
  | (with_reducible refine w_sl ?_) | (with_reducible refine o_none ?_) | (with_reducible refine o_some ?_) | (with_reducible refine w_m1 ?_)
  | (with_reducible refine u_addI ?_) | (with_reducible refine u_sub ?_) | (with_reducible refine u_lt ?_) | (with_reducible refine u_le ?_) | (with_reducible refine u_gt ?_) | (with_reducible refine u_ge ?_)
  | (with_reducible refine u_eqI ?_) | (with_reducible refine u_neI ?_) | (with_reducible refine u_eqS ?_) | (with_reducible refine u_neS ?_)
  | (with_reducible refine u_inT ?_) | (with_reducible refine u_eqT0 ?_) | (with_reducible refine u_neT0 ?_) | (with_reducible refine u_neL0 ?_) | (with_reducible refine u_eqL0 ?_)
  | (with_reducible refine r_isN ?_) | (with_reducible refine r_notN ?_) | (with_reducible refine u_int ?_) | (with_reducible refine u_intB ?_)
  | (with_reducible refine k_strS ?_) | (with_reducible refine k_max2 ?_) | (with_reducible refine k_min2 ?_)
  | (with_reducible refine k_tup ?_) | (with_reducible refine k_lenT ?_) | (with_reducible refine k_lenL ?_) | (with_reducible refine u_ixT atI_zero ?_) | (with_reducible refine u_ixL atI_zero ?_) | (with_reducible refine w_callE ?_) | (with_reducible refine w_callX ?_) | (with_reducible refine s_raise (by assumption) ?_) | (with_reducible refine i_rng1 ?_) | (with_reducible refine i_rng2 ?_) | (with_reducible refine i_list ?_) | (with_reducible refine i_tup ?_) | (with_reducible refine i_str ?_) | (with_reducible refine u_slT ?_) | (with_reducible refine u_slL ?_)
  | (with_reducible refine q_set ?_) | (with_reducible refine q_drop ?_) | (with_reducible refine q_par ?_) | (with_reducible refine q_when ?_) | (with_reducible refine q_if ?_)
  | (with_reducible refine s_ret ?_) | (with_reducible refine s_retNon ?_) | (with_reducible refine s_next ?_)
  | (refine ⟨_, rfl, ?_⟩) | (refine ⟨Nat.le_of_ble_eq_true rfl, ?_⟩) | (refine knownT rfl ?_) | (refine knownF rfl ?_) | (refine orT rfl ?_) | (refine orF rfl ?_))
local macro_rules | `(tactic| walk_at "zz") => `(tactic| repeat walk_at "z")
local macro_rules | `(tactic| walk_at "kt") => `(tactic| refine ⟨_, rfl, knownT rfl ?_⟩)
local macro_rules | `(tactic| walk_at "kf") => `(tactic| refine ⟨_, rfl, knownF rfl ?_⟩)
local macro_rules | `(tactic| walk_at "ot") => `(tactic| refine ⟨_, rfl, orT rfl ?_⟩)
local macro_rules | `(tactic| walk_at "of") => `(tactic| refine ⟨_, rfl, orF rfl ?_⟩)
local macro_rules | `(tactic| walk_at "t") => `(tactic| refine knownT rfl ?_)
local macro_rules | `(tactic| walk_at "f") => `(tactic| refine knownF rfl ?_)
local macro_rules | `(tactic| walk_at "bl") => `(tactic| refine ⟨_, rfl, ?_⟩)
local macro_rules | `(tactic| walk_at "br") => `(tactic| refine ⟨fun h => ?_, fun h => ?_⟩)

variable {K : PySem.W.Frag} {T : Tb} {w : World} {vs : List V} {H : Hp} {Q : VK} {E : XK}
/-- a def of the script: a new list -/
def spPool (K : PySem.W.Frag) (T : Tb) : Sp := fun vs H Q _ => ∃ (G : Hp) (a : Addr) (ns : List Int), vs = [.ref a] ∧ Ex G H ∧ TabOk T G H ∧ SqL K G a (ns.map V.int) ∧ ns.length ≤ 63 ∧
  ∀ p es ws G' H', JV es → Mv T (fun _ => False) G H G' H' → (∀ o, H p = some o → ¬ NT o) → G' p = none → H' p = some (.lst ws) → Rps K G' es ws → Q (.ref p) H'
theorem w_callS {c : Cd} {ρ : Rho} {i : Nat} {a : Addr} {ns : List Int} {PN : List D → Rho → Prop} {E : XK} (hi : ρ[i]? = some (some (.fn a))) (hs : SqL c.K c.G0 a (ns.map V.int)) (hl : ns.length ≤ 63) (h : ∀ es, JV es → PN es ρ) : EvN c (tCall (spPool c.K c.T) [] E (tCons (tVar i) tNil)) ρ PN := fun σ G H Q s q =>
  ⟨.ref a, s.fnV hi, G, a, ns, rfl, s.ex, s.tb, sql_ex s.mv.gg hs, hl, fun p es ws G' H' z m hn g hp r => by
    have nw1 : New H p := hn
    have nw : Nw c p := fun o ho n => by
      cases g0 : c.G0 p with
      | some u =>
        have y := s.mv.gg p u g0
        rw [m.gg p u y] at g
        cases g
      | none =>
        obtain ⟨_, o', h', n', _⟩ := s.mv.st p o ho n g0
        exact hn o' h' n'
    refine q p es ws ρ G' H' (h es z) (s.call m) (.mv m) hp g r ⟨nw, nw1⟩ fun j fs y => ?_
    obtain ⟨_, _, _, us, k4, _⟩ := s.own y
    exact hn _ k4 nt_lst⟩
theorem w_ixKR {c : Cd} {ρ : Rho} {i : Nat} {te : TE} {P : D → Rho → Prop} (h : ∃ (a : Addr) (ns : List Int), ρ[i]? = some (some (.fn a)) ∧ SqL c.K c.G0 a (ns.map V.int) ∧ EvD c te ρ fun d ρ2 => ∃ j x, d = .int j ∧ atI ns j = some x ∧ P (.int x) ρ2) : EvD c (tOp (rIx c.K) (tVar i) te) ρ P := by
  obtain ⟨a, ns, h1, h2, h3⟩ := h
  exact w_ixK h1 h2 h3
theorem w_lenKR {c : Cd} {ρ : Rho} {i : Nat} {P : D → Rho → Prop} (h : ∃ (a : Addr) (ns : List Int), ρ[i]? = some (some (.fn a)) ∧ SqL c.K c.G0 a (ns.map V.int) ∧ P (.int ns.length) ρ) : EvD c (tCB (rLenV c.K) (tCons (tVar i) tNil)) ρ P := by
  obtain ⟨a, ns, h1, h2, h3⟩ := h
  exact w_lenK h1 h2 h3
local macro_rules | `(tactic| walk_at "z") => `(tactic| first
  | (with_reducible refine w_ixKR ?_; refine ⟨_, _, rfl, by assumption, ?_⟩) | (with_reducible refine w_lenKR ?_; refine ⟨_, _, rfl, by assumption, ?_⟩))
theorem log60 {d : Int} (h : 0 ≤ d) (h2 : d < 10 ^ (60 : Int).toNat) : CMulW d (10 ^ (60 : Int).toNat) := by
  have e : (10 : Int) ^ (60 : Int).toNat = 1000000000000000000000000000000000000000000000000000000000000 := by decide
  rw [e] at h2 ⊢
  show d.natAbs.log2 + (1000000000000000000000000000000000000000000000000000000000000 : Int).natAbs.log2 < 1000000
  have a : (1000000000000000000000000000000000000000000000000000000000000 : Int).natAbs.log2 = 199 := by decide +kernel
  rw [a]
  by_cases z : d.natAbs = 0
  · rw [z]
    decide
  · have : d.natAbs.log2 < 200 := by
      rw [Nat.log2_lt z]
      have b : (1000000000000000000000000000000000000000000000000000000000000 : Nat) < 2 ^ 200 := by decide +kernel
      omega
    omega
theorem ws_pool (c : Cd) (a : Addr) (ns : List Int) (hs : SqL c.K c.G0 a (ns.map V.int)) (hl : ns.length ≤ 63) : WpS c (t_law_pool c.K) (RetN JV) [some (.fn a), none, none, none, none] := by
  unfold t_law_pool
  refine q_asg ?_
  walk_at "zz"
  refine g_tup ⟨_, rfl, rfl, g_cons ⟨_, _, rfl, g_name (Nat.le_of_ble_eq_true rfl) (g_cons ⟨_, _, rfl, g_name (Nat.le_of_ble_eq_true rfl) (g_nil rfl ?_)⟩)⟩⟩
  refine q_for ?_
  walk_at "zz"
  refine ⟨by omega, ?_⟩
  rw [show ((ns.length : Nat) : Int).toNat = ns.length by omega]
  refine ⟨fun i ρ => ∃ d s a4 a5, 0 ≤ d ∧ 0 ≤ s ∧ s < 2147483647 ∧ ρ = [some (.fn a), some (.dat (.int d)), some (.dat (.int s)), a4, a5], ⟨0, 7, _, _, by decide, by decide, by decide, rfl⟩, fun i dd ρ2 hd2 hin => ?_, fun ρ2 hin => ?_⟩
  · obtain ⟨d, s, a4, a5, g1, g2, g3, rfl⟩ := hin
    obtain ⟨hi, rfl⟩ := upto_get hd2
    obtain ⟨x, hx⟩ : ∃ x, ns[i]? = some x := ⟨_, List.getElem?_eq_getElem hi⟩
    have hat : atI ns (0 + (i : Int)) = some x := by
      rw [Int.zero_add]
      exact atI_nat hx
    refine g_name (Nat.le_of_ble_eq_true rfl) ?_
    walk_at "zz"
    refine ⟨_, _, rfl, hat, ?_⟩
    walk_at "zz"
    refine ⟨_, _, rfl, hat, ?_⟩
    walk_at "zz"
    refine u_mulC (.inr (by decide)) ?_
    walk_at "zz"
    refine u_mod (by decide) ?_
    walk_at "zz"
    refine u_mod (by decide) ?_
    refine ⟨Nat.le_of_ble_eq_true rfl, ?_⟩
    refine s_set ?_
    have n1 : 0 ≤ (s * 48271 + max x (-1 - x) % 2147483629 + 11) % 2147483647 := Int.emod_nonneg _ (by decide)
    have n2 : (s * 48271 + max x (-1 - x) % 2147483629 + 11) % 2147483647 < 2147483647 := Int.emod_lt_of_pos _ (by decide)
    walk_at "zz"
    refine u_pow ⟨by decide, by decide, by decide⟩ ?_
    walk_at "zz"
    refine ⟨fun h => ?_, fun h => ?_⟩
    · walk_at "zz"
      refine u_pow ⟨by decide, by decide, by decide⟩ ?_
      walk_at "zz"
      refine ⟨fun h2 => ?_, fun h2 => ?_⟩
      · walk_at "zz"
        refine u_pow ⟨by decide, by decide, by decide⟩ ?_
        refine u_mulI (log60 g1 (of_decide_eq_true h2)) ?_
        walk_at "zz"
        refine u_pow ⟨by decide, by decide, by decide⟩ ?_
        refine u_mod (by decide) ?_
        walk_at "zz"
        refine ⟨_, _, _, _, ?_, n1, n2, rfl⟩
        have e60 : (10 : Int) ^ (60 : Int).toNat = 1000000000000000000000000000000000000000000000000000000000000 := by decide
        have m1 : 0 ≤ max x (-1 - x) % (10 : Int) ^ (60 : Int).toNat := Int.emod_nonneg _ (by decide)
        have m2 : 0 ≤ d * (10 : Int) ^ (60 : Int).toNat := Int.mul_nonneg g1 (by decide)
        omega
      · walk_at "zz"
        exact ⟨_, _, _, _, g1, n1, n2, rfl⟩
    · walk_at "zz"
      exact ⟨_, _, _, _, g1, n1, n2, rfl⟩
  · obtain ⟨d, s, a4, a5, g1, g2, g3, rfl⟩ := hin
    refine s_retN ?_
    refine w_lstN ?_
    walk_at "zz"
    exact fun p => ⟨p, _, rfl, d, s, 0, rfl, g2, g3, g1⟩
end K83

/-! ## WV -/
set_option Elab.async false
set_option linter.all false
set_option maxRecDepth 100000
set_option maxHeartbeats 4000000
namespace Zd
open PySem L2
variable {c : Cd}
section
variable {ρ : Rho} {e : En} {ta tb : TE} {u : TS} {i j : Nat}
/-- x, y = [..], ..: the first one a new list of its own -/
theorem s_parN0 (h : EvN c ta ρ fun ds ρ1 => EvD c tb ρ1 fun d ρ2 => i < ρ2.length ∧ j < ρ2.length ∧ i ≠ j ∧ ∀ p, e.nx ((ρ2.set i (some (.own p ds))).set j (some (.dat d)))) : WpS c (tPar i j (tCons ta (tCons tb tNil))) e ρ := fun σ G H Dd s kn =>
  h σ G H _ s fun p ds vs ρ1 G1 H1 h1 s1 e1 k1 k2 k3 k4 k5 => h1 σ G1 H1 _ s1 fun v d ρ2 G2 H2 h2 s2 e2 r2 => by
    obtain ⟨f1, f2, f3⟩ := e2.fr p _ k1 nt_lst k2 k5
    refine ⟨.ref p, v, rfl, kn.nx _ _ G2 H2 (h2.2.2.2 p) ((s2.setN f2 k4.1.wr f1 (Rps.ex e2.ex k3) f3 h2.1).set r2 (by simpa using h2.2.1)) (e1.trans e2).ex⟩
theorem q_parN0 (h : EvN c ta ρ fun ds ρ1 => EvD c tb ρ1 fun d ρ2 => i < ρ2.length ∧ j < ρ2.length ∧ i ≠ j ∧ ∀ p, WpS c u e ((ρ2.set i (some (.own p ds))).set j (some (.dat d)))) : WpS c (tSeq (tPar i j (tCons ta (tCons tb tNil))) u) e ρ := s_seq (s_parN0 h)
end
end Zd
namespace K83
open PySem PySem.Spec PyProof.Rows L2 Zd
local macro_rules | `(tactic| walk_at "z") => `(tactic| first
  | (with_reducible refine w_int ?_) | (with_reducible refine w_str ?_) | (with_reducible refine w_bl ?_) | (with_reducible refine w_non ?_)
  | (with_reducible refine w_varR ?_; refine ⟨_, rfl, ?_⟩)
  | (with_reducible refine w_isInt ?_) | (with_reducible refine w_isBool ?_) | (with_reducible refine w_isStr ?_) | (with_reducible refine w_isTup ?_) | (with_reducible refine w_isLst ?_)
  | (with_reducible refine w_kdGet (by assumption) ?_) | (with_reducible refine w_kdIn (by assumption) ?_) | (with_reducible refine w_kdNotIn (by assumption) ?_) | (with_reducible refine w_k (by assumption) ?_)
  | (with_reducible refine w_ixOR ?_; refine ⟨_, _, rfl, ?_⟩) | (with_reducible refine w_lenOR ?_; refine ⟨_, _, rfl, ?_⟩) | (with_reducible refine w_slOR ?_; refine ⟨_, _, rfl, ?_⟩) | (with_reducible refine w_callJR ?_; refine ⟨_, _, rfl, ?_⟩)
  | (with_reducible refine w_op ?_) | (with_reducible refine w_cb ?_) | (with_reducible refine w_nil ?_) | (with_reducible refine w_cons ?_)
  | (with_reducible refine w_disp ?_) | (with_reducible refine p_cons ?_) | (with_reducible refine p_nil ?_) | (with_reducible refine w_revT ?_) | (with_reducible refine w_dget ?_) | (with_reducible refine w_din ?_) | (with_reducible refine w_dnin ?_)
  | (with_reducible refine w_tup ?_) | (with_reducible refine w_lst ?_) | (with_reducible refine w_test ?_) | (with_reducible refine w_tB ?_)
  | (with_reducible refine w_not ?_) | (with_reducible refine w_and ?_) | (with_reducible refine w_or ?_) | (with_reducible refine w_if ?_)
  | (with_reducible refine w_notV ?_) | (with_reducible refine w_andV ?_) | (with_reducible refine w_orV ?_) | (with_reducible refine w_chain ?_) | (with_reducible refine w_neg ?_)
  | (with_reducible refine w_sl ?_) | (with_reducible refine o_none ?_) | (with_reducible refine o_some ?_) | (with_reducible refine w_m1 ?_)
  | (with_reducible refine u_addI ?_) | (with_reducible refine u_sub ?_) | (with_reducible refine u_lt ?_) | (with_reducible refine u_le ?_) | (with_reducible refine u_gt ?_) | (with_reducible refine u_ge ?_)
  | (with_reducible refine u_eqI ?_) | (with_reducible refine u_neI ?_) | (with_reducible refine u_eqS ?_) | (with_reducible refine u_neS ?_)
  | (with_reducible refine u_inT ?_) | (with_reducible refine u_eqT0 ?_) | (with_reducible refine u_neT0 ?_) | (with_reducible refine u_neL0 ?_) | (with_reducible refine u_eqL0 ?_)
  | (with_reducible refine r_isN ?_) | (with_reducible refine r_notN ?_) | (with_reducible refine u_int ?_) | (with_reducible refine u_intB ?_)
  | (with_reducible refine k_strS ?_) | (with_reducible refine k_max2 ?_) | (with_reducible refine k_min2 ?_)
  | (with_reducible refine k_tup ?_) | (with_reducible refine k_lenT ?_) | (with_reducible refine k_lenL ?_) | (with_reducible refine u_ixT atI_zero ?_) | (with_reducible refine u_ixL atI_zero ?_) | (with_reducible refine w_callE ?_) | (with_reducible refine w_callX ?_) | (with_reducible refine s_raise (by assumption) ?_) | (with_reducible refine i_rng1 ?_) | (with_reducible refine i_rng2 ?_) | (with_reducible refine i_list ?_) | (with_reducible refine i_tup ?_) | (with_reducible refine i_str ?_) | (with_reducible refine u_slT ?_) | (with_reducible refine u_slL ?_)
  | (with_reducible refine q_set ?_) | (with_reducible refine q_drop ?_) | (with_reducible refine q_par ?_) | (with_reducible refine q_when ?_) | (with_reducible refine q_if ?_)
  | (with_reducible refine s_ret ?_) | (with_reducible refine s_retNon ?_) | (with_reducible refine s_next ?_)
  | (refine ⟨_, rfl, ?_⟩) | (refine ⟨Nat.le_of_ble_eq_true rfl, ?_⟩) | (refine knownT rfl ?_) | (refine knownF rfl ?_) | (refine orT rfl ?_) | (refine orF rfl ?_))
local macro_rules | `(tactic| walk_at "zz") => `(tactic| repeat walk_at "z")
local macro_rules | `(tactic| walk_at "kt") => `(tactic| refine ⟨_, rfl, knownT rfl ?_⟩)
local macro_rules | `(tactic| walk_at "kf") => `(tactic| refine ⟨_, rfl, knownF rfl ?_⟩)
local macro_rules | `(tactic| walk_at "ot") => `(tactic| refine ⟨_, rfl, orT rfl ?_⟩)
local macro_rules | `(tactic| walk_at "of") => `(tactic| refine ⟨_, rfl, orF rfl ?_⟩)
local macro_rules | `(tactic| walk_at "t") => `(tactic| refine knownT rfl ?_)
local macro_rules | `(tactic| walk_at "f") => `(tactic| refine knownF rfl ?_)
local macro_rules | `(tactic| walk_at "bl") => `(tactic| refine ⟨_, rfl, ?_⟩)
local macro_rules | `(tactic| walk_at "br") => `(tactic| refine ⟨fun h => ?_, fun h => ?_⟩)

variable {K : PySem.W.Frag} {T : Tb} {w : World} {vs : List V} {H : Hp} {Q : VK} {E : XK}
theorem sumL_app (a b : List Str) : sumL (a ++ b) = sumL a + sumL b := by
  simp only [sumL, List.map_append, List.sum_append, List.length_append]
  omega
theorem sumL_cons (x : Str) (b : List Str) : sumL (x :: b) = x.length + 1 + sumL b := by
  simp only [sumL, List.map_cons, List.sum_cons, List.length_cons]
  omega
theorem sumL_one (x : Str) : sumL [x] = x.length + 1 := by rw [sumL_cons]; rfl
theorem sumL_take (l : List Str) (n : Nat) : sumL (l.take n) ≤ sumL l := by
  have := sumL_app (l.take n) (l.drop n)
  rw [List.take_append_drop] at this
  omega
theorem sumL_drop (l : List Str) (n : Nat) : sumL (l.drop n) ≤ sumL l := by
  have := sumL_app (l.take n) (l.drop n)
  rw [List.take_append_drop] at this
  omega
theorem sumL_cut (l : List Str) (lo hi : Option Int) : sumL (cutL l lo hi) ≤ sumL l := Nat.le_trans (sumL_take _ _) (sumL_drop _ _)
theorem sumL_set (l : List Str) (i : Nat) (x : Str) : sumL (l.set i x) ≤ sumL l + x.length := by
  induction l generalizing i with
  | nil => simp [sumL]
  | cons a r ih =>
    cases i with
    | zero => rw [List.set_cons_zero, sumL_cons, sumL_cons]; omega
    | succ j => rw [List.set_cons_succ, sumL_cons, sumL_cons]; have := ih j; omega
theorem sumL_mem {l : List Str} {x : Str} (h : x ∈ l) : x.length + 1 ≤ sumL l := by
  induction l with
  | nil => cases h
  | cons a r ih =>
    rw [sumL_cons]
    rcases List.mem_cons.mp h with rfl | h
    · omega
    · have := ih h
      omega
theorem sumL_len (l : List Str) : l.length ≤ sumL l := Nat.le_add_left _ _
theorem join_len (y : Str) (hy : y.length = 1) (l : List Str) : (Txt.join y l).length ≤ sumL l := by
  rw [TL.join_eq]
  have := StrLaws.join_length_le y l
  rw [hy, Nat.mul_one] at this
  exact this
theorem split_sum (x y : Str) (hy : 1 ≤ y.length) : sumL (Txt.split x y) ≤ x.length + 1 := split_weight x y hy
theorem cutL_map (l : List Str) (lo hi : Option Int) : cutL (l.map D.str) lo hi = (cutL l lo hi).map D.str := by
  unfold cutL
  rw [List.map_take, List.map_drop, List.length_map]
abbrev preOt (js ds : List D) : Prop := JV js ∧ ∃ s : Str, ds = [.str s] ∧ s.length ≤ 10000
abbrev postOt (js ds : List D) (d : D) (js' : List D) : Prop := JV js' ∧ ∃ x : Str, d = .str x ∧ ∀ s : Str, ds = [.str s] → x.length ≤ 4 * s.length + 100
abbrev spOt (K : PySem.W.Frag) (T : Tb) : Sp := SpJ K T preOt postOt
theorem ws_ot (c : Cd) (p : Addr) (hS : ∀ q, c.S q → q = p) (js ds : List D) (hp : preOt js ds) : WpS c (t_law_zt_otherwise c.K (spTk c.K c.T) (spWord c.K c.T) (spOne c.K c.T)) (RetJ (postOt js ds) p) (some (.own p js) :: args ds 12) := by
  obtain ⟨hj, s, rfl, hl⟩ := hp
  have hz : sizeLine = 16777216 := sizeLine_eq
  have hsp : (" " : Str).length = 1 := by decide +kernel
  have hnl : ("\n" : Str).length = 1 := by decide +kernel
  have hrows := split_sum s "\n" (by rw [hnl]; exact Nat.le_refl 1)
  have hpos := split_pos s "\n"
  have fin : ∀ (ρ : Rho) (js' : List D) (q' : Addr) (rs : List Str), JV js' → ρ[0]? = some (some (.own p js')) → ρ[2]? = some (some (.own q' (rs.map D.str))) → sumL rs ≤ 4 * s.length + 100 → WpS c (tRet (tM1 (rJoin c.K) (tC (.str "\n")) (tVar 2))) (RetJ (postOt js [.str s]) p) ρ := fun ρ js' q' rs h1 h2 h3 h4 => by
    have hi : 2 < ρ.length := (List.getElem?_eq_some_iff.mp h3).1
    have h0 : (ρ.set 2 (some (.dat (.lst (rs.map D.str)))))[0]? = some (some (.own p js')) := by
      rw [List.getElem?_set_ne (by decide)]
      exact h2
    refine s_frz 2 h3 (fun a z => ⟨0, by decide, js', by rw [hS a z]; exact h2⟩) ?_
    refine s_ret (w_m1 (w_str ⟨_, rfl, w_var (List.getElem?_set_self hi) (k_join ?_ ⟨_, _, rfl, h0, h1, _, rfl, fun s' e => ?_⟩)⟩))
    · rw [hnl, Nat.mul_one]
      show sumL rs ≤ _
      omega
    · cases e
      exact Nat.le_trans (join_len _ hnl _) h4
  unfold t_law_zt_otherwise
  refine q_parN0 ?_
  refine w_m1N ?_
  walk_at "zz"
  refine k_split (by decide +kernel) (by omega) ?_
  revert hrows hpos
  generalize Txt.split s "\n" = rows
  intro hrows hpos
  have hlen := sumL_len rows
  have hml : (rows.map D.str).length = rows.length := List.length_map _
  walk_at "zz"
  refine ⟨⟨hj, _, rfl, by decide, by decide⟩, fun d es he => ?_⟩
  obtain ⟨hj1, form, rfl, g1, g2⟩ := he
  have g2 := g2 _ rfl
  refine ⟨Nat.le_of_ble_eq_true rfl, Nat.le_of_ble_eq_true rfl, by decide, fun q => ?_⟩
  walk_at "zz"
  refine ⟨⟨hj1, _, rfl, by omega, by omega⟩, fun d es2 he => ?_⟩
  obtain ⟨hj2, at_, rfl, a1, a2⟩ := he
  have a2 := a2 _ rfl
  walk_at "zz"
  refine ⟨⟨hj2, _, rfl, by omega, by omega⟩, fun d es3 he => ?_⟩
  obtain ⟨hj3, other, rfl, o1, o2⟩ := he
  have o2 := o2 _ rfl
  walk_at "zz"
  refine ⟨_, _, rfl, Nat.le_of_ble_eq_true rfl, Nat.le_of_ble_eq_true rfl, ?_⟩
  obtain ⟨at_, rfl⟩ := Int.eq_ofNat_of_zero_le a1
  obtain ⟨other, rfl⟩ := Int.eq_ofNat_of_zero_le o1
  obtain ⟨row, hrow⟩ : ∃ row, rows[at_]? = some row := ⟨_, List.getElem?_eq_getElem (by omega)⟩
  obtain ⟨row2, hrow2⟩ : ∃ row, rows[other]? = some row := ⟨_, List.getElem?_eq_getElem (by omega)⟩
  have hrl := sumL_mem (List.mem_of_getElem? hrow)
  have hrl2 := sumL_mem (List.mem_of_getElem? hrow2)
  have hat : atI (rows.map D.str) (at_ : Int) = some (.str row) := atI_nat (by rw [List.getElem?_map, hrow]; rfl)
  have hot : atI (rows.map D.str) (other : Int) = some (.str row2) := atI_nat (by rw [List.getElem?_map, hrow2]; rfl)
  walk_at "zz"
  refine ⟨q, _, _, _, rfl, rfl, hat, ?_⟩
  have hw := split_sum row " " (by rw [hsp]; exact Nat.le_refl 1)
  have hwp := split_pos row " "
  walk_at "zz"
  refine MD.of_N (k_split (by decide +kernel) (by omega) ?_)
  revert hw hwp
  generalize Txt.split row " " = ws
  intro hw hwp
  have hwl := sumL_len ws
  have hmw : (ws.map D.str).length = ws.length := List.length_map _
  refine ⟨Nat.le_of_ble_eq_true rfl, ?_⟩
  walk_at "zz"
  refine ⟨⟨hj3, _, rfl, by omega, by omega⟩, fun d es4 he => ?_⟩
  obtain ⟨hj4, spot, rfl, s1, s2⟩ := he
  have s2 := s2 _ rfl
  refine ⟨Nat.le_of_ble_eq_true rfl, ?_⟩
  have hix : ixN (rows.map D.str).length (at_ : Int) = some at_ := by
    unfold ixN
    rw [if_pos (by omega), if_pos (by omega)]
    simp
  have setm : ∀ (x : Str), (rows.map D.str).set at_ (.str x) = (rows.set at_ x).map D.str := fun x => by rw [List.map_set]
  refine q_if ?_
  walk_at "zz"
  refine ⟨fun f1 => ?_, fun f1 => ?_⟩
  · -- one word otherwise
    refine s_setO ?_
    walk_at "zz"
    refine ⟨⟨hj4, rfl⟩, fun d es5 he => ?_⟩
    obtain ⟨hj5, x, rfl, hx⟩ := he
    walk_at "zz"
    rw [cutL_map]
    have c1 := sumL_cut ws none (some spot)
    have c2 := sumL_cut ws (some (spot + 1)) none
    have l1 := sumL_len (cutL ws none (some spot))
    have l2 := sumL_len (cutL ws (some (spot + 1)) none)
    refine u_addL (by rw [List.length_map]; show _ + 1 ≤ _; omega) ?_
    walk_at "zz"
    rw [cutL_map]
    refine u_addL (by rw [List.length_append, List.length_map, List.length_map]; show _ + 1 + _ ≤ _; omega) ?_
    rw [show (cutL ws none (some spot)).map D.str ++ [D.str x] ++ (cutL ws (some (spot + 1)) none).map D.str = (cutL ws none (some spot) ++ [x] ++ cutL ws (some (spot + 1)) none).map D.str by rw [List.map_append, List.map_append]; rfl]
    have sm : sumL (cutL ws none (some spot) ++ [x] ++ cutL ws (some (spot + 1)) none) ≤ 2 * (row.length + 1) + 23 := by
      rw [sumL_app, sumL_app, sumL_one]
      omega
    refine k_join (by rw [hsp, Nat.mul_one]; show sumL _ ≤ _; omega) ?_
    have jl := join_len " " hsp (cutL ws none (some spot) ++ [x] ++ cutL ws (some (spot + 1)) none)
    refine ⟨⟨q, _, rfl⟩, ?_⟩
    walk_at "zz"
    refine ⟨q, _, _, _, rfl, rfl, hix, ?_⟩
    refine fin _ es5 q (rows.set at_ _) hj5 rfl (by rw [setm]; rfl) ?_
    have := sumL_set rows at_ (Txt.join " " (cutL ws none (some spot) ++ [x] ++ cutL ws (some (spot + 1)) none))
    omega
  refine s_if ?_
  walk_at "zz"
  refine ⟨fun f2 => ?_, fun f2 => ?_⟩
  · -- one word more
    refine q_set ?_
    walk_at "zz"
    refine ⟨fun f3 => ?_, fun f3 => ?_⟩
    · walk_at "zz"
      refine ⟨⟨hj4, rfl⟩, fun d es5 he => ?_⟩
      obtain ⟨hj5, x, rfl, hx⟩ := he
      obtain ⟨more, em, hm⟩ : ∃ more : List Str, [D.str x] = more.map D.str ∧ sumL more ≤ row.length + 24 := ⟨[x], rfl, by rw [sumL_one]; omega⟩
      walk_at "zz"
      rw [em]
      walk_at "zz"
      rw [hmw]
      refine ⟨⟨hj5, _, rfl, by omega, by omega⟩, fun d es6 he => ?_⟩
      obtain ⟨hj6, place, rfl, p1, p2⟩ := he
      refine ⟨Nat.le_of_ble_eq_true rfl, ?_⟩
      refine s_setO ?_
      walk_at "zz"
      rw [cutL_map]
      have c1 := sumL_cut ws none (some place)
      have c2 := sumL_cut ws (some place) none
      have l1 := sumL_len (cutL ws none (some place))
      have l2 := sumL_len (cutL ws (some place) none)
      have l3 := sumL_len more
      refine u_addL (by rw [List.length_map, List.length_map]; omega) ?_
      walk_at "zz"
      rw [cutL_map]
      refine u_addL (by rw [List.length_append, List.length_map, List.length_map, List.length_map]; omega) ?_
      rw [show (cutL ws none (some place)).map D.str ++ more.map D.str ++ (cutL ws (some place) none).map D.str = (cutL ws none (some place) ++ more ++ cutL ws (some place) none).map D.str by rw [List.map_append, List.map_append]]
      have sm : sumL (cutL ws none (some place) ++ more ++ cutL ws (some place) none) ≤ 3 * (row.length + 1) + 23 := by
        rw [sumL_app, sumL_app]
        omega
      refine k_join (by rw [hsp, Nat.mul_one]; show sumL _ ≤ _; omega) ?_
      have jl := join_len " " hsp (cutL ws none (some place) ++ more ++ cutL ws (some place) none)
      refine ⟨⟨q, _, rfl⟩, ?_⟩
      walk_at "zz"
      refine ⟨q, _, _, _, rfl, rfl, hix, ?_⟩
      refine fin _ es6 q (rows.set at_ _) hj6 rfl (by rw [setm]; rfl) ?_
      have := sumL_set rows at_ (Txt.join " " (cutL ws none (some place) ++ more ++ cutL ws (some place) none))
      omega
    · walk_at "zz"
      obtain ⟨more, em, hm⟩ : ∃ more : List Str, cutL (ws.map D.str) (some spot) (some (spot + 1)) = more.map D.str ∧ sumL more ≤ row.length + 24 := ⟨_, cutL_map ws _ _, by have := sumL_cut ws (some spot) (some (spot + 1)); omega⟩
      rw [em]
      walk_at "zz"
      rw [hmw]
      refine ⟨⟨hj4, _, rfl, by omega, by omega⟩, fun d es6 he => ?_⟩
      obtain ⟨hj6, place, rfl, p1, p2⟩ := he
      refine ⟨Nat.le_of_ble_eq_true rfl, ?_⟩
      refine s_setO ?_
      walk_at "zz"
      rw [cutL_map]
      have c1 := sumL_cut ws none (some place)
      have c2 := sumL_cut ws (some place) none
      have l1 := sumL_len (cutL ws none (some place))
      have l2 := sumL_len (cutL ws (some place) none)
      have l3 := sumL_len more
      refine u_addL (by rw [List.length_map, List.length_map]; omega) ?_
      walk_at "zz"
      rw [cutL_map]
      refine u_addL (by rw [List.length_append, List.length_map, List.length_map, List.length_map]; omega) ?_
      rw [show (cutL ws none (some place)).map D.str ++ more.map D.str ++ (cutL ws (some place) none).map D.str = (cutL ws none (some place) ++ more ++ cutL ws (some place) none).map D.str by rw [List.map_append, List.map_append]]
      have sm : sumL (cutL ws none (some place) ++ more ++ cutL ws (some place) none) ≤ 3 * (row.length + 1) + 23 := by
        rw [sumL_app, sumL_app]
        omega
      refine k_join (by rw [hsp, Nat.mul_one]; show sumL _ ≤ _; omega) ?_
      have jl := join_len " " hsp (cutL ws none (some place) ++ more ++ cutL ws (some place) none)
      refine ⟨⟨q, _, rfl⟩, ?_⟩
      walk_at "zz"
      refine ⟨q, _, _, _, rfl, rfl, hix, ?_⟩
      refine fin _ es6 q (rows.set at_ _) hj6 rfl (by rw [setm]; rfl) ?_
      have := sumL_set rows at_ (Txt.join " " (cutL ws none (some place) ++ more ++ cutL ws (some place) none))
      omega
  refine s_if ?_
  walk_at "zz"
  refine ⟨fun f4 => ?_, fun f4 => ?_⟩
  · -- one word less
    refine s_setO ?_
    walk_at "zz"
    rw [cutL_map]
    have c1 := sumL_cut ws none (some spot)
    have c2 := sumL_cut ws (some (spot + 1)) none
    have l1 := sumL_len (cutL ws none (some spot))
    have l2 := sumL_len (cutL ws (some (spot + 1)) none)
    rw [cutL_map]
    refine u_addL (by rw [List.length_map, List.length_map]; omega) ?_
    rw [← List.map_append]
    have sm : sumL (cutL ws none (some spot) ++ cutL ws (some (spot + 1)) none) ≤ 2 * (row.length + 1) := by
      rw [sumL_app]
      omega
    refine k_join (by rw [hsp, Nat.mul_one]; show sumL _ ≤ _; omega) ?_
    have jl := join_len " " hsp (cutL ws none (some spot) ++ cutL ws (some (spot + 1)) none)
    refine ⟨⟨q, _, rfl⟩, ?_⟩
    walk_at "zz"
    refine ⟨q, _, _, _, rfl, rfl, hix, ?_⟩
    refine fin _ es4 q (rows.set at_ _) hj4 rfl (by rw [setm]; rfl) ?_
    have := sumL_set rows at_ (Txt.join " " (cutL ws none (some spot) ++ cutL ws (some (spot + 1)) none))
    omega
  refine s_if ?_
  walk_at "zz"
  refine ⟨fun f5 => ?_, fun f5 => ?_⟩
  · -- a line less, more
    have lines : ∀ (lo1 hi1 lo2 hi2 : Option Int) (ρ : Rho), ρ[0]? = some (some (.own p es4)) → 2 < ρ.length → ∀ q', WpS c (tRet (tM1 (rJoin c.K) (tC (.str "\n")) (tVar 2))) (RetJ (postOt js [.str s]) p) (ρ.set 2 (some (.own q' (cutL (rows.map D.str) lo1 hi1 ++ cutL (rows.map D.str) lo2 hi2)))) := fun lo1 hi1 lo2 hi2 ρ h0 h2 q' => by
      rw [cutL_map, cutL_map, ← List.map_append]
      refine fin _ es4 q' (cutL rows lo1 hi1 ++ cutL rows lo2 hi2) hj4 (by rw [List.getElem?_set_ne (by decide)]; exact h0) (List.getElem?_set_self h2) ?_
      rw [sumL_app]
      have c1 := sumL_cut rows lo1 hi1
      have c2 := sumL_cut rows lo2 hi2
      omega
    have szs : ∀ (lo1 hi1 lo2 hi2 : Option Int), (cutL (rows.map D.str) lo1 hi1).length + (cutL (rows.map D.str) lo2 hi2).length ≤ sizeLine := fun lo1 hi1 lo2 hi2 => by
      have c1 := cutL_len (xs := rows.map D.str) (lo := lo1) (hi := hi1)
      have c2 := cutL_len (xs := rows.map D.str) (lo := lo2) (hi := hi2)
      omega
    have lastS : ∀ (b : Bool), WpS c (tAsg (tIf (tB (tVar 10)) (tOp (rAddU c.K) (tSl (rSlU c.K) (tVar 2) tNoPart (tPart (tVar 4))) (tSl (rSlU c.K) (tVar 2) (tPart (tOp (rAddU c.K) (tVar 4) (tC (.int 1)))) tNoPart)) (tOp (rAddU c.K) (tSl (rSlU c.K) (tVar 2) tNoPart (tPart (tOp (rAddU c.K) (tVar 4) (tC (.int 1))))) (tSl (rSlU c.K) (tVar 2) (tPart (tVar 4)) tNoPart))) (gName 2))
        { nx := fun ρ2 => WpS c (tRet (tM1 (rJoin c.K) (tC (.str "\n")) (tVar 2))) (RetJ (postOt js [.str s]) p) ρ2, rt := (RetJ (postOt js [.str s]) p).rt }
        [some (.own p es4), some (.dat (.str s)), some (.own q (rows.map D.str)), some (.dat (.int form)), some (.dat (.int at_)), some (.dat (.int other)), some (.dat (.lst (ws.map D.str))), some (.dat (.int spot)), none, none, some (.dat (.bl b)), none, none, none] := fun b => by
      refine s_setN ?_
      refine w_ifN ?_
      walk_at "zz"
      refine ⟨fun h => ?_, fun h => ?_⟩
      · refine w_opN ?_
        walk_at "zz"
        refine ⟨q, _, rfl, ?_⟩
        walk_at "zz"
        refine ⟨q, _, rfl, ?_⟩
        refine u_addLN (szs _ _ _ _) ⟨Nat.le_of_ble_eq_true rfl, fun q' => ?_⟩
        exact lines _ _ _ _ _ rfl (Nat.le_of_ble_eq_true rfl) q'
      · refine w_opN ?_
        walk_at "zz"
        refine ⟨q, _, rfl, ?_⟩
        walk_at "zz"
        refine ⟨q, _, rfl, ?_⟩
        refine u_addLN (szs _ _ _ _) ⟨Nat.le_of_ble_eq_true rfl, fun q' => ?_⟩
        exact lines _ _ _ _ _ rfl (Nat.le_of_ble_eq_true rfl) q'
    refine q_set ?_
    walk_at "zz"
    refine ⟨fun f6 => ?_, fun f6 => ?_⟩
    · walk_at "zz"
      exact lastS _
    · walk_at "zz"
      exact lastS _
  refine s_if ?_
  walk_at "zz"
  refine ⟨fun f7 => ?_, fun f7 => ?_⟩
  · -- two lines change about
    walk_at "zz"
    refine ⟨q, _, _, _, rfl, rfl, hat, ?_⟩
    walk_at "zz"
    refine ⟨q, _, _, _, rfl, rfl, hot, ?_⟩
    walk_at "zz"
    refine ⟨_, _, rfl, Nat.le_of_ble_eq_true rfl, Nat.le_of_ble_eq_true rfl, ?_⟩
    refine q_setO ?_
    walk_at "zz"
    refine ⟨⟨q, _, rfl⟩, ?_⟩
    walk_at "zz"
    refine ⟨q, _, _, _, rfl, rfl, hix, ?_⟩
    refine s_setO ?_
    walk_at "zz"
    refine ⟨⟨q, _, rfl⟩, ?_⟩
    walk_at "zz"
    have hix2 : ixN ((rows.map D.str).set at_ (.str row2)).length (other : Int) = some other := by
      unfold ixN
      rw [List.length_set, if_pos (by omega), if_pos (by omega)]
      simp
    refine ⟨q, _, _, _, rfl, rfl, hix2, ?_⟩
    refine fin _ es4 q ((rows.set at_ row2).set other row) hj4 rfl (by rw [List.map_set, List.map_set]; rfl) ?_
    have d1 := sumL_set rows at_ row2
    have d2 := sumL_set (rows.set at_ row2) other row
    omega
  -- a sign otherwise
  walk_at "zz"
  refine k_lenS (by omega) ?_
  walk_at "zz"
  refine ⟨⟨hj4, _, rfl, by omega, by omega⟩, fun d es5 he => ?_⟩
  obtain ⟨hj5, sp, rfl, p1, p2⟩ := he
  refine ⟨Nat.le_of_ble_eq_true rfl, ?_⟩
  walk_at "zz"
  refine ⟨⟨hj5, _, rfl, by simp, Nat.le_of_ble_eq_true rfl⟩, fun d es6 he => ?_⟩
  obtain ⟨hj6, h3⟩ := he
  obtain ⟨x, rfl, hx⟩ : ∃ x : Str, d = .str x ∧ x.length ≤ 22 := wordB_ok (by
    have h4 := h3 _ rfl
    revert h4
    generalize d = dd
    intro h4
    refine (List.all_eq_true (p := wordB)).mp ?_ dd h4
    decide +kernel)
  refine ⟨Nat.le_of_ble_eq_true rfl, ?_⟩
  walk_at "zz"
  refine u_slS (by omega) ?_
  walk_at "zz"
  have l1 := cutS_length s none (some sp)
  refine u_addS (by omega) ?_
  walk_at "zz"
  have last : ∀ (lo : Int) (ρ : Rho), ρ[0]? = some (some (.own p es6)) → SD c.K (rSlU c.K) (.str s) (some lo) none fun d => RD c.K (rAddU c.K) (.str (cutS s none (some sp) ++ x)) d fun d => (RetJ (postOt js [.str s]) p).rt (.dat d) ρ := fun lo ρ h0 => by
    refine u_slS (by omega) ?_
    have l2 := cutS_length s (some lo) none
    refine u_addS (by rw [app_len]; omega) ?_
    refine ⟨_, _, rfl, h0, hj6, _, rfl, fun s' e => ?_⟩
    cases e
    rw [app_len, app_len]
    omega
  refine ⟨fun h => ?_, fun h => ?_⟩
  · walk_at "zz"
    refine ⟨fun h => ?_, fun h => ?_⟩
    · walk_at "zz"
      exact last _ _ rfl
    · walk_at "zz"
      exact last _ _ rfl
  · walk_at "zz"
    exact last _ _ rfl
theorem wp_ot (h : spOt K T vs H Q E) : t_law_zt_otherwise K (spTk K T) (spWord K T) (spOne K T) { nx := fun _ H' => Q .non H', rt := Q } (L2.start n_law_zt_otherwise vs) H :=
  fn_JR 2 h (by rintro js ds ⟨_, _, rfl, _⟩; rfl) fun c p js ds a1 a2 a3 hp => by subst a1 a2; exact ws_ot c p a3 js ds hp
end K83

/-! ## G83c -/
set_option Elab.async false
set_option linter.all false
set_option maxRecDepth 100000
set_option maxHeartbeats 4000000
namespace K83
open PySem PySem.Spec PyProof.Rows L2 Zd
section
variable {P : Program} {w : World} {K : PySem.W.Frag} {mg : Str → Option Value} {base : Heap}
def t_law (K : PySem.W.Frag) (sp_law_pool sp_law_zt_deed_drawn sp_law_zt_deed sp_law_dl_thing_right sp_law_zt_otherwise sp_law_dl_text_right sp_law_dl_bent sp_law_take sp_law_one sp_read_deed sp_law_zq_same sp_law_dl_planted_right : Sp) : TS := (tSeq (tAsg (tCall sp_law_pool [] E0 (tCons (tVar 0) tNil)) (gName 1)) (tSeq (tFor (iRng1 (tCons (tC (.int 12)) tNil)) (gName 2) (tSeq (tAsg (tCall sp_law_zt_deed_drawn [] E0 (tCons (tVar 1) tNil)) (gName 3)) (tSeq (tAsg (tCall sp_law_zt_deed [] E0 (tCons (tVar 3) tNil)) (gName 4)) (tSeq (tIfS (tNot (tB (tCall sp_law_dl_thing_right [] E0 (tCons (tVar 3) tNil)))) (tRet (tC (.bl false))) tNext) (tFor (iRng1 (tCons (tC (.int 4)) tNil)) (gName 5) (tSeq (tAsg (tCall sp_law_zt_otherwise [] E0 (tCons (tVar 1) (tCons (tVar 4) tNil))) (gName 6)) (tSeq (tIfS (tOr (tNot (tB (tCall sp_law_dl_text_right [] E0 (tCons (tVar 6) tNil)))) (tNot (tB (tCall sp_law_dl_text_right [] E0 (tCons (tCall sp_law_zt_otherwise [] E0 (tCons (tVar 1) (tCons (tVar 6) tNil))) tNil))))) (tRet (tC (.bl false))) tNext) (tIfS (tNot (tB (tCall sp_law_dl_thing_right [] E0 (tCons (tCall sp_law_dl_bent [] E0 (tCons (tVar 1) (tCons (tVar 3) tNil))) tNil)))) (tRet (tC (.bl false))) tNext)))))))) (tSeq (tAsg (tTup (tCons (tCall sp_law_one [] E0 (tCons (tVar 1) (tCons (tLst (tCons (tC .non) (tCons (tC (.int 5)) (tCons (tLst (tCons (tC (.str "drop 0")) tNil)) (tCons (tTup (tCons (tC (.str "drop")) (tCons (tC (.int 0)) tNil))) (tCons (tC (.bl true)) tNil)))))) tNil))) (tCons (tCall sp_law_take [] E0 (tCons (tVar 1) (tCons (tC (.int 2)) tNil))) tNil))) (gTup K 2 (gCons (gName 7) (gCons (gName 8) gNil)))) (tSeq (tAsg (tLst (tCons (LamX.tLam (TT K) (TTh K (TT K) (okC K) (nmC K)) (fun (E : XK) => (tCall sp_read_deed [] E (tCons (tVar 7) tNil)))) tNil)) (gName 9)) (tSeq (tDrop (tBM K "list" rAppend (tVar 9) (tCons (LamX.tLam (TT K) (TTh K (TT K) (okC K) (nmC K)) (fun (E : XK) => (tCall sp_read_deed [] E (tCons (tOp rMulU (tC (.str "x")) (tOp (rAddU K) (tC (.int 200000)) (tVar 8))) tNil)))) tNil))) (tSeq (tAsg (tLst (tCons (tTup (tCons (tC (.str "BadText")) (tCons (tUn rNeg (tC (.int 1))) tNil))) (tCons (tIf (tTest (tOp (rEqU K) (tVar 8) (tC (.int 1)))) (tTup (tCons (tC (.str "TooMany")) (tCons (tC (.int 200001)) tNil))) (tTup (tCons (tC (.str "WrongLine")) (tCons (tTup (tCons (tC (.int 0)) (tCons (tC (.int 0)) tNil))) tNil)))) tNil))) (gName 10)) (tRet (tAndV (tCall sp_law_zq_same [] E0 (tCons (tVar 9) (tCons (tVar 10) tNil))) (tCall sp_law_dl_planted_right [] E0 (tCons (tVar 1) tNil))))))))))
theorem ok_law {sp : Sp} {sp_law_pool sp_law_zt_deed_drawn sp_law_zt_deed sp_law_dl_thing_right sp_law_zt_otherwise sp_law_dl_text_right sp_law_dl_bent sp_law_take sp_law_one sp_read_deed sp_law_zq_same sp_law_dl_planted_right : Sp} (F : Fx P w K mg) (FE : Fe K) (TB : LamX.TabB base mg (He.cT K ("law", none)).1 (He.cT K ("law", none)).2) (hTm : ((He.cT K ("law", none)).2, (("law.<locals>.<lambda>" : Str))) ∈ TT K) (hTu : ∀ p ∈ TT K, p.1 = (He.cT K ("law", none)).2 → p.2 = ("law.<locals>.<lambda>" : Str)) (G_law_pool : FnOk P w K mg base CX0 1 (He.ga K "_law_pool") F.f_law_pool p_law_pool sp_law_pool) (G_law_zt_deed_drawn : FnOk P w K mg base CX0 3 (He.ga K "_law_zt_deed_drawn") F.f_law_zt_deed_drawn p_law_zt_deed_drawn sp_law_zt_deed_drawn) (G_law_zt_deed : FnOk P w K mg base CX0 2 (He.ga K "_law_zt_deed") F.f_law_zt_deed p_law_zt_deed sp_law_zt_deed) (G_law_dl_thing_right : FnOk P w K mg base CX0 10 (He.ga K "_law_dl_thing_right") F.f_law_dl_thing_right p_law_dl_thing_right sp_law_dl_thing_right) (G_law_zt_otherwise : FnOk P w K mg base CX0 4 (He.ga K "_law_zt_otherwise") F.f_law_zt_otherwise p_law_zt_otherwise sp_law_zt_otherwise) (G_law_dl_text_right : FnOk P w K mg base CX0 10 (He.ga K "_law_dl_text_right") F.f_law_dl_text_right p_law_dl_text_right sp_law_dl_text_right) (G_law_dl_bent : FnOk P w K mg base CX0 3 (He.ga K "_law_dl_bent") F.f_law_dl_bent p_law_dl_bent sp_law_dl_bent) (G_law_take : FnOk P w K mg base CX0 1 (He.ga K "_law_take") F.f_law_take p_law_take sp_law_take) (G_law_one : FnOk P w K mg base CX0 2 (He.ga K "_law_one") F.f_law_one p_law_one sp_law_one) (G_read_deed : FnOk P w K mg base (L2N.CX P w) 5 (He.ga K "read_deed") F.f_read_deed p_read_deed sp_read_deed) (G_law_zq_same : FnOk P w K mg base CX0 9 (He.ga K "_law_zq_same") F.f_law_zq_same p_law_zq_same sp_law_zq_same) (G_law_dl_planted_right : FnOk P w K mg base CX0 21 (He.ga K "_law_dl_planted_right") F.f_law_dl_planted_right p_law_dl_planted_right sp_law_dl_planted_right) (len : ∀ vs H Q E, sp vs H Q E → vs.length = 1) (wp : ∀ vs H Q E, sp vs H Q E → t_law K sp_law_pool sp_law_zt_deed_drawn sp_law_zt_deed sp_law_dl_thing_right sp_law_zt_otherwise sp_law_dl_text_right sp_law_dl_bent sp_law_take sp_law_one sp_read_deed sp_law_zq_same sp_law_dl_planted_right { nx := fun _ H' => Q .non H', rt := Q } (L2.start n_law vs) H) : FnOk P w K mg base CX0 22 (He.ga K "law") F.f_law p_law sp := by
  obtain ⟨ocg, odg, dVg, kVg, docg, pmg, ang, cdg, ctg, oslg, efg, lkg, hcg, _, _⟩ := F.o_law_dl_heard.ex
  have bg := b_law_dl_heard F
  rw [efg] at bg lkg
  refine FunD.okC F.o_law sc_law len fun A outer s H vs Q E hr h => ⟨t_law K sp_law_pool sp_law_zt_deed_drawn sp_law_zt_deed sp_law_dl_thing_right sp_law_zt_otherwise sp_law_dl_text_right sp_law_dl_bent sp_law_take sp_law_one sp_read_deed sp_law_zq_same sp_law_dl_planted_right, ?_, wp vs H Q E h⟩
  exact PSs.nox (pss_cons (ps_set (i := 1) sc_law.nd rfl (.inl rfl) (pe_call G_law_pool (hr.mono (by decide)) rfl F.g_law_pool F.p_law_pool (b_law_pool F) .nil pass0 (pa_cons (pv 0) pa_nil))) (pss_cons (ps_for PassesOwn.never rfl (pi_range1 rfl F.b_range (pa_cons pe_int pa_nil)) (pg_name (i := 2) sc_law.nd rfl (.inl rfl)) (pss_cons (ps_set (i := 3) sc_law.nd rfl (.inl rfl) (pe_call G_law_zt_deed_drawn (hr.mono (by decide)) rfl F.g_law_zt_deed_drawn F.p_law_zt_deed_drawn (b_law_zt_deed_drawn F) .nil pass0 (pa_cons (pv 1) pa_nil))) (pss_cons (ps_set (i := 4) sc_law.nd rfl (.inl rfl) (pe_call G_law_zt_deed (hr.mono (by decide)) rfl F.g_law_zt_deed F.p_law_zt_deed (b_law_zt_deed F) .nil pass0 (pa_cons (pv 3) pa_nil))) (pss_cons (ps_if (pt_not (pt_val (pe_call G_law_dl_thing_right (hr.mono (by decide)) rfl F.g_law_dl_thing_right F.p_law_dl_thing_right (b_law_dl_thing_right F) .nil pass0 (pa_cons (pv 3) pa_nil)))) (pss_one (ps_ret pe_bl)) pss_nil) (pss_one (ps_for PassesOwn.never rfl (pi_range1 rfl F.b_range (pa_cons pe_int pa_nil)) (pg_name (i := 5) sc_law.nd rfl (.inl rfl)) (pss_cons (ps_set (i := 6) sc_law.nd rfl (.inl rfl) (pe_call G_law_zt_otherwise (hr.mono (by decide)) rfl F.g_law_zt_otherwise F.p_law_zt_otherwise (b_law_zt_otherwise F) .nil pass0 (pa_cons (pv 1) (pa_cons (pv 4) pa_nil)))) (pss_cons (ps_if (PW.pt (pw_or (pt_not (pt_val (pe_call G_law_dl_text_right (hr.mono (by decide)) rfl F.g_law_dl_text_right F.p_law_dl_text_right (b_law_dl_text_right F) .nil pass0 (pa_cons (pv 6) pa_nil)))) (pw_or1 (pt_not (pt_val (pe_call G_law_dl_text_right (hr.mono (by decide)) rfl F.g_law_dl_text_right F.p_law_dl_text_right (b_law_dl_text_right F) .nil pass0 (pa_cons (pe_call G_law_zt_otherwise (hr.mono (by decide)) rfl F.g_law_zt_otherwise F.p_law_zt_otherwise (b_law_zt_otherwise F) .nil pass0 (pa_cons (pv 1) (pa_cons (pv 6) pa_nil))) pa_nil))))))) (pss_one (ps_ret pe_bl)) pss_nil) (pss_one (ps_if (pt_not (pt_val (pe_call G_law_dl_thing_right (hr.mono (by decide)) rfl F.g_law_dl_thing_right F.p_law_dl_thing_right (b_law_dl_thing_right F) .nil pass0 (pa_cons (pe_call G_law_dl_bent (hr.mono (by decide)) rfl F.g_law_dl_bent F.p_law_dl_bent (b_law_dl_bent F) .nil pass0 (pa_cons (pv 1) (pa_cons (pv 3) pa_nil))) pa_nil)))) (pss_one (ps_ret pe_bl)) pss_nil)))))))))) (pss_cons (ps_asg (pe_tup (pa_cons (pe_call G_law_one (hr.mono (by decide)) rfl F.g_law_one F.p_law_one (b_law_one F) .nil pass0 (pa_cons (pv 1) (pa_cons (pe_lst (pa_cons pe_non (pa_cons pe_int (pa_cons (pe_lst (pa_cons pe_str pa_nil)) (pa_cons (pe_tup (pa_cons pe_str (pa_cons pe_int pa_nil))) (pa_cons pe_bl pa_nil)))))) pa_nil))) (pa_cons (pe_call G_law_take (hr.mono (by decide)) rfl F.g_law_take F.p_law_take (b_law_take F) .nil pass0 (pa_cons (pv 1) (pa_cons pe_int pa_nil))) pa_nil))) (pg_tup rfl (pgs_cons (pg_name (i := 7) sc_law.nd rfl (.inr rfl)) (pgs_cons (pg_name (i := 8) sc_law.nd rfl (.inr rfl)) pgs_nil)))) (pss_cons (ps_set (i := 9) sc_law.nd rfl (.inl rfl) (pe_lst (pa_cons (ZdL.pe_lamN (k := 5) (T := TT K) (TT := TTh K (TT K) (okC K) (nmC K)) (t := fun (E : XK) => (tCall sp_read_deed [] E (tCons (tVar 7) tNil))) (a := "call") (Ng := n_law_dl_heard) rfl F.g_law_dl_heard F.p_law_dl_heard lkg hcg bg sc_law_dl_heard rfl (.inl rfl) (give_law_dl_heard FE F) TB rfl hTm hTu (hr.mono (by decide)) (show LamX.LamS (defScope s_law) _ from LamX.lamS_by (by decide +kernel)) rfl (fun _ _ _ _ _ => rfl) (fun A outer s H E f c' hr => (pe_call G_read_deed (hr.mono (by decide)) rfl F.g_read_deed F.p_read_deed (b_read_deed F) .nil (L2N.passes_call (show L2N.Takes _ (fun cls d _ H => E cls d H) from L2N.takes_of rfl rfl rfl rfl) (fun _ _ _ _ z => z)) (pa_cons (pv 7) pa_nil)))) pa_nil))) (pss_cons (ps_expr (pe_bm PySem.F.plainAttrs_list PySem.F.slot_list_append PySem.F.type_list_append mt_append (pv 9) (pa_cons (ZdL.pe_lamN (k := 5) (T := TT K) (TT := TTh K (TT K) (okC K) (nmC K)) (t := fun (E : XK) => (tCall sp_read_deed [] E (tCons (tOp rMulU (tC (.str "x")) (tOp (rAddU K) (tC (.int 200000)) (tVar 8))) tNil))) (a := "call") (Ng := n_law_dl_heard) rfl F.g_law_dl_heard F.p_law_dl_heard lkg hcg bg sc_law_dl_heard rfl (.inl rfl) (give_law_dl_heard FE F) TB rfl hTm hTu (hr.mono (by decide)) (show LamX.LamS (defScope s_law) _ from LamX.lamS_by (by decide +kernel)) rfl (fun _ _ _ _ _ => rfl) (fun A outer s H E f c' hr => (pe_call G_read_deed (hr.mono (by decide)) rfl F.g_read_deed F.p_read_deed (b_read_deed F) .nil (L2N.passes_call (show L2N.Takes _ (fun cls d _ H => E cls d H) from L2N.takes_of rfl rfl rfl rfl) (fun _ _ _ _ z => z)) (pa_cons (pe_op o_mulU pe_str (pe_op o_addU pe_int (pv 8))) pa_nil)))) pa_nil))) (pss_cons (ps_set (i := 10) sc_law.nd rfl (.inl rfl) (pe_lst (pa_cons (pe_tup (pa_cons pe_str (pa_cons (pe_un u_neg pe_int) pa_nil))) (pa_cons (pe_ifExp (pt_cmpR (o_eqU hr.units) (pv 8) pe_int (nomark _)) (pe_tup (pa_cons pe_str (pa_cons pe_int pa_nil))) (pe_tup (pa_cons pe_str (pa_cons (pe_tup (pa_cons pe_int (pa_cons pe_int pa_nil))) pa_nil)))) pa_nil)))) (pss_one (ps_ret (pe_and (pe_call G_law_zq_same (hr.mono (by decide)) rfl F.g_law_zq_same F.p_law_zq_same (b_law_zq_same F) .nil pass0 (pa_cons (pv 9) (pa_cons (pv 10) pa_nil))) (pe_one (pe_call G_law_dl_planted_right (hr.mono (by decide)) rfl F.g_law_dl_planted_right F.p_law_dl_planted_right (b_law_dl_planted_right F) .nil pass0 (pa_cons (pv 1) pa_nil))))))))))))
end
end K83

/-! ## WW -/
set_option Elab.async false
set_option linter.all false
set_option maxRecDepth 100000
set_option maxHeartbeats 4000000
namespace K83
open PySem PySem.Spec PyProof.Rows L2 Zd
local macro_rules | `(tactic| walk_at "z") => `(tactic| first
  | (with_reducible refine w_int ?_) | (with_reducible refine w_str ?_) | (with_reducible refine w_bl ?_) | (with_reducible refine w_non ?_)
  | (with_reducible refine w_varR ?_; refine ⟨_, rfl, ?_⟩)
  | (with_reducible refine w_isInt ?_) | (with_reducible refine w_isBool ?_) | (with_reducible refine w_isStr ?_) | (with_reducible refine w_isTup ?_) | (with_reducible refine w_isLst ?_)
  | (with_reducible refine w_kdGet (by assumption) ?_) | (with_reducible refine w_kdIn (by assumption) ?_) | (with_reducible refine w_kdNotIn (by assumption) ?_) | (with_reducible refine w_k (by assumption) ?_)
  | (with_reducible refine w_ixOR ?_; refine ⟨_, _, rfl, ?_⟩) | (with_reducible refine w_lenOR ?_; refine ⟨_, _, rfl, ?_⟩) | (with_reducible refine w_slOR ?_; refine ⟨_, _, rfl, ?_⟩) | (with_reducible refine w_callJR ?_; refine ⟨_, _, rfl, ?_⟩)
  | (with_reducible refine w_op ?_) | (with_reducible refine w_cb ?_) | (with_reducible refine w_nil ?_) | (with_reducible refine w_cons ?_)
  | (with_reducible refine w_disp ?_) | (with_reducible refine p_cons ?_) | (with_reducible refine p_nil ?_) | (with_reducible refine w_revT ?_) | (with_reducible refine w_dget ?_) | (with_reducible refine w_din ?_) | (with_reducible refine w_dnin ?_)
  | (with_reducible refine w_tup ?_) | (with_reducible refine w_lst ?_) | (with_reducible refine w_test ?_) | (with_reducible refine w_tB ?_)
  | (with_reducible refine w_not ?_) | (with_reducible refine w_and ?_) | (with_reducible refine w_or ?_) | (with_reducible refine w_if ?_)
  | (with_reducible refine w_notV ?_) | (with_reducible refine w_andV ?_) | (with_reducible refine w_orV ?_) | (with_reducible refine w_chain ?_) | (with_reducible refine w_neg ?_)
  | (with_reducible refine w_sl ?_) | (with_reducible refine o_none ?_) | (with_reducible refine o_some ?_) | (with_reducible refine w_m1 ?_)
  | (with_reducible refine u_addI ?_) | (with_reducible refine u_sub ?_) | (with_reducible refine u_lt ?_) | (with_reducible refine u_le ?_) | (with_reducible refine u_gt ?_) | (with_reducible refine u_ge ?_)
  | (with_reducible refine u_eqI ?_) | (with_reducible refine u_neI ?_) | (with_reducible refine u_eqS ?_) | (with_reducible refine u_neS ?_)
  | (with_reducible refine u_inT ?_) | (with_reducible refine u_eqT0 ?_) | (with_reducible refine u_neT0 ?_) | (with_reducible refine u_neL0 ?_) | (with_reducible refine u_eqL0 ?_)
  | (with_reducible refine r_isN ?_) | (with_reducible refine r_notN ?_) | (with_reducible refine u_int ?_) | (with_reducible refine u_intB ?_)
  | (with_reducible refine k_strS ?_) | (with_reducible refine k_max2 ?_) | (with_reducible refine k_min2 ?_)
  | (with_reducible refine k_tup ?_) | (with_reducible refine k_lenT ?_) | (with_reducible refine k_lenL ?_) | (with_reducible refine u_ixT atI_zero ?_) | (with_reducible refine u_ixL atI_zero ?_) | (with_reducible refine w_callE ?_) | (with_reducible refine w_callX ?_) | (with_reducible refine s_raise (by assumption) ?_) | (with_reducible refine i_rng1 ?_) | (with_reducible refine i_rng2 ?_) | (with_reducible refine i_list ?_) | (with_reducible refine i_tup ?_) | (with_reducible refine i_str ?_) | (with_reducible refine u_slT ?_) | (with_reducible refine u_slL ?_)
  | (with_reducible refine q_set ?_) | (with_reducible refine q_drop ?_) | (with_reducible refine q_par ?_) | (with_reducible refine q_when ?_) | (with_reducible refine q_if ?_)
  | (with_reducible refine s_ret ?_) | (with_reducible refine s_retNon ?_) | (with_reducible refine s_next ?_)
  | (refine ⟨_, rfl, ?_⟩) | (refine ⟨Nat.le_of_ble_eq_true rfl, ?_⟩) | (refine knownT rfl ?_) | (refine knownF rfl ?_) | (refine orT rfl ?_) | (refine orF rfl ?_))
local macro_rules | `(tactic| walk_at "zz") => `(tactic| repeat walk_at "z")
local macro_rules | `(tactic| walk_at "kt") => `(tactic| refine ⟨_, rfl, knownT rfl ?_⟩)
local macro_rules | `(tactic| walk_at "kf") => `(tactic| refine ⟨_, rfl, knownF rfl ?_⟩)
local macro_rules | `(tactic| walk_at "ot") => `(tactic| refine ⟨_, rfl, orT rfl ?_⟩)
local macro_rules | `(tactic| walk_at "of") => `(tactic| refine ⟨_, rfl, orF rfl ?_⟩)
local macro_rules | `(tactic| walk_at "t") => `(tactic| refine knownT rfl ?_)
local macro_rules | `(tactic| walk_at "f") => `(tactic| refine knownF rfl ?_)
local macro_rules | `(tactic| walk_at "bl") => `(tactic| refine ⟨_, rfl, ?_⟩)
local macro_rules | `(tactic| walk_at "br") => `(tactic| refine ⟨fun h => ?_, fun h => ?_⟩)

variable {K : PySem.W.Frag} {T : Tb} {w : World} {vs : List V} {H : Hp} {Q : VK} {E : XK}
theorem rep_mem (x : Str) (n : Nat) : ∀ c, c ∈ (ZdU.rep x n).cps.toList → c ∈ x.cps.toList := by
  have key : ∀ (n : Nat) (a : Array Nat), (∀ c, c ∈ a.toList → c ∈ x.cps.toList) → ∀ c, c ∈ ((List.replicate n x.cps).foldl (· ++ ·) a).toList → c ∈ x.cps.toList := fun n => by
    induction n with
    | zero => intro a h c hc; exact h c hc
    | succ k ih =>
      intro a h c hc
      rw [List.replicate_succ, List.foldl_cons] at hc
      refine ih _ (fun d hd => ?_) c hc
      rw [Array.toList_append] at hd
      rcases List.mem_append.mp hd with hd | hd
      · exact h d hd
      · exact hd
  exact fun c hc => key n #[] (fun c hc => by cases hc) c hc
theorem x_none {n : Nat} (h : 8 ≤ n) : deedOf (firstW (ZdU.rep "x" n)) = .error 0 := by
  have hx : ("x" : Str).cps.toList = [120] := by decide +kernel
  have hm : ∀ c, c ≠ 120 → c ∉ TL.tl (ZdU.rep "x" n) := fun c hc hm => by
    have := rep_mem "x" n c hm
    rw [hx] at this
    exact hc (List.mem_singleton.mp this)
  have e1 : lns (ZdU.rep "x" n) = [ZdU.rep "x" n] := by
    have k := TL.split_join (y := "\n") (s := 10) (S := []) (by decide +kernel) (by decide +kernel) (parts := [ZdU.rep "x" n]) (by simp) fun p hp2 => by
      rw [List.mem_singleton.mp hp2]
      exact hm 10 (by decide)
    rw [join_one] at k
    exact k
  have e2 : firstW (ZdU.rep "x" n) = [ZdU.rep "x" n] := by
    show wds ((lns (ZdU.rep "x" n)).headD "") = _
    rw [e1]
    show Txt.split (ZdU.rep "x" n) " " = _
    have k := TL.split_join (y := " ") (s := 32) (S := []) (by decide +kernel) (by decide +kernel) (parts := [ZdU.rep "x" n]) (by simp) fun p hp2 => by
      rw [List.mem_singleton.mp hp2]
      exact hm 32 (by decide)
    rw [join_one] at k
    exact k
  rw [e2]
  unfold deedOf
  show (match sizeL.lookup (ZdU.rep "x" n) with | none => Except.error 0 | some n => _) = _
  cases hs : sizeL.lookup (ZdU.rep "x" n) with
  | none => rfl
  | some m =>
    have := word_len hs
    rw [rep_len, show ("x" : Str).length = 1 by decide +kernel] at this
    omega
def oddB (d : D) : Bool := !isStrD d
theorem ws_law (c : Cd) (FE : Fe c.K) (hT : c.T = TT c.K) (hS : ∀ q, ¬ c.S q) (a : Addr) (ns : List Int) (hs : SqL c.K c.G0 a (ns.map V.int)) (hl : ns.length ≤ 63) :
    WpS c (t_law c.K (spPool c.K c.T) (spDd c.K c.T) (spLd c.K c.T) (spTrue c.K c.T preTh) (spOt c.K c.T) (spTrue c.K c.T preTr) (spBe c.K c.T) (spTk c.K c.T) (spOne c.K c.T) (spRead c.K c.T) (spSame c.K c.T (okD 7)) (spPl c.K c.T)) (Ret fun r => r = .bl true)
      [some (.fn a), none, none, none, none, none, none, none, none, none, none] := by
  have hz : sizeLine = 16777216 := sizeLine_eq
  have m2 : ("BadText" : Str) ∈ errN := by decide +kernel
  have m3 : ("TooMany" : Str) ∈ errN := by decide +kernel
  have m4 : ("WrongLine" : Str) ∈ errN := by decide +kernel
  have one : ∀ {d : D}, d = .bl true → d = .bl true := id
  unfold t_law
  rw [← hT]
  refine q_setN ?_
  refine w_callS rfl hs hl fun js0 hj0 => ⟨Nat.le_of_ble_eq_true rfl, fun p => ?_⟩
  refine q_for ?_
  walk_at "zz"
  refine ⟨by decide, ?_⟩
  refine ⟨fun i ρ => ∃ js g2 g3 g4 g5 g6, JV js ∧ ρ = [some (.fn a), some (.own p js), g2, g3, g4, g5, g6, none, none, none, none], ⟨js0, _, _, _, _, _, hj0, rfl⟩, fun i d ρ2 hd2 hin => ?_, fun ρ2 hin => ?_⟩
  · obtain ⟨js, g2, g3, g4, g5, g6, hj, rfl⟩ := hin
    refine g_name (Nat.le_of_ble_eq_true rfl) ?_
    walk_at "zz"
    refine ⟨⟨hj, rfl⟩, fun deed es he => ?_⟩
    obtain ⟨hj1, hD⟩ := he
    refine ⟨Nat.le_of_ble_eq_true rfl, ?_⟩
    have h3 : ∃ dw l, deed = deedD dw l := by
      obtain ⟨dw, n, l, e, _⟩ := isDeed_spec hD
      exact ⟨dw, l, e⟩
    obtain ⟨dw, l, rfl⟩ := h3
    have hok := okD_deed hD
    have hlen := deedT_len hD
    walk_at "zz"
    refine ⟨⟨_, rfl, hD⟩, fun d hd => ⟨Nat.le_of_ble_eq_true rfl, ?_⟩⟩
    rw [hd _ _ rfl]
    walk_at "zz"
    refine ⟨⟨_, rfl, hok⟩, fun d hd => ?_⟩
    have hd : d = .bl true := hd
    subst hd
    walk_at "zz"
    refine s_for ?_
    walk_at "zz"
    refine ⟨by decide, ?_⟩
    refine ⟨fun j ρ => ∃ js g2 g5 g6, JV js ∧ ρ = [some (.fn a), some (.own p js), g2, some (.dat (deedD dw l)), some (.dat (.str (deedT dw l))), g5, g6, none, none, none, none], ⟨es, _, _, _, hj1, rfl⟩, fun j d ρ3 hd3 hin2 => ?_, fun ρ3 hin2 => ?_⟩
    · obtain ⟨js, g2, g5, g6, hj2, rfl⟩ := hin2
      refine g_name (Nat.le_of_ble_eq_true rfl) ?_
      walk_at "zz"
      refine ⟨⟨hj2, _, rfl, by omega⟩, fun d es2 he => ?_⟩
      obtain ⟨hj3, x, rfl, hx⟩ := he
      have hx := hx _ rfl
      refine ⟨Nat.le_of_ble_eq_true rfl, ?_⟩
      walk_at "zz"
      refine ⟨⟨x, rfl, by omega⟩, fun d hd => ?_⟩
      have hd : d = .bl true := hd
      subst hd
      walk_at "zz"
      refine ⟨⟨hj3, x, rfl, by omega⟩, fun d es3 he => ?_⟩
      obtain ⟨hj4, y, rfl, hy⟩ := he
      have hy := hy _ rfl
      walk_at "zz"
      refine ⟨⟨y, rfl, by omega⟩, fun d hd => ?_⟩
      have hd : d = .bl true := hd
      subst hd
      walk_at "zz"
      refine s_if ?_
      walk_at "zz"
      refine ⟨⟨hj4, _, rfl, ?_, ?_, ?_⟩, fun d es4 he => ?_⟩
      · simp
      · obtain ⟨dw', n, l', e, hs, hl', _⟩ := isDeed_spec hD
        obtain ⟨rfl, rfl⟩ := deedD_inj e
        have := sizeL_small hs
        rw [List.length_cons, List.length_map]
        omega
      · refine fa_cons okD_str fun x hx => ?_
        obtain ⟨i, _, rfl⟩ := List.mem_map.mp hx
        exact okD_int
      obtain ⟨hj5, hbe⟩ := he
      walk_at "zz"
      refine ⟨⟨d, rfl, hbe⟩, fun d hd => ?_⟩
      have hd : d = .bl true := hd
      subst hd
      walk_at "zz"
      exact ⟨es4, _, _, _, hj5, rfl⟩
    · obtain ⟨js, g2, g5, g6, hj2, rfl⟩ := hin2
      exact ⟨js, _, _, _, _, _, hj2, rfl⟩
  · obtain ⟨js, g2, g3, g4, g5, g6, hj, rfl⟩ := hin
    refine q_asg ?_
    walk_at "zz"
    refine ⟨⟨hj, _, rfl, by simp, Nat.le_of_ble_eq_true rfl⟩, fun odd es he => ?_⟩
    obtain ⟨hj1, hodd⟩ := he
    have hob : isStrD odd = false := by
      have h4 := hodd _ rfl
      have key : ∀ x, x ∈ [D.non, .int 5, .lst [.str "drop 0"], .tup [.str "drop", .int 0], .bl true] → isStrD x = false := fg_cons rfl (fg_cons rfl (fg_cons rfl (fg_cons rfl (fg_cons rfl fg_nil))))
      exact key odd h4
    walk_at "zz"
    refine ⟨⟨hj1, _, rfl, by decide, by decide⟩, fun d es2 he => ?_⟩
    obtain ⟨hj2, k, rfl, k1, k2⟩ := he
    have k2 := k2 _ rfl
    walk_at "zz"
    refine g_tup ⟨_, rfl, rfl, g_cons ⟨_, _, rfl, g_name (Nat.le_of_ble_eq_true rfl) (g_cons ⟨_, _, rfl, g_name (Nat.le_of_ble_eq_true rfl) (g_nil rfl ?_)⟩)⟩⟩
    refine q_setN ?_
    refine w_lstN ?_
    refine w_cons ?_
    refine w_lam (fun _ => False) (fun C w => C = He.ga c.K "BadText" ∧ w = .int (-1)) (fun G H E => ?_) (fun C w z => by rw [z.1]; exact okC_in m2) (fun d hd => hd.elim) (fun C w z => ?_)
    · walk_at "zz"
      refine ⟨⟨odd, rfl, fun s' e => by subst e; cases hob⟩, fun C w z => ?_, fun d hd => ?_⟩
      · rcases z with z | z
        · rcases z with ⟨t', e, z0, z1, z2⟩ | ⟨s', e, _⟩
          · exact ⟨z1, z2⟩
          · rw [(List.cons.inj e).1] at hob
            cases hob
        · obtain ⟨s', e, _⟩ := z
          rw [(List.cons.inj e).1] at hob
          cases hob
      · obtain ⟨s', e, _⟩ := hd
        rw [(List.cons.inj e).1] at hob
        cases hob
    obtain ⟨rfl, rfl⟩ := z
    rw [nmC_eq FE m2]
    walk_at "zz"
    intro q
    refine q_app ⟨_, _, rfl⟩ ?_
    have hx1 : ("x" : Str).length = 1 := by decide +kernel
    have hrl : (ZdU.rep "x" (200000 + k).toNat).length = (200000 + k).toNat := by rw [rep_len, hx1, Nat.mul_one]
    have last : ∀ (X : D) (Y : Bool), okD 6 X → ∀ ρ : Rho, ρ[1]? = some (some (.own p es2)) → ρ[9]? = some (some (.own q [.tup [.str "BadText", .int (-1)], X])) → ρ[10]? = some (some (.dat (.lst [.tup [.str "BadText", .int (-1)], X]))) →
        WpS c (tRet (tAndV (tCall (spSame c.K c.T (okD 7)) [] E0 (tCons (tVar 9) (tCons (tVar 10) tNil))) (tCall (spPl c.K c.T) [] E0 (tCons (tVar 1) tNil)))) (Ret fun r => r = .bl true) ρ := fun X Y hX ρ h1 h9 h10 => by
      have hi : 9 < ρ.length := (List.getElem?_eq_some_iff.mp h9).1
      refine s_frz 9 h9 (fun z y => absurd y (hS z)) ?_
      refine s_ret (w_andV (w_callE (w_cons (w_var (List.getElem?_set_self hi) (w_cons (w_var (by rw [List.getElem?_set_ne (by decide)]; exact h10) (w_nil ⟨⟨_, rfl, okD_l2 (okD_pair okD_str okD_int) hX⟩, fun d hd => ?_⟩)))))))
      have hd : d = .bl true := hd
      subst hd
      refine ⟨_, rfl, knownT rfl ?_⟩
      refine w_callJR ⟨p, es2, by rw [List.getElem?_set_ne (by decide)]; exact h1, w_nil ⟨es2, by rw [List.getElem?_set_ne (by decide)]; exact h1, ⟨hj2, rfl⟩, fun d es3 he => ?_⟩⟩
      exact ⟨_, rfl, he.2⟩
    by_cases hk1 : k = 1
    · subst hk1
      obtain ⟨xx, hxx, hxl⟩ : ∃ xx, xx = ZdU.rep "x" ((200000 : Int) + 1).toNat ∧ xx.length = 200001 := ⟨_, rfl, hrl.trans (by decide)⟩
      clear hrl
      refine w_lam (fun _ => False) (fun C w => C = He.ga c.K "TooMany" ∧ w = .int 200001) (fun G H E => ?_) (fun C w z => by rw [z.1]; exact okC_in m3) (fun d hd => hd.elim) (fun C w z => ?_)
      · walk_at "zz"
        refine u_mulS (by decide) (by decide) (by rw [hx1]; exact Nat.le_refl 1) (by rw [hx1, hz]; decide) (by rw [← hxx, hxl, hz]; decide) ?_
        rw [← hxx]
        clear hxx
        walk_at "zz"
        refine ⟨⟨_, rfl, fun s' e => by cases e; rw [hxl]; decide⟩, fun C w z => ?_, fun d hd => ?_⟩
        · rcases z with z | z
          · rcases z with ⟨t', e, z0, z1, z2⟩ | ⟨s', e, z0, z1, z2⟩
            · rw [← (List.cons.inj e).1] at z0
              cases z0
            · cases (List.cons.inj e).1
              rw [hxl] at z2
              exact ⟨z1, z2⟩
          · obtain ⟨s', e, z0, _⟩ := z
            cases (List.cons.inj e).1
            rw [hxl] at z0
            exact absurd z0 (by decide)
        · obtain ⟨s', e, z0, _⟩ := hd
          cases (List.cons.inj e).1
          rw [hxl] at z0
          exact absurd z0 (by decide)
      obtain ⟨rfl, rfl⟩ := z
      rw [nmC_eq FE m3]
      refine ⟨q, _, rfl, Nat.lt_of_lt_of_le (show 1 < 2 by decide) (Nat.le_of_ble_eq_true rfl), ?_⟩
      refine q_set (EvD.imp (P := fun d ρ1 => d = .lst [.tup [.str "BadText", .int (-1)], .tup [.str "TooMany", .int 200001]] ∧ ρ1[1]? = some (some (.own p es2)) ∧ ρ1[9]? = some (some (.own q [.tup [.str "BadText", .int (-1)], .tup [.str "TooMany", .int 200001]])) ∧ 10 < ρ1.length) ?_ fun d ρ1 ⟨e1, e2, e3, e4⟩ => ?_)
      · walk_at "zz"
        try refine known true (by decide) (fun _ => ?_) (fun z => nomatch z)
        walk_at "zz"
        exact ⟨rfl, rfl, rfl, Nat.le_of_ble_eq_true rfl⟩
      · subst e1
        exact ⟨e4, last (.tup [.str "TooMany", .int 200001]) true (okD_pair okD_str okD_int) _ (by rw [List.getElem?_set_ne (by decide)]; exact e2) (by rw [List.getElem?_set_ne (by decide)]; exact e3) (List.getElem?_set_self e4)⟩
    · have hk0 : k = 0 := by omega
      subst hk0
      obtain ⟨xx, hxx, hxl, hxn⟩ : ∃ xx, xx = ZdU.rep "x" ((200000 : Int) + 0).toNat ∧ xx.length = 200000 ∧ deedOf (firstW xx) = .error 0 := ⟨_, rfl, hrl.trans (by decide), x_none (by decide)⟩
      clear hrl
      refine w_lam (fun _ => False) (fun C w => C = He.ga c.K "WrongLine" ∧ w = .tup [.int 0, .int 0]) (fun G H E => ?_) (fun C w z => by rw [z.1]; exact okC_in m4) (fun d hd => hd.elim) (fun C w z => ?_)
      · walk_at "zz"
        refine u_mulS (by decide) (by decide) (by rw [hx1]; exact Nat.le_refl 1) (by rw [hx1, hz]; decide) (by rw [← hxx, hxl, hz]; decide) ?_
        rw [← hxx]
        clear hxx
        walk_at "zz"
        refine ⟨⟨_, rfl, fun s' e => by cases e; rw [hxl]; decide⟩, fun C w z => ?_, fun d hd => ?_⟩
        · rcases z with z | z
          · rcases z with ⟨t', e, z0, z1, z2⟩ | ⟨s', e, z0, z1, z2⟩
            · rw [← (List.cons.inj e).1] at z0
              cases z0
            · cases (List.cons.inj e).1
              rw [hxl] at z0
              exact absurd z0 (by decide)
          · obtain ⟨s', e, z0, z1, z2⟩ := z
            cases (List.cons.inj e).1
            rcases z2 with ⟨b, y1, y2⟩ | ⟨m, y1, _⟩
            · rw [hxn] at y1
              cases y1
              exact ⟨z1, y2⟩
            · rw [hxn] at y1
              cases y1
        · obtain ⟨s', e, z0, m, y1, _⟩ := hd
          cases (List.cons.inj e).1
          rw [hxn] at y1
          cases y1
      obtain ⟨rfl, rfl⟩ := z
      rw [nmC_eq FE m4]
      refine ⟨q, _, rfl, Nat.lt_of_lt_of_le (show 1 < 2 by decide) (Nat.le_of_ble_eq_true rfl), ?_⟩
      refine q_set (EvD.imp (P := fun d ρ1 => d = .lst [.tup [.str "BadText", .int (-1)], .tup [.str "WrongLine", .tup [.int 0, .int 0]]] ∧ ρ1[1]? = some (some (.own p es2)) ∧ ρ1[9]? = some (some (.own q [.tup [.str "BadText", .int (-1)], .tup [.str "WrongLine", .tup [.int 0, .int 0]]])) ∧ 10 < ρ1.length) ?_ fun d ρ1 ⟨e1, e2, e3, e4⟩ => ?_)
      · walk_at "zz"
        try refine known false (by decide) (fun z => nomatch z) (fun _ => ?_)
        walk_at "zz"
        exact ⟨rfl, rfl, rfl, Nat.le_of_ble_eq_true rfl⟩
      · subst e1
        exact ⟨e4, last (.tup [.str "WrongLine", .tup [.int 0, .int 0]]) true (okD_pair okD_str (okD_pair okD_int okD_int)) _ (by rw [List.getElem?_set_ne (by decide)]; exact e2) (by rw [List.getElem?_set_ne (by decide)]; exact e3) (List.getElem?_set_self e4)⟩
end K83

/-! ## E83 -/
set_option Elab.async false
set_option linter.all false
set_option maxRecDepth 100000
set_option maxHeartbeats 4000000
namespace K83
open PySem PySem.Spec PyProof.Rows L2 Zd
/-! ### an error's class, looked at -/
theorem oexB_ok {K : PySem.W.Frag} {C : Addr} (h : oexB K C = true) : OexC K C := by
  obtain ⟨h1, h⟩ := He.ba h
  obtain ⟨h2, h⟩ := He.ba h
  obtain ⟨h3, h⟩ := He.ba h
  obtain ⟨h4, h5⟩ := He.ba h
  refine ⟨?_, of_decide_eq_true h2, of_decide_eq_true h3, of_decide_eq_true h4, h5⟩
  split at h1
  · rename_i dd nm bs C' bm ns qn sn sub ab col k0 k1 k2 k3 n k5 ho
    obtain ⟨g1, g⟩ := He.ba h1
    obtain ⟨g2, g3⟩ := He.ba g
    have e1 := of_decide_eq_true g1
    have e2 := of_decide_eq_true g2
    subst e1 e2
    exact ⟨nm, qn, ns, bs, bm, sn, sub, ab, col, dd, k0, k1, k2, k3, k5, ho, g3⟩
  · cases h1
theorem excB_ok {K : PySem.W.Frag} {C : Addr} (h : excB K C = true) : ExcC K C := by
  obtain ⟨h1, h⟩ := He.ba h
  obtain ⟨h2, h⟩ := He.ba h
  obtain ⟨h3, h⟩ := He.ba h
  obtain ⟨h4, h⟩ := He.ba h
  obtain ⟨h5, h⟩ := He.ba h
  obtain ⟨h6, h⟩ := He.ba h
  obtain ⟨h7, h8⟩ := He.ba h
  exact ⟨of_decide_eq_true h1, of_decide_eq_true h2, of_decide_eq_true h3, h4, of_decide_eq_true h5, of_decide_eq_true h6, of_decide_eq_true h7, of_decide_eq_true h8⟩
/-! ### a written dict's keys -/
theorem dic_none {K : PySem.W.Frag} {w : World} {a : Addr} {ks : List Str} (h : He.dicW K a = some (He.keysIn w.params ks)) {z : Str} (hz : z ∉ ks) : PySem.W.nsIn K a z = some none := by
  obtain ⟨es, n, D⟩ := He.dicW_ok h
  have hk : es.toList.map He.keyOf = He.keysIn w.params ks := by
    unfold He.dicW at h
    rw [D.at_] at h
    have h2 : (match decide ("dict" = "dict") && (([] : List (Option Value)).toArray.isEmpty && !(a == sysModules)) with
      | true => some (es.toList.map He.keyOf)
      | false => none) = some (He.keysIn w.params ks) := h
    rw [D.low] at h2
    exact Option.some.inj h2
  have key : ∀ (l : List DictEntry) (ks : List Str), l.map He.keyOf = He.keysIn w.params ks → z ∉ ks → l.find? (·.key.isStr z) = none ∧ l.any (·.refKey) = false := fun l => by
    induction l with
    | nil => intro ks _ _; exact ⟨rfl, rfl⟩
    | cons e r ih =>
      intro ks h hz
      cases ks with
      | nil => cases h
      | cons k ks =>
        have h1 : He.keyOf e :: r.map He.keyOf = some (k, PyData.keyHash w.params k) :: He.keysIn w.params ks := h
        injection h1 with h2 h3
        obtain ⟨g1, g2⟩ := ih ks h3 fun y => hz (List.mem_cons_of_mem _ y)
        unfold He.keyOf at h2
        split at h2
        · rename_i x t q
          have h4 := Option.some.inj h2
          obtain ⟨h5, h6⟩ := Prod.mk.inj h4
          subst h5
          have ne : (x == z) = false := beq_eq_false_iff_ne.mpr fun y => hz (by rw [y]; exact List.mem_cons_self ..)
          have p1 : e.key.isStr z = false := by
            rw [q]
            exact ne
          have p2 : e.refKey = false := by
            unfold DictEntry.refKey
            rw [q]
          exact ⟨by rw [List.find?_cons_of_neg (by rw [p1]; exact Bool.false_ne_true)]; exact g1, by rw [List.any_cons, p2, g2]; rfl⟩
        · cases h2
  unfold PySem.W.nsIn
  rw [D.at_]
  obtain ⟨g1, g2⟩ := key _ _ hk hz
  show (match es.toList.find? (·.key.isStr z) with
      | some e => some (some e.val)
      | none => if es.toList.any (·.refKey) then none else some none) = _
  rw [g1, g2]
  rfl
theorem look_mem {α : Type} {z : Str} {d : α} : ∀ {l : List (Str × α)}, l.lookup z = some d → (z, d) ∈ l
  | [], h => by cases h
  | (x, e) :: r, h => by
    rw [List.lookup_cons] at h
    cases q : z == x with
    | true =>
      rw [q] at h
      have := eq_of_beq q
      subst this
      cases h
      exact List.mem_cons_self ..
    | false =>
      rw [q] at h
      exact List.mem_cons_of_mem _ (look_mem h)
theorem look_none {α : Type} {z : Str} : ∀ {l : List (Str × α)}, l.lookup z = none → z ∉ l.map (·.1)
  | [], _, h => by cases h
  | (x, e) :: r, h, hm => by
    rw [List.lookup_cons] at h
    cases q : z == x with
    | true => rw [q] at h; cases h
    | false =>
      rw [q] at h
      rcases List.mem_cons.mp hm with e2 | hm
      · rw [e2, beq_self_eq_true] at q
        cases q
      · exact look_none h hm
theorem kd_of {K : PySem.W.Frag} {w : World} (h1 : He.dicW K (He.ga K "DEED_SIZES") = some (He.keysIn w.params (sizeL.map (·.1)))) (h2 : He.valsB K (He.ga K "DEED_SIZES") sizeDv = true) : KdOk K (He.ga K "DEED_SIZES") sizeT := fun z => by
  rw [size_look]
  cases e : sizeL.lookup z with
  | none => exact ⟨fun _ => dic_none h1 (look_none e), fun d hd => by cases hd⟩
  | some n =>
    refine ⟨fun h => (nomatch h), fun d hd => ?_⟩
    have hd : some (D.int n) = some d := hd
    cases hd
    have hm : (z, He.Dv.int n) ∈ sizeDv := List.mem_map.mpr ⟨(z, n), look_mem e, rfl⟩
    obtain ⟨u, e, r⟩ := He.valsB_ok h2 hm
    exact ⟨u, .int n, e, r, fun G => rfl⟩
theorem tup_of {K : PySem.W.Frag} (h : He.tupB K "PRICED_DEEDS" (pricedL.map He.Dv.str) = true) (G : Hp) : Rp K G (.tup (pricedL.map D.str)) (.ref (He.ga K "PRICED_DEEDS")) :=
  ⟨_, _, rfl, He.tupB_ok h G, Rps.ofStrs pricedL⟩
theorem cfound_ok {o : Option PySem.W.CFound} (h : (match o with
    | some (.val (.builtin n)) => decide (n = "ValueError.__init__")
    | _ => false) = true) : o = some (.val (.builtin "ValueError.__init__")) := by
  split at h
  · rename_i n
    rw [of_decide_eq_true h]
  · cases h
theorem exB_ok {K : PySem.W.Frag} (h : exB K = true) : (∀ n, n ∈ errN → ErrK K (He.ga K n) ∧ ErrS K (He.ga K n) ∧ PySem.W.exmOne K (.ref (He.ga K n)) (.ref (He.ga K "Refused")) = some true ∧ ∀ m, m ∈ errN → PySem.W.kitOne K (.ref (He.ga K n)) (.ref (He.ga K m)) = some (decide (n = m))) ∧
    PySem.W.typeIn K (.ref (fI K)) = some (.type "function") ∧ PySem.W.findCls K (.type "ValueError") (.type "type") "__init__" = some (.val (.builtin "ValueError.__init__")) ∧ He.valsB K (He.ga K "DEED_SIZES") sizeDv = true ∧ He.tupB K "PRICED_DEEDS" (pricedL.map He.Dv.str) = true ∧
    tabP K "_law_dl_thing_right" ≠ tabP K "_law_dl_text_right" ∧ tabP K "_law_dl_thing_right" ≠ tabP K "law" ∧ tabP K "_law_dl_text_right" ≠ tabP K "law" := by
  obtain ⟨h1, h⟩ := He.ba h
  obtain ⟨h2, h⟩ := He.ba h
  obtain ⟨h3, h⟩ := He.ba h
  obtain ⟨h4, h⟩ := He.ba h
  obtain ⟨h5, h⟩ := He.ba h
  obtain ⟨h6, h⟩ := He.ba h
  obtain ⟨h7, h8⟩ := He.ba h
  have t2 := of_decide_eq_true h2
  refine ⟨fun n hn => ?_, t2, cfound_ok h3, h4, h5, of_decide_eq_true h6, of_decide_eq_true h7, of_decide_eq_true h8⟩
  have k := List.all_eq_true.mp h1 n hn
  obtain ⟨k1, k⟩ := He.ba k
  obtain ⟨k2, k⟩ := He.ba k
  obtain ⟨k3, k⟩ := He.ba k
  obtain ⟨k4, k⟩ := He.ba k
  obtain ⟨k5, k⟩ := He.ba k
  obtain ⟨k6, k7⟩ := He.ba k
  exact ⟨⟨oexB_ok k1, of_decide_eq_true k2, of_decide_eq_true k3, t2⟩, ⟨excB_ok k4, xfB_ok k5, of_decide_eq_true k2⟩, of_decide_eq_true k6, fun m hm => of_decide_eq_true (List.all_eq_true.mp k7 m hm)⟩
/-! ### what is looked at -/
theorem fx_of {P : Program} {w : World} {K : PySem.W.Frag} {h : Heap} {mg : Str → Option Value} (X : K.In h) (G : h.Ns mainGlobals mg) (c : He.SaysX fa fn tsD tfD exB w h K) : Fx P w K mg := by
  have d := c.t.d
  obtain ⟨x1, x2, x3, x4, x5, x6⟩ := exB_ok c.more
  exact {
    d_whole := d.def_ 0 rfl
    d_least_part := d.def_ 1 rfl
    d_is_deed := d.def_ 2 rfl
    d_asked_text := d.def_ 3 rfl
    d_lines_of := d.def_ 4 rfl
    d_words_of := d.def_ 5 rfl
    d_asked_lines := d.def_ 6 rfl
    d_number_of := d.def_ 7 rfl
    d_asked_end := d.def_ 8 rfl
    d_row_text := d.def_ 9 rfl
    d_price_text := d.def_ 10 rfl
    d_deed_text := d.def_ 11 rfl
    d_part_of_deed := d.def_ 12 rfl
    d_deed_of := d.def_ 13 rfl
    d_read_deed := d.def_ 14 rfl
    d_law_zq_is_whole := d.def_ 15 rfl
    d_law_zq_same := d.def_ 16 rfl
    d_law_pool := d.def_ 17 rfl
    d_law_take := d.def_ 18 rfl
    d_law_one := d.def_ 19 rfl
    d_law_zt_number := d.def_ 20 rfl
    d_law_zt_price := d.def_ 21 rfl
    d_law_zt_price_word := d.def_ 22 rfl
    d_law_zt_line := d.def_ 23 rfl
    d_law_zt_lines := d.def_ 24 rfl
    d_law_zt_wrong := d.def_ 25 rfl
    d_law_zt_end := d.def_ 26 rfl
    d_law_zt_deed_sorts := d.def_ 27 rfl
    d_law_zt_deed := d.def_ 28 rfl
    d_law_zt_deed_in := d.def_ 29 rfl
    d_law_zt_deed_read := d.def_ 30 rfl
    d_law_zt_word_drawn := d.def_ 31 rfl
    d_law_zt_otherwise := d.def_ 32 rfl
    d_law_zt_deed_drawn := d.def_ 33 rfl
    d_law_dl_heard := d.def_ 34 rfl
    d_law_dl_is_own := d.def_ 35 rfl
    d_law_dl_bent := d.def_ 36 rfl
    d_law_dl_thing_right := d.def_ 37 rfl
    d_law_dl_text_right := d.def_ 38 rfl
    d_law_dl_planted_right := d.def_ 39 rfl
    d_law := d.def_ 40 rfl
    d_init := d.def_ 41 rfl
    g_whole := He.glo_ok X G (d.fact 0 rfl)
    g_least_part := He.glo_ok X G (d.fact 1 rfl)
    g_is_deed := He.glo_ok X G (d.fact 2 rfl)
    g_asked_text := He.glo_ok X G (d.fact 3 rfl)
    g_lines_of := He.glo_ok X G (d.fact 4 rfl)
    g_words_of := He.glo_ok X G (d.fact 5 rfl)
    g_asked_lines := He.glo_ok X G (d.fact 6 rfl)
    g_number_of := He.glo_ok X G (d.fact 7 rfl)
    g_asked_end := He.glo_ok X G (d.fact 8 rfl)
    g_row_text := He.glo_ok X G (d.fact 9 rfl)
    g_price_text := He.glo_ok X G (d.fact 10 rfl)
    g_deed_text := He.glo_ok X G (d.fact 11 rfl)
    g_part_of_deed := He.glo_ok X G (d.fact 12 rfl)
    g_deed_of := He.glo_ok X G (d.fact 13 rfl)
    g_read_deed := He.glo_ok X G (d.fact 14 rfl)
    g_law_zq_is_whole := He.glo_ok X G (d.fact 15 rfl)
    g_law_zq_same := He.glo_ok X G (d.fact 16 rfl)
    g_law_pool := He.glo_ok X G (d.fact 17 rfl)
    g_law_take := He.glo_ok X G (d.fact 18 rfl)
    g_law_one := He.glo_ok X G (d.fact 19 rfl)
    g_law_zt_number := He.glo_ok X G (d.fact 20 rfl)
    g_law_zt_price := He.glo_ok X G (d.fact 21 rfl)
    g_law_zt_price_word := He.glo_ok X G (d.fact 22 rfl)
    g_law_zt_line := He.glo_ok X G (d.fact 23 rfl)
    g_law_zt_lines := He.glo_ok X G (d.fact 24 rfl)
    g_law_zt_wrong := He.glo_ok X G (d.fact 25 rfl)
    g_law_zt_end := He.glo_ok X G (d.fact 26 rfl)
    g_law_zt_deed_sorts := He.glo_ok X G (d.fact 27 rfl)
    g_law_zt_deed := He.glo_ok X G (d.fact 28 rfl)
    g_law_zt_deed_in := He.glo_ok X G (d.fact 29 rfl)
    g_law_zt_deed_read := He.glo_ok X G (d.fact 30 rfl)
    g_law_zt_word_drawn := He.glo_ok X G (d.fact 31 rfl)
    g_law_zt_otherwise := He.glo_ok X G (d.fact 32 rfl)
    g_law_zt_deed_drawn := He.glo_ok X G (d.fact 33 rfl)
    g_law_dl_heard := He.glo_ok X G (d.fact 34 rfl)
    g_law_dl_is_own := He.glo_ok X G (d.fact 35 rfl)
    g_law_dl_bent := He.glo_ok X G (d.fact 36 rfl)
    g_law_dl_thing_right := He.glo_ok X G (d.fact 37 rfl)
    g_law_dl_text_right := He.glo_ok X G (d.fact 38 rfl)
    g_law_dl_planted_right := He.glo_ok X G (d.fact 39 rfl)
    g_law := He.glo_ok X G (d.fact 40 rfl)
    k_Refused := He.glo_ok X G (d.fact 41 rfl)
    k_TooMany := He.glo_ok X G (d.fact 42 rfl)
    k_BadDeed := He.glo_ok X G (d.fact 43 rfl)
    k_BadText := He.glo_ok X G (d.fact 44 rfl)
    k_WrongLine := He.glo_ok X G (d.fact 45 rfl)
    b_all := He.free_ok X G (d.fact 46 rfl)
    b_bool := He.free_ok X G (d.fact 47 rfl)
    b_int := He.free_ok X G (d.fact 48 rfl)
    b_isinstance := He.free_ok X G (d.fact 49 rfl)
    b_len := He.free_ok X G (d.fact 50 rfl)
    b_list := He.free_ok X G (d.fact 51 rfl)
    b_max := He.free_ok X G (d.fact 52 rfl)
    b_min := He.free_ok X G (d.fact 53 rfl)
    b_range := He.free_ok X G (d.fact 54 rfl)
    b_str := He.free_ok X G (d.fact 55 rfl)
    b_tuple := He.free_ok X G (d.fact 56 rfl)
    b_ValueError := He.free_ok X G (d.fact 57 rfl)
    k_FIRM := He.int_ok X G (d.fact 58 rfl)
    k_MOST_DEED_NUMBER := He.int_ok X G (d.fact 59 rfl)
    k_DEED_SIZES := He.glo_ok X G (d.fact 60 rfl)
    k_PRICED_DEEDS := He.glo_ok X G (d.fact 61 rfl)
    k_MOST_SIGNS := He.int_ok X G (d.fact 62 rfl)
    k_MOST_FIGURES := He.int_ok X G (d.fact 63 rfl)
    k_FIGURES := He.str_ok X G (d.fact 64 rfl)
    k_FIRM_WORD := He.str_ok X G (d.fact 65 rfl)
    t_DEED_SIZES := c.t.tab 0 (t := (fun K => He.ga K "DEED_SIZES", sizeL.map (·.1))) rfl
    e_BadDeed := (x1 _ (by decide +kernel)).1
    e_BadText := (x1 _ (by decide +kernel)).1
    e_TooMany := (x1 _ (by decide +kernel)).1
    e_WrongLine := (x1 _ (by decide +kernel)).1
    v_init := x3
  }

theorem kf_of {w : World} {K : PySem.W.Frag} {h : Heap} (c : He.SaysX fa fn tsD tfD exB w h K) : Kf K := by
  obtain ⟨x1, x2, x3, x4, x5, x6⟩ := exB_ok c.more
  have e : ∀ n, n ∈ errN → ErrC K (He.ga K n) := fun n hn => ⟨(x1 n hn).1.oex, (x1 n hn).1.noW⟩
  have hd : He.dicW K (He.ga K "DEED_SIZES") = some (He.keysIn w.params (sizeL.map (·.1))) := by
    have q : tsD.map (fun t => He.dicW K (t.1 K)) = tsD.map fun t => some (He.keysIn w.params t.2) := congrArg (fun z : He.AlT => z.2) c.t
    exact (List.cons.inj q).1
  exact ⟨kd_of hd x4, tup_of x5, e _ (by decide +kernel), e _ (by decide +kernel), e _ (by decide +kernel), e _ (by decide +kernel)⟩
theorem fe_of {w : World} {K : PySem.W.Frag} {h : Heap} (c : He.SaysX fa fn tsD tfD exB w h K) : Fe K := by
  obtain ⟨x1, x2, x3, x4, x5, x6⟩ := exB_ok c.more
  exact ⟨fun n hn => (x1 n hn).2.2.1, fun n hn => (x1 n hn).2.1, fun a ha b hb => (x1 a ha).2.2.2 b hb⟩
theorem tu_of {w : World} {K : PySem.W.Frag} {h : Heap} (c : He.SaysX fa fn tsD tfD exB w h K) : (∀ p ∈ TT K, p.1 = tabP K "_law_dl_thing_right" → p.2 = "_law_dl_thing_right.<locals>.<lambda>") ∧ (∀ p ∈ TT K, p.1 = tabP K "_law_dl_text_right" → p.2 = "_law_dl_text_right.<locals>.<lambda>") ∧ (∀ p ∈ TT K, p.1 = tabP K "law" → p.2 = "law.<locals>.<lambda>") := by
  obtain ⟨x1, x2, x3, x4, x5, n1, n2, n3⟩ := exB_ok c.more
  refine ⟨fun p hp e => ?_, fun p hp e => ?_, fun p hp e => ?_⟩
  all_goals
    unfold TT at hp
    rcases List.mem_cons.mp hp with rfl | hp
    · first | rfl | exact absurd e n1 | exact absurd e n2 | exact absurd e n3 | exact absurd e.symm n1 | exact absurd e.symm n2 | exact absurd e.symm n3
    rcases List.mem_cons.mp hp with rfl | hp
    · first | rfl | exact absurd e n1 | exact absurd e n2 | exact absurd e n3 | exact absurd e.symm n1 | exact absurd e.symm n2 | exact absurd e.symm n3
    rcases List.mem_cons.mp hp with rfl | hp
    · first | rfl | exact absurd e n1 | exact absurd e n2 | exact absurd e n3 | exact absurd e.symm n1 | exact absurd e.symm n2 | exact absurd e.symm n3
    cases hp
/-! ### the run -/
theorem ob_eq (s : PySem.W.SharedT) : ob s = hk.obs s.abs := He.obsX_eq (HandSHeadRun.getT_eq s)
end K83

/-! ## R83 -/
set_option Elab.async false
set_option linter.all false
set_option maxRecDepth 100000
set_option maxHeartbeats 0
namespace K83
open PySem PySem.Spec PyProof.Rows L2
end K83

/-! ## F83 -/
set_option Elab.async false
set_option linter.all false
set_option maxRecDepth 100000
set_option maxHeartbeats 4000000
namespace K83
open PySem PySem.Spec PyProof.Rows L2 Zd
/-- the law's promise -/
def spLaw (K : PySem.W.Frag) : Sp := fun vs H Q _ => ∃ (a : Addr) (ns : List Int), vs = [.ref a] ∧ LamX.Tabs (TT K) H ∧ SqL K H a (ns.map V.int) ∧ ns.length ≤ 63 ∧ ∀ H', Q (.bl true) H'
theorem frag_sql {K : PySem.W.Frag} {T : Tb} {H : Hp} {a : Addr} {xs : List V} (ht : LamX.Tabs T H) (h : SqL K H a xs) : ∃ G, Ex G H ∧ SqL K G a xs ∧ NoT G ∧ ∀ p ∈ T, G p.1 = none := by
  rcases h with h | h
  · rcases h with h | ⟨u, h⟩
    · refine ⟨fun b => if b = a then some (.lst xs) else none, fun b o e => ?_, .inl (.inl (if_pos rfl)), fun b ps e => ?_, fun p hp => ?_⟩
      · simp only at e
        by_cases z : b = a
        · rw [if_pos z] at e
          rw [z, h]
          exact e
        · rw [if_neg z] at e
          cases e
      · simp only at e
        by_cases z : b = a
        · rw [if_pos z] at e
          cases e
        · rw [if_neg z] at e
          cases e
      · refine if_neg fun z => ?_
        obtain ⟨ps, h1, _⟩ := ht p hp
        rw [z, h] at h1
        cases h1
    · refine ⟨fun b => if b = a then some (.frz u (.lst xs)) else none, fun b o e => ?_, .inl (.inr ⟨u, if_pos rfl⟩), fun b ps e => ?_, fun p hp => ?_⟩
      · simp only at e
        by_cases z : b = a
        · rw [if_pos z] at e
          rw [z, h]
          exact e
        · rw [if_neg z] at e
          cases e
      · simp only at e
        by_cases z : b = a
        · rw [if_pos z] at e
          cases e
        · rw [if_neg z] at e
          cases e
      · refine if_neg fun z => ?_
        obtain ⟨ps, h1, _⟩ := ht p hp
        rw [z, h] at h1
        cases h1
  · exact ⟨fun _ => none, fun b o e => (nomatch e), Or.inr h, fun b ps e => (nomatch e), fun _ _ => rfl⟩
theorem wp_law {K : PySem.W.Frag} (FE : Fe K) {vs : List V} {H : Hp} {Q : VK} {E : XK} (h : spLaw K vs H Q E) :
    t_law K (spPool K (TT K)) (spDd K (TT K)) (spLd K (TT K)) (spTrue K (TT K) preTh) (spOt K (TT K)) (spTrue K (TT K) preTr) (spBe K (TT K)) (spTk K (TT K)) (spOne K (TT K)) (spRead K (TT K)) (spSame K (TT K) (okD 7)) (spPl K (TT K)) { nx := fun _ H' => Q .non H', rt := Q } (L2.start n_law vs) H := by
  obtain ⟨a, ns, rfl, ht, hs, hl, q⟩ := h
  obtain ⟨G, e, hs', hn, hg⟩ := frag_sql ht hs
  refine ws_law ⟨K, TT K, fun _ => False, G, H, E0, fun _ _ => False⟩ FE rfl (fun _ z => z) a ns hs' hl (L2.start n_law [.ref a]) G H _ ⟨Mv.refl e, ⟨ht, hg, hn⟩, rfl, fun i x hx => ?_, fun i j p ds es h1 _ => ?_, fun _ _ _ _ _ _ z => z.elim⟩ ⟨fun σ ρ G' H' z s _ => (nomatch (show D.non = D.bl true from z)), fun v r σ ρ G' H' ⟨d, z1, z2⟩ s _ rv _ => ?_, fun _ _ _ _ z => z.elim, fun _ _ _ _ z => z.elim⟩
  · match i, hx with
    | 0, hx => cases hx; exact ⟨.ref a, rfl, rfl⟩
    | i + 1, hx =>
      have : (List.replicate 10 (none : Option DV))[i]? = some (some x) := hx
      have y := List.eq_of_mem_replicate (List.mem_of_getElem? this)
      cases y
  · match i, h1 with
    | 0, h1 => cases h1
    | i + 1, h1 =>
      have : (List.replicate 10 (none : Option DV))[i]? = some (some (.own p ds)) := h1
      have y := List.eq_of_mem_replicate (List.mem_of_getElem? this)
      cases y
  · subst z1
    have z2 : d = .bl true := z2
    subst z2
    cases rv
    exact q H'
end K83

/-! ## J83 -/
set_option Elab.async false
set_option linter.all false
set_option maxRecDepth 100000
set_option maxHeartbeats 4000000
namespace K83
open PySem PySem.Spec PyProof.Rows L2 Zd
theorem wp_is {K : PySem.W.Frag} {T : Tb} {w : World} {vs : List V} {H : Hp} {Q : VK} {E : XK} (F : Kf K) (h : spIs K T vs H Q E) : t_is_deed K w (spLeast K T) (spWhole K T) { nx := fun _ H' => Q .non H', rt := Q } (L2.start n_is_deed vs) H :=
  fn_PR 1 h (by rintro ds ⟨_, rfl, _⟩; rfl) fun c ds a1 a2 a3 a4 a5 hp => by subst a1 a2; exact ws_is c F ds hp
section
variable {P : Program} {w : World} {K : PySem.W.Frag} {mg : Str → Option Value} {base : Heap}

theorem g_whole (F : Fx P w K mg) (KF : Kf K) : FnOk P w K mg base CX0 1 (He.ga K "whole") F.f_whole p_whole (spWhole K (TT K)) :=
  ok_whole F  (SpP.len (n := 3) fun ds hp => by first | (obtain ⟨_, rfl⟩ := hp; rfl) | (obtain ⟨_, rfl, _⟩ := hp; rfl) | (obtain ⟨_, _, rfl⟩ := hp; rfl) | (obtain ⟨_, _, rfl, _⟩ := hp; rfl) | (obtain ⟨_, _, _, rfl⟩ := hp; rfl) | (obtain ⟨_, _, _, rfl, _⟩ := hp; rfl) | (obtain ⟨_, _, _, _, rfl, _⟩ := hp; rfl) | (subst hp; rfl)) fun vs H Q E h => wp_whole h
theorem g_least_part (F : Fx P w K mg) (KF : Kf K) : FnOk P w K mg base CX0 1 (He.ga K "least_part") F.f_least_part p_least_part (spLeast K (TT K)) :=
  ok_least_part F  (SpP.len (n := 2) fun ds hp => by first | (obtain ⟨_, rfl⟩ := hp; rfl) | (obtain ⟨_, rfl, _⟩ := hp; rfl) | (obtain ⟨_, _, rfl⟩ := hp; rfl) | (obtain ⟨_, _, rfl, _⟩ := hp; rfl) | (obtain ⟨_, _, _, rfl⟩ := hp; rfl) | (obtain ⟨_, _, _, rfl, _⟩ := hp; rfl) | (obtain ⟨_, _, _, _, rfl, _⟩ := hp; rfl) | (subst hp; rfl)) fun vs H Q E h => wp_least KF h
theorem g_is_deed (F : Fx P w K mg) (KF : Kf K) : FnOk P w K mg base CX0 2 (He.ga K "is_deed") F.f_is_deed p_is_deed (spIs K (TT K)) :=
  ok_is_deed F (g_least_part F KF) (g_whole F KF) (SpP.len (n := 1) fun ds hp => by first | (obtain ⟨_, rfl⟩ := hp; rfl) | (obtain ⟨_, rfl, _⟩ := hp; rfl) | (obtain ⟨_, _, rfl⟩ := hp; rfl) | (obtain ⟨_, _, rfl, _⟩ := hp; rfl) | (obtain ⟨_, _, _, rfl⟩ := hp; rfl) | (obtain ⟨_, _, _, rfl, _⟩ := hp; rfl) | (obtain ⟨_, _, _, _, rfl, _⟩ := hp; rfl) | (subst hp; rfl)) fun vs H Q E h => wp_is KF h
theorem g_asked_text (F : Fx P w K mg) (KF : Kf K) : FnOk P w K mg base (L2N.CX P w) 3 (He.ga K "asked_text") F.f_asked_text p_asked_text (spAsk K (TT K)) :=
  ok_asked_text F  (SpP.len (n := 1) fun ds hp => by first | (obtain ⟨_, rfl⟩ := hp; rfl) | (obtain ⟨_, rfl, _⟩ := hp; rfl) | (obtain ⟨_, _, rfl⟩ := hp; rfl) | (obtain ⟨_, _, rfl, _⟩ := hp; rfl) | (obtain ⟨_, _, _, rfl⟩ := hp; rfl) | (obtain ⟨_, _, _, rfl, _⟩ := hp; rfl) | (obtain ⟨_, _, _, _, rfl, _⟩ := hp; rfl) | (subst hp; rfl)) fun vs H Q E h => wp_ask KF h
theorem g_lines_of (F : Fx P w K mg) (KF : Kf K) : FnOk P w K mg base CX0 1 (He.ga K "lines_of") F.f_lines_of p_lines_of (spLn K (TT K)) :=
  ok_lines_of F  (SpP.len (n := 1) fun ds hp => by first | (obtain ⟨_, rfl⟩ := hp; rfl) | (obtain ⟨_, rfl, _⟩ := hp; rfl) | (obtain ⟨_, _, rfl⟩ := hp; rfl) | (obtain ⟨_, _, rfl, _⟩ := hp; rfl) | (obtain ⟨_, _, _, rfl⟩ := hp; rfl) | (obtain ⟨_, _, _, rfl, _⟩ := hp; rfl) | (obtain ⟨_, _, _, _, rfl, _⟩ := hp; rfl) | (subst hp; rfl)) fun vs H Q E h => wp_ln h
theorem g_words_of (F : Fx P w K mg) (KF : Kf K) : FnOk P w K mg base CX0 1 (He.ga K "words_of") F.f_words_of p_words_of (spWd K (TT K)) :=
  ok_words_of F  (SpP.len (n := 1) fun ds hp => by first | (obtain ⟨_, rfl⟩ := hp; rfl) | (obtain ⟨_, rfl, _⟩ := hp; rfl) | (obtain ⟨_, _, rfl⟩ := hp; rfl) | (obtain ⟨_, _, rfl, _⟩ := hp; rfl) | (obtain ⟨_, _, _, rfl⟩ := hp; rfl) | (obtain ⟨_, _, _, rfl, _⟩ := hp; rfl) | (obtain ⟨_, _, _, _, rfl, _⟩ := hp; rfl) | (subst hp; rfl)) fun vs H Q E h => wp_wd h
theorem g_asked_lines (F : Fx P w K mg) (KF : Kf K) : FnOk P w K mg base (L2N.CX P w) 4 (He.ga K "asked_lines") F.f_asked_lines p_asked_lines (spAl K (TT K)) :=
  ok_asked_lines F (g_asked_text F KF) (g_lines_of F KF) (g_words_of F KF) (SpP.len (n := 1) fun ds hp => by first | (obtain ⟨_, rfl⟩ := hp; rfl) | (obtain ⟨_, rfl, _⟩ := hp; rfl) | (obtain ⟨_, _, rfl⟩ := hp; rfl) | (obtain ⟨_, _, rfl, _⟩ := hp; rfl) | (obtain ⟨_, _, _, rfl⟩ := hp; rfl) | (obtain ⟨_, _, _, rfl, _⟩ := hp; rfl) | (obtain ⟨_, _, _, _, rfl, _⟩ := hp; rfl) | (subst hp; rfl)) fun vs H Q E h => wp_al h
theorem g_number_of (F : Fx P w K mg) (KF : Kf K) : FnOk P w K mg base CX0 1 (He.ga K "number_of") F.f_number_of p_number_of (spNum K (TT K)) :=
  ok_number_of F  (SpP.len (n := 1) fun ds hp => by first | (obtain ⟨_, rfl⟩ := hp; rfl) | (obtain ⟨_, rfl, _⟩ := hp; rfl) | (obtain ⟨_, _, rfl⟩ := hp; rfl) | (obtain ⟨_, _, rfl, _⟩ := hp; rfl) | (obtain ⟨_, _, _, rfl⟩ := hp; rfl) | (obtain ⟨_, _, _, rfl, _⟩ := hp; rfl) | (obtain ⟨_, _, _, _, rfl, _⟩ := hp; rfl) | (subst hp; rfl)) fun vs H Q E h => wp_num h
theorem g_asked_end (F : Fx P w K mg) (KF : Kf K) : FnOk P w K mg base (L2N.CX P w) 3 (He.ga K "asked_end") F.f_asked_end p_asked_end (spEnd K (TT K)) :=
  ok_asked_end F  (SpP.len (n := 2) fun ds hp => by first | (obtain ⟨_, rfl⟩ := hp; rfl) | (obtain ⟨_, rfl, _⟩ := hp; rfl) | (obtain ⟨_, _, rfl⟩ := hp; rfl) | (obtain ⟨_, _, rfl, _⟩ := hp; rfl) | (obtain ⟨_, _, _, rfl⟩ := hp; rfl) | (obtain ⟨_, _, _, rfl, _⟩ := hp; rfl) | (obtain ⟨_, _, _, _, rfl, _⟩ := hp; rfl) | (subst hp; rfl)) fun vs H Q E h => wp_end KF h
theorem g_row_text (F : Fx P w K mg) (KF : Kf K) : FnOk P w K mg base CX0 1 (He.ga K "row_text") F.f_row_text p_row_text (spRow K (TT K)) :=
  ok_row_text F  (SpP.len (n := 2) fun ds hp => by first | (obtain ⟨_, rfl⟩ := hp; rfl) | (obtain ⟨_, rfl, _⟩ := hp; rfl) | (obtain ⟨_, _, rfl⟩ := hp; rfl) | (obtain ⟨_, _, rfl, _⟩ := hp; rfl) | (obtain ⟨_, _, _, rfl⟩ := hp; rfl) | (obtain ⟨_, _, _, rfl, _⟩ := hp; rfl) | (obtain ⟨_, _, _, _, rfl, _⟩ := hp; rfl) | (subst hp; rfl)) fun vs H Q E h => wp_row h
theorem g_price_text (F : Fx P w K mg) (KF : Kf K) : FnOk P w K mg base CX0 1 (He.ga K "price_text") F.f_price_text p_price_text (spPr K (TT K)) :=
  ok_price_text F  (SpP.len (n := 1) fun ds hp => by first | (obtain ⟨_, rfl⟩ := hp; rfl) | (obtain ⟨_, rfl, _⟩ := hp; rfl) | (obtain ⟨_, _, rfl⟩ := hp; rfl) | (obtain ⟨_, _, rfl, _⟩ := hp; rfl) | (obtain ⟨_, _, _, rfl⟩ := hp; rfl) | (obtain ⟨_, _, _, rfl, _⟩ := hp; rfl) | (obtain ⟨_, _, _, _, rfl, _⟩ := hp; rfl) | (subst hp; rfl)) fun vs H Q E h => wp_pr h
theorem g_deed_text (F : Fx P w K mg) (KF : Kf K) : FnOk P w K mg base (L2N.CX P w) 3 (He.ga K "deed_text") F.f_deed_text p_deed_text (spDt K (TT K)) :=
  ok_deed_text F (g_is_deed F KF) (g_price_text F KF) (g_row_text F KF) (SpP.len (n := 1) fun ds hp => by first | (obtain ⟨_, rfl⟩ := hp; rfl) | (obtain ⟨_, rfl, _⟩ := hp; rfl) | (obtain ⟨_, _, rfl⟩ := hp; rfl) | (obtain ⟨_, _, rfl, _⟩ := hp; rfl) | (obtain ⟨_, _, _, rfl⟩ := hp; rfl) | (obtain ⟨_, _, _, rfl, _⟩ := hp; rfl) | (obtain ⟨_, _, _, _, rfl, _⟩ := hp; rfl) | (subst hp; rfl)) fun vs H Q E h => wp_dt KF h
theorem g_part_of_deed (F : Fx P w K mg) (KF : Kf K) : FnOk P w K mg base CX0 2 (He.ga K "part_of_deed") F.f_part_of_deed p_part_of_deed (spPart K (TT K)) :=
  ok_part_of_deed F (g_least_part F KF) (g_number_of F KF) (SpP.len (n := 3) fun ds hp => by first | (obtain ⟨_, rfl⟩ := hp; rfl) | (obtain ⟨_, rfl, _⟩ := hp; rfl) | (obtain ⟨_, _, rfl⟩ := hp; rfl) | (obtain ⟨_, _, rfl, _⟩ := hp; rfl) | (obtain ⟨_, _, _, rfl⟩ := hp; rfl) | (obtain ⟨_, _, _, rfl, _⟩ := hp; rfl) | (obtain ⟨_, _, _, _, rfl, _⟩ := hp; rfl) | (subst hp; rfl)) fun vs H Q E h => wp_part h
theorem g_deed_of (F : Fx P w K mg) (KF : Kf K) : FnOk P w K mg base CX0 3 (He.ga K "deed_of") F.f_deed_of p_deed_of (spOf K (TT K)) :=
  ok_deed_of F (g_part_of_deed F KF) (SpP.len (n := 1) fun ds hp => by first | (obtain ⟨_, rfl⟩ := hp; rfl) | (obtain ⟨_, rfl, _⟩ := hp; rfl) | (obtain ⟨_, _, rfl⟩ := hp; rfl) | (obtain ⟨_, _, rfl, _⟩ := hp; rfl) | (obtain ⟨_, _, _, rfl⟩ := hp; rfl) | (obtain ⟨_, _, _, rfl, _⟩ := hp; rfl) | (obtain ⟨_, _, _, _, rfl, _⟩ := hp; rfl) | (subst hp; rfl)) fun vs H Q E h => wp_of KF h
theorem g_read_deed (F : Fx P w K mg) (KF : Kf K) : FnOk P w K mg base (L2N.CX P w) 5 (He.ga K "read_deed") F.f_read_deed p_read_deed (spRead K (TT K)) :=
  ok_read_deed F (g_asked_lines F KF) (g_deed_of F KF) (g_asked_end F KF) (SpP.len (n := 1) fun ds hp => by first | (obtain ⟨_, rfl⟩ := hp; rfl) | (obtain ⟨_, rfl, _⟩ := hp; rfl) | (obtain ⟨_, _, rfl⟩ := hp; rfl) | (obtain ⟨_, _, rfl, _⟩ := hp; rfl) | (obtain ⟨_, _, _, rfl⟩ := hp; rfl) | (obtain ⟨_, _, _, rfl, _⟩ := hp; rfl) | (obtain ⟨_, _, _, _, rfl, _⟩ := hp; rfl) | (subst hp; rfl)) fun vs H Q E h => wp_read KF h
theorem g_law_zq_is_whole (F : Fx P w K mg) (KF : Kf K) : FnOk P w K mg base CX0 1 (He.ga K "_law_zq_is_whole") F.f_law_zq_is_whole p_law_zq_is_whole (spIw K (TT K)) :=
  ok_law_zq_is_whole F  (SpP.len (n := 1) fun ds hp => by first | (obtain ⟨_, rfl⟩ := hp; rfl) | (obtain ⟨_, rfl, _⟩ := hp; rfl) | (obtain ⟨_, _, rfl⟩ := hp; rfl) | (obtain ⟨_, _, rfl, _⟩ := hp; rfl) | (obtain ⟨_, _, _, rfl⟩ := hp; rfl) | (obtain ⟨_, _, _, rfl, _⟩ := hp; rfl) | (obtain ⟨_, _, _, _, rfl, _⟩ := hp; rfl) | (subst hp; rfl)) fun vs H Q E h => wp_iw h
theorem g_law_zt_number (F : Fx P w K mg) (KF : Kf K) : FnOk P w K mg base CX0 1 (He.ga K "_law_zt_number") F.f_law_zt_number p_law_zt_number (spNum K (TT K)) :=
  ok_law_zt_number F  (SpP.len (n := 1) fun ds hp => by first | (obtain ⟨_, rfl⟩ := hp; rfl) | (obtain ⟨_, rfl, _⟩ := hp; rfl) | (obtain ⟨_, _, rfl⟩ := hp; rfl) | (obtain ⟨_, _, rfl, _⟩ := hp; rfl) | (obtain ⟨_, _, _, rfl⟩ := hp; rfl) | (obtain ⟨_, _, _, rfl, _⟩ := hp; rfl) | (obtain ⟨_, _, _, _, rfl, _⟩ := hp; rfl) | (subst hp; rfl)) fun vs H Q E h => wp_lnum h
theorem g_law_zt_price (F : Fx P w K mg) (KF : Kf K) : FnOk P w K mg base CX0 2 (He.ga K "_law_zt_price") F.f_law_zt_price p_law_zt_price (spLp K (TT K)) :=
  ok_law_zt_price F (g_law_zt_number F KF) (SpP.len (n := 3) fun ds hp => by first | (obtain ⟨_, rfl⟩ := hp; rfl) | (obtain ⟨_, rfl, _⟩ := hp; rfl) | (obtain ⟨_, _, rfl⟩ := hp; rfl) | (obtain ⟨_, _, rfl, _⟩ := hp; rfl) | (obtain ⟨_, _, _, rfl⟩ := hp; rfl) | (obtain ⟨_, _, _, rfl, _⟩ := hp; rfl) | (obtain ⟨_, _, _, _, rfl, _⟩ := hp; rfl) | (subst hp; rfl)) fun vs H Q E h => wp_lp h
theorem g_law_zt_price_word (F : Fx P w K mg) (KF : Kf K) : FnOk P w K mg base CX0 1 (He.ga K "_law_zt_price_word") F.f_law_zt_price_word p_law_zt_price_word (spPr K (TT K)) :=
  ok_law_zt_price_word F  (SpP.len (n := 1) fun ds hp => by first | (obtain ⟨_, rfl⟩ := hp; rfl) | (obtain ⟨_, rfl, _⟩ := hp; rfl) | (obtain ⟨_, _, rfl⟩ := hp; rfl) | (obtain ⟨_, _, rfl, _⟩ := hp; rfl) | (obtain ⟨_, _, _, rfl⟩ := hp; rfl) | (obtain ⟨_, _, _, rfl, _⟩ := hp; rfl) | (obtain ⟨_, _, _, _, rfl, _⟩ := hp; rfl) | (subst hp; rfl)) fun vs H Q E h => wp_lpw h
theorem g_law_zt_line (F : Fx P w K mg) (KF : Kf K) : FnOk P w K mg base CX0 1 (He.ga K "_law_zt_line") F.f_law_zt_line p_law_zt_line (spLl K (TT K)) :=
  ok_law_zt_line F  (SpP.len (n := 2) fun ds hp => by first | (obtain ⟨_, rfl⟩ := hp; rfl) | (obtain ⟨_, rfl, _⟩ := hp; rfl) | (obtain ⟨_, _, rfl⟩ := hp; rfl) | (obtain ⟨_, _, rfl, _⟩ := hp; rfl) | (obtain ⟨_, _, _, rfl⟩ := hp; rfl) | (obtain ⟨_, _, _, rfl, _⟩ := hp; rfl) | (obtain ⟨_, _, _, _, rfl, _⟩ := hp; rfl) | (subst hp; rfl)) fun vs H Q E h => wp_ll h
theorem g_law_zt_lines (F : Fx P w K mg) (KF : Kf K) : FnOk P w K mg base CX0 1 (He.ga K "_law_zt_lines") F.f_law_zt_lines p_law_zt_lines (spLs K (TT K)) :=
  ok_law_zt_lines F  (SpP.len (n := 1) fun ds hp => by first | (obtain ⟨_, rfl⟩ := hp; rfl) | (obtain ⟨_, rfl, _⟩ := hp; rfl) | (obtain ⟨_, _, rfl⟩ := hp; rfl) | (obtain ⟨_, _, rfl, _⟩ := hp; rfl) | (obtain ⟨_, _, _, rfl⟩ := hp; rfl) | (obtain ⟨_, _, _, rfl, _⟩ := hp; rfl) | (obtain ⟨_, _, _, _, rfl, _⟩ := hp; rfl) | (subst hp; rfl)) fun vs H Q E h => wp_ls h
theorem g_law_zt_wrong (F : Fx P w K mg) (KF : Kf K) : FnOk P w K mg base CX0 1 (He.ga K "_law_zt_wrong") F.f_law_zt_wrong p_law_zt_wrong (spWr K (TT K)) :=
  ok_law_zt_wrong F  (SpP.len (n := 2) fun ds hp => by first | (obtain ⟨_, rfl⟩ := hp; rfl) | (obtain ⟨_, rfl, _⟩ := hp; rfl) | (obtain ⟨_, _, rfl⟩ := hp; rfl) | (obtain ⟨_, _, rfl, _⟩ := hp; rfl) | (obtain ⟨_, _, _, rfl⟩ := hp; rfl) | (obtain ⟨_, _, _, rfl, _⟩ := hp; rfl) | (obtain ⟨_, _, _, _, rfl, _⟩ := hp; rfl) | (subst hp; rfl)) fun vs H Q E h => wp_wr h
theorem g_law_zt_end (F : Fx P w K mg) (KF : Kf K) : FnOk P w K mg base CX0 1 (He.ga K "_law_zt_end") F.f_law_zt_end p_law_zt_end (spLe K (TT K)) :=
  ok_law_zt_end F  (SpP.len (n := 2) fun ds hp => by first | (obtain ⟨_, rfl⟩ := hp; rfl) | (obtain ⟨_, rfl, _⟩ := hp; rfl) | (obtain ⟨_, _, rfl⟩ := hp; rfl) | (obtain ⟨_, _, rfl, _⟩ := hp; rfl) | (obtain ⟨_, _, _, rfl⟩ := hp; rfl) | (obtain ⟨_, _, _, rfl, _⟩ := hp; rfl) | (obtain ⟨_, _, _, _, rfl, _⟩ := hp; rfl) | (subst hp; rfl)) fun vs H Q E h => wp_le h
theorem g_law_zt_deed_sorts (F : Fx P w K mg) (KF : Kf K) : FnOk P w K mg base CX0 1 (He.ga K "_law_zt_deed_sorts") F.f_law_zt_deed_sorts p_law_zt_deed_sorts (spSo K (TT K)) :=
  ok_law_zt_deed_sorts F  (SpP.len (n := 0) fun ds hp => by first | (obtain ⟨_, rfl⟩ := hp; rfl) | (obtain ⟨_, rfl, _⟩ := hp; rfl) | (obtain ⟨_, _, rfl⟩ := hp; rfl) | (obtain ⟨_, _, rfl, _⟩ := hp; rfl) | (obtain ⟨_, _, _, rfl⟩ := hp; rfl) | (obtain ⟨_, _, _, rfl, _⟩ := hp; rfl) | (obtain ⟨_, _, _, _, rfl, _⟩ := hp; rfl) | (subst hp; rfl)) fun vs H Q E h => wp_so h
theorem g_law_zt_deed (F : Fx P w K mg) (KF : Kf K) : FnOk P w K mg base CX0 2 (He.ga K "_law_zt_deed") F.f_law_zt_deed p_law_zt_deed (spLd K (TT K)) :=
  ok_law_zt_deed F (g_law_zt_deed_sorts F KF) (g_law_zt_price_word F KF) (g_law_zt_line F KF) (SpP.len (n := 1) fun ds hp => by first | (obtain ⟨_, rfl⟩ := hp; rfl) | (obtain ⟨_, rfl, _⟩ := hp; rfl) | (obtain ⟨_, _, rfl⟩ := hp; rfl) | (obtain ⟨_, _, rfl, _⟩ := hp; rfl) | (obtain ⟨_, _, _, rfl⟩ := hp; rfl) | (obtain ⟨_, _, _, rfl, _⟩ := hp; rfl) | (obtain ⟨_, _, _, _, rfl, _⟩ := hp; rfl) | (subst hp; rfl)) fun vs H Q E h => wp_ld h
theorem g_law_zt_deed_in (F : Fx P w K mg) (KF : Kf K) : FnOk P w K mg base CX0 3 (He.ga K "_law_zt_deed_in") F.f_law_zt_deed_in p_law_zt_deed_in (spIn K (TT K)) :=
  ok_law_zt_deed_in F (g_law_zt_deed_sorts F KF) (g_law_zt_price F KF) (g_law_zt_number F KF) (SpP.len (n := 1) fun ds hp => by first | (obtain ⟨_, rfl⟩ := hp; rfl) | (obtain ⟨_, rfl, _⟩ := hp; rfl) | (obtain ⟨_, _, rfl⟩ := hp; rfl) | (obtain ⟨_, _, rfl, _⟩ := hp; rfl) | (obtain ⟨_, _, _, rfl⟩ := hp; rfl) | (obtain ⟨_, _, _, rfl, _⟩ := hp; rfl) | (obtain ⟨_, _, _, _, rfl, _⟩ := hp; rfl) | (subst hp; rfl)) fun vs H Q E h => wp_in h
theorem g_law_zt_deed_read (F : Fx P w K mg) (KF : Kf K) : FnOk P w K mg base CX0 4 (He.ga K "_law_zt_deed_read") F.f_law_zt_deed_read p_law_zt_deed_read (spDr K (TT K)) :=
  ok_law_zt_deed_read F (g_law_zt_lines F KF) (g_law_zt_deed_in F KF) (g_law_zt_end F KF) (g_law_zt_wrong F KF) (SpP.len (n := 1) fun ds hp => by first | (obtain ⟨_, rfl⟩ := hp; rfl) | (obtain ⟨_, rfl, _⟩ := hp; rfl) | (obtain ⟨_, _, rfl⟩ := hp; rfl) | (obtain ⟨_, _, rfl, _⟩ := hp; rfl) | (obtain ⟨_, _, _, rfl⟩ := hp; rfl) | (obtain ⟨_, _, _, rfl, _⟩ := hp; rfl) | (obtain ⟨_, _, _, _, rfl, _⟩ := hp; rfl) | (subst hp; rfl)) fun vs H Q E h => wp_dr h
theorem g_law_dl_is_own (F : Fx P w K mg) (KF : Kf K) : FnOk P w K mg base CX0 2 (He.ga K "_law_dl_is_own") F.f_law_dl_is_own p_law_dl_is_own (spIs K (TT K)) :=
  ok_law_dl_is_own F (g_law_zt_deed_sorts F KF) (g_law_zq_is_whole F KF) (SpP.len (n := 1) fun ds hp => by first | (obtain ⟨_, rfl⟩ := hp; rfl) | (obtain ⟨_, rfl, _⟩ := hp; rfl) | (obtain ⟨_, _, rfl⟩ := hp; rfl) | (obtain ⟨_, _, rfl, _⟩ := hp; rfl) | (obtain ⟨_, _, _, rfl⟩ := hp; rfl) | (obtain ⟨_, _, _, rfl, _⟩ := hp; rfl) | (obtain ⟨_, _, _, _, rfl, _⟩ := hp; rfl) | (subst hp; rfl)) fun vs H Q E h => wp_own h
end
end K83

/-! ## J84 -/
set_option Elab.async false
set_option linter.all false
set_option maxRecDepth 100000
set_option maxHeartbeats 4000000
namespace K83
open PySem PySem.Spec PyProof.Rows L2 Zd
section
variable {P : Program} {w : World} {K : PySem.W.Frag} {mg : Str → Option Value} {base : Heap}
theorem g_same (F : Fx P w K mg) (KF : Kf K) : ∀ n : Nat, FnOk P w K mg base CX0 (n + 2) (He.ga K "_law_zq_same") F.f_law_zq_same p_law_zq_same (spSame K (TT K) (okD n))
  | 0 => by
    have base0 : FnOk P w K mg base CX0 1 (He.ga K "_law_zq_same") F.f_law_zq_same p_law_zq_same (spSame K (TT K) (fun _ => False)) :=
      ⟨fun vs H Q E h => by obtain ⟨_, _, _, _, _, ⟨_, _, z⟩, _⟩ := h; exact z.elim, fun _ _ _ _ _ _ _ _ _ _ _ _ _ h => by obtain ⟨_, _, _, _, _, ⟨_, _, z⟩, _⟩ := h; exact z.elim⟩
    exact ok_law_zq_same (k := 1) (Nat.le_refl 1) F (g_law_zq_is_whole F KF) base0 (SpP.len (n := 2) fun ds hp => by obtain ⟨_, rfl, _⟩ := hp; rfl) fun vs H Q E h => wp_same 0 _ (fun m e => by cases e) h
  | n + 1 => ok_law_zq_same (k := n + 2) (by omega) F (g_law_zq_is_whole F KF) (g_same F KF n) (SpP.len (n := 2) fun ds hp => by obtain ⟨_, rfl, _⟩ := hp; rfl) fun vs H Q E h => wp_same (n + 1) _ (fun m e d hd => by cases e; exact hd) h
structure Tl (K : PySem.W.Frag) : Prop where
  a : ∀ p ∈ TT K, p.1 = tabP K "_law_dl_thing_right" → p.2 = "_law_dl_thing_right.<locals>.<lambda>"
  b : ∀ p ∈ TT K, p.1 = tabP K "_law_dl_text_right" → p.2 = "_law_dl_text_right.<locals>.<lambda>"
  c : ∀ p ∈ TT K, p.1 = tabP K "law" → p.2 = "law.<locals>.<lambda>"
variable (TB : ∀ p ∈ tfD, LamX.TabB base mg (He.cT K p).1 (He.cT K p).2)
theorem g_th (F : Fx P w K mg) (KF : Kf K) (FE : Fe K) (tl : Tl K) (TB : ∀ p ∈ tfD, LamX.TabB base mg (He.cT K p).1 (He.cT K p).2) : FnOk P w K mg base CX0 10 (He.ga K "_law_dl_thing_right") F.f_law_dl_thing_right p_law_dl_thing_right (spTrue K (TT K) preTh) :=
  ok_law_dl_thing_right F FE (TB _ (by simp [tfD])) (List.mem_cons_self ..) tl.a (g_is_deed F KF) (g_deed_text F KF) (g_law_dl_is_own F KF) (g_same F KF 7) (g_law_zt_deed F KF) (g_read_deed F KF) (SpP.len (n := 1) fun ds hp => by obtain ⟨_, rfl, _⟩ := hp; rfl) fun vs H Q E h => wp_th FE h
theorem g_tr (F : Fx P w K mg) (KF : Kf K) (FE : Fe K) (tl : Tl K) (TB : ∀ p ∈ tfD, LamX.TabB base mg (He.cT K p).1 (He.cT K p).2) : FnOk P w K mg base CX0 10 (He.ga K "_law_dl_text_right") F.f_law_dl_text_right p_law_dl_text_right (spTrue K (TT K) preTr) :=
  ok_law_dl_text_right F FE (TB _ (by simp [tfD])) (List.mem_cons_of_mem _ (List.mem_cons_self ..)) tl.b (g_law_zt_deed_read F KF) (g_read_deed F KF) (g_same F KF 7) (g_deed_text F KF) (SpP.len (n := 1) fun ds hp => by obtain ⟨_, rfl, _⟩ := hp; rfl) fun vs H Q E h => wp_tr FE h
theorem g_tk (F : Fx P w K mg) : FnOk P w K mg base CX0 1 (He.ga K "_law_take") F.f_law_take p_law_take (spTk K (TT K)) := ok_law_take F (SpJ.len (n := 2) fun js ds hp => by obtain ⟨_, _, rfl, _⟩ := hp; rfl) fun vs H Q E h => wp_tk h
theorem g_one (F : Fx P w K mg) : FnOk P w K mg base CX0 2 (He.ga K "_law_one") F.f_law_one p_law_one (spOne K (TT K)) := ok_law_one F (g_tk F) (SpJ.len (n := 2) fun js ds hp => by obtain ⟨_, _, rfl, _⟩ := hp; rfl) fun vs H Q E h => wp_one h
theorem g_word (F : Fx P w K mg) : FnOk P w K mg base CX0 3 (He.ga K "_law_zt_word_drawn") F.f_law_zt_word_drawn p_law_zt_word_drawn (spWord K (TT K)) := ok_law_zt_word_drawn F (g_one F) (SpJ.len (n := 1) fun js ds hp => by obtain ⟨_, rfl⟩ := hp; rfl) fun vs H Q E h => wp_word h
theorem g_ot (F : Fx P w K mg) : FnOk P w K mg base CX0 4 (He.ga K "_law_zt_otherwise") F.f_law_zt_otherwise p_law_zt_otherwise (spOt K (TT K)) := ok_law_zt_otherwise F (g_tk F) (g_word F) (g_one F) (SpJ.len (n := 2) fun js ds hp => by obtain ⟨_, _, rfl, _⟩ := hp; rfl) fun vs H Q E h => wp_ot h
theorem g_dd (F : Fx P w K mg) (KF : Kf K) : FnOk P w K mg base CX0 3 (He.ga K "_law_zt_deed_drawn") F.f_law_zt_deed_drawn p_law_zt_deed_drawn (spDd K (TT K)) := ok_law_zt_deed_drawn F (g_one F) (g_law_zt_deed_sorts F KF) (SpJ.len (n := 1) fun js ds hp => by obtain ⟨_, rfl⟩ := hp; rfl) fun vs H Q E h => wp_dd h
theorem g_be (F : Fx P w K mg) : FnOk P w K mg base CX0 3 (He.ga K "_law_dl_bent") F.f_law_dl_bent p_law_dl_bent (spBe K (TT K)) := ok_law_dl_bent F (g_tk F) (g_one F) (SpJ.len (n := 2) fun js ds hp => by obtain ⟨_, _, rfl, _⟩ := hp; rfl) fun vs H Q E h => wp_be h
theorem g_pl (F : Fx P w K mg) (KF : Kf K) (FE : Fe K) (tl : Tl K) (TB : ∀ p ∈ tfD, LamX.TabB base mg (He.cT K p).1 (He.cT K p).2) : FnOk P w K mg base CX0 21 (He.ga K "_law_dl_planted_right") F.f_law_dl_planted_right p_law_dl_planted_right (spPl K (TT K)) :=
  ok_law_dl_planted_right F (g_tk F) ((g_th F KF FE tl TB).mono (by decide)) ((g_tr F KF FE tl TB).mono (by decide)) (SpJ.len (n := 1) fun js ds hp => by obtain ⟨_, rfl⟩ := hp; rfl) fun vs H Q E h => wp_pl h
theorem wp_pool {T : Tb} {vs : List V} {H : Hp} {Q : VK} {E : XK} (h : spPool K T vs H Q E) : t_law_pool K { nx := fun _ H' => Q .non H', rt := Q } (L2.start n_law_pool vs) H := by
  obtain ⟨G, a, ns, rfl, e, tb, hs, hl, q⟩ := h
  refine ws_pool ⟨K, T, fun _ => False, G, H, E0, fun _ _ => False⟩ a ns hs hl (L2.start n_law_pool [.ref a]) G H _ ⟨Mv.refl e, tb, rfl, fun i x hx => ?_, fun i j p ds es h1 _ => ?_, fun _ _ _ _ _ _ z => z.elim⟩ ⟨fun σ ρ G' H' z s _ => z.elim, fun v r σ ρ G' H' ⟨p, es, z1, z2⟩ s _ rv o => ?_, fun _ _ _ _ z => z.elim, fun _ _ _ _ z => z.elim⟩
  · match i, hx with
    | 0, hx => cases hx; exact ⟨.ref a, rfl, rfl⟩
    | i + 1, hx =>
      have : (List.replicate 4 (none : Option DV))[i]? = some (some x) := hx
      have y := List.eq_of_mem_replicate (List.mem_of_getElem? this)
      cases y
  · match i, h1 with
    | 0, h1 => cases h1
    | i + 1, h1 =>
      have : (List.replicate 4 (none : Option DV))[i]? = some (some (.own p ds)) := h1
      have y := List.eq_of_mem_replicate (List.mem_of_getElem? this)
      cases y
  · subst z1
    obtain ⟨rfl, r2, r3, ws, r4, r5⟩ := rv
    exact q p es ws G' H' z2 s.mv (o p es rfl).1 r2 r4 r5
theorem g_pool (F : Fx P w K mg) : FnOk P w K mg base CX0 1 (He.ga K "_law_pool") F.f_law_pool p_law_pool (spPool K (TT K)) := ok_law_pool F (fun vs H Q E h => by obtain ⟨_, _, _, rfl, _⟩ := h; rfl) fun vs H Q E h => wp_pool h
theorem g_law (F : Fx P w K mg) (KF : Kf K) (FE : Fe K) (tl : Tl K) (TB : ∀ p ∈ tfD, LamX.TabB base mg (He.cT K p).1 (He.cT K p).2) : FnOk P w K mg base CX0 22 (He.ga K "law") F.f_law ["script"] (spLaw K) :=
  ok_law F FE (TB _ (by simp [tfD])) (List.mem_cons_of_mem _ (List.mem_cons_of_mem _ (List.mem_cons_self ..))) tl.c (g_pool F) (g_dd F KF) (g_law_zt_deed F KF) (g_th F KF FE tl TB) (g_ot F) (g_tr F KF FE tl TB) (g_be F) (g_tk F) (g_one F) (g_read_deed F KF) (g_same F KF 7) (g_pl F KF FE tl TB)
    (fun vs H Q E h => by obtain ⟨_, _, rfl, _⟩ := h; rfl) fun vs H Q E h => wp_law FE h
end
end K83

/-! ## Y83 -/
set_option Elab.async false
set_option linter.all false
set_option maxRecDepth 100000
set_option maxHeartbeats 0
open PySem PySem.W PySem.Calls PyProof.Rows
theorem PySem.Challenge.cw_zonesclose_k83_deeds_and_their_lines_holds : PySem.Challenge.rw_zonesclose_k83_deeds_and_their_lines.Holds := by
  w_on; o_law
  refine HandSHeadRun.head_any (r := OpenLaw.row PySem.Challenge.rw_zonesclose_k83_deeds_and_their_lines) (q := view (OpenLaw.row PySem.Challenge.rw_zonesclose_k83_deeds_and_their_lines).prog [58]) (H := K83.hk) (ob := K83.ob) (M := 4000) (loose := K83.loose) (d := HandSHeadRun.topDef (OpenLaw.row PySem.Challenge.rw_zonesclose_k83_deeds_and_their_lines).prog 58) (kwd := []) K83.ob_eq
    (by kernel_rfl) (fun s => by kernel_rfl) K83.run (by kernel_rfl) (by kernel_rfl) (by kernel_rfl) (by rfl) (by first | assumption | decide +kernel) (by decide +kernel) ⟨rfl, rfl, rfl, rfl, rfl, by decide +kernel⟩ ?hw ?hc
  case hw => w_witness2
  case hc =>
    refine LamX.walk_ofTsE (l := PySem.Challenge.rw_zonesclose_k83_deeds_and_their_lines) (n := 63) (k := 22) (x := "script") (CX := fun _ => L2.CX0) rfl (by decide) (by kernel_rfl) ⟨rfl, by decide, by decide⟩ ?F (fun _ _ _ _ _ z => z)
    intro w mg fa h Y G hmg0
    obtain ⟨K, KX, c⟩ := Y
    have hmg : mg ("law" : PySem.Str) = some (.ref fa) := by
      have e : (HandSHeadRun.topDef (OpenLaw.row PySem.Challenge.rw_zonesclose_k83_deeds_and_their_lines).prog 58).name = ("law" : PySem.Str) := by kernel_rfl
      rw [← e]
      exact hmg0
    have F := K83.fx_of (P := (PySem.Challenge.rw_zonesclose_k83_deeds_and_their_lines).prog) (w := w) KX G c
    have efa := hmg.symm.trans F.g_law
    cases efa
    obtain ⟨t1, t2, t3⟩ := K83.tu_of c
    refine ⟨K, KX, F.f_law, K83.tfD.map (He.cT K), K83.spLaw K, fun p hp => ?_, fun p hp => ?_, fun p hp => ?_, fun s u => ?_, fun H a ns hl _ hH hS => ⟨a, ns, rfl, ?_, hS, hl, fun _ => rfl⟩, fun base hb hn TB => ?_⟩
    · obtain ⟨f, hf, rfl⟩ := List.mem_map.mp hp
      exact c.empty f hf
    · obtain ⟨f, hf, rfl⟩ := List.mem_map.mp hp
      exact c.out f hf
    · obtain ⟨f, hf, rfl⟩ := List.mem_map.mp hp
      exact codeHd_of_K KX (c.hd f hf)
    · exact L2.FunD.bindsA (ps := ["script"]) F.o_law (fun _ _ _ _ _ _ us hl => match us, hl with | [_], _ => rfl) s [u] rfl
    · intro p hp
      have key : ∀ f, f ∈ K83.tfD → H (He.cT K f).2 = some (.tbl #[]) := fun f hf => hH _ (List.mem_map.mpr ⟨f, hf, rfl⟩)
      have k1 := key ("_law_dl_thing_right", none) (by simp [K83.tfD])
      have k2 := key ("_law_dl_text_right", none) (by simp [K83.tfD])
      have k3 := key ("law", none) (by simp [K83.tfD])
      unfold K83.TT at hp
      refine ⟨#[], ?_, ?_, ?_⟩
      · rcases List.mem_cons.mp hp with rfl | hp
        · exact k1
        rcases List.mem_cons.mp hp with rfl | hp
        · exact k2
        rcases List.mem_cons.mp hp with rfl | hp
        · exact k3
        cases hp
      · first | trivial | exact .nil | decide | simp
      · intro pos cv h
        first | (cases h; done) | simp at h
    · exact K83.g_law F (K83.kf_of c) (K83.fe_of c) ⟨t1, t2, t3⟩ fun p hp => TB _ (List.mem_map.mpr ⟨p, hp, rfl⟩)
