import Derived.Test.YtgllikobokmapaaDoorProg
import Derived.Test.YtgllikobokmapaaDoorSh
import Derived.Test.YtgllikobokmapaaDoorMc
import Derived.Test.YtgllikobokmapaaDoorPu
set_option linter.unusedVariables false
set_option linter.unusedSimpArgs false
namespace Vm
open Go Go.Proofs
def facts : List (String × (Array Value → Prop)) := [("internal/strconv.uint64pow10", fun v => v = (Lib.pow10Tab.map fun z => Value.int .u64 z).toArray), ("strconv.ErrSyntax", fun v => ∃ tp p, v = #[.iface tp p]), ("strconv.ErrRange", fun v => ∃ tp p, v = #[.iface tp p]), ("internal/bytealg.MaxLen", fun v => ∃ m, v[0]? = some (.int .i64 m))]
theorem facts_ok : namesC Tryd.prog 6 facts = true := by kernel_rfl
def glob : Glob := factsGlob Tryd.prog 6 facts (namesC_ok facts_ok)
theorem glob_pow (w : World) (h : glob.G w) : Lib.TabIs Tryd.prog w "internal/strconv.uint64pow10" .u64 Lib.pow10Tab := by
  obtain ⟨v, h1, h2⟩ := h.2 _ List.mem_cons_self
  exact h1.trans (congrArg some h2)
theorem glob_ErrSyntax (w : World) (h : glob.G w) : ∃ tp p, w.var? Tryd.prog "strconv.ErrSyntax" = some #[.iface tp p] := by
  obtain ⟨v, h1, tp, p, h2⟩ := h.2 _ (List.mem_cons_of_mem _ List.mem_cons_self)
  exact ⟨tp, p, h1.trans (congrArg some h2)⟩
theorem glob_ErrRange (w : World) (h : glob.G w) : ∃ tp p, w.var? Tryd.prog "strconv.ErrRange" = some #[.iface tp p] := by
  obtain ⟨v, h1, tp, p, h2⟩ := h.2 _ (List.mem_cons_of_mem _ (List.mem_cons_of_mem _ List.mem_cons_self))
  exact ⟨tp, p, h1.trans (congrArg some h2)⟩
theorem glob_len (w : World) (h : glob.G w) : ∃ m, w.cell? ⟨0, 0, none⟩ = some (.int .i64 m) := by
  obtain ⟨v, h1, m, h2⟩ := h.2 _ (List.mem_cons_of_mem _ (List.mem_cons_of_mem _ (List.mem_cons_of_mem _ List.mem_cons_self)))
  refine ⟨m, ?_⟩
  rw [World.var?_cell (show Tryd.prog.globalNamed "internal/bytealg.MaxLen" = some 0 by kernel_rfl) h1 0, h2]
def strconv_FormatInt_e : Entry := ⟨none, [.d (.int .i64), .d (.int .i64)], [.d .str], fun x => fmtInt x.1 x.2.1⟩
theorem strconv_FormatInt_ok : EntOk glob Tryd.prog 51 strconv_FormatInt_e := ent_fmt Tryd.func51 (by decide) rfl glob_pow Tryd.strconv_FormatInt_10
def strings_CutPrefix_e : Entry := ⟨none, [.d .str, .d .str], [.d .str, .d .bool], fun x => cutPreF x.1 x.2.1⟩
theorem strings_CutPrefix_ok : EntOk glob Tryd.prog 24 strings_CutPrefix_e := ent_cutpre Tryd.func24 (by decide) rfl Tryd.strings_CutPrefix
def strings_Cut_e : Entry := ⟨none, [.d .str, .d .str], [.d .str, .d .str, .d .bool], fun x => cutF x.1 x.2.1⟩
theorem strings_Cut_ok : EntOk glob Tryd.prog 27 strings_Cut_e := ent_cut Tryd.func27 (by decide) rfl 0 glob_len Tryd.strings_Cut
def strings_SplitO_e : Entry := ⟨none, [.d .str, .d .str], [.own 9 .str], fun x => splitF x.1 x.2.1⟩
theorem strings_SplitO_ok : EntOk glob Tryd.prog 25 strings_SplitO_e := ent_split Tryd.func25 (by decide) rfl 0 9 glob_len Tryd.strings_Split
def strings_Split_e : Entry := ⟨none, [.d .str, .d .str], [.d (.sl 9 .str)], fun x => splitF x.1 x.2.1⟩
theorem strings_Split_ok : EntOk glob Tryd.prog 25 strings_Split_e := ent_splitD Tryd.func25 (by decide) rfl 0 9 glob_len Tryd.strings_Split
theorem num_ok (s : ByteArray) (w : World) (v : Int) (hs : s.size ≤ 281474976710656) (hG : glob.G w) (h : Lib.parseIntB 64 s.data.toList = .ok v) (hv1 : -9223372036854775808 ≤ v) (hv2 : v ≤ 9223372036854775807) :
    Calls Tryd.prog 26 #[.string s] w fun e w' => e = .returned (.tuple #[.int .i64 v, .bool ((⟨(Lib.itoa v).toArray⟩ : ByteArray) == s)]) ∧ Step (fun _ => False) w w' := by
  have key : ∀ w1, (w1 = w ∨ ∃ t, w1 = Lib.bytesWorld w 5 t) → Step (fun _ => False) w w1 ∧ glob.G w1 := by
    intro w1 h1
    have hst : Step (fun _ => False) w w1 := by
      rcases h1 with rfl | ⟨t, rfl⟩
      · exact Step.refl _ _
      · exact step_bytes _ _ _
    exact ⟨hst, glob.st _ _ _ hG hst (fun _ _ hf => hf.elim)⟩
  go_enter Tryd.func26, Tryd.ntmps26
  go_wp2_with (first
    | (go_at_call 39; refine (Tryd.strconv_ParseInt_10_at64_ok s (by omega) v h _).mono ?_; rintro e w1 ⟨rfl, hw1⟩)
    | (go_at_call 51; refine (Tryd.strconv_FormatInt_10 v hv1 hv2 _ (glob_pow _ (key _ hw1).2)).mono ?_; rintro e w2 ⟨rfl, k, os, rfl⟩)
    | go_in)
  go_ret2
  exact ⟨by rw [← itoa_beq]; rfl, (key _ hw1).1.trans (step_grow _ _ _) (fun _ _ h => h)⟩
theorem num_none (s : ByteArray) (w : World) (hs : s.size ≤ 281474976710656) (hG : glob.G w) (hn : ∀ v, Lib.parseIntB 64 s.data.toList ≠ .ok v) (hr : Lib.parseIntB 64 s.data.toList ≠ .range) :
    Calls Tryd.prog 26 #[.string s] w fun e w' => e = .returned (.tuple #[.int .i64 0, .bool false]) ∧ Step (fun _ => False) w w' := by
  obtain ⟨tp, p, hv⟩ := glob_ErrSyntax w hG
  go_enter Tryd.func26, Tryd.ntmps26
  go_wp2_with (first
    | (go_at_call 39; refine (Tryd.strconv_ParseInt_10_at64_syntax_var s hs hn hr tp p _ hv).mono ?_; rintro e w1 ⟨N, rfl, hN, hc, hB⟩))
  go_ret2
  exact ⟨rfl, step_below hB⟩
theorem num_range (s : ByteArray) (w : World) (hs : s.size ≤ 281474976710656) (hG : glob.G w) (h : Lib.parseIntB 64 s.data.toList = .range) :
    Calls Tryd.prog 26 #[.string s] w fun e w' => e = .returned (.tuple #[.int .i64 (Lib.intSat 64 s.data.toList), .bool false]) ∧ Step (fun _ => False) w w' := by
  obtain ⟨tp, p, hv⟩ := glob_ErrRange w hG
  go_enter Tryd.func26, Tryd.ntmps26
  go_wp2_with (first
    | (go_at_call 39; refine (Tryd.strconv_ParseInt_10_at64_range_var s hs h tp p _ hv).mono ?_; rintro e w1 ⟨N, rfl, hN, hc, hB⟩))
  go_ret2
  exact ⟨rfl, step_below hB⟩
def i_number_e : Entry := ⟨none, [.d .str], [.d (.int .i64), .d .bool], fun x => numF x.1⟩
theorem i_number_ok : EntOk glob Tryd.prog 26 i_number_e := ent_num Tryd.func26 (by decide) rfl num_ok num_none num_range
def ti : List (Nat × TI) := [
  (2, ⟨.int .i64, false, 1, 8, (.int .i64), [.int .i64 0], [], 4, 0⟩),
  (3, ⟨.int .i64, false, 1, 8, (.int .i64), [.int .i64 0], [], 4, 0⟩),
  (4, ⟨.oth, false, 1, 1, .bool, [.bk false], [], 4, 0⟩),
  (5, ⟨.int .u8, false, 1, 1, (.int .u8), [.int .u8 0], [], 4, 0⟩),
  (9, ⟨.str, false, 1, 16, .str, [.str (bs [])], [], 4, 0⟩),
  (22, ⟨.sl, false, 1, 24, (.sl 5 (.int .u8)), [.nils], [], 5, 0⟩),
  (24, ⟨.int .u32, false, 1, 4, (.int .u32), [.int .u32 0], [], 4, 0⟩),
  (26, ⟨.st, true, 2, 16, (.pair (.int .i64) (.int .u32)), [.int .i64 0, .int .u32 0], [⟨0, 1, false⟩, ⟨1, 1, false⟩], 4, 0⟩),
  (29, ⟨.sl, false, 1, 24, (.sl 50 (.pair (.int .i64) (.int .i64))), [.nils], [], 50, 0⟩),
  (37, ⟨.sl, false, 1, 24, (.sl 2 (.int .i64)), [.nils], [], 2, 0⟩),
  (50, ⟨.arr, true, 2, 16, (.pair (.int .i64) (.int .i64)), [.int .i64 0, .int .i64 0], [], 2, 2⟩),
  (56, ⟨.sl, false, 1, 24, (.sl 9 .str), [.nils], [], 9, 0⟩),
  (66, ⟨.int .u64, false, 1, 8, (.int .u64), [.int .u64 0], [], 4, 0⟩),
  (67, ⟨.int .u64, false, 1, 8, (.int .u64), [.int .u64 0], [], 4, 0⟩),
  (69, ⟨.st, true, 3, 40, (.pair (.sl 5 (.int .u8)) (.pair (.int .i64) (.int .u64))), [.nils, .int .i64 0, .int .u64 0], [⟨0, 1, false⟩, ⟨1, 1, false⟩, ⟨2, 1, false⟩], 4, 0⟩)]
theorem ti_ok : tisB Tryd.prog ti = true := by kernel_rfl
def ti_eq : List (Nat × List KD) := [(26, [.int .i64, .int .u32])]
theorem ti_eqsB : eqsB Tryd.prog ti_eq = true := by kernel_rfl
theorem ti_eqs : ∀ t n, look t ti_eq = some n → EqOk Tryd.prog t n := eqsB_ok ti_eqsB
theorem mixed_ok : Tryd.prog.follows .mixedOrders = true := by kernel_rfl
noncomputable def l_a2Long_ls : RS := []
noncomputable def l_a2Long_tbl : Tbl := []
noncomputable def l_a2Long_E0 : Env := ⟨ti, ti_eq, 4, [], fun _ _ _ => .fail⟩
theorem l_a2Long_eq : ∀ x, evEnt (envN l_a2Long_tbl l_a2Long_E0 4) l_a2Long_ls Tryd.f4 [.d (.sl 5 (.int .u8)), .d (.sl 5 (.int .u8))] [.d .bool] x = l_a2Long_t x.1 x.2.1 := by
  intro x
  kernel_rfl
noncomputable def l_a2Long_t_e : Entry := ⟨none, [.d (.sl 5 (.int .u8)), .d (.sl 5 (.int .u8))], [.d .bool], fun x => (l_a2Long_t x.1 x.2.1).run⟩
theorem l_a2Long_t_ok : EntOk glob Tryd.prog 4 l_a2Long_t_e :=
  entry_ok (envN_ok (E0 := l_a2Long_E0) (tbl := l_a2Long_tbl) ⟨tisB_ok ti_ok, ti_eqs, Tryd.underlying4, mixed_ok, ent_nil, tbl_nil⟩ 4) Tryd.func4 (by decide) rfl (ls := l_a2Long_ls) (fun x r h => by rw [l_a2Long_eq]; exact h)
noncomputable def l_a2At_ls : RS := []
noncomputable def l_a2At_tbl : Tbl := []
noncomputable def l_a2At_E0 : Env := ⟨ti, ti_eq, 4, [], fun _ _ _ => .fail⟩
theorem l_a2At_eq : ∀ x, evEnt (envN l_a2At_tbl l_a2At_E0 4) l_a2At_ls Tryd.f6 [.d (.sl 5 (.int .u8)), .d (.int .i64), .d (.int .i64)] [.d (.int .i64)] x = l_a2At_t x.1 x.2.1 x.2.2.1 := by
  intro x
  kernel_rfl
noncomputable def l_a2At_t_e : Entry := ⟨none, [.d (.sl 5 (.int .u8)), .d (.int .i64), .d (.int .i64)], [.d (.int .i64)], fun x => (l_a2At_t x.1 x.2.1 x.2.2.1).run⟩
theorem l_a2At_t_ok : EntOk glob Tryd.prog 6 l_a2At_t_e :=
  entry_ok (envN_ok (E0 := l_a2At_E0) (tbl := l_a2At_tbl) ⟨tisB_ok ti_ok, ti_eqs, Tryd.underlying4, mixed_ok, ent_nil, tbl_nil⟩ 4) Tryd.func6 (by decide) rfl (ls := l_a2At_ls) (fun x r h => by rw [l_a2At_eq]; exact h)
noncomputable def s_l01Bits_ls : RS := []
noncomputable def s_l01Bits_tbl : Tbl := []
noncomputable def s_l01Bits_E0 : Env := ⟨ti, ti_eq, 4, [], fun _ _ _ => .fail⟩
theorem s_l01Bits_eq : ∀ x, evEnt (envN s_l01Bits_tbl s_l01Bits_E0 4) s_l01Bits_ls Tryd.f34 [.d (.int .i64)] [.d (.int .i64)] x = s_l01Bits_t x.1 := by
  intro x
  kernel_rfl
noncomputable def s_l01Bits_t_e : Entry := ⟨none, [.d (.int .i64)], [.d (.int .i64)], fun x => (s_l01Bits_t x.1).run⟩
theorem s_l01Bits_t_ok : EntOk glob Tryd.prog 34 s_l01Bits_t_e :=
  entry_ok (envN_ok (E0 := s_l01Bits_E0) (tbl := s_l01Bits_tbl) ⟨tisB_ok ti_ok, ti_eqs, Tryd.underlying4, mixed_ok, ent_nil, tbl_nil⟩ 4) Tryd.func34 (by decide) rfl (ls := s_l01Bits_ls) (fun x r h => by rw [s_l01Bits_eq]; exact h)
noncomputable def s_l00Src_next_ls : RS := []
noncomputable def s_l00Src_next_tbl : Tbl := []
noncomputable def s_l00Src_next_E0 : Env := ⟨ti, ti_eq, 4, [], fun _ _ _ => .fail⟩
theorem s_l00Src_next_eq : ∀ x, evEntM (envN s_l00Src_next_tbl s_l00Src_next_E0 4) s_l00Src_next_ls Tryd.f44 (.pair (.sl 5 (.int .u8)) (.pair (.int .i64) (.int .u64))) [] [.d (.int .i64)] x = s_l00Src_next_t x.1 := by
  intro x
  kernel_rfl
noncomputable def s_l00Src_next_t_e : Entry := ⟨some (.pair (.sl 5 (.int .u8)) (.pair (.int .i64) (.int .u64))), [], [.d (.int .i64)], fun x => (s_l00Src_next_t x.1).run⟩
theorem s_l00Src_next_t_ok : EntOk glob Tryd.prog 44 s_l00Src_next_t_e :=
  entryM_ok (envN_ok (E0 := s_l00Src_next_E0) (tbl := s_l00Src_next_tbl) ⟨tisB_ok ti_ok, ti_eqs, Tryd.underlying4, mixed_ok, ent_nil, tbl_nil⟩ 4) Tryd.func44 (by decide) rfl (ls := s_l00Src_next_ls) (fun x r h => by rw [s_l00Src_next_eq]; exact h)
noncomputable def s_l00Src_pick_ls : RS := []
noncomputable def s_l00Src_pick_tbl : Tbl := []
noncomputable def s_l00Src_pick_E0 : Env := ⟨ti, ti_eq, 4, [(44, s_l00Src_next_t_e)], fun _ _ _ => .fail⟩
theorem s_l00Src_pick_eq : ∀ x, evEntM (envN s_l00Src_pick_tbl s_l00Src_pick_E0 4) s_l00Src_pick_ls Tryd.f33 (.pair (.sl 5 (.int .u8)) (.pair (.int .i64) (.int .u64))) [.d (.int .i64)] [.d (.int .i64)] x = s_l00Src_pick_t x.1 x.2.1 := by
  intro x
  kernel_rfl
noncomputable def s_l00Src_pick_t_e : Entry := ⟨some (.pair (.sl 5 (.int .u8)) (.pair (.int .i64) (.int .u64))), [.d (.int .i64)], [.d (.int .i64)], fun x => (s_l00Src_pick_t x.1 x.2.1).run⟩
theorem s_l00Src_pick_t_ok : EntOk glob Tryd.prog 33 s_l00Src_pick_t_e :=
  entryM_ok (envN_ok (E0 := s_l00Src_pick_E0) (tbl := s_l00Src_pick_tbl) ⟨tisB_ok ti_ok, ti_eqs, Tryd.underlying4, mixed_ok, ent_cons s_l00Src_next_t_ok (ent_nil), tbl_nil⟩ 4) Tryd.func33 (by decide) rfl (ls := s_l00Src_pick_ls) (fun x r h => by rw [s_l00Src_pick_eq]; exact h)
noncomputable def s_l00Src_one_ls : RS := []
noncomputable def s_l00Src_one_tbl : Tbl := []
noncomputable def s_l00Src_one_E0 : Env := ⟨ti, ti_eq, 4, [(33, s_l00Src_pick_t_e)], fun _ _ _ => .fail⟩
theorem s_l00Src_one_eq : ∀ x, evEntM (envN s_l00Src_one_tbl s_l00Src_one_E0 4) s_l00Src_one_ls Tryd.f35 (.pair (.sl 5 (.int .u8)) (.pair (.int .i64) (.int .u64))) [.d (.int .i64)] [.d .bool] x = s_l00Src_one_t x.1 x.2.1 := by
  intro x
  kernel_rfl
noncomputable def s_l00Src_one_t_e : Entry := ⟨some (.pair (.sl 5 (.int .u8)) (.pair (.int .i64) (.int .u64))), [.d (.int .i64)], [.d .bool], fun x => (s_l00Src_one_t x.1 x.2.1).run⟩
theorem s_l00Src_one_t_ok : EntOk glob Tryd.prog 35 s_l00Src_one_t_e :=
  entryM_ok (envN_ok (E0 := s_l00Src_one_E0) (tbl := s_l00Src_one_tbl) ⟨tisB_ok ti_ok, ti_eqs, Tryd.underlying4, mixed_ok, ent_cons s_l00Src_pick_t_ok (ent_nil), tbl_nil⟩ 4) Tryd.func35 (by decide) rfl (ls := s_l00Src_one_ls) (fun x r h => by rw [s_l00Src_one_eq]; exact h)
noncomputable def s_l01Drawn_ls : RS := []
noncomputable def s_l01Drawn_tbl : Tbl := []
noncomputable def s_l01Drawn_E0 : Env := ⟨ti, ti_eq, 4, [(33, s_l00Src_pick_t_e), (34, s_l01Bits_t_e), (35, s_l00Src_one_t_e)], fun _ _ _ => .fail⟩
theorem s_l01Drawn_eq : ∀ x, evEntM (envN s_l01Drawn_tbl s_l01Drawn_E0 4) s_l01Drawn_ls Tryd.f16 (.pair (.sl 5 (.int .u8)) (.pair (.int .i64) (.int .u64))) [.d (.int .i64)] [.d (.pair (.int .i64) (.int .u32))] x = s_l01Drawn_t x.1 x.2.1 := by
  intro x
  kernel_rfl
noncomputable def s_l01Drawn_t_e : Entry := ⟨some (.pair (.sl 5 (.int .u8)) (.pair (.int .i64) (.int .u64))), [.d (.int .i64)], [.d (.pair (.int .i64) (.int .u32))], fun x => (s_l01Drawn_t x.1 x.2.1).run⟩
theorem s_l01Drawn_t_ok : EntOk glob Tryd.prog 16 s_l01Drawn_t_e :=
  entryM_ok (envN_ok (E0 := s_l01Drawn_E0) (tbl := s_l01Drawn_tbl) ⟨tisB_ok ti_ok, ti_eqs, Tryd.underlying4, mixed_ok, ent_cons s_l00Src_pick_t_ok (ent_cons s_l01Bits_t_ok (ent_cons s_l00Src_one_t_ok (ent_nil))), tbl_nil⟩ 4) Tryd.func16 (by decide) rfl (ls := s_l01Drawn_ls) (fun x r h => by rw [s_l01Drawn_eq]; exact h)
noncomputable def s_A2Graph_ls : RS := []
noncomputable def s_A2Graph_tbl : Tbl := [(17, Tryd.f17, [])]
noncomputable def s_A2Graph_E0 : Env := ⟨ti, ti_eq, 4, [(16, s_l01Drawn_t_e)], fun _ _ _ => .fail⟩
theorem s_A2Graph_eq : ∀ x, evEnt (envN s_A2Graph_tbl s_A2Graph_E0 4) s_A2Graph_ls Tryd.f5 [.d (.sl 5 (.int .u8)), .d (.int .i64)] [.d (.pair (.int .i64) (.int .u32))] x = s_A2Graph_t x.1 x.2.1 := by
  intro x
  kernel_rfl
noncomputable def s_A2Graph_t_e : Entry := ⟨none, [.d (.sl 5 (.int .u8)), .d (.int .i64)], [.d (.pair (.int .i64) (.int .u32))], fun x => (s_A2Graph_t x.1 x.2.1).run⟩
theorem s_A2Graph_t_ok : EntOk glob Tryd.prog 5 s_A2Graph_t_e :=
  entry_ok (envN_ok (E0 := s_A2Graph_E0) (tbl := s_A2Graph_tbl) ⟨tisB_ok ti_ok, ti_eqs, Tryd.underlying4, mixed_ok, ent_cons s_l01Drawn_t_ok (ent_nil), tbl_cons Tryd.func17 (by decide) (tbl_nil)⟩ 4) Tryd.func5 (by decide) rfl (ls := s_A2Graph_ls) (fun x r h => by rw [s_A2Graph_eq]; exact h)
noncomputable def i_in_ls : RS := []
noncomputable def i_in_tbl : Tbl := []
noncomputable def i_in_E0 : Env := ⟨ti, ti_eq, 4, [], fun _ _ _ => .fail⟩
theorem i_in_eq : ∀ x, evEnt (envN i_in_tbl i_in_E0 4) i_in_ls Tryd.f30 [.d (.int .i64), .d (.int .i64), .d (.int .i64)] [.d .bool] x = i_in_t x.1 x.2.1 x.2.2.1 := by
  intro x
  kernel_rfl
noncomputable def i_in_t_e : Entry := ⟨none, [.d (.int .i64), .d (.int .i64), .d (.int .i64)], [.d .bool], fun x => (i_in_t x.1 x.2.1 x.2.2.1).run⟩
theorem i_in_t_ok : EntOk glob Tryd.prog 30 i_in_t_e :=
  entry_ok (envN_ok (E0 := i_in_E0) (tbl := i_in_tbl) ⟨tisB_ok ti_ok, ti_eqs, Tryd.underlying4, mixed_ok, ent_nil, tbl_nil⟩ 4) Tryd.func30 (by decide) rfl (ls := i_in_ls) (fun x r h => by rw [i_in_eq]; exact h)
noncomputable def i_pairs_ls : RS := []
noncomputable def i_pairs_tbl : Tbl := []
noncomputable def i_pairs_E0 : Env := ⟨ti, ti_eq, 4, [], fun _ _ _ => .fail⟩
theorem i_pairs_eq : ∀ x, evEnt (envN i_pairs_tbl i_pairs_E0 4) i_pairs_ls Tryd.f31 [.d (.int .i64)] [.d (.int .i64)] x = i_pairs_t x.1 := by
  intro x
  kernel_rfl
noncomputable def i_pairs_t_e : Entry := ⟨none, [.d (.int .i64)], [.d (.int .i64)], fun x => (i_pairs_t x.1).run⟩
theorem i_pairs_t_ok : EntOk glob Tryd.prog 31 i_pairs_t_e :=
  entry_ok (envN_ok (E0 := i_pairs_E0) (tbl := i_pairs_tbl) ⟨tisB_ok ti_ok, ti_eqs, Tryd.underlying4, mixed_ok, ent_nil, tbl_nil⟩ 4) Tryd.func31 (by decide) rfl (ls := i_pairs_ls) (fun x r h => by rw [i_pairs_eq]; exact h)
noncomputable def i_ValidGraph_ls : RS := []
noncomputable def i_ValidGraph_tbl : Tbl := []
noncomputable def i_ValidGraph_E0 : Env := ⟨ti, ti_eq, 4, [(30, i_in_t_e), (31, i_pairs_t_e)], fun _ _ _ => .fail⟩
theorem i_ValidGraph_eq : ∀ x, evEnt (envN i_ValidGraph_tbl i_ValidGraph_E0 4) i_ValidGraph_ls Tryd.f13 [.d (.pair (.int .i64) (.int .u32))] [.d .bool] x = i_ValidGraph_t x.1 := by
  intro x
  kernel_rfl
noncomputable def i_ValidGraph_t_e : Entry := ⟨none, [.d (.pair (.int .i64) (.int .u32))], [.d .bool], fun x => (i_ValidGraph_t x.1).run⟩
theorem i_ValidGraph_t_ok : EntOk glob Tryd.prog 13 i_ValidGraph_t_e :=
  entry_ok (envN_ok (E0 := i_ValidGraph_E0) (tbl := i_ValidGraph_tbl) ⟨tisB_ok ti_ok, ti_eqs, Tryd.underlying4, mixed_ok, ent_cons i_in_t_ok (ent_cons i_pairs_t_ok (ent_nil)), tbl_nil⟩ 4) Tryd.func13 (by decide) rfl (ls := i_ValidGraph_ls) (fun x r h => by rw [i_ValidGraph_eq]; exact h)
noncomputable def i_bit_ls : RS := []
noncomputable def i_bit_tbl : Tbl := []
noncomputable def i_bit_E0 : Env := ⟨ti, ti_eq, 4, [(31, i_pairs_t_e)], fun _ _ _ => .fail⟩
theorem i_bit_eq : ∀ x, evEnt (envN i_bit_tbl i_bit_E0 4) i_bit_ls Tryd.f23 [.d (.int .i64), .d (.int .i64)] [.d (.int .u32)] x = i_bit_t x.1 x.2.1 := by
  intro x
  kernel_rfl
noncomputable def i_bit_t_e : Entry := ⟨none, [.d (.int .i64), .d (.int .i64)], [.d (.int .u32)], fun x => (i_bit_t x.1 x.2.1).run⟩
theorem i_bit_t_ok : EntOk glob Tryd.prog 23 i_bit_t_e :=
  entry_ok (envN_ok (E0 := i_bit_E0) (tbl := i_bit_tbl) ⟨tisB_ok ti_ok, ti_eqs, Tryd.underlying4, mixed_ok, ent_cons i_pairs_t_ok (ent_nil), tbl_nil⟩ 4) Tryd.func23 (by decide) rfl (ls := i_bit_ls) (fun x r h => by rw [i_bit_eq]; exact h)
noncomputable def i_Graph_has_ls : RS := []
noncomputable def i_Graph_has_tbl : Tbl := []
noncomputable def i_Graph_has_E0 : Env := ⟨ti, ti_eq, 4, [(23, i_bit_t_e)], fun _ _ _ => .fail⟩
theorem i_Graph_has_eq : ∀ x, evEnt (envN i_Graph_has_tbl i_Graph_has_E0 4) i_Graph_has_ls Tryd.f32 [.d (.pair (.int .i64) (.int .u32)), .d (.int .i64), .d (.int .i64)] [.d .bool] x = i_Graph_has_t x.1 x.2.1 x.2.2.1 := by
  intro x
  kernel_rfl
noncomputable def i_Graph_has_t_e : Entry := ⟨none, [.d (.pair (.int .i64) (.int .u32)), .d (.int .i64), .d (.int .i64)], [.d .bool], fun x => (i_Graph_has_t x.1 x.2.1 x.2.2.1).run⟩
theorem i_Graph_has_t_ok : EntOk glob Tryd.prog 32 i_Graph_has_t_e :=
  entry_ok (envN_ok (E0 := i_Graph_has_E0) (tbl := i_Graph_has_tbl) ⟨tisB_ok ti_ok, ti_eqs, Tryd.underlying4, mixed_ok, ent_cons i_bit_t_ok (ent_nil), tbl_nil⟩ 4) Tryd.func32 (by decide) rfl (ls := i_Graph_has_ls) (fun x r h => by rw [i_Graph_has_eq]; exact h)
noncomputable def i_Graph_edges_ls : RS := [(3, ⟨29, [.cells [.d (.int .i64), .d (.int .u32)]], [1, 3, 8, 9], [.k (.ptr 0 0), .own 50 (.pair (.int .i64) (.int .i64)), .d (.int .i64), .d (.int .i64)]⟩, [(.exit 0, ⟨29, [], [3], [.own 50 (.pair (.int .i64) (.int .i64))]⟩)]), (6, ⟨29, [.cells [.d (.int .i64), .d (.int .u32)]], [1, 3, 4, 8, 9, 12, 13], [.k (.ptr 0 0), .own 50 (.pair (.int .i64) (.int .i64)), .d (.int .i64), .d (.int .i64), .d (.int .i64), .d (.int .i64), .d (.int .i64)]⟩, [(.exit 2, ⟨29, [.cells [.d (.int .i64), .d (.int .u32)]], [1, 3, 8, 9], [.k (.ptr 0 0), .own 50 (.pair (.int .i64) (.int .i64)), .d (.int .i64), .d (.int .i64)]⟩)])]
noncomputable def i_Graph_edges_tbl : Tbl := []
noncomputable def i_Graph_edges_E0 : Env := ⟨ti, ti_eq, 4, [(32, i_Graph_has_t_e)], fun _ _ _ => .fail⟩
theorem i_Graph_edges_eq : ∀ x, evEnt (envN i_Graph_edges_tbl i_Graph_edges_E0 4) i_Graph_edges_ls Tryd.f18 [.d (.pair (.int .i64) (.int .u32))] [.own 50 (.pair (.int .i64) (.int .i64))] x = i_Graph_edges_t x.1 := by
  intro x
  kernel_rfl
noncomputable def i_Graph_edges_t_e : Entry := ⟨none, [.d (.pair (.int .i64) (.int .u32))], [.own 50 (.pair (.int .i64) (.int .i64))], fun x => (i_Graph_edges_t x.1).run⟩
theorem i_Graph_edges_t_ok : EntOk glob Tryd.prog 18 i_Graph_edges_t_e :=
  entry_ok (envN_ok (E0 := i_Graph_edges_E0) (tbl := i_Graph_edges_tbl) ⟨tisB_ok ti_ok, ti_eqs, Tryd.underlying4, mixed_ok, ent_cons i_Graph_has_t_ok (ent_nil), tbl_nil⟩ 4) Tryd.func18 (by decide) rfl (ls := i_Graph_edges_ls) (fun x r h => by rw [i_Graph_edges_eq]; exact h)
noncomputable def i_PairsOf_ls : RS := []
noncomputable def i_PairsOf_tbl : Tbl := []
noncomputable def i_PairsOf_E0 : Env := ⟨ti, ti_eq, 4, [(13, i_ValidGraph_t_e), (18, i_Graph_edges_t_e)], fun _ _ _ => .fail⟩
theorem i_PairsOf_eq : ∀ x, evEnt (envN i_PairsOf_tbl i_PairsOf_E0 4) i_PairsOf_ls Tryd.f7 [.d (.pair (.int .i64) (.int .u32))] [.own 50 (.pair (.int .i64) (.int .i64)), .d (.int .i64)] x = i_PairsOf_t x.1 := by
  intro x
  kernel_rfl
noncomputable def i_PairsOf_t_e : Entry := ⟨none, [.d (.pair (.int .i64) (.int .u32))], [.own 50 (.pair (.int .i64) (.int .i64)), .d (.int .i64)], fun x => (i_PairsOf_t x.1).run⟩
theorem i_PairsOf_t_ok : EntOk glob Tryd.prog 7 i_PairsOf_t_e :=
  entry_ok (envN_ok (E0 := i_PairsOf_E0) (tbl := i_PairsOf_tbl) ⟨tisB_ok ti_ok, ti_eqs, Tryd.underlying4, mixed_ok, ent_cons i_ValidGraph_t_ok (ent_cons i_Graph_edges_t_ok (ent_nil)), tbl_nil⟩ 4) Tryd.func7 (by decide) rfl (ls := i_PairsOf_ls) (fun x r h => by rw [i_PairsOf_eq]; exact h)
noncomputable def i_sizeOk_ls : RS := []
noncomputable def i_sizeOk_tbl : Tbl := []
noncomputable def i_sizeOk_E0 : Env := ⟨ti, ti_eq, 4, [(30, i_in_t_e)], fun _ _ _ => .fail⟩
theorem i_sizeOk_eq : ∀ x, evEnt (envN i_sizeOk_tbl i_sizeOk_E0 4) i_sizeOk_ls Tryd.f19 [.d (.int .i64)] [.d .bool] x = i_sizeOk_t x.1 := by
  intro x
  kernel_rfl
noncomputable def i_sizeOk_t_e : Entry := ⟨none, [.d (.int .i64)], [.d .bool], fun x => (i_sizeOk_t x.1).run⟩
theorem i_sizeOk_t_ok : EntOk glob Tryd.prog 19 i_sizeOk_t_e :=
  entry_ok (envN_ok (E0 := i_sizeOk_E0) (tbl := i_sizeOk_tbl) ⟨tisB_ok ti_ok, ti_eqs, Tryd.underlying4, mixed_ok, ent_cons i_in_t_ok (ent_nil), tbl_nil⟩ 4) Tryd.func19 (by decide) rfl (ls := i_sizeOk_ls) (fun x r h => by rw [i_sizeOk_eq]; exact h)
noncomputable def i_isPair_ls : RS := []
noncomputable def i_isPair_tbl : Tbl := []
noncomputable def i_isPair_E0 : Env := ⟨ti, ti_eq, 4, [(30, i_in_t_e)], fun _ _ _ => .fail⟩
theorem i_isPair_eq : ∀ x, evEnt (envN i_isPair_tbl i_isPair_E0 4) i_isPair_ls Tryd.f22 [.d (.int .i64), .d (.int .i64), .d (.int .i64)] [.d .bool] x = i_isPair_t x.1 x.2.1 x.2.2.1 := by
  intro x
  kernel_rfl
noncomputable def i_isPair_t_e : Entry := ⟨none, [.d (.int .i64), .d (.int .i64), .d (.int .i64)], [.d .bool], fun x => (i_isPair_t x.1 x.2.1 x.2.2.1).run⟩
theorem i_isPair_t_ok : EntOk glob Tryd.prog 22 i_isPair_t_e :=
  entry_ok (envN_ok (E0 := i_isPair_E0) (tbl := i_isPair_tbl) ⟨tisB_ok ti_ok, ti_eqs, Tryd.underlying4, mixed_ok, ent_cons i_in_t_ok (ent_nil), tbl_nil⟩ 4) Tryd.func22 (by decide) rfl (ls := i_isPair_ls) (fun x r h => by rw [i_isPair_eq]; exact h)
noncomputable def i_GraphOf_ls : RS := [(5, ⟨37, [.drop, .cells [.d (.int .i64), .d (.int .u32)], .cells [.d (.int .i64), .d (.int .u32)]], [4, 6, 20, 21, 22], [.k (.ptr 1 0), .k (.ptr 2 0), .d (.sl 50 (.pair (.int .i64) (.int .i64))), .d (.int .i64), .d (.int .i64)]⟩, [(.exit 0, ⟨37, [.drop, .cells [.d (.int .i64), .d (.int .u32)], .cells [.d (.int .i64), .d (.int .u32)]], [4, 6], [.k (.ptr 1 0), .k (.ptr 2 0)]⟩)])]
noncomputable def i_GraphOf_tbl : Tbl := [(21, Tryd.f21, []), (20, Tryd.f20, []), (36, Tryd.f36, [(2, ⟨19, [.cells [.d (.int .i64)], .cells [.d (.int .i64), .d (.int .u32)]], [0, 1, 7, 8], [.d (.sl 50 (.pair (.int .i64) (.int .i64))), .k (.fn (.func 21) [] [(.ptr 0 0)]), .d (.int .i64), .d (.int .i64)]⟩, [(.ret, ⟨19, [.cells [.d (.int .i64)], .cells [.d (.int .i64), .d (.int .u32)]], [4], [.d (.int .i64)]⟩), (.exit 0, ⟨19, [.cells [.d (.int .i64)], .cells [.d (.int .i64), .d (.int .u32)]], [], []⟩)])])]
noncomputable def i_GraphOf_E0 : Env := ⟨ti, ti_eq, 4, [(19, i_sizeOk_t_e), (22, i_isPair_t_e), (23, i_bit_t_e)], fun _ _ _ => .fail⟩
theorem i_GraphOf_eq : ∀ x, evEnt (envN i_GraphOf_tbl i_GraphOf_E0 4) i_GraphOf_ls Tryd.f8 [.d (.int .i64), .d (.sl 50 (.pair (.int .i64) (.int .i64)))] [.d (.pair (.int .i64) (.int .u32)), .d (.int .i64)] x = i_GraphOf_t x.1 x.2.1 := by
  intro x
  kernel_rfl
noncomputable def i_GraphOf_t_e : Entry := ⟨none, [.d (.int .i64), .d (.sl 50 (.pair (.int .i64) (.int .i64)))], [.d (.pair (.int .i64) (.int .u32)), .d (.int .i64)], fun x => (i_GraphOf_t x.1 x.2.1).run⟩
theorem i_GraphOf_t_ok : EntOk glob Tryd.prog 8 i_GraphOf_t_e :=
  entry_ok (envN_ok (E0 := i_GraphOf_E0) (tbl := i_GraphOf_tbl) ⟨tisB_ok ti_ok, ti_eqs, Tryd.underlying4, mixed_ok, ent_cons i_sizeOk_t_ok (ent_cons i_isPair_t_ok (ent_cons i_bit_t_ok (ent_nil))), tbl_cons Tryd.func21 (by decide) (tbl_cons Tryd.func20 (by decide) (tbl_cons Tryd.func36 (by decide) (tbl_nil)))⟩ 4) Tryd.func8 (by decide) rfl (ls := i_GraphOf_ls) (fun x r h => by rw [i_GraphOf_eq]; exact h)
noncomputable def i_decimal_ls : RS := []
noncomputable def i_decimal_tbl : Tbl := []
noncomputable def i_decimal_E0 : Env := ⟨ti, ti_eq, 4, [(51, strconv_FormatInt_e)], fun _ _ _ => .fail⟩
theorem i_decimal_eq : ∀ x, evEnt (envN i_decimal_tbl i_decimal_E0 4) i_decimal_ls Tryd.f40 [.d (.int .i64)] [.d .str] x = i_decimal_t x.1 := by
  intro x
  kernel_rfl
noncomputable def i_decimal_t_e : Entry := ⟨none, [.d (.int .i64)], [.d .str], fun x => (i_decimal_t x.1).run⟩
theorem i_decimal_t_ok : EntOk glob Tryd.prog 40 i_decimal_t_e :=
  entry_ok (envN_ok (E0 := i_decimal_E0) (tbl := i_decimal_tbl) ⟨tisB_ok ti_ok, ti_eqs, Tryd.underlying4, mixed_ok, ent_cons strconv_FormatInt_ok (ent_nil), tbl_nil⟩ 4) Tryd.func40 (by decide) rfl (ls := i_decimal_ls) (fun x r h => by rw [i_decimal_eq]; exact h)
noncomputable def i_Graph_text_ls : RS := [(3, ⟨30, [], [3, 11, 12, 13], [.d .str, .own 50 (.pair (.int .i64) (.int .i64)), .d (.int .i64), .d (.int .i64)]⟩, [(.exit 0, ⟨30, [], [3], [.d .str]⟩)])]
noncomputable def i_Graph_text_tbl : Tbl := []
noncomputable def i_Graph_text_E0 : Env := ⟨ti, ti_eq, 4, [(18, i_Graph_edges_t_e), (40, i_decimal_t_e)], fun _ _ _ => .fail⟩
theorem i_Graph_text_eq : ∀ x, evEnt (envN i_Graph_text_tbl i_Graph_text_E0 4) i_Graph_text_ls Tryd.f28 [.d (.pair (.int .i64) (.int .u32))] [.d .str] x = i_Graph_text_t x.1 := by
  intro x
  kernel_rfl
noncomputable def i_Graph_text_t_e : Entry := ⟨none, [.d (.pair (.int .i64) (.int .u32))], [.d .str], fun x => (i_Graph_text_t x.1).run⟩
theorem i_Graph_text_t_ok : EntOk glob Tryd.prog 28 i_Graph_text_t_e :=
  entry_ok (envN_ok (E0 := i_Graph_text_E0) (tbl := i_Graph_text_tbl) ⟨tisB_ok ti_ok, ti_eqs, Tryd.underlying4, mixed_ok, ent_cons i_Graph_edges_t_ok (ent_cons i_decimal_t_ok (ent_nil)), tbl_nil⟩ 4) Tryd.func28 (by decide) rfl (ls := i_Graph_text_ls) (fun x r h => by rw [i_Graph_text_eq]; exact h)
noncomputable def i_GraphText_ls : RS := []
noncomputable def i_GraphText_tbl : Tbl := []
noncomputable def i_GraphText_E0 : Env := ⟨ti, ti_eq, 4, [(13, i_ValidGraph_t_e), (28, i_Graph_text_t_e)], fun _ _ _ => .fail⟩
theorem i_GraphText_eq : ∀ x, evEnt (envN i_GraphText_tbl i_GraphText_E0 4) i_GraphText_ls Tryd.f10 [.d (.pair (.int .i64) (.int .u32))] [.d .str] x = i_GraphText_t x.1 := by
  intro x
  kernel_rfl
noncomputable def i_GraphText_t_e : Entry := ⟨none, [.d (.pair (.int .i64) (.int .u32))], [.d .str], fun x => (i_GraphText_t x.1).run⟩
theorem i_GraphText_t_ok : EntOk glob Tryd.prog 10 i_GraphText_t_e :=
  entry_ok (envN_ok (E0 := i_GraphText_E0) (tbl := i_GraphText_tbl) ⟨tisB_ok ti_ok, ti_eqs, Tryd.underlying4, mixed_ok, ent_cons i_ValidGraph_t_ok (ent_cons i_Graph_text_t_ok (ent_nil)), tbl_nil⟩ 4) Tryd.func10 (by decide) rfl (ls := i_GraphText_ls) (fun x r h => by rw [i_GraphText_eq]; exact h)
noncomputable def i_ReadGraph_ls : RS := [(8, ⟨98, [.cells [.d (.int .i64), .d (.int .u32)], .cells [.d (.int .i64), .d (.int .u32)]], [0, 2, 7, 9, 48, 49, 50], [.d .str, .k (.ptr 0 0), .d (.int .i64), .k (.ptr 1 0), .d (.sl 9 .str), .d (.int .i64), .d (.int .i64)]⟩, [(.ret, ⟨98, [.cells [.d (.int .i64), .d (.int .u32)]], [2, 3], [.k (.ptr 0 0), .d (.int .i64)]⟩), (.exit 0, ⟨98, [.cells [.d (.int .i64), .d (.int .u32)], .cells [.d (.int .i64), .d (.int .u32)]], [0, 2, 9], [.d .str, .k (.ptr 0 0), .k (.ptr 1 0)]⟩)])]
noncomputable def i_ReadGraph_tbl : Tbl := []
noncomputable def i_ReadGraph_E0 : Env := ⟨ti, ti_eq, 4, [(19, i_sizeOk_t_e), (22, i_isPair_t_e), (23, i_bit_t_e), (24, strings_CutPrefix_e), (25, strings_Split_e), (26, i_number_e), (27, strings_Cut_e), (28, i_Graph_text_t_e)], fun _ _ _ => .fail⟩
theorem i_ReadGraph_eq : ∀ x, evEnt (envN i_ReadGraph_tbl i_ReadGraph_E0 4) i_ReadGraph_ls Tryd.f9 [.d .str] [.d (.pair (.int .i64) (.int .u32)), .d (.int .i64)] x = i_ReadGraph_t x.1 := by
  intro x
  kernel_rfl
noncomputable def i_ReadGraph_t_e : Entry := ⟨none, [.d .str], [.d (.pair (.int .i64) (.int .u32)), .d (.int .i64)], fun x => (i_ReadGraph_t x.1).run⟩
theorem i_ReadGraph_t_ok : EntOk glob Tryd.prog 9 i_ReadGraph_t_e :=
  entry_ok (envN_ok (E0 := i_ReadGraph_E0) (tbl := i_ReadGraph_tbl) ⟨tisB_ok ti_ok, ti_eqs, Tryd.underlying4, mixed_ok, ent_cons i_sizeOk_t_ok (ent_cons i_isPair_t_ok (ent_cons i_bit_t_ok (ent_cons strings_CutPrefix_ok (ent_cons strings_Split_ok (ent_cons i_number_ok (ent_cons strings_Cut_ok (ent_cons i_Graph_text_t_ok (ent_nil)))))))), tbl_nil⟩ 4) Tryd.func9 (by decide) rfl (ls := i_ReadGraph_ls) (fun x r h => by rw [i_ReadGraph_eq]; exact h)
noncomputable def i_Graph_opposite_ls : RS := []
noncomputable def i_Graph_opposite_tbl : Tbl := [(43, Tryd.f43, []), (42, Tryd.f42, [(3, ⟨32, [.cells [.d (.int .i64), .d (.int .u32)], .cells [.d (.int .i64), .d (.int .u32)], .cells [.d (.int .i64), .d (.int .u32)], .cells [.d (.int .i64), .d (.int .u32)]], [1, 4, 5, 10, 11], [.k (.fn (.func 43) [] [(.ptr 0 0)]), .k (.ptr 2 0), .k (.ptr 3 0), .d (.int .i64), .d (.int .i64)]⟩, [(.exit 0, ⟨32, [.cells [.d (.int .i64), .d (.int .u32)], .cells [.d (.int .i64), .d (.int .u32)], .cells [.d (.int .i64), .d (.int .u32)], .cells [.d (.int .i64), .d (.int .u32)]], [4, 5], [.k (.ptr 2 0), .k (.ptr 3 0)]⟩)]), (6, ⟨32, [.cells [.d (.int .i64), .d (.int .u32)], .cells [.d (.int .i64), .d (.int .u32)], .cells [.d (.int .i64), .d (.int .u32)], .cells [.d (.int .i64), .d (.int .u32)]], [1, 4, 5, 6, 10, 11, 14, 15], [.k (.fn (.func 43) [] [(.ptr 0 0)]), .k (.ptr 2 0), .k (.ptr 3 0), .d (.int .i64), .d (.int .i64), .d (.int .i64), .d (.int .i64), .d (.int .i64)]⟩, [(.exit 2, ⟨32, [.cells [.d (.int .i64), .d (.int .u32)], .cells [.d (.int .i64), .d (.int .u32)], .cells [.d (.int .i64), .d (.int .u32)], .cells [.d (.int .i64), .d (.int .u32)]], [1, 4, 5, 10, 11], [.k (.fn (.func 43) [] [(.ptr 0 0)]), .k (.ptr 2 0), .k (.ptr 3 0), .d (.int .i64), .d (.int .i64)]⟩)])])]
noncomputable def i_Graph_opposite_E0 : Env := ⟨ti, ti_eq, 4, [(23, i_bit_t_e), (32, i_Graph_has_t_e)], fun _ _ _ => .fail⟩
theorem i_Graph_opposite_eq : ∀ x, evEnt (envN i_Graph_opposite_tbl i_Graph_opposite_E0 4) i_Graph_opposite_ls Tryd.f29 [.d (.pair (.int .i64) (.int .u32))] [.d (.pair (.int .i64) (.int .u32))] x = i_Graph_opposite_t x.1 := by
  intro x
  kernel_rfl
noncomputable def i_Graph_opposite_t_e : Entry := ⟨none, [.d (.pair (.int .i64) (.int .u32))], [.d (.pair (.int .i64) (.int .u32))], fun x => (i_Graph_opposite_t x.1).run⟩
theorem i_Graph_opposite_t_ok : EntOk glob Tryd.prog 29 i_Graph_opposite_t_e :=
  entry_ok (envN_ok (E0 := i_Graph_opposite_E0) (tbl := i_Graph_opposite_tbl) ⟨tisB_ok ti_ok, ti_eqs, Tryd.underlying4, mixed_ok, ent_cons i_bit_t_ok (ent_cons i_Graph_has_t_ok (ent_nil)), tbl_cons Tryd.func43 (by decide) (tbl_cons Tryd.func42 (by decide) (tbl_nil))⟩ 4) Tryd.func29 (by decide) rfl (ls := i_Graph_opposite_ls) (fun x r h => by rw [i_Graph_opposite_eq]; exact h)
noncomputable def i_OppositeGraph_ls : RS := []
noncomputable def i_OppositeGraph_tbl : Tbl := []
noncomputable def i_OppositeGraph_E0 : Env := ⟨ti, ti_eq, 4, [(13, i_ValidGraph_t_e), (29, i_Graph_opposite_t_e)], fun _ _ _ => .fail⟩
theorem i_OppositeGraph_eq : ∀ x, evEnt (envN i_OppositeGraph_tbl i_OppositeGraph_E0 4) i_OppositeGraph_ls Tryd.f11 [.d (.pair (.int .i64) (.int .u32))] [.d (.pair (.int .i64) (.int .u32)), .d (.int .i64)] x = i_OppositeGraph_t x.1 := by
  intro x
  kernel_rfl
noncomputable def i_OppositeGraph_t_e : Entry := ⟨none, [.d (.pair (.int .i64) (.int .u32))], [.d (.pair (.int .i64) (.int .u32)), .d (.int .i64)], fun x => (i_OppositeGraph_t x.1).run⟩
theorem i_OppositeGraph_t_ok : EntOk glob Tryd.prog 11 i_OppositeGraph_t_e :=
  entry_ok (envN_ok (E0 := i_OppositeGraph_E0) (tbl := i_OppositeGraph_tbl) ⟨tisB_ok ti_ok, ti_eqs, Tryd.underlying4, mixed_ok, ent_cons i_ValidGraph_t_ok (ent_cons i_Graph_opposite_t_ok (ent_nil)), tbl_nil⟩ 4) Tryd.func11 (by decide) rfl (ls := i_OppositeGraph_ls) (fun x r h => by rw [i_OppositeGraph_eq]; exact h)
noncomputable def i_DegreesOf_ls : RS := [(5, ⟨36, [], [4, 14, 15, 16], [.own 2 (.int .i64), .own 50 (.pair (.int .i64) (.int .i64)), .d (.int .i64), .d (.int .i64)]⟩, [(.exit 0, ⟨36, [], [4], [.own 2 (.int .i64)]⟩)])]
noncomputable def i_DegreesOf_tbl : Tbl := []
noncomputable def i_DegreesOf_E0 : Env := ⟨ti, ti_eq, 4, [(13, i_ValidGraph_t_e), (18, i_Graph_edges_t_e)], fun _ _ _ => .fail⟩
theorem i_DegreesOf_eq : ∀ x, evEnt (envN i_DegreesOf_tbl i_DegreesOf_E0 4) i_DegreesOf_ls Tryd.f12 [.d (.pair (.int .i64) (.int .u32))] [.own 2 (.int .i64), .d (.int .i64)] x = i_DegreesOf_t x.1 := by
  intro x
  kernel_rfl
noncomputable def i_DegreesOf_t_e : Entry := ⟨none, [.d (.pair (.int .i64) (.int .u32))], [.own 2 (.int .i64), .d (.int .i64)], fun x => (i_DegreesOf_t x.1).run⟩
theorem i_DegreesOf_t_ok : EntOk glob Tryd.prog 12 i_DegreesOf_t_e :=
  entry_ok (envN_ok (E0 := i_DegreesOf_E0) (tbl := i_DegreesOf_tbl) ⟨tisB_ok ti_ok, ti_eqs, Tryd.underlying4, mixed_ok, ent_cons i_ValidGraph_t_ok (ent_cons i_Graph_edges_t_ok (ent_nil)), tbl_nil⟩ 4) Tryd.func12 (by decide) rfl (ls := i_DegreesOf_ls) (fun x r h => by rw [i_DegreesOf_eq]; exact h)
noncomputable def i_HasEdge_ls : RS := []
noncomputable def i_HasEdge_tbl : Tbl := []
noncomputable def i_HasEdge_E0 : Env := ⟨ti, ti_eq, 4, [(13, i_ValidGraph_t_e), (22, i_isPair_t_e), (32, i_Graph_has_t_e)], fun _ _ _ => .fail⟩
theorem i_HasEdge_eq : ∀ x, evEnt (envN i_HasEdge_tbl i_HasEdge_E0 4) i_HasEdge_ls Tryd.f14 [.d (.pair (.int .i64) (.int .u32)), .d (.int .i64), .d (.int .i64)] [.d .bool, .d (.int .i64)] x = i_HasEdge_t x.1 x.2.1 x.2.2.1 := by
  intro x
  kernel_rfl
noncomputable def i_HasEdge_t_e : Entry := ⟨none, [.d (.pair (.int .i64) (.int .u32)), .d (.int .i64), .d (.int .i64)], [.d .bool, .d (.int .i64)], fun x => (i_HasEdge_t x.1 x.2.1 x.2.2.1).run⟩
theorem i_HasEdge_t_ok : EntOk glob Tryd.prog 14 i_HasEdge_t_e :=
  entry_ok (envN_ok (E0 := i_HasEdge_E0) (tbl := i_HasEdge_tbl) ⟨tisB_ok ti_ok, ti_eqs, Tryd.underlying4, mixed_ok, ent_cons i_ValidGraph_t_ok (ent_cons i_isPair_t_ok (ent_cons i_Graph_has_t_ok (ent_nil))), tbl_nil⟩ 4) Tryd.func14 (by decide) rfl (ls := i_HasEdge_ls) (fun x r h => by rw [i_HasEdge_eq]; exact h)
noncomputable def i_WithEdge_ls : RS := []
noncomputable def i_WithEdge_tbl : Tbl := []
noncomputable def i_WithEdge_E0 : Env := ⟨ti, ti_eq, 4, [(13, i_ValidGraph_t_e), (22, i_isPair_t_e), (23, i_bit_t_e)], fun _ _ _ => .fail⟩
theorem i_WithEdge_eq : ∀ x, evEnt (envN i_WithEdge_tbl i_WithEdge_E0 4) i_WithEdge_ls Tryd.f15 [.d (.pair (.int .i64) (.int .u32)), .d (.int .i64), .d (.int .i64), .d .bool] [.d (.pair (.int .i64) (.int .u32)), .d (.int .i64)] x = i_WithEdge_t x.1 x.2.1 x.2.2.1 x.2.2.2.1 := by
  intro x
  kernel_rfl
noncomputable def i_WithEdge_t_e : Entry := ⟨none, [.d (.pair (.int .i64) (.int .u32)), .d (.int .i64), .d (.int .i64), .d .bool], [.d (.pair (.int .i64) (.int .u32)), .d (.int .i64)], fun x => (i_WithEdge_t x.1 x.2.1 x.2.2.1 x.2.2.2.1).run⟩
theorem i_WithEdge_t_ok : EntOk glob Tryd.prog 15 i_WithEdge_t_e :=
  entry_ok (envN_ok (E0 := i_WithEdge_E0) (tbl := i_WithEdge_tbl) ⟨tisB_ok ti_ok, ti_eqs, Tryd.underlying4, mixed_ok, ent_cons i_ValidGraph_t_ok (ent_cons i_isPair_t_ok (ent_cons i_bit_t_ok (ent_nil))), tbl_nil⟩ 4) Tryd.func15 (by decide) rfl (ls := i_WithEdge_ls) (fun x r h => by rw [i_WithEdge_eq]; exact h)
noncomputable def l_FnEdges_ls : RS := [(13, ⟨225, [.cells [.d (.int .i64), .d (.int .u32)], .drop, .drop, .drop, .cells [.d (.int .i64), .d (.int .u32)]], [5, 6, 12, 14, 16, 17], [.k (.ptr 0 0), .own 50 (.pair (.int .i64) (.int .i64)), .k (.ptr 4 0), .own 2 (.int .i64), .d (.int .i64), .d (.int .i64)]⟩, [(.ret, ⟨225, [], [4], [.d .bool]⟩), (.exit 0, ⟨225, [], [6, 16], [.own 50 (.pair (.int .i64) (.int .i64)), .d (.int .i64)]⟩)]), (17, ⟨225, [.cells [.d (.int .i64), .d (.int .u32)], .drop, .drop, .drop, .cells [.d (.int .i64), .d (.int .u32)]], [5, 6, 12, 14, 16, 17, 18], [.k (.ptr 0 0), .own 50 (.pair (.int .i64) (.int .i64)), .k (.ptr 4 0), .own 2 (.int .i64), .d (.int .i64), .d (.int .i64), .d (.int .i64)]⟩, [(.ret, ⟨225, [], [4], [.d .bool]⟩), (.exit 2, ⟨225, [.cells [.d (.int .i64), .d (.int .u32)], .drop, .drop, .drop, .cells [.d (.int .i64), .d (.int .u32)]], [5, 6, 12, 14, 16, 17], [.k (.ptr 0 0), .own 50 (.pair (.int .i64) (.int .i64)), .k (.ptr 4 0), .own 2 (.int .i64), .d (.int .i64), .d (.int .i64)]⟩)])]
noncomputable def l_FnEdges_tbl : Tbl := []
noncomputable def l_FnEdges_E0 : Env := ⟨ti, ti_eq, 4, [(4, l_a2Long_t_e), (5, s_A2Graph_t_e), (6, l_a2At_t_e), (7, i_PairsOf_t_e), (8, i_GraphOf_t_e), (9, i_ReadGraph_t_e), (10, i_GraphText_t_e), (11, i_OppositeGraph_t_e), (12, i_DegreesOf_t_e), (13, i_ValidGraph_t_e), (14, i_HasEdge_t_e), (15, i_WithEdge_t_e)], fun _ _ _ => .fail⟩
theorem l_FnEdges_eq : ∀ x, evEnt (envN l_FnEdges_tbl l_FnEdges_E0 4) l_FnEdges_ls Tryd.f3 [.d (.sl 5 (.int .u8)), .d (.sl 5 (.int .u8))] [.d .bool] x = l_FnEdges_t x.1 x.2.1 := by
  intro x
  kernel_rfl
noncomputable def l_FnEdges_t_e : Entry := ⟨none, [.d (.sl 5 (.int .u8)), .d (.sl 5 (.int .u8))], [.d .bool], fun x => (l_FnEdges_t x.1 x.2.1).run⟩
theorem l_FnEdges_t_ok : EntOk glob Tryd.prog 3 l_FnEdges_t_e :=
  entry_ok (envN_ok (E0 := l_FnEdges_E0) (tbl := l_FnEdges_tbl) ⟨tisB_ok ti_ok, ti_eqs, Tryd.underlying4, mixed_ok, ent_cons l_a2Long_t_ok (ent_cons s_A2Graph_t_ok (ent_cons l_a2At_t_ok (ent_cons i_PairsOf_t_ok (ent_cons i_GraphOf_t_ok (ent_cons i_ReadGraph_t_ok (ent_cons i_GraphText_t_ok (ent_cons i_OppositeGraph_t_ok (ent_cons i_DegreesOf_t_ok (ent_cons i_ValidGraph_t_ok (ent_cons i_HasEdge_t_ok (ent_cons i_WithEdge_t_ok (ent_nil)))))))))))), tbl_nil⟩ 4) Tryd.func3 (by decide) rfl (ls := l_FnEdges_ls) (fun x r h => by rw [l_FnEdges_eq]; exact h)
end Vm
