import Derived.Test.YthcjkjnmpdpaiaaDoorProg
import Derived.Test.YthcjkjnmpdpaiaaDoorSh
import Derived.Test.YthcjkjnmpdpaiaaDoorMc
import Derived.Test.YthcjkjnmpdpaiaaDoorPu
set_option linter.unusedVariables false
set_option linter.unusedSimpArgs false
namespace Vm
open Go Go.Proofs
def facts : List (String × (Array Value → Prop)) := [("internal/strconv.uint64pow10", fun v => v = (Lib.pow10Tab.map fun z => Value.int .u64 z).toArray), ("strconv.ErrSyntax", fun v => ∃ tp p, v = #[.iface tp p]), ("strconv.ErrRange", fun v => ∃ tp p, v = #[.iface tp p]), ("internal/bytealg.MaxLen", fun v => ∃ m, v[0]? = some (.int .i64 m))]
theorem facts_ok : namesC Tryd.prog 4 facts = true := by kernel_rfl
def glob : Glob := factsGlob Tryd.prog 4 facts (namesC_ok facts_ok)
theorem glob_pow (w : World) (h : glob.G w) : Lib.TabIs Tryd.prog w "internal/strconv.uint64pow10" .u64 Lib.pow10Tab := by
  obtain ⟨v, h1, h2⟩ := h.2 _ List.mem_cons_self
  exact h1.trans (congrArg some h2)
theorem glob_ErrSyntax (w : World) (h : glob.G w) : ∃ tp p, w.var? Tryd.prog "strconv.ErrSyntax" = some #[.iface tp p] := by
  obtain ⟨v, h1, tp, p, h2⟩ := h.2 _ (List.mem_cons_of_mem _ List.mem_cons_self)
  exact ⟨tp, p, h1.trans (congrArg some h2)⟩
theorem glob_ErrRange (w : World) (h : glob.G w) : ∃ tp p, w.var? Tryd.prog "strconv.ErrRange" = some #[.iface tp p] := by
  obtain ⟨v, h1, tp, p, h2⟩ := h.2 _ (List.mem_cons_of_mem _ (List.mem_cons_of_mem _ List.mem_cons_self))
  exact ⟨tp, p, h1.trans (congrArg some h2)⟩
theorem glob_len (w : World) (h : glob.G w) : ∃ m, w.cell? ⟨0, 0, none⟩ = some (.int .i64 m) := by
  obtain ⟨v, h1, m, h2⟩ := h.2 _ (List.mem_cons_of_mem _ (List.mem_cons_of_mem _ (List.mem_cons_of_mem _ List.mem_cons_self)))
  refine ⟨m, ?_⟩
  rw [World.var?_cell (show Tryd.prog.globalNamed "internal/bytealg.MaxLen" = some 0 by kernel_rfl) h1 0, h2]
def strconv_FormatInt_e : Entry := ⟨none, [.d (.int .i64), .d (.int .i64)], [.d .str], fun x => fmtInt x.1 x.2.1⟩
theorem strconv_FormatInt_ok : EntOk glob Tryd.prog 40 strconv_FormatInt_e := ent_fmt Tryd.func40 (by decide) rfl glob_pow Tryd.strconv_FormatInt_10
def strings_CutPrefix_e : Entry := ⟨none, [.d .str, .d .str], [.d .str, .d .bool], fun x => cutPreF x.1 x.2.1⟩
theorem strings_CutPrefix_ok : EntOk glob Tryd.prog 9 strings_CutPrefix_e := ent_cutpre Tryd.func9 (by decide) rfl Tryd.strings_CutPrefix
def strings_Cut_e : Entry := ⟨none, [.d .str, .d .str], [.d .str, .d .str, .d .bool], fun x => cutF x.1 x.2.1⟩
theorem strings_Cut_ok : EntOk glob Tryd.prog 10 strings_Cut_e := ent_cut Tryd.func10 (by decide) rfl 0 glob_len Tryd.strings_Cut
def strings_SplitO_e : Entry := ⟨none, [.d .str, .d .str], [.own 9 .str], fun x => splitF x.1 x.2.1⟩
theorem strings_SplitO_ok : EntOk glob Tryd.prog 26 strings_SplitO_e := ent_split Tryd.func26 (by decide) rfl 0 9 glob_len Tryd.strings_Split
def strings_Split_e : Entry := ⟨none, [.d .str, .d .str], [.d (.sl 9 .str)], fun x => splitF x.1 x.2.1⟩
theorem strings_Split_ok : EntOk glob Tryd.prog 26 strings_Split_e := ent_splitD Tryd.func26 (by decide) rfl 0 9 glob_len Tryd.strings_Split
theorem num_ok (s : ByteArray) (w : World) (v : Int) (hs : s.size ≤ 281474976710656) (hG : glob.G w) (h : Lib.parseIntB 64 s.data.toList = .ok v) (hv1 : -9223372036854775808 ≤ v) (hv2 : v ≤ 9223372036854775807) :
    Calls Tryd.prog 11 #[.string s] w fun e w' => e = .returned (.tuple #[.int .i64 v, .bool ((⟨(Lib.itoa v).toArray⟩ : ByteArray) == s)]) ∧ Step (fun _ => False) w w' := by
  have key : ∀ w1, (w1 = w ∨ ∃ t, w1 = Lib.bytesWorld w 5 t) → Step (fun _ => False) w w1 ∧ glob.G w1 := by
    intro w1 h1
    have hst : Step (fun _ => False) w w1 := by
      rcases h1 with rfl | ⟨t, rfl⟩
      · exact Step.refl _ _
      · exact step_bytes _ _ _
    exact ⟨hst, glob.st _ _ _ hG hst (fun _ _ hf => hf.elim)⟩
  go_enter Tryd.func11, Tryd.ntmps11
  go_wp2_with (first
    | (go_at_call 24; refine (Tryd.strconv_ParseInt_10_at64_ok s (by omega) v h _).mono ?_; rintro e w1 ⟨rfl, hw1⟩)
    | (go_at_call 40; refine (Tryd.strconv_FormatInt_10 v hv1 hv2 _ (glob_pow _ (key _ hw1).2)).mono ?_; rintro e w2 ⟨rfl, k, os, rfl⟩)
    | go_in)
  go_ret2
  exact ⟨by rw [← itoa_beq]; rfl, (key _ hw1).1.trans (step_grow _ _ _) (fun _ _ h => h)⟩
theorem num_none (s : ByteArray) (w : World) (hs : s.size ≤ 281474976710656) (hG : glob.G w) (hn : ∀ v, Lib.parseIntB 64 s.data.toList ≠ .ok v) (hr : Lib.parseIntB 64 s.data.toList ≠ .range) :
    Calls Tryd.prog 11 #[.string s] w fun e w' => e = .returned (.tuple #[.int .i64 0, .bool false]) ∧ Step (fun _ => False) w w' := by
  obtain ⟨tp, p, hv⟩ := glob_ErrSyntax w hG
  go_enter Tryd.func11, Tryd.ntmps11
  go_wp2_with (first
    | (go_at_call 24; refine (Tryd.strconv_ParseInt_10_at64_syntax_var s hs hn hr tp p _ hv).mono ?_; rintro e w1 ⟨N, rfl, hN, hc, hB⟩))
  go_ret2
  exact ⟨rfl, step_below hB⟩
theorem num_range (s : ByteArray) (w : World) (hs : s.size ≤ 281474976710656) (hG : glob.G w) (h : Lib.parseIntB 64 s.data.toList = .range) :
    Calls Tryd.prog 11 #[.string s] w fun e w' => e = .returned (.tuple #[.int .i64 (Lib.intSat 64 s.data.toList), .bool false]) ∧ Step (fun _ => False) w w' := by
  obtain ⟨tp, p, hv⟩ := glob_ErrRange w hG
  go_enter Tryd.func11, Tryd.ntmps11
  go_wp2_with (first
    | (go_at_call 24; refine (Tryd.strconv_ParseInt_10_at64_range_var s hs h tp p _ hv).mono ?_; rintro e w1 ⟨N, rfl, hN, hc, hB⟩))
  go_ret2
  exact ⟨rfl, step_below hB⟩
def i_number_e : Entry := ⟨none, [.d .str], [.d (.int .i64), .d .bool], fun x => numF x.1⟩
theorem i_number_ok : EntOk glob Tryd.prog 11 i_number_e := ent_num Tryd.func11 (by decide) rfl num_ok num_none num_range
def ti : List (Nat × TI) := [
  (2, ⟨.int .i64, false, 1, 8, (.int .i64), [.int .i64 0], [], 4, 0⟩),
  (4, ⟨.oth, false, 1, 1, .bool, [.bk false], [], 4, 0⟩),
  (5, ⟨.int .u8, false, 1, 1, (.int .u8), [.int .u8 0], [], 4, 0⟩),
  (9, ⟨.str, false, 1, 16, .str, [.str (bs [])], [], 4, 0⟩),
  (22, ⟨.int .u32, false, 1, 4, (.int .u32), [.int .u32 0], [], 4, 0⟩),
  (24, ⟨.st, true, 2, 16, (.pair (.int .i64) (.int .u32)), [.int .i64 0, .int .u32 0], [⟨0, 1, false⟩, ⟨1, 1, false⟩], 4, 0⟩),
  (26, ⟨.st, true, 3, 24, (.pair (.int .i64) (.pair (.int .i64) (.int .u32))), [.int .i64 0, .int .i64 0, .int .u32 0], [⟨0, 1, false⟩, ⟨1, 2, true⟩], 4, 0⟩),
  (41, ⟨.sl, false, 1, 24, (.sl 9 .str), [.nils], [], 9, 0⟩),
  (55, ⟨.int .u64, false, 1, 8, (.int .u64), [.int .u64 0], [], 4, 0⟩),
  (57, ⟨.sl, false, 1, 24, (.sl 59 (.pair (.int .i64) (.int .i64))), [.nils], [], 59, 0⟩),
  (59, ⟨.arr, true, 2, 16, (.pair (.int .i64) (.int .i64)), [.int .i64 0, .int .i64 0], [], 2, 2⟩),
  (66, ⟨.sl, false, 1, 24, (.sl 5 (.int .u8)), [.nils], [], 5, 0⟩)]
theorem ti_ok : tisB Tryd.prog ti = true := by kernel_rfl
def ti_eq : List (Nat × List KD) := []
theorem ti_eqsB : eqsB Tryd.prog ti_eq = true := by kernel_rfl
theorem ti_eqs : ∀ t n, look t ti_eq = some n → EqOk Tryd.prog t n := eqsB_ok ti_eqsB
theorem mixed_ok : Tryd.prog.follows .mixedOrders = true := by kernel_rfl
noncomputable def s_l01Split_ls : RS := [(4, ⟨35, [], [0, 1, 5, 6, 7], [.d .str, .d (.int .u8), .own 9 .str, .d (.int .i64), .d (.int .i64)]⟩, [(.exit 0, ⟨35, [], [0, 5, 6], [.d .str, .own 9 .str, .d (.int .i64)]⟩)])]
noncomputable def s_l01Split_tbl : Tbl := []
noncomputable def s_l01Split_E0 : Env := ⟨ti, ti_eq, 4, [], heInl []⟩
theorem s_l01Split_eq : ∀ x, evEnt (envN s_l01Split_tbl s_l01Split_E0 6) s_l01Split_ls Tryd.f15 [.d .str, .d (.int .u8)] [.own 9 .str] x = s_l01Split_t x.1 x.2.1 := by
  intro x
  kernel_rfl
noncomputable def s_l01Split_t_e : Entry := ⟨none, [.d .str, .d (.int .u8)], [.own 9 .str], fun x => (s_l01Split_t x.1 x.2.1).run⟩
theorem s_l01Split_t_ok : EntOk glob Tryd.prog 15 s_l01Split_t_e :=
  entry_ok (envN_ok (E0 := s_l01Split_E0) (tbl := s_l01Split_tbl) ⟨tisB_ok ti_ok, ti_eqs, Tryd.underlying4, mixed_ok, ent_nil, tbl_nil, heInl_ok _ (he_nil)⟩ 6) Tryd.func15 (by decide) rfl (ls := s_l01Split_ls) (fun x r h => by rw [s_l01Split_eq]; exact h)
noncomputable def s_l01Number_ls : RS := [(5, ⟨49, [], [0, 4, 5], [.d .str, .d (.int .i64), .d (.int .i64)]⟩, [(.ret, ⟨49, [], [2, 3], [.d (.int .i64), .d .bool]⟩), (.exit 0, ⟨49, [], [4], [.d (.int .i64)]⟩)])]
noncomputable def s_l01Number_tbl : Tbl := []
noncomputable def s_l01Number_E0 : Env := ⟨ti, ti_eq, 4, [], heInl []⟩
theorem s_l01Number_eq : ∀ x, evEnt (envN s_l01Number_tbl s_l01Number_E0 6) s_l01Number_ls Tryd.f16 [.d .str] [.d (.int .i64), .d .bool] x = s_l01Number_t x.1 := by
  intro x
  kernel_rfl
noncomputable def s_l01Number_t_e : Entry := ⟨none, [.d .str], [.d (.int .i64), .d .bool], fun x => (s_l01Number_t x.1).run⟩
theorem s_l01Number_t_ok : EntOk glob Tryd.prog 16 s_l01Number_t_e :=
  entry_ok (envN_ok (E0 := s_l01Number_E0) (tbl := s_l01Number_tbl) ⟨tisB_ok ti_ok, ti_eqs, Tryd.underlying4, mixed_ok, ent_nil, tbl_nil, heInl_ok _ (he_nil)⟩ 6) Tryd.func16 (by decide) rfl (ls := s_l01Number_ls) (fun x r h => by rw [s_l01Number_eq]; exact h)
noncomputable def s_l00In_ls : RS := []
noncomputable def s_l00In_tbl : Tbl := []
noncomputable def s_l00In_E0 : Env := ⟨ti, ti_eq, 4, [], heInl []⟩
theorem s_l00In_eq : ∀ x, evEnt (envN s_l00In_tbl s_l00In_E0 6) s_l00In_ls Tryd.f21 [.d (.int .i64), .d (.int .i64), .d (.int .i64)] [.d .bool] x = s_l00In_t x.1 x.2.1 x.2.2.1 := by
  intro x
  kernel_rfl
noncomputable def s_l00In_t_e : Entry := ⟨none, [.d (.int .i64), .d (.int .i64), .d (.int .i64)], [.d .bool], fun x => (s_l00In_t x.1 x.2.1 x.2.2.1).run⟩
theorem s_l00In_t_ok : EntOk glob Tryd.prog 21 s_l00In_t_e :=
  entry_ok (envN_ok (E0 := s_l00In_E0) (tbl := s_l00In_tbl) ⟨tisB_ok ti_ok, ti_eqs, Tryd.underlying4, mixed_ok, ent_nil, tbl_nil, heInl_ok _ (he_nil)⟩ 6) Tryd.func21 (by decide) rfl (ls := s_l00In_ls) (fun x r h => by rw [s_l00In_eq]; exact h)
noncomputable def s_l01Pair_ls : RS := []
noncomputable def s_l01Pair_tbl : Tbl := []
noncomputable def s_l01Pair_E0 : Env := ⟨ti, ti_eq, 4, [(21, s_l00In_t_e)], heInl []⟩
theorem s_l01Pair_eq : ∀ x, evEnt (envN s_l01Pair_tbl s_l01Pair_E0 6) s_l01Pair_ls Tryd.f17 [.d (.int .i64), .d (.int .i64), .d (.int .i64)] [.d .bool] x = s_l01Pair_t x.1 x.2.1 x.2.2.1 := by
  intro x
  kernel_rfl
noncomputable def s_l01Pair_t_e : Entry := ⟨none, [.d (.int .i64), .d (.int .i64), .d (.int .i64)], [.d .bool], fun x => (s_l01Pair_t x.1 x.2.1 x.2.2.1).run⟩
theorem s_l01Pair_t_ok : EntOk glob Tryd.prog 17 s_l01Pair_t_e :=
  entry_ok (envN_ok (E0 := s_l01Pair_E0) (tbl := s_l01Pair_tbl) ⟨tisB_ok ti_ok, ti_eqs, Tryd.underlying4, mixed_ok, ent_cons s_l00In_t_ok (ent_nil), tbl_nil, heInl_ok _ (he_nil)⟩ 6) Tryd.func17 (by decide) rfl (ls := s_l01Pair_ls) (fun x r h => by rw [s_l01Pair_eq]; exact h)
noncomputable def s_l01Bits_ls : RS := []
noncomputable def s_l01Bits_tbl : Tbl := []
noncomputable def s_l01Bits_E0 : Env := ⟨ti, ti_eq, 4, [], heInl []⟩
theorem s_l01Bits_eq : ∀ x, evEnt (envN s_l01Bits_tbl s_l01Bits_E0 6) s_l01Bits_ls Tryd.f33 [.d (.int .i64)] [.d (.int .i64)] x = s_l01Bits_t x.1 := by
  intro x
  kernel_rfl
noncomputable def s_l01Bits_t_e : Entry := ⟨none, [.d (.int .i64)], [.d (.int .i64)], fun x => (s_l01Bits_t x.1).run⟩
theorem s_l01Bits_t_ok : EntOk glob Tryd.prog 33 s_l01Bits_t_e :=
  entry_ok (envN_ok (E0 := s_l01Bits_E0) (tbl := s_l01Bits_tbl) ⟨tisB_ok ti_ok, ti_eqs, Tryd.underlying4, mixed_ok, ent_nil, tbl_nil, heInl_ok _ (he_nil)⟩ 6) Tryd.func33 (by decide) rfl (ls := s_l01Bits_ls) (fun x r h => by rw [s_l01Bits_eq]; exact h)
noncomputable def s_l01Bit_re (rec : Int → Int → Option Int) : Entry := ⟨none, [.d (.int .i64), .d (.int .i64)], [.d (.int .u32)], fun x => rec x.1 x.2.1⟩
noncomputable def s_l01Bit_ls : RS := []
noncomputable def s_l01Bit_tbl : Tbl := []
noncomputable def s_l01Bit_E0 (rec : Int → Int → Option Int) : Env := ⟨ti, ti_eq, 4, [(18, s_l01Bit_re rec), (33, s_l01Bits_t_e)], heInl []⟩
theorem s_l01Bit_eq (rec : Int → Int → Option Int) : ∀ x, evEnt (envN s_l01Bit_tbl (s_l01Bit_E0 rec) 6) s_l01Bit_ls Tryd.f18 [.d (.int .i64), .d (.int .i64)] [.d (.int .u32)] x = s_l01Bit_t rec x.1 x.2.1 := by
  intro x
  kernel_rfl
theorem s_l01Bit_oks : ∀ k, EntOk glob Tryd.prog 18 (s_l01Bit_re (s_l01Bit_r k))
  | 0 => ent_none Tryd.func18 (by decide) rfl (fun _ => rfl)
  | k + 1 => entry_ok (envN_ok (E0 := s_l01Bit_E0 (s_l01Bit_r k)) (tbl := s_l01Bit_tbl) ⟨tisB_ok ti_ok, ti_eqs, Tryd.underlying4, mixed_ok, ent_cons (s_l01Bit_oks k) (ent_cons s_l01Bits_t_ok (ent_nil)), tbl_nil, heInl_ok _ (he_nil)⟩ 6) Tryd.func18 (by decide) rfl (ls := s_l01Bit_ls) (fun x r h => by rw [s_l01Bit_eq]; exact h)
noncomputable def s_l01Bit_t_e : Entry := s_l01Bit_re (s_l01Bit_r 24)
theorem s_l01Bit_t_ok : EntOk glob Tryd.prog 18 s_l01Bit_t_e := s_l01Bit_oks 24
noncomputable def s_l01Ok_ls : RS := []
noncomputable def s_l01Ok_tbl : Tbl := []
noncomputable def s_l01Ok_E0 : Env := ⟨ti, ti_eq, 4, [(21, s_l00In_t_e), (33, s_l01Bits_t_e)], heInl []⟩
theorem s_l01Ok_eq : ∀ x, evEnt (envN s_l01Ok_tbl s_l01Ok_E0 6) s_l01Ok_ls Tryd.f20 [.d (.pair (.int .i64) (.int .u32))] [.d .bool] x = s_l01Ok_t x.1 := by
  intro x
  kernel_rfl
noncomputable def s_l01Ok_t_e : Entry := ⟨none, [.d (.pair (.int .i64) (.int .u32))], [.d .bool], fun x => (s_l01Ok_t x.1).run⟩
theorem s_l01Ok_t_ok : EntOk glob Tryd.prog 20 s_l01Ok_t_e :=
  entry_ok (envN_ok (E0 := s_l01Ok_E0) (tbl := s_l01Ok_tbl) ⟨tisB_ok ti_ok, ti_eqs, Tryd.underlying4, mixed_ok, ent_cons s_l00In_t_ok (ent_cons s_l01Bits_t_ok (ent_nil)), tbl_nil, heInl_ok _ (he_nil)⟩ 6) Tryd.func20 (by decide) rfl (ls := s_l01Ok_ls) (fun x r h => by rw [s_l01Ok_eq]; exact h)
noncomputable def s_Decimal_re (rec : Int → Option ByteArray) : Entry := ⟨none, [.d (.int .i64)], [.d .str], fun x => rec x.1⟩
noncomputable def s_Decimal_ls : RS := []
noncomputable def s_Decimal_tbl : Tbl := []
noncomputable def s_Decimal_E0 (rec : Int → Option ByteArray) : Env := ⟨ti, ti_eq, 4, [(34, s_Decimal_re rec)], heInl []⟩
theorem s_Decimal_eq (rec : Int → Option ByteArray) : ∀ x, evEnt (envN s_Decimal_tbl (s_Decimal_E0 rec) 6) s_Decimal_ls Tryd.f34 [.d (.int .i64)] [.d .str] x = s_Decimal_t rec x.1 := by
  intro x
  kernel_rfl
theorem s_Decimal_oks : ∀ k, EntOk glob Tryd.prog 34 (s_Decimal_re (s_Decimal_r k))
  | 0 => ent_none Tryd.func34 (by decide) rfl (fun _ => rfl)
  | k + 1 => entry_ok (envN_ok (E0 := s_Decimal_E0 (s_Decimal_r k)) (tbl := s_Decimal_tbl) ⟨tisB_ok ti_ok, ti_eqs, Tryd.underlying4, mixed_ok, ent_cons (s_Decimal_oks k) (ent_nil), tbl_nil, heInl_ok _ (he_nil)⟩ 6) Tryd.func34 (by decide) rfl (ls := s_Decimal_ls) (fun x r h => by rw [s_Decimal_eq]; exact h)
noncomputable def s_Decimal_t_e : Entry := s_Decimal_re (s_Decimal_r 24)
theorem s_Decimal_t_ok : EntOk glob Tryd.prog 34 s_Decimal_t_e := s_Decimal_oks 24
noncomputable def s_l01Joined_ls : RS := []
noncomputable def s_l01Joined_tbl : Tbl := []
noncomputable def s_l01Joined_E0 : Env := ⟨ti, ti_eq, 4, [(18, s_l01Bit_t_e)], heInl []⟩
theorem s_l01Joined_eq : ∀ x, evEnt (envN s_l01Joined_tbl s_l01Joined_E0 6) s_l01Joined_ls Tryd.f44 [.d (.pair (.int .i64) (.int .u32)), .d (.int .i64), .d (.int .i64)] [.d .bool] x = s_l01Joined_t x.1 x.2.1 x.2.2.1 := by
  intro x
  kernel_rfl
noncomputable def s_l01Joined_t_e : Entry := ⟨none, [.d (.pair (.int .i64) (.int .u32)), .d (.int .i64), .d (.int .i64)], [.d .bool], fun x => (s_l01Joined_t x.1 x.2.1 x.2.2.1).run⟩
theorem s_l01Joined_t_ok : EntOk glob Tryd.prog 44 s_l01Joined_t_e :=
  entry_ok (envN_ok (E0 := s_l01Joined_E0) (tbl := s_l01Joined_tbl) ⟨tisB_ok ti_ok, ti_eqs, Tryd.underlying4, mixed_ok, ent_cons s_l01Bit_t_ok (ent_nil), tbl_nil, heInl_ok _ (he_nil)⟩ 6) Tryd.func44 (by decide) rfl (ls := s_l01Joined_ls) (fun x r h => by rw [s_l01Joined_eq]; exact h)
noncomputable def s_l01Pairs_ls : RS := [(3, ⟨29, [.cells [.d (.int .i64), .d (.int .u32)]], [1, 3, 4], [.k (.ptr 0 0), .own 59 (.pair (.int .i64) (.int .i64)), .d (.int .i64)]⟩, [(.exit 0, ⟨29, [], [3], [.own 59 (.pair (.int .i64) (.int .i64))]⟩)]), (6, ⟨29, [.cells [.d (.int .i64), .d (.int .u32)]], [1, 3, 4, 5], [.k (.ptr 0 0), .own 59 (.pair (.int .i64) (.int .i64)), .d (.int .i64), .d (.int .i64)]⟩, [(.exit 2, ⟨29, [.cells [.d (.int .i64), .d (.int .u32)]], [1, 3, 4], [.k (.ptr 0 0), .own 59 (.pair (.int .i64) (.int .i64)), .d (.int .i64)]⟩)])]
noncomputable def s_l01Pairs_tbl : Tbl := []
noncomputable def s_l01Pairs_E0 : Env := ⟨ti, ti_eq, 4, [(44, s_l01Joined_t_e)], heInl []⟩
theorem s_l01Pairs_eq : ∀ x, evEnt (envN s_l01Pairs_tbl s_l01Pairs_E0 6) s_l01Pairs_ls Tryd.f35 [.d (.pair (.int .i64) (.int .u32))] [.own 59 (.pair (.int .i64) (.int .i64))] x = s_l01Pairs_t x.1 := by
  intro x
  kernel_rfl
noncomputable def s_l01Pairs_t_e : Entry := ⟨none, [.d (.pair (.int .i64) (.int .u32))], [.own 59 (.pair (.int .i64) (.int .i64))], fun x => (s_l01Pairs_t x.1).run⟩
theorem s_l01Pairs_t_ok : EntOk glob Tryd.prog 35 s_l01Pairs_t_e :=
  entry_ok (envN_ok (E0 := s_l01Pairs_E0) (tbl := s_l01Pairs_tbl) ⟨tisB_ok ti_ok, ti_eqs, Tryd.underlying4, mixed_ok, ent_cons s_l01Joined_t_ok (ent_nil), tbl_nil, heInl_ok _ (he_nil)⟩ 6) Tryd.func35 (by decide) rfl (ls := s_l01Pairs_ls) (fun x r h => by rw [s_l01Pairs_eq]; exact h)
noncomputable def s_GraphText_ls : RS := [(6, ⟨39, [], [3, 4, 5], [.d .str, .own 59 (.pair (.int .i64) (.int .i64)), .d (.int .i64)]⟩, [(.exit 0, ⟨39, [], [3], [.d .str]⟩)])]
noncomputable def s_GraphText_tbl : Tbl := []
noncomputable def s_GraphText_E0 : Env := ⟨ti, ti_eq, 4, [(20, s_l01Ok_t_e), (34, s_Decimal_t_e), (35, s_l01Pairs_t_e)], heInl []⟩
theorem s_GraphText_eq : ∀ x, evEnt (envN s_GraphText_tbl s_GraphText_E0 6) s_GraphText_ls Tryd.f19 [.d (.pair (.int .i64) (.int .u32))] [.d .str] x = s_GraphText_t x.1 := by
  intro x
  kernel_rfl
noncomputable def s_GraphText_t_e : Entry := ⟨none, [.d (.pair (.int .i64) (.int .u32))], [.d .str], fun x => (s_GraphText_t x.1).run⟩
theorem s_GraphText_t_ok : EntOk glob Tryd.prog 19 s_GraphText_t_e :=
  entry_ok (envN_ok (E0 := s_GraphText_E0) (tbl := s_GraphText_tbl) ⟨tisB_ok ti_ok, ti_eqs, Tryd.underlying4, mixed_ok, ent_cons s_l01Ok_t_ok (ent_cons s_Decimal_t_ok (ent_cons s_l01Pairs_t_ok (ent_nil))), tbl_nil, heInl_ok _ (he_nil)⟩ 6) Tryd.func19 (by decide) rfl (ls := s_GraphText_ls) (fun x r h => by rw [s_GraphText_eq]; exact h)
noncomputable def s_ReadGraph_ls : RS := [(9, ⟨98, [.cells [.d (.int .i64), .d (.int .u32)], .drop, .cells [.d (.int .i64), .d (.int .u32)]], [0, 2, 4, 5, 7, 8], [.d .str, .k (.ptr 0 0), .own 9 .str, .d (.int .i64), .k (.ptr 2 0), .d (.int .i64)]⟩, [(.ret, ⟨98, [.cells [.d (.int .i64), .d (.int .u32)]], [2, 3], [.k (.ptr 0 0), .d (.int .i64)]⟩), (.exit 0, ⟨98, [.cells [.d (.int .i64), .d (.int .u32)], .drop, .cells [.d (.int .i64), .d (.int .u32)]], [0, 2, 7], [.d .str, .k (.ptr 0 0), .k (.ptr 2 0)]⟩)])]
noncomputable def s_ReadGraph_tbl : Tbl := []
noncomputable def s_ReadGraph_E0 : Env := ⟨ti, ti_eq, 4, [(15, s_l01Split_t_e), (16, s_l01Number_t_e), (17, s_l01Pair_t_e), (18, s_l01Bit_t_e), (19, s_GraphText_t_e)], heInl []⟩
theorem s_ReadGraph_eq : ∀ x, evEnt (envN s_ReadGraph_tbl s_ReadGraph_E0 6) s_ReadGraph_ls Tryd.f7 [.d .str] [.d (.pair (.int .i64) (.int .u32)), .d (.int .i64)] x = s_ReadGraph_t x.1 := by
  intro x
  kernel_rfl
noncomputable def s_ReadGraph_t_e : Entry := ⟨none, [.d .str], [.d (.pair (.int .i64) (.int .u32)), .d (.int .i64)], fun x => (s_ReadGraph_t x.1).run⟩
theorem s_ReadGraph_t_ok : EntOk glob Tryd.prog 7 s_ReadGraph_t_e :=
  entry_ok (envN_ok (E0 := s_ReadGraph_E0) (tbl := s_ReadGraph_tbl) ⟨tisB_ok ti_ok, ti_eqs, Tryd.underlying4, mixed_ok, ent_cons s_l01Split_t_ok (ent_cons s_l01Number_t_ok (ent_cons s_l01Pair_t_ok (ent_cons s_l01Bit_t_ok (ent_cons s_GraphText_t_ok (ent_nil))))), tbl_nil, heInl_ok _ (he_nil)⟩ 6) Tryd.func7 (by decide) rfl (ls := s_ReadGraph_ls) (fun x r h => by rw [s_ReadGraph_eq]; exact h)
noncomputable def s_l03Ok_ls : RS := []
noncomputable def s_l03Ok_tbl : Tbl := []
noncomputable def s_l03Ok_E0 : Env := ⟨ti, ti_eq, 4, [(20, s_l01Ok_t_e), (21, s_l00In_t_e)], heInl []⟩
theorem s_l03Ok_eq : ∀ x, evEnt (envN s_l03Ok_tbl s_l03Ok_E0 6) s_l03Ok_ls Tryd.f8 [.d (.pair (.int .i64) (.pair (.int .i64) (.int .u32)))] [.d .bool] x = s_l03Ok_t x.1 := by
  intro x
  kernel_rfl
noncomputable def s_l03Ok_t_e : Entry := ⟨none, [.d (.pair (.int .i64) (.pair (.int .i64) (.int .u32)))], [.d .bool], fun x => (s_l03Ok_t x.1).run⟩
theorem s_l03Ok_t_ok : EntOk glob Tryd.prog 8 s_l03Ok_t_e :=
  entry_ok (envN_ok (E0 := s_l03Ok_E0) (tbl := s_l03Ok_tbl) ⟨tisB_ok ti_ok, ti_eqs, Tryd.underlying4, mixed_ok, ent_cons s_l01Ok_t_ok (ent_cons s_l00In_t_ok (ent_nil)), tbl_nil, heInl_ok _ (he_nil)⟩ 6) Tryd.func8 (by decide) rfl (ls := s_l03Ok_ls) (fun x r h => by rw [s_l03Ok_eq]; exact h)
noncomputable def s_ReadFlag_ls : RS := []
noncomputable def s_ReadFlag_tbl : Tbl := []
noncomputable def s_ReadFlag_E0 : Env := ⟨ti, ti_eq, 4, [(7, s_ReadGraph_t_e), (8, s_l03Ok_t_e)], heInl []⟩
theorem s_ReadFlag_eq : ∀ x, evEnt (envN s_ReadFlag_tbl s_ReadFlag_E0 6) s_ReadFlag_ls Tryd.f4 [.d .str] [.d (.pair (.int .i64) (.pair (.int .i64) (.int .u32))), .d (.int .i64)] x = s_ReadFlag_t x.1 := by
  intro x
  kernel_rfl
noncomputable def s_ReadFlag_t_e : Entry := ⟨none, [.d .str], [.d (.pair (.int .i64) (.pair (.int .i64) (.int .u32))), .d (.int .i64)], fun x => (s_ReadFlag_t x.1).run⟩
theorem s_ReadFlag_t_ok : EntOk glob Tryd.prog 4 s_ReadFlag_t_e :=
  entry_ok (envN_ok (E0 := s_ReadFlag_E0) (tbl := s_ReadFlag_tbl) ⟨tisB_ok ti_ok, ti_eqs, Tryd.underlying4, mixed_ok, ent_cons s_ReadGraph_t_ok (ent_cons s_l03Ok_t_ok (ent_nil)), tbl_nil, heInl_ok _ (he_nil)⟩ 6) Tryd.func4 (by decide) rfl (ls := s_ReadFlag_ls) (fun x r h => by rw [s_ReadFlag_eq]; exact h)
noncomputable def i_in_ls : RS := []
noncomputable def i_in_tbl : Tbl := []
noncomputable def i_in_E0 : Env := ⟨ti, ti_eq, 4, [], heInl []⟩
theorem i_in_eq : ∀ x, evEnt (envN i_in_tbl i_in_E0 6) i_in_ls Tryd.f32 [.d (.int .i64), .d (.int .i64), .d (.int .i64)] [.d .bool] x = i_in_t x.1 x.2.1 x.2.2.1 := by
  intro x
  kernel_rfl
noncomputable def i_in_t_e : Entry := ⟨none, [.d (.int .i64), .d (.int .i64), .d (.int .i64)], [.d .bool], fun x => (i_in_t x.1 x.2.1 x.2.2.1).run⟩
theorem i_in_t_ok : EntOk glob Tryd.prog 32 i_in_t_e :=
  entry_ok (envN_ok (E0 := i_in_E0) (tbl := i_in_tbl) ⟨tisB_ok ti_ok, ti_eqs, Tryd.underlying4, mixed_ok, ent_nil, tbl_nil, heInl_ok _ (he_nil)⟩ 6) Tryd.func32 (by decide) rfl (ls := i_in_ls) (fun x r h => by rw [i_in_eq]; exact h)
noncomputable def i_sizeOk_ls : RS := []
noncomputable def i_sizeOk_tbl : Tbl := []
noncomputable def i_sizeOk_E0 : Env := ⟨ti, ti_eq, 4, [(32, i_in_t_e)], heInl []⟩
theorem i_sizeOk_eq : ∀ x, evEnt (envN i_sizeOk_tbl i_sizeOk_E0 6) i_sizeOk_ls Tryd.f27 [.d (.int .i64)] [.d .bool] x = i_sizeOk_t x.1 := by
  intro x
  kernel_rfl
noncomputable def i_sizeOk_t_e : Entry := ⟨none, [.d (.int .i64)], [.d .bool], fun x => (i_sizeOk_t x.1).run⟩
theorem i_sizeOk_t_ok : EntOk glob Tryd.prog 27 i_sizeOk_t_e :=
  entry_ok (envN_ok (E0 := i_sizeOk_E0) (tbl := i_sizeOk_tbl) ⟨tisB_ok ti_ok, ti_eqs, Tryd.underlying4, mixed_ok, ent_cons i_in_t_ok (ent_nil), tbl_nil, heInl_ok _ (he_nil)⟩ 6) Tryd.func27 (by decide) rfl (ls := i_sizeOk_ls) (fun x r h => by rw [i_sizeOk_eq]; exact h)
noncomputable def i_isPair_ls : RS := []
noncomputable def i_isPair_tbl : Tbl := []
noncomputable def i_isPair_E0 : Env := ⟨ti, ti_eq, 4, [(32, i_in_t_e)], heInl []⟩
theorem i_isPair_eq : ∀ x, evEnt (envN i_isPair_tbl i_isPair_E0 6) i_isPair_ls Tryd.f28 [.d (.int .i64), .d (.int .i64), .d (.int .i64)] [.d .bool] x = i_isPair_t x.1 x.2.1 x.2.2.1 := by
  intro x
  kernel_rfl
noncomputable def i_isPair_t_e : Entry := ⟨none, [.d (.int .i64), .d (.int .i64), .d (.int .i64)], [.d .bool], fun x => (i_isPair_t x.1 x.2.1 x.2.2.1).run⟩
theorem i_isPair_t_ok : EntOk glob Tryd.prog 28 i_isPair_t_e :=
  entry_ok (envN_ok (E0 := i_isPair_E0) (tbl := i_isPair_tbl) ⟨tisB_ok ti_ok, ti_eqs, Tryd.underlying4, mixed_ok, ent_cons i_in_t_ok (ent_nil), tbl_nil, heInl_ok _ (he_nil)⟩ 6) Tryd.func28 (by decide) rfl (ls := i_isPair_ls) (fun x r h => by rw [i_isPair_eq]; exact h)
noncomputable def i_pairs_ls : RS := []
noncomputable def i_pairs_tbl : Tbl := []
noncomputable def i_pairs_E0 : Env := ⟨ti, ti_eq, 4, [], heInl []⟩
theorem i_pairs_eq : ∀ x, evEnt (envN i_pairs_tbl i_pairs_E0 6) i_pairs_ls Tryd.f42 [.d (.int .i64)] [.d (.int .i64)] x = i_pairs_t x.1 := by
  intro x
  kernel_rfl
noncomputable def i_pairs_t_e : Entry := ⟨none, [.d (.int .i64)], [.d (.int .i64)], fun x => (i_pairs_t x.1).run⟩
theorem i_pairs_t_ok : EntOk glob Tryd.prog 42 i_pairs_t_e :=
  entry_ok (envN_ok (E0 := i_pairs_E0) (tbl := i_pairs_tbl) ⟨tisB_ok ti_ok, ti_eqs, Tryd.underlying4, mixed_ok, ent_nil, tbl_nil, heInl_ok _ (he_nil)⟩ 6) Tryd.func42 (by decide) rfl (ls := i_pairs_ls) (fun x r h => by rw [i_pairs_eq]; exact h)
noncomputable def i_bit_ls : RS := []
noncomputable def i_bit_tbl : Tbl := []
noncomputable def i_bit_E0 : Env := ⟨ti, ti_eq, 4, [(42, i_pairs_t_e)], heInl []⟩
theorem i_bit_eq : ∀ x, evEnt (envN i_bit_tbl i_bit_E0 6) i_bit_ls Tryd.f29 [.d (.int .i64), .d (.int .i64)] [.d (.int .u32)] x = i_bit_t x.1 x.2.1 := by
  intro x
  kernel_rfl
noncomputable def i_bit_t_e : Entry := ⟨none, [.d (.int .i64), .d (.int .i64)], [.d (.int .u32)], fun x => (i_bit_t x.1 x.2.1).run⟩
theorem i_bit_t_ok : EntOk glob Tryd.prog 29 i_bit_t_e :=
  entry_ok (envN_ok (E0 := i_bit_E0) (tbl := i_bit_tbl) ⟨tisB_ok ti_ok, ti_eqs, Tryd.underlying4, mixed_ok, ent_cons i_pairs_t_ok (ent_nil), tbl_nil, heInl_ok _ (he_nil)⟩ 6) Tryd.func29 (by decide) rfl (ls := i_bit_ls) (fun x r h => by rw [i_bit_eq]; exact h)
noncomputable def i_decimal_ls : RS := []
noncomputable def i_decimal_tbl : Tbl := []
noncomputable def i_decimal_E0 : Env := ⟨ti, ti_eq, 4, [(40, strconv_FormatInt_e)], heInl []⟩
theorem i_decimal_eq : ∀ x, evEnt (envN i_decimal_tbl i_decimal_E0 6) i_decimal_ls Tryd.f25 [.d (.int .i64)] [.d .str] x = i_decimal_t x.1 := by
  intro x
  kernel_rfl
noncomputable def i_decimal_t_e : Entry := ⟨none, [.d (.int .i64)], [.d .str], fun x => (i_decimal_t x.1).run⟩
theorem i_decimal_t_ok : EntOk glob Tryd.prog 25 i_decimal_t_e :=
  entry_ok (envN_ok (E0 := i_decimal_E0) (tbl := i_decimal_tbl) ⟨tisB_ok ti_ok, ti_eqs, Tryd.underlying4, mixed_ok, ent_cons strconv_FormatInt_ok (ent_nil), tbl_nil, heInl_ok _ (he_nil)⟩ 6) Tryd.func25 (by decide) rfl (ls := i_decimal_ls) (fun x r h => by rw [i_decimal_eq]; exact h)
noncomputable def i_Graph_has_ls : RS := []
noncomputable def i_Graph_has_tbl : Tbl := []
noncomputable def i_Graph_has_E0 : Env := ⟨ti, ti_eq, 4, [(29, i_bit_t_e)], heInl []⟩
theorem i_Graph_has_eq : ∀ x, evEnt (envN i_Graph_has_tbl i_Graph_has_E0 6) i_Graph_has_ls Tryd.f58 [.d (.pair (.int .i64) (.int .u32)), .d (.int .i64), .d (.int .i64)] [.d .bool] x = i_Graph_has_t x.1 x.2.1 x.2.2.1 := by
  intro x
  kernel_rfl
noncomputable def i_Graph_has_t_e : Entry := ⟨none, [.d (.pair (.int .i64) (.int .u32)), .d (.int .i64), .d (.int .i64)], [.d .bool], fun x => (i_Graph_has_t x.1 x.2.1 x.2.2.1).run⟩
theorem i_Graph_has_t_ok : EntOk glob Tryd.prog 58 i_Graph_has_t_e :=
  entry_ok (envN_ok (E0 := i_Graph_has_E0) (tbl := i_Graph_has_tbl) ⟨tisB_ok ti_ok, ti_eqs, Tryd.underlying4, mixed_ok, ent_cons i_bit_t_ok (ent_nil), tbl_nil, heInl_ok _ (he_nil)⟩ 6) Tryd.func58 (by decide) rfl (ls := i_Graph_has_ls) (fun x r h => by rw [i_Graph_has_eq]; exact h)
noncomputable def i_Graph_edges_ls : RS := [(3, ⟨29, [.cells [.d (.int .i64), .d (.int .u32)]], [1, 3, 8, 9], [.k (.ptr 0 0), .own 59 (.pair (.int .i64) (.int .i64)), .d (.int .i64), .d (.int .i64)]⟩, [(.exit 0, ⟨29, [], [3], [.own 59 (.pair (.int .i64) (.int .i64))]⟩)]), (6, ⟨29, [.cells [.d (.int .i64), .d (.int .u32)]], [1, 3, 4, 8, 9, 12, 13], [.k (.ptr 0 0), .own 59 (.pair (.int .i64) (.int .i64)), .d (.int .i64), .d (.int .i64), .d (.int .i64), .d (.int .i64), .d (.int .i64)]⟩, [(.exit 2, ⟨29, [.cells [.d (.int .i64), .d (.int .u32)]], [1, 3, 8, 9], [.k (.ptr 0 0), .own 59 (.pair (.int .i64) (.int .i64)), .d (.int .i64), .d (.int .i64)]⟩)])]
noncomputable def i_Graph_edges_tbl : Tbl := []
noncomputable def i_Graph_edges_E0 : Env := ⟨ti, ti_eq, 4, [(58, i_Graph_has_t_e)], heInl []⟩
theorem i_Graph_edges_eq : ∀ x, evEnt (envN i_Graph_edges_tbl i_Graph_edges_E0 6) i_Graph_edges_ls Tryd.f43 [.d (.pair (.int .i64) (.int .u32))] [.own 59 (.pair (.int .i64) (.int .i64))] x = i_Graph_edges_t x.1 := by
  intro x
  kernel_rfl
noncomputable def i_Graph_edges_t_e : Entry := ⟨none, [.d (.pair (.int .i64) (.int .u32))], [.own 59 (.pair (.int .i64) (.int .i64))], fun x => (i_Graph_edges_t x.1).run⟩
theorem i_Graph_edges_t_ok : EntOk glob Tryd.prog 43 i_Graph_edges_t_e :=
  entry_ok (envN_ok (E0 := i_Graph_edges_E0) (tbl := i_Graph_edges_tbl) ⟨tisB_ok ti_ok, ti_eqs, Tryd.underlying4, mixed_ok, ent_cons i_Graph_has_t_ok (ent_nil), tbl_nil, heInl_ok _ (he_nil)⟩ 6) Tryd.func43 (by decide) rfl (ls := i_Graph_edges_ls) (fun x r h => by rw [i_Graph_edges_eq]; exact h)
noncomputable def i_Graph_text_ls : RS := [(3, ⟨30, [], [3, 11, 12, 13], [.d .str, .own 59 (.pair (.int .i64) (.int .i64)), .d (.int .i64), .d (.int .i64)]⟩, [(.exit 0, ⟨30, [], [3], [.d .str]⟩)])]
noncomputable def i_Graph_text_tbl : Tbl := []
noncomputable def i_Graph_text_E0 : Env := ⟨ti, ti_eq, 4, [(25, i_decimal_t_e), (43, i_Graph_edges_t_e)], heInl []⟩
theorem i_Graph_text_eq : ∀ x, evEnt (envN i_Graph_text_tbl i_Graph_text_E0 6) i_Graph_text_ls Tryd.f30 [.d (.pair (.int .i64) (.int .u32))] [.d .str] x = i_Graph_text_t x.1 := by
  intro x
  kernel_rfl
noncomputable def i_Graph_text_t_e : Entry := ⟨none, [.d (.pair (.int .i64) (.int .u32))], [.d .str], fun x => (i_Graph_text_t x.1).run⟩
theorem i_Graph_text_t_ok : EntOk glob Tryd.prog 30 i_Graph_text_t_e :=
  entry_ok (envN_ok (E0 := i_Graph_text_E0) (tbl := i_Graph_text_tbl) ⟨tisB_ok ti_ok, ti_eqs, Tryd.underlying4, mixed_ok, ent_cons i_decimal_t_ok (ent_cons i_Graph_edges_t_ok (ent_nil)), tbl_nil, heInl_ok _ (he_nil)⟩ 6) Tryd.func30 (by decide) rfl (ls := i_Graph_text_ls) (fun x r h => by rw [i_Graph_text_eq]; exact h)
noncomputable def i_ReadGraph_ls : RS := [(8, ⟨98, [.cells [.d (.int .i64), .d (.int .u32)], .cells [.d (.int .i64), .d (.int .u32)]], [0, 2, 7, 9, 48, 49, 50], [.d .str, .k (.ptr 0 0), .d (.int .i64), .k (.ptr 1 0), .d (.sl 9 .str), .d (.int .i64), .d (.int .i64)]⟩, [(.ret, ⟨98, [.cells [.d (.int .i64), .d (.int .u32)]], [2, 3], [.k (.ptr 0 0), .d (.int .i64)]⟩), (.exit 0, ⟨98, [.cells [.d (.int .i64), .d (.int .u32)], .cells [.d (.int .i64), .d (.int .u32)]], [0, 2, 9], [.d .str, .k (.ptr 0 0), .k (.ptr 1 0)]⟩)])]
noncomputable def i_ReadGraph_tbl : Tbl := []
noncomputable def i_ReadGraph_E0 : Env := ⟨ti, ti_eq, 4, [(9, strings_CutPrefix_e), (10, strings_Cut_e), (11, i_number_e), (26, strings_Split_e), (27, i_sizeOk_t_e), (28, i_isPair_t_e), (29, i_bit_t_e), (30, i_Graph_text_t_e)], heInl []⟩
theorem i_ReadGraph_eq : ∀ x, evEnt (envN i_ReadGraph_tbl i_ReadGraph_E0 6) i_ReadGraph_ls Tryd.f12 [.d .str] [.d (.pair (.int .i64) (.int .u32)), .d (.int .i64)] x = i_ReadGraph_t x.1 := by
  intro x
  kernel_rfl
noncomputable def i_ReadGraph_t_e : Entry := ⟨none, [.d .str], [.d (.pair (.int .i64) (.int .u32)), .d (.int .i64)], fun x => (i_ReadGraph_t x.1).run⟩
theorem i_ReadGraph_t_ok : EntOk glob Tryd.prog 12 i_ReadGraph_t_e :=
  entry_ok (envN_ok (E0 := i_ReadGraph_E0) (tbl := i_ReadGraph_tbl) ⟨tisB_ok ti_ok, ti_eqs, Tryd.underlying4, mixed_ok, ent_cons strings_CutPrefix_ok (ent_cons strings_Cut_ok (ent_cons i_number_ok (ent_cons strings_Split_ok (ent_cons i_sizeOk_t_ok (ent_cons i_isPair_t_ok (ent_cons i_bit_t_ok (ent_cons i_Graph_text_t_ok (ent_nil)))))))), tbl_nil, heInl_ok _ (he_nil)⟩ 6) Tryd.func12 (by decide) rfl (ls := i_ReadGraph_ls) (fun x r h => by rw [i_ReadGraph_eq]; exact h)
noncomputable def i_ValidGraph_ls : RS := []
noncomputable def i_ValidGraph_tbl : Tbl := []
noncomputable def i_ValidGraph_E0 : Env := ⟨ti, ti_eq, 4, [(32, i_in_t_e), (42, i_pairs_t_e)], heInl []⟩
theorem i_ValidGraph_eq : ∀ x, evEnt (envN i_ValidGraph_tbl i_ValidGraph_E0 6) i_ValidGraph_ls Tryd.f31 [.d (.pair (.int .i64) (.int .u32))] [.d .bool] x = i_ValidGraph_t x.1 := by
  intro x
  kernel_rfl
noncomputable def i_ValidGraph_t_e : Entry := ⟨none, [.d (.pair (.int .i64) (.int .u32))], [.d .bool], fun x => (i_ValidGraph_t x.1).run⟩
theorem i_ValidGraph_t_ok : EntOk glob Tryd.prog 31 i_ValidGraph_t_e :=
  entry_ok (envN_ok (E0 := i_ValidGraph_E0) (tbl := i_ValidGraph_tbl) ⟨tisB_ok ti_ok, ti_eqs, Tryd.underlying4, mixed_ok, ent_cons i_in_t_ok (ent_cons i_pairs_t_ok (ent_nil)), tbl_nil, heInl_ok _ (he_nil)⟩ 6) Tryd.func31 (by decide) rfl (ls := i_ValidGraph_ls) (fun x r h => by rw [i_ValidGraph_eq]; exact h)
noncomputable def i_ValidFlag_ls : RS := []
noncomputable def i_ValidFlag_tbl : Tbl := []
noncomputable def i_ValidFlag_E0 : Env := ⟨ti, ti_eq, 4, [(31, i_ValidGraph_t_e), (32, i_in_t_e)], heInl []⟩
theorem i_ValidFlag_eq : ∀ x, evEnt (envN i_ValidFlag_tbl i_ValidFlag_E0 6) i_ValidFlag_ls Tryd.f13 [.d (.pair (.int .i64) (.pair (.int .i64) (.int .u32)))] [.d .bool] x = i_ValidFlag_t x.1 := by
  intro x
  kernel_rfl
noncomputable def i_ValidFlag_t_e : Entry := ⟨none, [.d (.pair (.int .i64) (.pair (.int .i64) (.int .u32)))], [.d .bool], fun x => (i_ValidFlag_t x.1).run⟩
theorem i_ValidFlag_t_ok : EntOk glob Tryd.prog 13 i_ValidFlag_t_e :=
  entry_ok (envN_ok (E0 := i_ValidFlag_E0) (tbl := i_ValidFlag_tbl) ⟨tisB_ok ti_ok, ti_eqs, Tryd.underlying4, mixed_ok, ent_cons i_ValidGraph_t_ok (ent_cons i_in_t_ok (ent_nil)), tbl_nil, heInl_ok _ (he_nil)⟩ 6) Tryd.func13 (by decide) rfl (ls := i_ValidFlag_ls) (fun x r h => by rw [i_ValidFlag_eq]; exact h)
noncomputable def i_ReadFlag_ls : RS := []
noncomputable def i_ReadFlag_tbl : Tbl := []
noncomputable def i_ReadFlag_E0 : Env := ⟨ti, ti_eq, 4, [(9, strings_CutPrefix_e), (10, strings_Cut_e), (11, i_number_e), (12, i_ReadGraph_t_e), (13, i_ValidFlag_t_e)], heInl []⟩
theorem i_ReadFlag_eq : ∀ x, evEnt (envN i_ReadFlag_tbl i_ReadFlag_E0 6) i_ReadFlag_ls Tryd.f5 [.d .str] [.d (.pair (.int .i64) (.pair (.int .i64) (.int .u32))), .d (.int .i64)] x = i_ReadFlag_t x.1 := by
  intro x
  kernel_rfl
noncomputable def i_ReadFlag_t_e : Entry := ⟨none, [.d .str], [.d (.pair (.int .i64) (.pair (.int .i64) (.int .u32))), .d (.int .i64)], fun x => (i_ReadFlag_t x.1).run⟩
theorem i_ReadFlag_t_ok : EntOk glob Tryd.prog 5 i_ReadFlag_t_e :=
  entry_ok (envN_ok (E0 := i_ReadFlag_E0) (tbl := i_ReadFlag_tbl) ⟨tisB_ok ti_ok, ti_eqs, Tryd.underlying4, mixed_ok, ent_cons strings_CutPrefix_ok (ent_cons strings_Cut_ok (ent_cons i_number_ok (ent_cons i_ReadGraph_t_ok (ent_cons i_ValidFlag_t_ok (ent_nil))))), tbl_nil, heInl_ok _ (he_nil)⟩ 6) Tryd.func5 (by decide) rfl (ls := i_ReadFlag_ls) (fun x r h => by rw [i_ReadFlag_eq]; exact h)
noncomputable def l_eqGraph_ls : RS := []
noncomputable def l_eqGraph_tbl : Tbl := []
noncomputable def l_eqGraph_E0 : Env := ⟨ti, ti_eq, 4, [], heInl []⟩
theorem l_eqGraph_eq : ∀ x, evEnt (envN l_eqGraph_tbl l_eqGraph_E0 6) l_eqGraph_ls Tryd.f14 [.d (.pair (.int .i64) (.int .u32)), .d (.pair (.int .i64) (.int .u32))] [.d .bool] x = l_eqGraph_t x.1 x.2.1 := by
  intro x
  kernel_rfl
noncomputable def l_eqGraph_t_e : Entry := ⟨none, [.d (.pair (.int .i64) (.int .u32)), .d (.pair (.int .i64) (.int .u32))], [.d .bool], fun x => (l_eqGraph_t x.1 x.2.1).run⟩
theorem l_eqGraph_t_ok : EntOk glob Tryd.prog 14 l_eqGraph_t_e :=
  entry_ok (envN_ok (E0 := l_eqGraph_E0) (tbl := l_eqGraph_tbl) ⟨tisB_ok ti_ok, ti_eqs, Tryd.underlying4, mixed_ok, ent_nil, tbl_nil, heInl_ok _ (he_nil)⟩ 6) Tryd.func14 (by decide) rfl (ls := l_eqGraph_ls) (fun x r h => by rw [l_eqGraph_eq]; exact h)
noncomputable def l_eqFlag_ls : RS := []
noncomputable def l_eqFlag_tbl : Tbl := []
noncomputable def l_eqFlag_E0 : Env := ⟨ti, ti_eq, 4, [(14, l_eqGraph_t_e)], heInl []⟩
theorem l_eqFlag_eq : ∀ x, evEnt (envN l_eqFlag_tbl l_eqFlag_E0 6) l_eqFlag_ls Tryd.f6 [.d (.pair (.int .i64) (.pair (.int .i64) (.int .u32))), .d (.pair (.int .i64) (.pair (.int .i64) (.int .u32)))] [.d .bool] x = l_eqFlag_t x.1 x.2.1 := by
  intro x
  kernel_rfl
noncomputable def l_eqFlag_t_e : Entry := ⟨none, [.d (.pair (.int .i64) (.pair (.int .i64) (.int .u32))), .d (.pair (.int .i64) (.pair (.int .i64) (.int .u32)))], [.d .bool], fun x => (l_eqFlag_t x.1 x.2.1).run⟩
theorem l_eqFlag_t_ok : EntOk glob Tryd.prog 6 l_eqFlag_t_e :=
  entry_ok (envN_ok (E0 := l_eqFlag_E0) (tbl := l_eqFlag_tbl) ⟨tisB_ok ti_ok, ti_eqs, Tryd.underlying4, mixed_ok, ent_cons l_eqGraph_t_ok (ent_nil), tbl_nil, heInl_ok _ (he_nil)⟩ 6) Tryd.func6 (by decide) rfl (ls := l_eqFlag_ls) (fun x r h => by rw [l_eqFlag_eq]; exact h)
noncomputable def l_FnExactReadFlag_ls : RS := []
noncomputable def l_FnExactReadFlag_tbl : Tbl := []
noncomputable def l_FnExactReadFlag_E0 : Env := ⟨ti, ti_eq, 4, [(4, s_ReadFlag_t_e), (5, i_ReadFlag_t_e), (6, l_eqFlag_t_e)], heInl []⟩
theorem l_FnExactReadFlag_eq : ∀ x, evEnt (envN l_FnExactReadFlag_tbl l_FnExactReadFlag_E0 6) l_FnExactReadFlag_ls Tryd.f3 [.d .str] [.d .bool] x = l_FnExactReadFlag_t x.1 := by
  intro x
  kernel_rfl
noncomputable def l_FnExactReadFlag_t_e : Entry := ⟨none, [.d .str], [.d .bool], fun x => (l_FnExactReadFlag_t x.1).run⟩
theorem l_FnExactReadFlag_t_ok : EntOk glob Tryd.prog 3 l_FnExactReadFlag_t_e :=
  entry_ok (envN_ok (E0 := l_FnExactReadFlag_E0) (tbl := l_FnExactReadFlag_tbl) ⟨tisB_ok ti_ok, ti_eqs, Tryd.underlying4, mixed_ok, ent_cons s_ReadFlag_t_ok (ent_cons i_ReadFlag_t_ok (ent_cons l_eqFlag_t_ok (ent_nil))), tbl_nil, heInl_ok _ (he_nil)⟩ 6) Tryd.func3 (by decide) rfl (ls := l_FnExactReadFlag_ls) (fun x r h => by rw [l_FnExactReadFlag_eq]; exact h)
end Vm
