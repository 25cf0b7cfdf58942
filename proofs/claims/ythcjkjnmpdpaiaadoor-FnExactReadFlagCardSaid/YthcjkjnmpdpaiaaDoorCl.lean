/- FnExactReadFlag: for every input the law returns true, and each argument reads afterwards as it read before; no condition beside the row's own. -/
import Derived.Test.YthcjkjnmpdpaiaaDoorWi
import Derived.Test.YthcjkjnmpdpaiaaDoorMc
import Derived.Test.YthcjkjnmpdpaiaaDoorLa
import Derived.Test.YthcjkjnmpdpaiaaDoorRows
import Derived.Test.YthcjkjnmpdpaiaaDoorTie
import Derived.Test.YthcjkjnmpdpaiaaDoorCards
import Derived.SevenTiedAt
import Derived.LaidOnce
namespace Go.Proofs.YthcjkjnmpdpaiaaDoor
open Go Vm Go.Proofs
set_option linter.unusedVariables false
theorem cl_bool : Tryd.prog.underlying 4 = some .bool := Tryd.underlying4
theorem fc3 (W : World) (h : laidMet Tryd.prog Rows.fnExactReadFlagRow.laid W) : ∃ v, W.var? Tryd.prog "internal/strconv.uint64pow10" = some v ∧ v = (Lib.pow10Tab.map fun z => Value.int .u64 z).toArray :=
  fact_tab (g := 3) (t := 100) (e := 71) (n := 20) (name := "internal/strconv.uint64pow10") h (.tail _ (.tail _ (.head _))) (by kernel_rfl) (by kernel_rfl) Tryd.underlying100 Tryd.underlying71 (by kernel_rfl) (by kernel_rfl)
theorem fc1 (W : World) (h : laidMet Tryd.prog Rows.fnExactReadFlagRow.laid W) : ∃ v, W.var? Tryd.prog "strconv.ErrSyntax" = some v ∧ ∃ tp p, v = #[.iface tp p] :=
  fact_iface (g := 1) (t := 48) (name := "strconv.ErrSyntax") h (.tail _ (.tail _ (.tail _ (.tail _ (.tail _ (.head _)))))) (by kernel_rfl) (by kernel_rfl) Tryd.underlying48
theorem fc2 (W : World) (h : laidMet Tryd.prog Rows.fnExactReadFlagRow.laid W) : ∃ v, W.var? Tryd.prog "strconv.ErrRange" = some v ∧ ∃ tp p, v = #[.iface tp p] :=
  fact_iface (g := 2) (t := 48) (name := "strconv.ErrRange") h (.tail _ (.tail _ (.tail _ (.tail _ (.head _))))) (by kernel_rfl) (by kernel_rfl) Tryd.underlying48
theorem fc0 (W : World) (h : W.ShapedOpen Tryd.prog) : ∃ v, W.var? Tryd.prog "internal/bytealg.MaxLen" = some v ∧ ∃ m, v[0]? = some (.int .i64 m) :=
  fact_int (g := 0) (t := 3) (zero := #[.int .i64 0]) (name := "internal/bytealg.MaxLen") h (by kernel_rfl) (by decide) (by kernel_rfl) rfl (by kernel_rfl) (by kernel_rfl) Tryd.underlying3
theorem laid_glob (W : World) (hsh : W.ShapedOpen Tryd.prog) (h : laidMetH Tryd.prog Rows.fnExactReadFlagRow.laid W) : glob.G W := by
  rw [MakeChecks.laidMetH_plain _ _ _ (by kernel_rfl)] at h
  refine ⟨?_, ?_⟩
  · obtain ⟨v, hv, _⟩ := fc3 W h
    exact fact_size (g := 3) (by kernel_rfl) hv
  · intro p hp
    simp only [facts, List.mem_cons, List.mem_nil_iff, or_false] at hp
    rcases hp with rfl | rfl | rfl | rfl
    · exact fc3 W h
    · exact fc1 W h
    · exact fc2 W h
    · exact fc0 W hsh
theorem own : ownKnob Tryd.prog.godebug = none := by kernel_rfl
set_option maxRecDepth 100000 in
theorem lifted (os : Os) (started : os.Started) (H : Type) (enc : TypeId × Value → H) :
    ReturnsInHanded {} Tryd.checked os 3 .any (fun w args => (Rows.fnExactReadFlagSpec.pre enc Tryd.prog Tryd.f3 [] false w args ∧ laidMetH Tryd.prog Rows.fnExactReadFlagRow.laid w) ∧ sizedMet enc Tryd.prog Tryd.f3 (OpenSpec.ofChange Rows.fnExactReadFlagSpec) false w args)
      (Rows.fnExactReadFlagSpec.post enc Tryd.prog Tryd.f3 false true false false) :=
  returns_law (C := Tryd.checked) own started (by kernel_rfl) Tryd.func3
    (ChangeSpec.witness_shaped (enc := enc) (C := Tryd.checked) (os := os) (X := fun w _ => laidMetH Tryd.prog Rows.fnExactReadFlagRow.laid w) false (World.laidAll Tryd.prog os Rows.fnExactReadFlagRow.laid) #[.string ⟨#[]⟩] 8 (World.laidAll_os _ _ _)
      (World.shaped_of_ZipB (by kernel_rfl) (by kernel_rfl)) (by kernel_rfl) (by kernel_rfl) (by kernel_rfl)
      (by rw [MakeChecks.laidMetH_plain _ _ _ (by kernel_rfl)]; exact laidMet_laidAll _ (by kernel_rfl) (by kernel_rfl)))
    rfl (fun ds hd => by
      have hd : ds.length = 1 := hd
      match ds, hd with
      | [_], _ => rfl)
    rfl cl_bool (by kernel_rfl) (by kernel_rfl) (by kernel_rfl) laid_glob l_FnExactReadFlag_t_ok fun x hx => readFlag_law x.1
theorem row_holds : Rows.FnExactReadFlagSaid :=
  OpenClaim.holds_of_wide 3 Tryd.f3 rfl rfl rfl rfl rfl rfl rfl ⟨rfl, rfl, rfl, rfl, rfl⟩ rfl rfl rfl rfl rfl (by kernel_rfl) Tryd.func3 (by kernel_rfl)
    (of_decide_eq_true (by kernel_rfl)) (by unfold Func.isWrapper; first | (rw [if_pos (by decide +kernel)]; kernel_rfl) | (rw [if_neg (by decide +kernel)]; exact ⟨rfl, rfl⟩))
    (fun os started H enc _ => lifted os started H enc)
theorem card_holds : Rows.FnExactReadFlagCardSaid :=
  Claim7.holds_tied_plain_at .later [] [.data, .data, .data, .data, .sentinel, .sentinel, .pinned] true (true, "cac7fe7f8b80e4add21deed9300fb4de9221fa0f9a5ed93b679fdd8976c27161") true
    row_holds (fun _ h => by cases h) (by kernel_rfl) (fun _ h => by cases h) fnExactReadFlag_row_tie rfl ⟨rfl, rfl⟩ (by kernel_rfl) rfl
    (fun f fn hf hfn => by
      obtain rfl : f = 3 := Option.some.inj ((show Tryd.prog.funcNamed "loop.example/g01169/laws.FnExactReadFlag" = some 3 by kernel_rfl).symm.trans hf) |>.symm
      obtain rfl : fn = Tryd.f3 := (Option.some.inj (Tryd.func3.symm.trans hfn)).symm
      exact ⟨by kernel_rfl, fun j t ht => by
        rw [Tryd.params3] at ht
        have hm : t ∈ [9] := by simpa using Array.mem_of_getElem? ht
        have hall : ([9].all fun u => !Tryd.prog.wantsStandIn u) = true := by kernel_rfl
        exact (show Tryd.prog.wantsStandIn t = false by simpa using List.all_eq_true.1 hall t hm)⟩)
    (by kernel_rfl)
end Go.Proofs.YthcjkjnmpdpaiaaDoor
