import Derived.Test.YthcjkjnmpdpaiaaDoorMc
set_option linter.unusedVariables false
namespace Vm
open Go
def l_a2Long_t (code : List Int) (more : List Int) : T Bool :=
  .ite (decide (((code).length : Int) > (3000 : Int)))
    (.ret true)
    (.ret (decide (((more).length : Int) > (3000 : Int))))
def l_a2At_t (code : List Int) (a1 : Int) (n : Int) : T Int :=
  .ite (decide (a1 ≥ ((code).length : Int)))
    (.ret (0 : Int))
    (.ite (decide (n < (1 : Int)))
      (.ret (0 : Int))
      (.ite (decide (0 ≤ a1)) (
        .ite (decide (a1 < ((code).length : Int))) (
          .ite (decide (n = 0))
            (.fail)
            (.ret (Int.tmod (IntKind.wrap .i64 (List.getD code (Int.toNat a1) (0 : Int))) n))) .fail) .fail))
def s_l01Bits_t (n : Int) : T Int :=
  .ret (IntKind.wrap .i64 (Int.tdiv (IntKind.wrap .i64 (n * (IntKind.wrap .i64 (n - (1 : Int))))) (2 : Int)))
def s_l00Src_next_t (s : (List Int × (Int × Int))) : T ((List Int × (Int × Int)) × Int) :=
  .ite (decide (s.2.1 < ((s.1).length : Int)))
    (.ite (decide (0 ≤ s.2.1)) (
      .ite (decide (s.2.1 < ((s.1).length : Int))) (
        .ite (decide ((IntKind.wrap .i64 (s.2.1 + (1 : Int))) ≤ ((s.1).length : Int)))
          (.ret ((s.1, ((IntKind.wrap .i64 (s.2.1 + (1 : Int))), (IntKind.wrap .u64 ((IntKind.wrap .u64 ((IntKind.wrap .u64 (s.2.2 * (6364136223846793005 : Int))) + (IntKind.wrap .u64 (IntKind.wrap .i64 (List.getD s.1 (Int.toNat s.2.1) (0 : Int)))))) + (1442695040888963407 : Int))))), (IntKind.wrap .i64 (List.getD s.1 (Int.toNat s.2.1) (0 : Int)))))
          (.ret ((s.1, ((IntKind.wrap .i64 (s.2.1 + (1 : Int))), (IntKind.wrap .u64 ((IntKind.wrap .u64 ((IntKind.wrap .u64 (s.2.2 * (6364136223846793005 : Int))) + (IntKind.wrap .u64 (IntKind.wrap .i64 (List.getD s.1 (Int.toNat s.2.1) (0 : Int)))))) + (1442695040888963407 : Int))))), (IntKind.wrap .i64 (bits2 .and .u64 (shr .u64 (IntKind.wrap .u64 ((IntKind.wrap .u64 ((IntKind.wrap .u64 (s.2.2 * (6364136223846793005 : Int))) + (IntKind.wrap .u64 (IntKind.wrap .i64 (List.getD s.1 (Int.toNat s.2.1) (0 : Int)))))) + (1442695040888963407 : Int))) (40 : Int)) (255 : Int)))))) .fail) .fail)
    (.ite (decide ((IntKind.wrap .i64 (s.2.1 + (1 : Int))) ≤ ((s.1).length : Int)))
      (.ret ((s.1, ((IntKind.wrap .i64 (s.2.1 + (1 : Int))), (IntKind.wrap .u64 ((IntKind.wrap .u64 ((IntKind.wrap .u64 (s.2.2 * (6364136223846793005 : Int))) + (IntKind.wrap .u64 (0 : Int)))) + (1442695040888963407 : Int))))), (0 : Int)))
      (.ret ((s.1, ((IntKind.wrap .i64 (s.2.1 + (1 : Int))), (IntKind.wrap .u64 ((IntKind.wrap .u64 ((IntKind.wrap .u64 (s.2.2 * (6364136223846793005 : Int))) + (IntKind.wrap .u64 (0 : Int)))) + (1442695040888963407 : Int))))), (IntKind.wrap .i64 (bits2 .and .u64 (shr .u64 (IntKind.wrap .u64 ((IntKind.wrap .u64 ((IntKind.wrap .u64 (s.2.2 * (6364136223846793005 : Int))) + (IntKind.wrap .u64 (0 : Int)))) + (1442695040888963407 : Int))) (40 : Int)) (255 : Int))))))
def s_l00Src_pick_t (s : (List Int × (Int × Int))) (n : Int) : T ((List Int × (Int × Int)) × Int) :=
  .ite (decide (n ≤ (1 : Int)))
    (.ret ((s.1, (s.2.1, s.2.2)), (0 : Int)))
    (.call ((s_l00Src_next_t (s.1, (s.2.1, s.2.2)) ).run) fun r1 =>
    .ite (decide (n > (200 : Int)))
      (.call ((s_l00Src_next_t (r1.1.1, (r1.1.2.1, r1.1.2.2)) ).run) fun r2 =>
      .ite (decide (n = 0))
        (.fail)
        (.ret ((r2.1.1, (r2.1.2.1, r2.1.2.2)), (Int.tmod (IntKind.wrap .i64 ((IntKind.wrap .i64 (r1.2 * (256 : Int))) + r2.2)) n))))
      (.ite (decide (n = 0))
        (.fail)
        (.ret ((r1.1.1, (r1.1.2.1, r1.1.2.2)), (Int.tmod r1.2 n)))))
def s_l00Src_one_t (s : (List Int × (Int × Int))) (n : Int) : T ((List Int × (Int × Int)) × Bool) :=
  .call ((s_l00Src_pick_t (s.1, (s.2.1, s.2.2)) n).run) fun r1 =>
  .ret ((r1.1.1, (r1.1.2.1, r1.1.2.2)), (r1.2 == (0 : Int)))
def s_l01Drawn_t (s : (List Int × (Int × Int))) (n : Int) : T ((List Int × (Int × Int)) × (Int × Int)) :=
  .call ((s_l01Bits_t n).run) fun r1 =>
  .ite (decide ((IntKind.wrap .u64 r1) < 0))
    (.fail)
    (.call ((s_l00Src_pick_t (s.1, (s.2.1, s.2.2)) (shl .i64 (1 : Int) (IntKind.wrap .u64 r1))).run) fun r2 =>
    .call ((s_l00Src_one_t (r2.1.1, (r2.1.2.1, r2.1.2.2)) (4 : Int)).run) fun r3 =>
    .ite (r3.2)
      (.call ((s_l01Bits_t n).run) fun r4 =>
      .ite (decide ((IntKind.wrap .u64 r4) < 0))
        (.fail)
        (.call ((s_l00Src_pick_t (r3.1.1, (r3.1.2.1, r3.1.2.2)) (shl .i64 (1 : Int) (IntKind.wrap .u64 r4))).run) fun r5 =>
        .ret ((r5.1.1, (r5.1.2.1, r5.1.2.2)), (n, (bits2 .and .u32 (IntKind.wrap .u32 r2.2) (IntKind.wrap .u32 r5.2))))))
      (.ret ((r3.1.1, (r3.1.2.1, r3.1.2.2)), (n, (IntKind.wrap .u32 r2.2)))))
def s_A2Graph_t (code : List Int) (n : Int) : T (Int × Int) :=
  .call ((s_l01Drawn_t (code, ((0 : Int), (0 : Int))) n).run) fun r1 =>
  .ret (r1.2.1, r1.2.2)
def i_in_t (n : Int) (low : Int) (high : Int) : T Bool :=
  .ite (decide (n ≥ low))
    (.ret (decide (n ≤ high)))
    (.ret false)
def i_pairs_t (n : Int) : T Int :=
  .ret (IntKind.wrap .i64 (Int.tdiv (IntKind.wrap .i64 (n * (IntKind.wrap .i64 (n - (1 : Int))))) (2 : Int)))
def i_ValidGraph_t (g : (Int × Int)) : T Bool :=
  .call ((i_in_t g.1 (0 : Int) (5 : Int)).run) fun r1 =>
  .ite (r1)
    (.call ((i_pairs_t g.1).run) fun r2 =>
    .ite (decide (r2 < 0))
      (.fail)
      (.ret ((shr .u32 g.2 r2) == (0 : Int))))
    (.ret false)
def i_bit_t (i : Int) (j : Int) : T Int :=
  .ite (decide (i > j))
    (.call ((i_pairs_t i).run) fun r1 =>
    .ite (decide ((IntKind.wrap .i64 (r1 + j)) < 0))
      (.fail)
      (.ret (shl .u32 (1 : Int) (IntKind.wrap .i64 (r1 + j)))))
    (.call ((i_pairs_t j).run) fun r2 =>
    .ite (decide ((IntKind.wrap .i64 (r2 + i)) < 0))
      (.fail)
      (.ret (shl .u32 (1 : Int) (IntKind.wrap .i64 (r2 + i)))))
def i_Graph_has_t (g : (Int × Int)) (i : Int) (j : Int) : T Bool :=
  .call ((i_bit_t i j).run) fun r1 =>
  .ret ((bits2 .and .u32 g.2 r1) != (0 : Int))
def i_Graph_edges_L2 (d : (((Int × (Int × Unit)) × Unit) × (List ((Int × Int)) × (Int × (Int × (Int × (Int × (Int × Unit)))))))) : Option ((((Int × (Int × Unit)) × Unit) × (List ((Int × Int)) × (Int × (Int × (Int × (Int × (Int × Unit))))))) ⊕ (((Int × (Int × Unit)) × Unit) × (List ((Int × Int)) × (Int × (Int × Unit))))) := T.run (
  .ite (decide (d.2.2.2.2.2.2.1 < d.2.2.2.2.2.1))
    (.call ((i_Graph_has_t (d.1.1.1, d.1.1.2.1) d.2.2.2.2.2.2.1 d.2.2.1).run) fun r1 =>
    .ite (r1)
      (.ite (decide (((d.2.1).length + ([(d.2.2.2.2.2.2.1, d.2.2.1)]).length) * 16 ≤ roomLimit)) (
        .ret (Sum.inl (((d.1.1.1, (d.1.1.2.1, ())), ()), ((d.2.1 ++ [(d.2.2.2.2.2.2.1, d.2.2.1)]), (d.2.2.1, (d.2.2.2.1, (d.2.2.2.2.1, (d.2.2.2.2.2.1, ((IntKind.wrap .i64 (d.2.2.2.2.2.2.1 + (1 : Int))), ()))))))))) .fail)
      (.ret (Sum.inl (((d.1.1.1, (d.1.1.2.1, ())), ()), (d.2.1, (d.2.2.1, (d.2.2.2.1, (d.2.2.2.2.1, (d.2.2.2.2.2.1, ((IntKind.wrap .i64 (d.2.2.2.2.2.2.1 + (1 : Int))), ()))))))))))
    (.ret (Sum.inr (((d.1.1.1, (d.1.1.2.1, ())), ()), (d.2.1, (d.2.2.2.1, (d.2.2.2.2.1, ())))))))
def i_Graph_edges_L1 (d : (((Int × (Int × Unit)) × Unit) × (List ((Int × Int)) × (Int × (Int × Unit))))) : Option ((((Int × (Int × Unit)) × Unit) × (List ((Int × Int)) × (Int × (Int × Unit)))) ⊕ (Unit × (List ((Int × Int)) × Unit))) := T.run (
  .ite (decide (d.2.2.2.1 < d.2.2.1))
    (.call (rounds i_Graph_edges_L2 (((d.1.1.1, (d.1.1.2.1, ())), ()), (d.2.1, (d.2.2.2.1, (d.2.2.1, (d.2.2.2.1, (d.2.2.2.1, ((0 : Int), ())))))))) fun o1 =>
    .ret (Sum.inl (((o1.1.1.1, (o1.1.1.2.1, ())), ()), (o1.2.1, (o1.2.2.1, ((IntKind.wrap .i64 (o1.2.2.2.1 + (1 : Int))), ()))))))
    (.ret (Sum.inr ((), (d.2.1, ())))))
def i_Graph_edges_t (g : (Int × Int)) : T (List ((Int × Int))) :=
  .call (rounds i_Graph_edges_L1 (((g.1, (g.2, ())), ()), ([], (g.1, ((0 : Int), ()))))) fun o1 =>
  .ret o1.2.1
def i_PairsOf_t (g : (Int × Int)) : T (List ((Int × Int)) × Int) :=
  .call ((i_ValidGraph_t (g.1, g.2)).run) fun r1 =>
  .ite ((!r1))
    (.ret ([], (1 : Int)))
    (.call ((i_Graph_edges_t (g.1, g.2)).run) fun r2 =>
    .ret (r2, (0 : Int)))
def i_sizeOk_t (n : Int) : T Bool :=
  .call ((i_in_t n (0 : Int) (5 : Int)).run) fun r1 =>
  .ret r1
def i_isPair_t (n : Int) (i : Int) (j : Int) : T Bool :=
  .call ((i_in_t i (0 : Int) (IntKind.wrap .i64 (n - (1 : Int)))).run) fun r1 =>
  .ite (r1)
    (.call ((i_in_t j (0 : Int) (IntKind.wrap .i64 (n - (1 : Int)))).run) fun r2 =>
    .ite (r2)
      (.ret (i != j))
      (.ret false))
    (.ret false)
def i_GraphOf_L1 (d : (((Int × Unit) × ((Int × (Int × Unit)) × Unit)) × (List ((Int × Int)) × (Int × (Int × Unit))))) : Option ((((Int × Unit) × ((Int × (Int × Unit)) × Unit)) × (List ((Int × Int)) × (Int × (Int × Unit)))) ⊕ ((((Int × Unit) × ((Int × (Int × Unit)) × Unit)) × (Int × Unit)) ⊕ (((Int × Unit) × ((Int × (Int × Unit)) × Unit)) × Unit))) := T.run (
  .ite (decide (d.2.2.2.1 < d.2.2.1))
    (.ite (decide (0 ≤ d.2.2.2.1)) (
      .ite (decide (d.2.2.2.1 < ((d.2.1).length : Int))) (
        .call ((i_isPair_t d.1.1.1 ((List.getD d.2.1 (Int.toNat d.2.2.2.1) ((0 : Int), (0 : Int))).1) ((List.getD d.2.1 (Int.toNat d.2.2.2.1) ((0 : Int), (0 : Int))).2)).run) fun r1 =>
        .ite ((!r1))
          (.ret (Sum.inr (Sum.inl (((d.1.1.1, ()), ((d.1.2.1.1, (d.1.2.1.2.1, ())), ())), (d.2.2.2.1, ())))))
          (.ret (Sum.inl (((d.1.1.1, ()), ((d.1.2.1.1, (d.1.2.1.2.1, ())), ())), (d.2.1, (d.2.2.1, ((IntKind.wrap .i64 (d.2.2.2.1 + (1 : Int))), ()))))))) .fail) .fail)
    (.ret (Sum.inr (Sum.inr (((d.1.1.1, ()), ((d.1.2.1.1, (d.1.2.1.2.1, ())), ())), ())))))
def i_GraphOf_L2 (d : (((Int × (Int × Unit)) × ((Int × (Int × Unit)) × Unit)) × (List ((Int × Int)) × (Int × (Int × Unit))))) : Option ((((Int × (Int × Unit)) × ((Int × (Int × Unit)) × Unit)) × (List ((Int × Int)) × (Int × (Int × Unit)))) ⊕ (((Int × (Int × Unit)) × ((Int × (Int × Unit)) × Unit)) × Unit)) := T.run (
  .ite (decide (d.2.2.2.1 < d.2.2.1))
    (.ite (decide (0 ≤ d.2.2.2.1)) (
      .ite (decide (d.2.2.2.1 < ((d.2.1).length : Int))) (
        .call ((i_bit_t ((List.getD d.2.1 (Int.toNat d.2.2.2.1) ((0 : Int), (0 : Int))).1) ((List.getD d.2.1 (Int.toNat d.2.2.2.1) ((0 : Int), (0 : Int))).2)).run) fun r1 =>
        .ret (Sum.inl (((d.1.1.1, (d.1.1.2.1, ())), ((d.1.2.1.1, ((bits2 .or .u32 d.1.2.1.2.1 r1), ())), ())), (d.2.1, (d.2.2.1, ((IntKind.wrap .i64 (d.2.2.2.1 + (1 : Int))), ())))))) .fail) .fail)
    (.ret (Sum.inr (((d.1.1.1, (d.1.1.2.1, ())), ((d.1.2.1.1, (d.1.2.1.2.1, ())), ())), ()))))
def i_GraphOf_t (n : Int) (list : List ((Int × Int))) : T ((Int × Int) × Int) :=
  .call ((i_sizeOk_t n).run) fun r1 =>
  .ite ((!r1))
    (.ret (((0 : Int), (0 : Int)), (2 : Int)))
    (.call (rounds i_GraphOf_L1 (((n, ()), (((0 : Int), ((0 : Int), ())), ())), (list, (((list).length : Int), ((0 : Int), ()))))) fun o2 =>
    .alt o2
      (fun x3 => .ite (decide (x3.2.1 ≥ (0 : Int)))
        (.ret (((0 : Int), (0 : Int)), (2 : Int)))
        (.call (rounds i_GraphOf_L2 (((x3.1.2.1.1, (x3.1.2.1.2.1, ())), ((x3.1.1.1, ((0 : Int), ())), ())), (list, (((list).length : Int), ((0 : Int), ()))))) fun o5 =>
        .ret ((o5.1.2.1.1, o5.1.2.1.2.1), (0 : Int))))
      (fun y4 => .ite (decide ((-1 : Int) ≥ (0 : Int)))
        (.ret (((0 : Int), (0 : Int)), (2 : Int)))
        (.call (rounds i_GraphOf_L2 (((y4.1.2.1.1, (y4.1.2.1.2.1, ())), ((y4.1.1.1, ((0 : Int), ())), ())), (list, (((list).length : Int), ((0 : Int), ()))))) fun o6 =>
        .ret ((o6.1.2.1.1, o6.1.2.1.2.1), (0 : Int)))))
def i_decimal_t (n : Int) : T ByteArray :=
  .call (fmtInt n (10 : Int)) fun r1 =>
  .ret r1
def i_Graph_text_L1 (d : (Unit × (ByteArray × (List ((Int × Int)) × (Int × (Int × Unit)))))) : Option ((Unit × (ByteArray × (List ((Int × Int)) × (Int × (Int × Unit))))) ⊕ (Unit × (ByteArray × Unit))) := T.run (
  .ite (decide (d.2.2.2.2.1 < d.2.2.2.1))
    (.ite (decide (0 ≤ d.2.2.2.2.1)) (
      .ite (decide (d.2.2.2.2.1 < ((d.2.2.1).length : Int))) (
        .call ((i_decimal_t ((List.getD d.2.2.1 (Int.toNat d.2.2.2.2.1) ((0 : Int), (0 : Int))).1)).run) fun r1 =>
        .ite (decide (((bs [32])).size + (r1).size ≤ catLimit)) (
          .ite (decide ((((bs [32]) ++ r1)).size + ((bs [45])).size ≤ catLimit)) (
            .call ((i_decimal_t ((List.getD d.2.2.1 (Int.toNat d.2.2.2.2.1) ((0 : Int), (0 : Int))).2)).run) fun r2 =>
            .ite (decide (((((bs [32]) ++ r1) ++ (bs [45]))).size + (r2).size ≤ catLimit)) (
              .ite (decide ((d.2.1).size + (((((bs [32]) ++ r1) ++ (bs [45])) ++ r2)).size ≤ catLimit)) (
                .ret (Sum.inl ((), ((d.2.1 ++ ((((bs [32]) ++ r1) ++ (bs [45])) ++ r2)), (d.2.2.1, (d.2.2.2.1, ((IntKind.wrap .i64 (d.2.2.2.2.1 + (1 : Int))), ()))))))) .fail) .fail) .fail) .fail) .fail) .fail)
    (.ret (Sum.inr ((), (d.2.1, ())))))
def i_Graph_text_t (g : (Int × Int)) : T ByteArray :=
  .call ((i_decimal_t g.1).run) fun r1 =>
  .ite (decide (((bs [103, 114, 97, 112, 104, 32])).size + (r1).size ≤ catLimit)) (
    .call ((i_Graph_edges_t (g.1, g.2)).run) fun r2 =>
    .call (rounds i_Graph_text_L1 ((), (((bs [103, 114, 97, 112, 104, 32]) ++ r1), (r2, (((r2).length : Int), ((0 : Int), ())))))) fun o3 =>
    .ret o3.2.1) .fail
def i_GraphText_t (g : (Int × Int)) : T ByteArray :=
  .call ((i_ValidGraph_t (g.1, g.2)).run) fun r1 =>
  .ite ((!r1))
    (.ret (bs []))
    (.call ((i_Graph_text_t (g.1, g.2)).run) fun r2 =>
    .ret r2)
def i_ReadGraph_L1 (d : (((Int × (Int × Unit)) × ((Int × (Int × Unit)) × Unit)) × (ByteArray × (Int × (List ByteArray × (Int × (Int × Unit))))))) : Option ((((Int × (Int × Unit)) × ((Int × (Int × Unit)) × Unit)) × (ByteArray × (Int × (List ByteArray × (Int × (Int × Unit)))))) ⊕ ((((Int × (Int × Unit)) × Unit) × (Int × Unit)) ⊕ (((Int × (Int × Unit)) × ((Int × (Int × Unit)) × Unit)) × (ByteArray × Unit)))) := T.run (
  .ite (decide (d.2.2.2.2.2.1 < d.2.2.2.2.1))
    (.ite (decide (0 ≤ d.2.2.2.2.2.1)) (
      .ite (decide (d.2.2.2.2.2.1 < ((d.2.2.2.1).length : Int))) (
        .call (cutF (List.getD d.2.2.2.1 (Int.toNat d.2.2.2.2.2.1) ByteArray.empty) (bs [45])) fun r1 =>
        .call (numF r1.1) fun r2 =>
        .call (numF r1.2.1) fun r3 =>
        .ite ((!r2.2))
          (.ret (Sum.inr (Sum.inl ((((0 : Int), ((0 : Int), ())), ()), ((5 : Int), ())))))
          (.ite ((!r3.2))
            (.ret (Sum.inr (Sum.inl ((((0 : Int), ((0 : Int), ())), ()), ((5 : Int), ())))))
            (.call ((i_isPair_t d.2.2.1 r2.1 r3.1).run) fun r4 =>
            .ite ((!r4))
              (.ret (Sum.inr (Sum.inl ((((0 : Int), ((0 : Int), ())), ()), ((5 : Int), ())))))
              (.call ((i_bit_t r2.1 r3.1).run) fun r5 =>
              .ret (Sum.inl (((d.1.1.1, (d.1.1.2.1, ())), ((d.1.2.1.1, ((bits2 .or .u32 d.1.2.1.2.1 r5), ())), ())), (d.2.1, (d.2.2.1, (d.2.2.2.1, (d.2.2.2.2.1, ((IntKind.wrap .i64 (d.2.2.2.2.2.1 + (1 : Int))), ()))))))))))) .fail) .fail)
    (.ret (Sum.inr (Sum.inr (((d.1.1.1, (d.1.1.2.1, ())), ((d.1.2.1.1, (d.1.2.1.2.1, ())), ())), (d.2.1, ()))))))
def i_ReadGraph_t (a0 : ByteArray) : T ((Int × Int) × Int) :=
  .call (cutPreF a0 (bs [103, 114, 97, 112, 104, 32])) fun r1 =>
  .call (splitF r1.1 (bs [32])) fun r2 =>
  .ite (decide ((0 : Int) < ((r2).length : Int))) (
    .call (numF (List.getD r2 (Int.toNat (0 : Int)) ByteArray.empty)) fun r3 =>
    .ite ((!r1.2))
      (.ret (((0 : Int), (0 : Int)), (5 : Int)))
      (.ite ((!r3.2))
        (.ret (((0 : Int), (0 : Int)), (5 : Int)))
        (.call ((i_sizeOk_t r3.1).run) fun r4 =>
        .ite ((!r4))
          (.ret (((0 : Int), (0 : Int)), (5 : Int)))
          (.ite (decide ((1 : Int) ≤ ((r2).length : Int))) (
            .ite (decide (((r2).length : Int) ≤ ((r2).length : Int))) (
              .call (rounds i_ReadGraph_L1 ((((0 : Int), ((0 : Int), ())), ((r3.1, ((0 : Int), ())), ())), (a0, (r3.1, ((List.drop (Int.toNat (1 : Int)) (List.take (Int.toNat ((r2).length : Int)) r2)), ((((List.drop (Int.toNat (1 : Int)) (List.take (Int.toNat ((r2).length : Int)) r2))).length : Int), ((0 : Int), ()))))))) fun o5 =>
              .alt o5
                (fun x6 => .ret ((x6.1.1.1, x6.1.1.2.1), x6.2.1))
                (fun y7 => .call ((i_Graph_text_t (y7.1.2.1.1, y7.1.2.1.2.1)).run) fun r8 =>
                .ite ((!(r8 == y7.2.1)))
                  (.ret (((0 : Int), (0 : Int)), (5 : Int)))
                  (.ret ((y7.1.2.1.1, y7.1.2.1.2.1), (0 : Int))))) .fail) .fail)))) .fail
def i_Graph_opposite_L2 (d : (((Int × (Int × Unit)) × ((Int × (Int × Unit)) × ((Int × (Int × Unit)) × ((Int × (Int × Unit)) × Unit)))) × (Int × (Int × (Int × (Int × (Int × Unit))))))) : Option ((((Int × (Int × Unit)) × ((Int × (Int × Unit)) × ((Int × (Int × Unit)) × ((Int × (Int × Unit)) × Unit)))) × (Int × (Int × (Int × (Int × (Int × Unit)))))) ⊕ (((Int × (Int × Unit)) × ((Int × (Int × Unit)) × ((Int × (Int × Unit)) × ((Int × (Int × Unit)) × Unit)))) × (Int × (Int × Unit)))) := T.run (
  .ite (decide (d.2.2.2.2.2.1 < d.2.2.2.2.1))
    (.call ((i_Graph_has_t (d.1.1.1, d.1.1.2.1) d.2.2.2.2.2.1 d.2.1).run) fun r1 =>
    .ite ((!r1))
      (.call ((i_bit_t d.2.2.2.2.2.1 d.2.1).run) fun r2 =>
      .ret (Sum.inl (((d.1.1.1, (d.1.1.2.1, ())), ((d.1.2.1.1, (d.1.2.1.2.1, ())), ((d.1.2.2.1.1, (d.1.2.2.1.2.1, ())), ((d.1.2.2.2.1.1, ((bits2 .or .u32 d.1.2.2.2.1.2.1 r2), ())), ())))), (d.2.1, (d.2.2.1, (d.2.2.2.1, (d.2.2.2.2.1, ((IntKind.wrap .i64 (d.2.2.2.2.2.1 + (1 : Int))), ()))))))))
      (.ret (Sum.inl (((d.1.1.1, (d.1.1.2.1, ())), ((d.1.2.1.1, (d.1.2.1.2.1, ())), ((d.1.2.2.1.1, (d.1.2.2.1.2.1, ())), ((d.1.2.2.2.1.1, (d.1.2.2.2.1.2.1, ())), ())))), (d.2.1, (d.2.2.1, (d.2.2.2.1, (d.2.2.2.2.1, ((IntKind.wrap .i64 (d.2.2.2.2.2.1 + (1 : Int))), ())))))))))
    (.ret (Sum.inr (((d.1.1.1, (d.1.1.2.1, ())), ((d.1.2.1.1, (d.1.2.1.2.1, ())), ((d.1.2.2.1.1, (d.1.2.2.1.2.1, ())), ((d.1.2.2.2.1.1, (d.1.2.2.2.1.2.1, ())), ())))), (d.2.2.1, (d.2.2.2.1, ()))))))
def i_Graph_opposite_L1 (d : (((Int × (Int × Unit)) × ((Int × (Int × Unit)) × ((Int × (Int × Unit)) × ((Int × (Int × Unit)) × Unit)))) × (Int × (Int × Unit)))) : Option ((((Int × (Int × Unit)) × ((Int × (Int × Unit)) × ((Int × (Int × Unit)) × ((Int × (Int × Unit)) × Unit)))) × (Int × (Int × Unit))) ⊕ (((Int × (Int × Unit)) × ((Int × (Int × Unit)) × ((Int × (Int × Unit)) × ((Int × (Int × Unit)) × Unit)))) × Unit)) := T.run (
  .ite (decide (d.2.2.1 < d.2.1))
    (.call (rounds i_Graph_opposite_L2 (((d.1.1.1, (d.1.1.2.1, ())), ((d.1.2.1.1, (d.1.2.1.2.1, ())), ((d.1.2.2.1.1, (d.1.2.2.1.2.1, ())), ((d.1.2.2.2.1.1, (d.1.2.2.2.1.2.1, ())), ())))), (d.2.2.1, (d.2.1, (d.2.2.1, (d.2.2.1, ((0 : Int), ()))))))) fun o1 =>
    .ret (Sum.inl (((o1.1.1.1, (o1.1.1.2.1, ())), ((o1.1.2.1.1, (o1.1.2.1.2.1, ())), ((o1.1.2.2.1.1, (o1.1.2.2.1.2.1, ())), ((o1.1.2.2.2.1.1, (o1.1.2.2.2.1.2.1, ())), ())))), (o1.2.1, ((IntKind.wrap .i64 (o1.2.2.1 + (1 : Int))), ())))))
    (.ret (Sum.inr (((d.1.1.1, (d.1.1.2.1, ())), ((d.1.2.1.1, (d.1.2.1.2.1, ())), ((d.1.2.2.1.1, (d.1.2.2.1.2.1, ())), ((d.1.2.2.2.1.1, (d.1.2.2.2.1.2.1, ())), ())))), ()))))
def i_Graph_opposite_t (g : (Int × Int)) : T (Int × Int) :=
  .call (rounds i_Graph_opposite_L1 (((g.1, (g.2, ())), (((0 : Int), ((0 : Int), ())), (((0 : Int), ((0 : Int), ())), ((g.1, ((0 : Int), ())), ())))), (g.1, ((0 : Int), ())))) fun o1 =>
  .ret (o1.1.2.2.2.1.1, o1.1.2.2.2.1.2.1)
def i_OppositeGraph_t (g : (Int × Int)) : T ((Int × Int) × Int) :=
  .call ((i_ValidGraph_t (g.1, g.2)).run) fun r1 =>
  .ite ((!r1))
    (.ret (((0 : Int), (0 : Int)), (1 : Int)))
    (.call ((i_Graph_opposite_t (g.1, g.2)).run) fun r2 =>
    .ret ((r2.1, r2.2), (0 : Int)))
def i_DegreesOf_L1 (d : (Unit × (List Int × (List ((Int × Int)) × (Int × (Int × Unit)))))) : Option ((Unit × (List Int × (List ((Int × Int)) × (Int × (Int × Unit))))) ⊕ (Unit × (List Int × Unit))) := T.run (
  .ite (decide (d.2.2.2.2.1 < d.2.2.2.1))
    (.ite (decide (0 ≤ d.2.2.2.2.1)) (
      .ite (decide (d.2.2.2.2.1 < ((d.2.2.1).length : Int))) (
        .ite (decide (0 ≤ (List.getD d.2.2.1 (Int.toNat d.2.2.2.2.1) ((0 : Int), (0 : Int))).1)) (
          .ite (decide ((List.getD d.2.2.1 (Int.toNat d.2.2.2.2.1) ((0 : Int), (0 : Int))).1 < ((d.2.1).length : Int))) (
            .ite (decide (0 ≤ (List.getD d.2.2.1 (Int.toNat d.2.2.2.2.1) ((0 : Int), (0 : Int))).1)) (
              .ite (decide ((List.getD d.2.2.1 (Int.toNat d.2.2.2.2.1) ((0 : Int), (0 : Int))).1 < ((d.2.1).length : Int))) (
                .ite (decide (0 ≤ (List.getD d.2.2.1 (Int.toNat d.2.2.2.2.1) ((0 : Int), (0 : Int))).2)) (
                  .ite (decide ((List.getD d.2.2.1 (Int.toNat d.2.2.2.2.1) ((0 : Int), (0 : Int))).2 < (((List.set d.2.1 (Int.toNat ((List.getD d.2.2.1 (Int.toNat d.2.2.2.2.1) ((0 : Int), (0 : Int))).1)) (IntKind.wrap .i64 ((List.getD d.2.1 (Int.toNat ((List.getD d.2.2.1 (Int.toNat d.2.2.2.2.1) ((0 : Int), (0 : Int))).1)) (0 : Int)) + (1 : Int))))).length : Int))) (
                    .ite (decide (0 ≤ (List.getD d.2.2.1 (Int.toNat d.2.2.2.2.1) ((0 : Int), (0 : Int))).2)) (
                      .ite (decide ((List.getD d.2.2.1 (Int.toNat d.2.2.2.2.1) ((0 : Int), (0 : Int))).2 < (((List.set d.2.1 (Int.toNat ((List.getD d.2.2.1 (Int.toNat d.2.2.2.2.1) ((0 : Int), (0 : Int))).1)) (IntKind.wrap .i64 ((List.getD d.2.1 (Int.toNat ((List.getD d.2.2.1 (Int.toNat d.2.2.2.2.1) ((0 : Int), (0 : Int))).1)) (0 : Int)) + (1 : Int))))).length : Int))) (
                        .ret (Sum.inl ((), ((List.set (List.set d.2.1 (Int.toNat ((List.getD d.2.2.1 (Int.toNat d.2.2.2.2.1) ((0 : Int), (0 : Int))).1)) (IntKind.wrap .i64 ((List.getD d.2.1 (Int.toNat ((List.getD d.2.2.1 (Int.toNat d.2.2.2.2.1) ((0 : Int), (0 : Int))).1)) (0 : Int)) + (1 : Int)))) (Int.toNat ((List.getD d.2.2.1 (Int.toNat d.2.2.2.2.1) ((0 : Int), (0 : Int))).2)) (IntKind.wrap .i64 ((List.getD (List.set d.2.1 (Int.toNat ((List.getD d.2.2.1 (Int.toNat d.2.2.2.2.1) ((0 : Int), (0 : Int))).1)) (IntKind.wrap .i64 ((List.getD d.2.1 (Int.toNat ((List.getD d.2.2.1 (Int.toNat d.2.2.2.2.1) ((0 : Int), (0 : Int))).1)) (0 : Int)) + (1 : Int)))) (Int.toNat ((List.getD d.2.2.1 (Int.toNat d.2.2.2.2.1) ((0 : Int), (0 : Int))).2)) (0 : Int)) + (1 : Int)))), (d.2.2.1, (d.2.2.2.1, ((IntKind.wrap .i64 (d.2.2.2.2.1 + (1 : Int))), ()))))))) .fail) .fail) .fail) .fail) .fail) .fail) .fail) .fail) .fail) .fail)
    (.ret (Sum.inr ((), (d.2.1, ())))))
def i_DegreesOf_t (g : (Int × Int)) : T (List (Int) × Int) :=
  .call ((i_ValidGraph_t (g.1, g.2)).run) fun r1 =>
  .ite ((!r1))
    (.ret ([], (1 : Int)))
    (.ite (decide (0 ≤ g.1)) (
      .ite (decide (g.1 ≤ g.1)) (
        .ite (decide ((Int.toNat g.1) * 8 ≤ roomLimit)) (
          .call ((i_Graph_edges_t (g.1, g.2)).run) fun r2 =>
          .call (rounds i_DegreesOf_L1 ((), ((List.replicate (Int.toNat g.1) (0 : Int)), (r2, (((r2).length : Int), ((0 : Int), ())))))) fun o3 =>
          .ret (o3.2.1, (0 : Int))) .fail) .fail) .fail)
def i_HasEdge_t (g : (Int × Int)) (i : Int) (j : Int) : T (Bool × Int) :=
  .call ((i_ValidGraph_t (g.1, g.2)).run) fun r1 =>
  .ite ((!r1))
    (.ret (false, (1 : Int)))
    (.call ((i_isPair_t g.1 i j).run) fun r2 =>
    .ite ((!r2))
      (.ret (false, (2 : Int)))
      (.call ((i_Graph_has_t (g.1, g.2) i j).run) fun r3 =>
      .ret (r3, (0 : Int))))
def i_WithEdge_t (g : (Int × Int)) (i : Int) (j : Int) (on : Bool) : T ((Int × Int) × Int) :=
  .call ((i_ValidGraph_t (g.1, g.2)).run) fun r1 =>
  .ite ((!r1))
    (.ret (((0 : Int), (0 : Int)), (1 : Int)))
    (.call ((i_isPair_t g.1 i j).run) fun r2 =>
    .ite ((!r2))
      (.ret (((0 : Int), (0 : Int)), (2 : Int)))
      (.call ((i_bit_t i j).run) fun r3 =>
      .ite (on)
        (.call ((i_bit_t i j).run) fun r4 =>
        .ret ((g.1, (bits2 .or .u32 (bits2 .andNot .u32 g.2 r3) r4)), (0 : Int)))
        (.ret ((g.1, (bits2 .andNot .u32 g.2 r3)), (0 : Int)))))
def l_FnEdges_L2 (d : (((Int × (Int × Unit)) × ((Int × (Int × Unit)) × Unit)) × (List ((Int × Int)) × (List Int × (Int × (Int × (Int × Unit))))))) : Option ((((Int × (Int × Unit)) × ((Int × (Int × Unit)) × Unit)) × (List ((Int × Int)) × (List Int × (Int × (Int × (Int × Unit)))))) ⊕ ((Unit × (Bool × Unit)) ⊕ (((Int × (Int × Unit)) × ((Int × (Int × Unit)) × Unit)) × (List ((Int × Int)) × (List Int × (Int × (Int × Unit))))))) := T.run (
  .ite (decide (d.2.2.2.2.2.1 < d.1.1.1))
    (.ite ((d.2.2.2.2.1 == d.2.2.2.2.2.1))
      (.ret (Sum.inl (((d.1.1.1, (d.1.1.2.1, ())), ((d.1.2.1.1, (d.1.2.1.2.1, ())), ())), (d.2.1, (d.2.2.1, (d.2.2.2.1, (d.2.2.2.2.1, ((IntKind.wrap .i64 (d.2.2.2.2.2.1 + (1 : Int))), ()))))))))
      (.call ((i_HasEdge_t (d.1.1.1, d.1.1.2.1) d.2.2.2.2.1 d.2.2.2.2.2.1).run) fun r1 =>
      .call ((i_HasEdge_t (d.1.2.1.1, d.1.2.1.2.1) d.2.2.2.2.2.1 d.2.2.2.2.1).run) fun r2 =>
      .call ((i_WithEdge_t (d.1.1.1, d.1.1.2.1) d.2.2.2.2.1 d.2.2.2.2.2.1 true).run) fun r3 =>
      .call ((i_WithEdge_t (r3.1.1, r3.1.2) d.2.2.2.2.2.1 d.2.2.2.2.1 false).run) fun r4 =>
      .call ((i_HasEdge_t (r3.1.1, r3.1.2) d.2.2.2.2.1 d.2.2.2.2.2.1).run) fun r5 =>
      .call ((i_HasEdge_t (r4.1.1, r4.1.2) d.2.2.2.2.1 d.2.2.2.2.2.1).run) fun r6 =>
      .ite ((r1.2 != (0 : Int)))
        (.ret (Sum.inr (Sum.inl ((), (false, ())))))
        (.ite ((r2.2 != (0 : Int)))
          (.ret (Sum.inr (Sum.inl ((), (false, ())))))
          (.ite ((r1.1 == r2.1))
            (.ret (Sum.inr (Sum.inl ((), (false, ())))))
            (.ite ((r3.2 != (0 : Int)))
              (.ret (Sum.inr (Sum.inl ((), (false, ())))))
              (.ite ((r4.2 != (0 : Int)))
                (.ret (Sum.inr (Sum.inl ((), (false, ())))))
                (.ite ((r5.2 != (0 : Int)))
                  (.ret (Sum.inr (Sum.inl ((), (false, ())))))
                  (.ite ((!r5.1))
                    (.ret (Sum.inr (Sum.inl ((), (false, ())))))
                    (.ite ((r6.2 != (0 : Int)))
                      (.ret (Sum.inr (Sum.inl ((), (false, ())))))
                      (.ite (r6.1)
                        (.ret (Sum.inr (Sum.inl ((), (false, ())))))
                        (.ite (r1.1)
                          (.ite ((!((r3.1.1 == d.1.1.1) && ((r3.1.2 == d.1.1.2.1) && true))))
                            (.ret (Sum.inr (Sum.inl ((), (false, ())))))
                            (.ite ((!r1.1))
                              (.ite ((!((r4.1.1 == d.1.1.1) && ((r4.1.2 == d.1.1.2.1) && true))))
                                (.ret (Sum.inr (Sum.inl ((), (false, ())))))
                                (.ret (Sum.inl (((d.1.1.1, (d.1.1.2.1, ())), ((d.1.2.1.1, (d.1.2.1.2.1, ())), ())), (d.2.1, (d.2.2.1, (d.2.2.2.1, (d.2.2.2.2.1, ((IntKind.wrap .i64 (d.2.2.2.2.2.1 + (1 : Int))), ())))))))))
                              (.ret (Sum.inl (((d.1.1.1, (d.1.1.2.1, ())), ((d.1.2.1.1, (d.1.2.1.2.1, ())), ())), (d.2.1, (d.2.2.1, (d.2.2.2.1, (d.2.2.2.2.1, ((IntKind.wrap .i64 (d.2.2.2.2.2.1 + (1 : Int))), ()))))))))))
                          (.ite ((!r1.1))
                            (.ite ((!((r4.1.1 == d.1.1.1) && ((r4.1.2 == d.1.1.2.1) && true))))
                              (.ret (Sum.inr (Sum.inl ((), (false, ())))))
                              (.ret (Sum.inl (((d.1.1.1, (d.1.1.2.1, ())), ((d.1.2.1.1, (d.1.2.1.2.1, ())), ())), (d.2.1, (d.2.2.1, (d.2.2.2.1, (d.2.2.2.2.1, ((IntKind.wrap .i64 (d.2.2.2.2.2.1 + (1 : Int))), ())))))))))
                            (.ret (Sum.inl (((d.1.1.1, (d.1.1.2.1, ())), ((d.1.2.1.1, (d.1.2.1.2.1, ())), ())), (d.2.1, (d.2.2.1, (d.2.2.2.1, (d.2.2.2.2.1, ((IntKind.wrap .i64 (d.2.2.2.2.2.1 + (1 : Int))), ()))))))))))))))))))))
    (.ret (Sum.inr (Sum.inr (((d.1.1.1, (d.1.1.2.1, ())), ((d.1.2.1.1, (d.1.2.1.2.1, ())), ())), (d.2.1, (d.2.2.1, (d.2.2.2.1, (d.2.2.2.2.1, ())))))))))
def l_FnEdges_L1 (d : (((Int × (Int × Unit)) × ((Int × (Int × Unit)) × Unit)) × (List ((Int × Int)) × (List Int × (Int × (Int × Unit)))))) : Option ((((Int × (Int × Unit)) × ((Int × (Int × Unit)) × Unit)) × (List ((Int × Int)) × (List Int × (Int × (Int × Unit))))) ⊕ ((Unit × (Bool × Unit)) ⊕ (Unit × (List ((Int × Int)) × (Int × Unit))))) := T.run (
  .ite (decide (d.2.2.2.2.1 < d.1.1.1))
    (.ite (decide (0 ≤ d.2.2.2.2.1)) (
      .ite (decide (d.2.2.2.2.1 < ((d.2.2.1).length : Int))) (
        .call (rounds l_FnEdges_L2 (((d.1.1.1, (d.1.1.2.1, ())), ((d.1.2.1.1, (d.1.2.1.2.1, ())), ())), (d.2.1, (d.2.2.1, ((IntKind.wrap .i64 (d.2.2.2.1 + (List.getD d.2.2.1 (Int.toNat d.2.2.2.2.1) (0 : Int)))), (d.2.2.2.2.1, ((0 : Int), ()))))))) fun o1 =>
        .alt o1
          (fun x2 => .ret (Sum.inr (Sum.inl ((), (x2.2.1, ())))))
          (fun y3 => .ret (Sum.inl (((y3.1.1.1, (y3.1.1.2.1, ())), ((y3.1.2.1.1, (y3.1.2.1.2.1, ())), ())), (y3.2.1, (y3.2.2.1, (y3.2.2.2.1, ((IntKind.wrap .i64 (y3.2.2.2.2.1 + (1 : Int))), ())))))))) .fail) .fail)
    (.ret (Sum.inr (Sum.inr ((), (d.2.1, (d.2.2.2.1, ())))))))
def l_FnEdges_t (a0 : List Int) (a1 : List Int) : T Bool :=
  .call ((l_a2Long_t a0 a1).run) fun r1 =>
  .ite (r1)
    (.ret true)
    (.call ((l_a2At_t a1 (0 : Int) (6 : Int)).run) fun r2 =>
    .call ((s_A2Graph_t a0 r2).run) fun r3 =>
    .call ((i_PairsOf_t (r3.1, r3.2)).run) fun r4 =>
    .call ((i_GraphOf_t r3.1 r4.1).run) fun r5 =>
    .call ((i_GraphText_t (r3.1, r3.2)).run) fun r6 =>
    .call ((i_ReadGraph_t r6).run) fun r7 =>
    .call ((i_OppositeGraph_t (r3.1, r3.2)).run) fun r8 =>
    .call ((i_DegreesOf_t (r3.1, r3.2)).run) fun r9 =>
    .ite ((r4.2 != (0 : Int)))
      (.ret false)
      (.ite ((r5.2 != (0 : Int)))
        (.ret false)
        (.ite ((!((r5.1.1 == r3.1) && ((r5.1.2 == r3.2) && true))))
          (.ret false)
          (.ite ((r7.2 != (0 : Int)))
            (.ret false)
            (.ite ((!((r7.1.1 == r3.1) && ((r7.1.2 == r3.2) && true))))
              (.ret false)
              (.ite ((r8.2 != (0 : Int)))
                (.ret false)
                (.ite ((r9.2 != (0 : Int)))
                  (.ret false)
                  (.ite ((((r9.1).length : Int) != r3.1))
                    (.ret false)
                    (.call ((i_ValidGraph_t (r3.1, r3.2)).run) fun r10 =>
                    .ite ((!r10))
                      (.ret false)
                      (.call (rounds l_FnEdges_L1 (((r3.1, (r3.2, ())), ((r8.1.1, (r8.1.2, ())), ())), (r4.1, (r9.1, ((0 : Int), ((0 : Int), ())))))) fun o11 =>
                      .alt o11
                        (fun x12 => .ret x12.2.1)
                        (fun y13 => .ret (y13.2.2.1 == (IntKind.wrap .i64 ((2 : Int) * ((y13.2.1).length : Int)))))))))))))))
end Vm
set_option linter.unusedVariables false
namespace Vm
open Go
def s_l01Split_L1 (d : (Unit × (ByteArray × (Int × (List ByteArray × (Int × (Int × Unit))))))) : Option ((Unit × (ByteArray × (Int × (List ByteArray × (Int × (Int × Unit)))))) ⊕ (Unit × (ByteArray × (List ByteArray × (Int × Unit))))) := T.run (
  .ite (decide (d.2.2.2.2.2.1 < ((d.2.1).size : Int)))
    (.ite (decide (0 ≤ d.2.2.2.2.2.1)) (
      .ite (decide (d.2.2.2.2.2.1 < ((d.2.1).size : Int))) (
        .ite (((bt d.2.1 d.2.2.2.2.2.1) == d.2.2.1))
          (.ite (decide (0 ≤ d.2.2.2.2.1)) (
            .ite (decide (d.2.2.2.2.1 ≤ d.2.2.2.2.2.1)) (
              .ite (decide (d.2.2.2.2.2.1 ≤ ((d.2.1).size : Int))) (
                .ite (decide (((d.2.2.2.1).length + ([(ByteArray.extract d.2.1 (Int.toNat d.2.2.2.2.1) (Int.toNat d.2.2.2.2.2.1))]).length) * 16 ≤ roomLimit)) (
                  .ret (Sum.inl ((), (d.2.1, (d.2.2.1, ((d.2.2.2.1 ++ [(ByteArray.extract d.2.1 (Int.toNat d.2.2.2.2.1) (Int.toNat d.2.2.2.2.2.1))]), ((IntKind.wrap .i64 (d.2.2.2.2.2.1 + (1 : Int))), ((IntKind.wrap .i64 (d.2.2.2.2.2.1 + (1 : Int))), ())))))))) .fail) .fail) .fail) .fail)
          (.ret (Sum.inl ((), (d.2.1, (d.2.2.1, (d.2.2.2.1, (d.2.2.2.2.1, ((IntKind.wrap .i64 (d.2.2.2.2.2.1 + (1 : Int))), ()))))))))) .fail) .fail)
    (.ret (Sum.inr ((), (d.2.1, (d.2.2.2.1, (d.2.2.2.2.1, ())))))))
def s_l01Split_t (text : ByteArray) (a1 : Int) : T (List (ByteArray)) :=
  .call (rounds s_l01Split_L1 ((), (text, (a1, ([], ((0 : Int), ((0 : Int), ()))))))) fun o1 =>
  .ite (decide (0 ≤ o1.2.2.2.1)) (
    .ite (decide (o1.2.2.2.1 ≤ ((o1.2.1).size : Int))) (
      .ite (decide (((o1.2.1).size : Int) ≤ ((o1.2.1).size : Int))) (
        .ite (decide (((o1.2.2.1).length + ([(ByteArray.extract o1.2.1 (Int.toNat o1.2.2.2.1) (Int.toNat ((o1.2.1).size : Int)))]).length) * 16 ≤ roomLimit)) (
          .ret (o1.2.2.1 ++ [(ByteArray.extract o1.2.1 (Int.toNat o1.2.2.2.1) (Int.toNat ((o1.2.1).size : Int)))])) .fail) .fail) .fail) .fail
def s_l01Number_L1 (d : (Unit × (ByteArray × (Int × (Int × Unit))))) : Option ((Unit × (ByteArray × (Int × (Int × Unit)))) ⊕ ((Unit × (Int × (Bool × Unit))) ⊕ (Unit × (Int × Unit)))) := T.run (
  .ite (decide (d.2.2.2.1 < ((d.2.1).size : Int)))
    (.ite (decide (0 ≤ d.2.2.2.1)) (
      .ite (decide (d.2.2.2.1 < ((d.2.1).size : Int))) (
        .ite (decide ((bt d.2.1 d.2.2.2.1) < (48 : Int)))
          (.ret (Sum.inr (Sum.inl ((), ((0 : Int), (false, ()))))))
          (.ite (decide (0 ≤ d.2.2.2.1)) (
            .ite (decide (d.2.2.2.1 < ((d.2.1).size : Int))) (
              .ite (decide ((bt d.2.1 d.2.2.2.1) > (57 : Int)))
                (.ret (Sum.inr (Sum.inl ((), ((0 : Int), (false, ()))))))
                (.ite (decide (0 ≤ d.2.2.2.1)) (
                  .ite (decide (d.2.2.2.1 < ((d.2.1).size : Int))) (
                    .ret (Sum.inl ((), (d.2.1, ((IntKind.wrap .i64 ((IntKind.wrap .i64 (d.2.2.1 * (10 : Int))) + (IntKind.wrap .i64 (IntKind.wrap .u8 ((bt d.2.1 d.2.2.2.1) - (48 : Int)))))), ((IntKind.wrap .i64 (d.2.2.2.1 + (1 : Int))), ())))))) .fail) .fail)) .fail) .fail)) .fail) .fail)
    (.ret (Sum.inr (Sum.inr ((), (d.2.2.1, ()))))))
def s_l01Number_t (s : ByteArray) : T (Int × Bool) :=
  .ite (decide (((s).size : Int) < (1 : Int)))
    (.ret ((0 : Int), false))
    (.ite (decide (((s).size : Int) > (9 : Int)))
      (.ret ((0 : Int), false))
      (.ite (decide ((0 : Int) < ((s).size : Int))) (
        .ite (((bt s (0 : Int)) == (48 : Int)))
          (.ite (decide (((s).size : Int) > (1 : Int)))
            (.ret ((0 : Int), false))
            (.call (rounds s_l01Number_L1 ((), (s, ((0 : Int), ((0 : Int), ()))))) fun o1 =>
            .alt o1
              (fun x2 => .ret (x2.2.1, x2.2.2.1))
              (fun y3 => .ret (y3.2.1, true))))
          (.call (rounds s_l01Number_L1 ((), (s, ((0 : Int), ((0 : Int), ()))))) fun o4 =>
          .alt o4
            (fun x5 => .ret (x5.2.1, x5.2.2.1))
            (fun y6 => .ret (y6.2.1, true)))) .fail))
def s_l00In_t (n : Int) (low : Int) (high : Int) : T Bool :=
  .ite (decide (n ≥ low))
    (.ret (decide (n ≤ high)))
    (.ret false)
def s_l01Pair_t (n : Int) (i : Int) (j : Int) : T Bool :=
  .call ((s_l00In_t i (0 : Int) (IntKind.wrap .i64 (n - (1 : Int)))).run) fun r1 =>
  .ite (r1)
    (.call ((s_l00In_t j (0 : Int) (IntKind.wrap .i64 (n - (1 : Int)))).run) fun r2 =>
    .ite (r2)
      (.ret (i != j))
      (.ret false))
    (.ret false)
def s_l01Bit_t (rec : Int → Int → Option Int) (i : Int) (j : Int) : T Int :=
  .ite (decide (i > j))
    (.call (rec j i) fun r1 =>
    .ret r1)
    (.call ((s_l01Bits_t j).run) fun r2 =>
    .ite (decide ((IntKind.wrap .u64 (IntKind.wrap .i64 (r2 + i))) < 0))
      (.fail)
      (.ret (shl .u32 (1 : Int) (IntKind.wrap .u64 (IntKind.wrap .i64 (r2 + i))))))
def s_l01Bit_r : Nat → Int → Int → Option Int
  | 0, _, _ => none
  | k + 1, i, j => (s_l01Bit_t (s_l01Bit_r k) i j).run
def s_l01Ok_t (g : (Int × Int)) : T Bool :=
  .call ((s_l00In_t g.1 (0 : Int) (5 : Int)).run) fun r1 =>
  .ite (r1)
    (.call ((s_l01Bits_t g.1).run) fun r2 =>
    .ite (decide ((IntKind.wrap .u64 r2) < 0))
      (.fail)
      (.ret (decide ((IntKind.wrap .i64 g.2) < (shl .i64 (1 : Int) (IntKind.wrap .u64 r2))))))
    (.ret false)
def s_Decimal_t (rec : Int → Option ByteArray) (n : Int) : T ByteArray :=
  .ite (decide (n ≥ (10 : Int)))
    (.call (rec (IntKind.wrap .i64 (Int.tdiv n (10 : Int)))) fun r1 =>
    .ite (decide ((r1).size + ((bytesOf ([(IntKind.wrap .u8 (IntKind.wrap .i64 ((48 : Int) + (Int.tmod n (10 : Int)))))]))).size ≤ catLimit)) (
      .ret (r1 ++ (bytesOf ([(IntKind.wrap .u8 (IntKind.wrap .i64 ((48 : Int) + (Int.tmod n (10 : Int)))))])))) .fail)
    (.ret (bytesOf ([(IntKind.wrap .u8 (IntKind.wrap .i64 ((48 : Int) + n)))])))
def s_Decimal_r : Nat → Int → Option ByteArray
  | 0, _ => none
  | k + 1, n => (s_Decimal_t (s_Decimal_r k) n).run
def s_l01Joined_t (g : (Int × Int)) (i : Int) (j : Int) : T Bool :=
  .ite ((i != j))
    (.call (s_l01Bit_r 24 i j) fun r1 =>
    .ret ((bits2 .and .u32 g.2 r1) != (0 : Int)))
    (.ret false)
def s_l01Pairs_L2 (d : (((Int × (Int × Unit)) × Unit) × (List ((Int × Int)) × (Int × (Int × Unit))))) : Option ((((Int × (Int × Unit)) × Unit) × (List ((Int × Int)) × (Int × (Int × Unit)))) ⊕ (((Int × (Int × Unit)) × Unit) × (List ((Int × Int)) × (Int × Unit)))) := T.run (
  .ite (decide (d.2.2.2.1 < d.2.2.1))
    (.call ((s_l01Joined_t (d.1.1.1, d.1.1.2.1) d.2.2.2.1 d.2.2.1).run) fun r1 =>
    .ite (r1)
      (.ite (decide (((d.2.1).length + ([(d.2.2.2.1, d.2.2.1)]).length) * 16 ≤ roomLimit)) (
        .ret (Sum.inl (((d.1.1.1, (d.1.1.2.1, ())), ()), ((d.2.1 ++ [(d.2.2.2.1, d.2.2.1)]), (d.2.2.1, ((IntKind.wrap .i64 (d.2.2.2.1 + (1 : Int))), ())))))) .fail)
      (.ret (Sum.inl (((d.1.1.1, (d.1.1.2.1, ())), ()), (d.2.1, (d.2.2.1, ((IntKind.wrap .i64 (d.2.2.2.1 + (1 : Int))), ())))))))
    (.ret (Sum.inr (((d.1.1.1, (d.1.1.2.1, ())), ()), (d.2.1, (d.2.2.1, ()))))))
def s_l01Pairs_L1 (d : (((Int × (Int × Unit)) × Unit) × (List ((Int × Int)) × (Int × Unit)))) : Option ((((Int × (Int × Unit)) × Unit) × (List ((Int × Int)) × (Int × Unit))) ⊕ (Unit × (List ((Int × Int)) × Unit))) := T.run (
  .ite (decide (d.2.2.1 < d.1.1.1))
    (.call (rounds s_l01Pairs_L2 (((d.1.1.1, (d.1.1.2.1, ())), ()), (d.2.1, (d.2.2.1, ((0 : Int), ()))))) fun o1 =>
    .ret (Sum.inl (((o1.1.1.1, (o1.1.1.2.1, ())), ()), (o1.2.1, ((IntKind.wrap .i64 (o1.2.2.1 + (1 : Int))), ())))))
    (.ret (Sum.inr ((), (d.2.1, ())))))
def s_l01Pairs_t (g : (Int × Int)) : T (List ((Int × Int))) :=
  .call (rounds s_l01Pairs_L1 (((g.1, (g.2, ())), ()), ([], ((1 : Int), ())))) fun o1 =>
  .ret o1.2.1
def s_GraphText_L1 (d : (Unit × (ByteArray × (List ((Int × Int)) × (Int × Unit))))) : Option ((Unit × (ByteArray × (List ((Int × Int)) × (Int × Unit)))) ⊕ (Unit × (ByteArray × Unit))) := T.run (
  .ite (decide (d.2.2.2.1 < ((d.2.2.1).length : Int)))
    (.ite (decide (0 ≤ d.2.2.2.1)) (
      .ite (decide (d.2.2.2.1 < ((d.2.2.1).length : Int))) (
        .call (s_Decimal_r 24 ((List.getD d.2.2.1 (Int.toNat d.2.2.2.1) ((0 : Int), (0 : Int))).1)) fun r1 =>
        .ite (decide (((bs [32])).size + (r1).size ≤ catLimit)) (
          .ite (decide ((((bs [32]) ++ r1)).size + ((bs [45])).size ≤ catLimit)) (
            .ite (decide (0 ≤ d.2.2.2.1)) (
              .ite (decide (d.2.2.2.1 < ((d.2.2.1).length : Int))) (
                .call (s_Decimal_r 24 ((List.getD d.2.2.1 (Int.toNat d.2.2.2.1) ((0 : Int), (0 : Int))).2)) fun r2 =>
                .ite (decide (((((bs [32]) ++ r1) ++ (bs [45]))).size + (r2).size ≤ catLimit)) (
                  .ite (decide ((d.2.1).size + (((((bs [32]) ++ r1) ++ (bs [45])) ++ r2)).size ≤ catLimit)) (
                    .ret (Sum.inl ((), ((d.2.1 ++ ((((bs [32]) ++ r1) ++ (bs [45])) ++ r2)), (d.2.2.1, ((IntKind.wrap .i64 (d.2.2.2.1 + (1 : Int))), ())))))) .fail) .fail) .fail) .fail) .fail) .fail) .fail) .fail)
    (.ret (Sum.inr ((), (d.2.1, ())))))
def s_GraphText_t (g : (Int × Int)) : T ByteArray :=
  .call ((s_l01Ok_t (g.1, g.2)).run) fun r1 =>
  .ite ((!r1))
    (.ret (bs []))
    (.call (s_Decimal_r 24 g.1) fun r2 =>
    .ite (decide (((bs [103, 114, 97, 112, 104, 32])).size + (r2).size ≤ catLimit)) (
      .call ((s_l01Pairs_t (g.1, g.2)).run) fun r3 =>
      .call (rounds s_GraphText_L1 ((), (((bs [103, 114, 97, 112, 104, 32]) ++ r2), (r3, ((0 : Int), ()))))) fun o4 =>
      .ret o4.2.1) .fail)
def s_ReadGraph_L1 (d : (((Int × (Int × Unit)) × ((Int × (Int × Unit)) × Unit)) × (ByteArray × (List ByteArray × (Int × (Int × Unit)))))) : Option ((((Int × (Int × Unit)) × ((Int × (Int × Unit)) × Unit)) × (ByteArray × (List ByteArray × (Int × (Int × Unit))))) ⊕ ((((Int × (Int × Unit)) × Unit) × (Int × Unit)) ⊕ (((Int × (Int × Unit)) × ((Int × (Int × Unit)) × Unit)) × (ByteArray × Unit)))) := T.run (
  .ite (decide (d.2.2.2.2.1 < ((d.2.2.1).length : Int)))
    (.ite (decide (0 ≤ d.2.2.2.2.1)) (
      .ite (decide (d.2.2.2.2.1 < ((d.2.2.1).length : Int))) (
        .call ((s_l01Split_t (List.getD d.2.2.1 (Int.toNat d.2.2.2.2.1) ByteArray.empty) (45 : Int)).run) fun r1 =>
        .ite ((((r1).length : Int) != (2 : Int)))
          (.ret (Sum.inr (Sum.inl ((((0 : Int), ((0 : Int), ())), ()), ((5 : Int), ())))))
          (.ite (decide ((0 : Int) < ((r1).length : Int))) (
            .call ((s_l01Number_t (List.getD r1 (Int.toNat (0 : Int)) ByteArray.empty)).run) fun r2 =>
            .ite (decide ((1 : Int) < ((r1).length : Int))) (
              .call ((s_l01Number_t (List.getD r1 (Int.toNat (1 : Int)) ByteArray.empty)).run) fun r3 =>
              .ite ((!r2.2))
                (.ret (Sum.inr (Sum.inl ((((0 : Int), ((0 : Int), ())), ()), ((5 : Int), ())))))
                (.ite ((!r3.2))
                  (.ret (Sum.inr (Sum.inl ((((0 : Int), ((0 : Int), ())), ()), ((5 : Int), ())))))
                  (.call ((s_l01Pair_t d.2.2.2.1 r2.1 r3.1).run) fun r4 =>
                  .ite ((!r4))
                    (.ret (Sum.inr (Sum.inl ((((0 : Int), ((0 : Int), ())), ()), ((5 : Int), ())))))
                    (.call (s_l01Bit_r 24 r2.1 r3.1) fun r5 =>
                    .ret (Sum.inl (((d.1.1.1, (d.1.1.2.1, ())), ((d.1.2.1.1, ((bits2 .or .u32 d.1.2.1.2.1 r5), ())), ())), (d.2.1, (d.2.2.1, (d.2.2.2.1, ((IntKind.wrap .i64 (d.2.2.2.2.1 + (1 : Int))), ())))))))))) .fail) .fail)) .fail) .fail)
    (.ret (Sum.inr (Sum.inr (((d.1.1.1, (d.1.1.2.1, ())), ((d.1.2.1.1, (d.1.2.1.2.1, ())), ())), (d.2.1, ()))))))
def s_ReadGraph_t (a0 : ByteArray) : T ((Int × Int) × Int) :=
  .call ((s_l01Split_t a0 (32 : Int)).run) fun r1 =>
  .ite (decide (((r1).length : Int) < (2 : Int)))
    (.ret (((0 : Int), (0 : Int)), (5 : Int)))
    (.ite (decide ((0 : Int) < ((r1).length : Int))) (
      .ite ((!((List.getD r1 (Int.toNat (0 : Int)) ByteArray.empty) == (bs [103, 114, 97, 112, 104]))))
        (.ret (((0 : Int), (0 : Int)), (5 : Int)))
        (.ite (decide ((1 : Int) < ((r1).length : Int))) (
          .call ((s_l01Number_t (List.getD r1 (Int.toNat (1 : Int)) ByteArray.empty)).run) fun r2 =>
          .ite ((!r2.2))
            (.ret (((0 : Int), (0 : Int)), (5 : Int)))
            (.ite (decide (r2.1 > (5 : Int)))
              (.ret (((0 : Int), (0 : Int)), (5 : Int)))
              (.call (rounds s_ReadGraph_L1 ((((0 : Int), ((0 : Int), ())), ((r2.1, ((0 : Int), ())), ())), (a0, (r1, (r2.1, ((2 : Int), ())))))) fun o3 =>
              .alt o3
                (fun x4 => .ret ((x4.1.1.1, x4.1.1.2.1), x4.2.1))
                (fun y5 => .call ((s_GraphText_t (y5.1.2.1.1, y5.1.2.1.2.1)).run) fun r6 =>
                .ite ((!(r6 == y5.2.1)))
                  (.ret (((0 : Int), (0 : Int)), (5 : Int)))
                  (.ret ((y5.1.2.1.1, y5.1.2.1.2.1), (0 : Int))))))) .fail)) .fail)
def s_l03Ok_t (f : (Int × (Int × Int))) : T Bool :=
  .call ((s_l01Ok_t (f.2.1, f.2.2)).run) fun r1 =>
  .ite (r1)
    (.call ((s_l00In_t f.1 (0 : Int) (3 : Int)).run) fun r2 =>
    .ite (r2)
      (.ret (decide (f.1 ≤ f.2.1)))
      (.ret false))
    (.ret false)
def s_ReadFlag_t (text : ByteArray) : T ((Int × (Int × Int)) × Int) :=
  .ite (decide (((text).size : Int) < (8 : Int)))
    (.ret (((0 : Int), ((0 : Int), (0 : Int))), (5 : Int)))
    (.ite (decide ((0 : Int) ≤ (5 : Int))) (
      .ite (decide ((5 : Int) ≤ ((text).size : Int))) (
        .ite ((!((ByteArray.extract text (Int.toNat (0 : Int)) (Int.toNat (5 : Int))) == (bs [102, 108, 97, 103, 32]))))
          (.ret (((0 : Int), ((0 : Int), (0 : Int))), (5 : Int)))
          (.ite (decide ((6 : Int) < ((text).size : Int))) (
            .ite (((bt text (6 : Int)) != (32 : Int)))
              (.ret (((0 : Int), ((0 : Int), (0 : Int))), (5 : Int)))
              (.ite (decide ((5 : Int) < ((text).size : Int))) (
                .ite (decide ((bt text (5 : Int)) < (48 : Int)))
                  (.ret (((0 : Int), ((0 : Int), (0 : Int))), (5 : Int)))
                  (.ite (decide ((5 : Int) < ((text).size : Int))) (
                    .ite (decide ((bt text (5 : Int)) > (51 : Int)))
                      (.ret (((0 : Int), ((0 : Int), (0 : Int))), (5 : Int)))
                      (.ite (decide ((7 : Int) ≤ ((text).size : Int))) (
                        .ite (decide (((text).size : Int) ≤ ((text).size : Int))) (
                          .call ((s_ReadGraph_t (ByteArray.extract text (Int.toNat (7 : Int)) (Int.toNat ((text).size : Int)))).run) fun r1 =>
                          .ite (decide ((5 : Int) < ((text).size : Int))) (
                            .ite ((r1.2 != (0 : Int)))
                              (.ret (((0 : Int), ((0 : Int), (0 : Int))), (5 : Int)))
                              (.call ((s_l03Ok_t ((IntKind.wrap .i64 (IntKind.wrap .u8 ((bt text (5 : Int)) - (48 : Int)))), (r1.1.1, r1.1.2))).run) fun r2 =>
                              .ite ((!r2))
                                (.ret (((0 : Int), ((0 : Int), (0 : Int))), (5 : Int)))
                                (.ret (((IntKind.wrap .i64 (IntKind.wrap .u8 ((bt text (5 : Int)) - (48 : Int)))), (r1.1.1, r1.1.2)), (0 : Int))))) .fail) .fail) .fail)) .fail)) .fail)) .fail)) .fail) .fail)
def i_ValidFlag_t (f : (Int × (Int × Int))) : T Bool :=
  .call ((i_ValidGraph_t (f.2.1, f.2.2)).run) fun r1 =>
  .ite (r1)
    (.call ((i_in_t f.1 (0 : Int) (3 : Int)).run) fun r2 =>
    .ite (r2)
      (.ret (decide (f.1 ≤ f.2.1)))
      (.ret false))
    (.ret false)
def i_ReadFlag_t (text : ByteArray) : T ((Int × (Int × Int)) × Int) :=
  .call (cutPreF text (bs [102, 108, 97, 103, 32])) fun r1 =>
  .call (cutF r1.1 (bs [32])) fun r2 =>
  .call (numF r2.1) fun r3 =>
  .call ((i_ReadGraph_t r2.2.1).run) fun r4 =>
  .ite ((!r1.2))
    (.ret (((0 : Int), ((0 : Int), (0 : Int))), (5 : Int)))
    (.ite ((!r2.2.2))
      (.ret (((0 : Int), ((0 : Int), (0 : Int))), (5 : Int)))
      (.ite ((!r3.2))
        (.ret (((0 : Int), ((0 : Int), (0 : Int))), (5 : Int)))
        (.ite ((r4.2 != (0 : Int)))
          (.ret (((0 : Int), ((0 : Int), (0 : Int))), (5 : Int)))
          (.call ((i_ValidFlag_t (r3.1, (r4.1.1, r4.1.2))).run) fun r5 =>
          .ite ((!r5))
            (.ret (((0 : Int), ((0 : Int), (0 : Int))), (5 : Int)))
            (.ret ((r3.1, (r4.1.1, r4.1.2)), (0 : Int)))))))
def l_eqGraph_t (a : (Int × Int)) (b : (Int × Int)) : T Bool :=
  .ite ((a.1 != b.1))
    (.ret false)
    (.ite ((a.2 != b.2))
      (.ret false)
      (.ret true))
def l_eqFlag_t (a : (Int × (Int × Int))) (b : (Int × (Int × Int))) : T Bool :=
  .ite ((a.1 != b.1))
    (.ret false)
    (.call ((l_eqGraph_t (a.2.1, a.2.2) (b.2.1, b.2.2)).run) fun r1 =>
    .ite ((!r1))
      (.ret false)
      (.ret true))
def l_FnExactReadFlag_t (aText : ByteArray) : T Bool :=
  .ite (decide (((aText).size : Int) > (1048576 : Int)))
    (.ret true)
    (.call ((s_ReadFlag_t aText).run) fun r1 =>
    .call ((i_ReadFlag_t aText).run) fun r2 =>
    .call ((l_eqFlag_t (r2.1.1, (r2.1.2.1, r2.1.2.2)) (r1.1.1, (r1.1.2.1, r1.1.2.2))).run) fun r3 =>
    .ite ((!r3))
      (.ret false)
      (.ite ((r2.2 != r1.2))
        (.ret false)
        (.ret true)))
end Vm
