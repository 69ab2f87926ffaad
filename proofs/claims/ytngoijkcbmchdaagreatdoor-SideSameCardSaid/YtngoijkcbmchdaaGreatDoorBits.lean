import Derived.Test.YtngoijkcbmchdaaGreatDoorPl
namespace Go.Proofs.YtngoijkcbmchdaaGreatDoor
open Go.Tx
set_option linter.unusedVariables false
set_option linter.unusedSimpArgs false

theorem len64_con  (G : Mem) : Con Tryz.prog 124 #[U 2305843009213693951] G [] (fun u G' L' => u = I 61) := by
  refine con_of Tryz.func124 25 [(0, U 2305843009213693951)] rfl (fun w0 G0 => ?_)
  refine tc_rbn [0] [(2, I 0)] ?_
  refine tc_seq ?_
  refine tc_rbn [0,0] [(4, Bo true)] ?_
  refine tc_cond_true ?_
  refine tc_rbn [0,0,0] [(0, U 536870911)] ?_
  refine tc_region ?_
  refine runL_bn [0] [(2, I 32)] ?_
  refine runL_nil ?_
  refine tq_then ?_
  refine tc_seq ?_
  refine tc_rbn [0,0] [(8, Bo true)] ?_
  refine tc_cond_true ?_
  refine tc_rbn [0,0,0] [(0, U 8191)] ?_
  refine tc_region ?_
  refine runL_bn [0,0,0] [(2, I 48)] ?_
  refine runL_nil ?_
  refine tq_then ?_
  refine tc_seq ?_
  refine tc_rbn [0,0] [(14, Bo true)] ?_
  refine tc_cond_true ?_
  refine tc_rbn [0,0,0] [(0, U 31)] ?_
  refine tc_region ?_
  refine runL_bn [0,0,0] [(2, I 56)] ?_
  refine runL_nil ?_
  refine tq_then ?_
  refine tc_rbn [0,0,0,0,0,0,0] [(2, I 61)] ?_
  refine tc_ret ?_
  refine tq_ret [0] [I 61] (bp_ret (Mem.le_refl _) ?_)
  rfl

theorem lz64_con  (G : Mem) : Con Tryz.prog 120 #[U 2305843009213693951] G [] (fun u G' L' => u = I 3) := by
  refine con_of Tryz.func120 6 [(0, U 2305843009213693951)] rfl (fun w0 G0 => ?_)
  refine tc_rbn [0] [] ?_
  refine tc_seq ?_
  refine tc_region ?_
  refine runL_bn [0] [(3, U 2305843009213693951)] ?_
  refine runL_callV 4 (I 61) (len64_con  G) ?_
  refine runL_bn [0,0] [(2, I 3)] ?_
  refine runL_nil ?_
  refine tq_then ?_
  refine tc_ret ?_
  refine tq_ret [0] [I 3] (bp_ret (Mem.le_refl _) ?_)
  rfl

theorem mul64_con (x y : Int) (hx : 0 ≤ x ∧ x < 18446744073709551616) (hy : 0 ≤ y ∧ y < 18446744073709551616) (G : Mem) : Con Tryz.prog 96 #[U x, U y] G [] (fun u G' L' => u = .tuple #[U (x * y / 18446744073709551616), U (x * y % 18446744073709551616)]) := by
  refine con_of Tryz.func96 51 [(0, U x), (1, U y)] rfl (fun w0 G0 => ?_)
  refine tc_rbn [0,0] [] ?_
  refine tc_rbn [0,0,0] [(6, U (IntKind.u64.wrap ((BitVec.ofInt 64 (x) &&& BitVec.ofInt 64 (4294967295)).toNat : Int)))] ?_
  refine tc_rbn [0,0,0] [(7, U ((x).fdiv (2 ^ 32)))] ?_
  refine tc_rbn [0,0,0] [(8, U (IntKind.u64.wrap ((BitVec.ofInt 64 (y) &&& BitVec.ofInt 64 (4294967295)).toNat : Int)))] ?_
  refine tc_rbn [0,0,0] [(9, U ((y).fdiv (2 ^ 32)))] ?_
  refine tc_rbn [0,0,0,0] [(10, U (IntKind.u64.wrap ((IntKind.u64.wrap ((BitVec.ofInt 64 (x) &&& BitVec.ofInt 64 (4294967295)).toNat : Int)) * (IntKind.u64.wrap ((BitVec.ofInt 64 (y) &&& BitVec.ofInt 64 (4294967295)).toNat : Int)))))] ?_
  refine tc_rbn [0,0,0,0,0,0,0] [(11, U (IntKind.u64.wrap ((IntKind.u64.wrap (((x).fdiv (2 ^ 32)) * (IntKind.u64.wrap ((BitVec.ofInt 64 (y) &&& BitVec.ofInt 64 (4294967295)).toNat : Int)))) + ((IntKind.u64.wrap ((IntKind.u64.wrap ((BitVec.ofInt 64 (x) &&& BitVec.ofInt 64 (4294967295)).toNat : Int)) * (IntKind.u64.wrap ((BitVec.ofInt 64 (y) &&& BitVec.ofInt 64 (4294967295)).toNat : Int)))).fdiv (2 ^ 32)))))] ?_
  refine tc_rbn [0,0,0] [(12, U (IntKind.u64.wrap ((BitVec.ofInt 64 (IntKind.u64.wrap ((IntKind.u64.wrap (((x).fdiv (2 ^ 32)) * (IntKind.u64.wrap ((BitVec.ofInt 64 (y) &&& BitVec.ofInt 64 (4294967295)).toNat : Int)))) + ((IntKind.u64.wrap ((IntKind.u64.wrap ((BitVec.ofInt 64 (x) &&& BitVec.ofInt 64 (4294967295)).toNat : Int)) * (IntKind.u64.wrap ((BitVec.ofInt 64 (y) &&& BitVec.ofInt 64 (4294967295)).toNat : Int)))).fdiv (2 ^ 32)))) &&& BitVec.ofInt 64 (4294967295)).toNat : Int)))] ?_
  refine tc_rbn [0,0,0] [(13, U ((IntKind.u64.wrap ((IntKind.u64.wrap (((x).fdiv (2 ^ 32)) * (IntKind.u64.wrap ((BitVec.ofInt 64 (y) &&& BitVec.ofInt 64 (4294967295)).toNat : Int)))) + ((IntKind.u64.wrap ((IntKind.u64.wrap ((BitVec.ofInt 64 (x) &&& BitVec.ofInt 64 (4294967295)).toNat : Int)) * (IntKind.u64.wrap ((BitVec.ofInt 64 (y) &&& BitVec.ofInt 64 (4294967295)).toNat : Int)))).fdiv (2 ^ 32)))).fdiv (2 ^ 32)))] ?_
  refine tc_rbn [0,0,0,0,0,0] [(12, U (IntKind.u64.wrap ((IntKind.u64.wrap ((BitVec.ofInt 64 (IntKind.u64.wrap ((IntKind.u64.wrap (((x).fdiv (2 ^ 32)) * (IntKind.u64.wrap ((BitVec.ofInt 64 (y) &&& BitVec.ofInt 64 (4294967295)).toNat : Int)))) + ((IntKind.u64.wrap ((IntKind.u64.wrap ((BitVec.ofInt 64 (x) &&& BitVec.ofInt 64 (4294967295)).toNat : Int)) * (IntKind.u64.wrap ((BitVec.ofInt 64 (y) &&& BitVec.ofInt 64 (4294967295)).toNat : Int)))).fdiv (2 ^ 32)))) &&& BitVec.ofInt 64 (4294967295)).toNat : Int)) + (IntKind.u64.wrap ((IntKind.u64.wrap ((BitVec.ofInt 64 (x) &&& BitVec.ofInt 64 (4294967295)).toNat : Int)) * ((y).fdiv (2 ^ 32)))))))] ?_
  refine tc_rbn [0,0,0,0,0,0,0,0,0] [(4, U (IntKind.u64.wrap ((IntKind.u64.wrap ((IntKind.u64.wrap (((x).fdiv (2 ^ 32)) * ((y).fdiv (2 ^ 32)))) + ((IntKind.u64.wrap ((IntKind.u64.wrap (((x).fdiv (2 ^ 32)) * (IntKind.u64.wrap ((BitVec.ofInt 64 (y) &&& BitVec.ofInt 64 (4294967295)).toNat : Int)))) + ((IntKind.u64.wrap ((IntKind.u64.wrap ((BitVec.ofInt 64 (x) &&& BitVec.ofInt 64 (4294967295)).toNat : Int)) * (IntKind.u64.wrap ((BitVec.ofInt 64 (y) &&& BitVec.ofInt 64 (4294967295)).toNat : Int)))).fdiv (2 ^ 32)))).fdiv (2 ^ 32)))) + ((IntKind.u64.wrap ((IntKind.u64.wrap ((BitVec.ofInt 64 (IntKind.u64.wrap ((IntKind.u64.wrap (((x).fdiv (2 ^ 32)) * (IntKind.u64.wrap ((BitVec.ofInt 64 (y) &&& BitVec.ofInt 64 (4294967295)).toNat : Int)))) + ((IntKind.u64.wrap ((IntKind.u64.wrap ((BitVec.ofInt 64 (x) &&& BitVec.ofInt 64 (4294967295)).toNat : Int)) * (IntKind.u64.wrap ((BitVec.ofInt 64 (y) &&& BitVec.ofInt 64 (4294967295)).toNat : Int)))).fdiv (2 ^ 32)))) &&& BitVec.ofInt 64 (4294967295)).toNat : Int)) + (IntKind.u64.wrap ((IntKind.u64.wrap ((BitVec.ofInt 64 (x) &&& BitVec.ofInt 64 (4294967295)).toNat : Int)) * ((y).fdiv (2 ^ 32)))))).fdiv (2 ^ 32)))))] ?_
  refine tc_rbn [0,0,0,0] [(5, U (IntKind.u64.wrap (x * y)))] ?_
  refine tc_ret ?_
  refine tq_ret [0, 0] [U (IntKind.u64.wrap ((IntKind.u64.wrap ((IntKind.u64.wrap (((x).fdiv (2 ^ 32)) * ((y).fdiv (2 ^ 32)))) + ((IntKind.u64.wrap ((IntKind.u64.wrap (((x).fdiv (2 ^ 32)) * (IntKind.u64.wrap ((BitVec.ofInt 64 (y) &&& BitVec.ofInt 64 (4294967295)).toNat : Int)))) + ((IntKind.u64.wrap ((IntKind.u64.wrap ((BitVec.ofInt 64 (x) &&& BitVec.ofInt 64 (4294967295)).toNat : Int)) * (IntKind.u64.wrap ((BitVec.ofInt 64 (y) &&& BitVec.ofInt 64 (4294967295)).toNat : Int)))).fdiv (2 ^ 32)))).fdiv (2 ^ 32)))) + ((IntKind.u64.wrap ((IntKind.u64.wrap ((BitVec.ofInt 64 (IntKind.u64.wrap ((IntKind.u64.wrap (((x).fdiv (2 ^ 32)) * (IntKind.u64.wrap ((BitVec.ofInt 64 (y) &&& BitVec.ofInt 64 (4294967295)).toNat : Int)))) + ((IntKind.u64.wrap ((IntKind.u64.wrap ((BitVec.ofInt 64 (x) &&& BitVec.ofInt 64 (4294967295)).toNat : Int)) * (IntKind.u64.wrap ((BitVec.ofInt 64 (y) &&& BitVec.ofInt 64 (4294967295)).toNat : Int)))).fdiv (2 ^ 32)))) &&& BitVec.ofInt 64 (4294967295)).toNat : Int)) + (IntKind.u64.wrap ((IntKind.u64.wrap ((BitVec.ofInt 64 (x) &&& BitVec.ofInt 64 (4294967295)).toNat : Int)) * ((y).fdiv (2 ^ 32)))))).fdiv (2 ^ 32)))), U (IntKind.u64.wrap (x * y))] (bp_ret (Mem.le_refl _) ?_)
  exact congr (congrArg (fun a b => Value.tuple #[U a, U b]) (mul64_hi hx hy)) (wrap_u64m _)

theorem div64_con (hi lo : Int) (hx : 0 ≤ hi ∧ hi < 2305843009213693951) (hy : 0 ≤ lo ∧ lo < 18446744073709551616) (G : Mem) : Con Tryz.prog 112 #[U hi, U lo, U 2305843009213693951] G [] (fun u G' L' => u = .tuple #[U ((hi * 18446744073709551616 + lo) / 2305843009213693951), U ((hi * 18446744073709551616 + lo) % 2305843009213693951)]) := by
  refine con_of Tryz.func112 135 [(0, U hi), (1, U lo), (2, U 2305843009213693951)] rfl (fun w0 G0 => ?_)
  refine tc_rbn [0,0] [] ?_
  refine tc_seq ?_
  refine tc_rbn [0,0] [(20, Bo false)] ?_
  refine tc_cond_false ?_
  refine tc_skip ?_
  refine tq_then ?_
  refine tc_seq ?_
  refine tc_rbn [0,0,0] [(24, Bo (decide (2305843009213693951 ≤ hi)))] ?_
  refine tc_condP (decide (2305843009213693951 ≤ hi)) (fun h1 => ?_) (fun h1 => ?_)
  ·
    exfalso; omega
  ·
    refine tc_skip ?_
    refine tq_then ?_
    refine tc_seq ?_
    refine tc_rbn [0,0] [(27, Bo (decide (hi = 0)))] ?_
    refine tc_condP (decide (hi = 0)) (fun h2 => ?_) (fun h2 => ?_)
    ·
      refine tc_seq ?_
      have e1 : IntKind.u64.wrap ((lo).tdiv 2305843009213693951) = lo / 2305843009213693951 := IntWalk.u64_quo _ _ (by first | omega | (first | (have hm := dig_more hI (by assumption); have := hI.e; have := hI.u1; have := hI.r0; have := hI.r1; omega) | (have hm := dig_more hJ (by assumption); have := hJ.e; have := hJ.u1; have := hJ.r0; have := hJ.r1; omega)))
      have e2 : (lo).tmod 2305843009213693951 = lo % 2305843009213693951 := IntWalk.rem_in _ _ (by first | omega | (first | (have hm := dig_more hI (by assumption); have := hI.e; have := hI.u1; have := hI.r0; have := hI.r1; omega) | (have hm := dig_more hJ (by assumption); have := hJ.e; have := hJ.u1; have := hJ.r0; have := hJ.r1; omega)))
      refine tc_draw [] ?_
      refine dr_V [(0, U lo), (1, U 2305843009213693951), (2, U (lo / 2305843009213693951)), (3, U lo), (4, U 2305843009213693951), (5, U (lo % 2305843009213693951)), (6, U (lo / 2305843009213693951)), (7, U (lo % 2305843009213693951))] ?_
      refine dr_end [] [(0,0), (1,0), (3,0), (4,0), (6,0), (7,0)] [2, 5] [(6, U (lo / 2305843009213693951)), (7, U (lo % 2305843009213693951))] (fmc ?_ (fmc ?_ fm0)) ?_
      · refine stab_of 2 30 (U (lo / 2305843009213693951)) [(28, U lo), (29, U 2305843009213693951)] (fun X => ?_)
        exact runL_p1 30 (U (IntKind.u64.wrap ((lo).tdiv 2305843009213693951))) (U (lo / 2305843009213693951)) (by simp only [e1]) stab_end
      · refine stab_of 5 33 (U (lo % 2305843009213693951)) [(31, U lo), (32, U 2305843009213693951)] (fun X => ?_)
        exact runL_p1 33 (U ((lo).tmod 2305843009213693951)) (U (lo % 2305843009213693951)) (by simp only [e2]) stab_end
      refine tq_then ?_
      refine tc_ret ?_
      refine tq_then_ret ?_
      refine tq_ret [0, 0] [U (lo / 2305843009213693951), U (lo % 2305843009213693951)] (bp_ret (Mem.le_refl _) ?_)
      first | (subst h2; simp [packR]; done) | (have hD2 : Dig _ _ _ := (by first | exact dig_exit hJ (by assumption) | exact dig_break hJ (by assumption) (by omega)); have he := div_end hx hy hD1 hD2; exact congr (congrArg (fun a b => Value.tuple #[U a, U b]) he.1) he.2) | trace_state
    ·
      refine tc_skip ?_
      refine tq_then ?_
      refine tc_seq ?_
      refine tc_region ?_
      refine runL_bn [0] [(34, U 2305843009213693951)] ?_
      refine runL_callV 35 (I 3) (lz64_con  G) ?_
      refine runL_bn [0,0] [(8, U 3)] ?_
      refine runL_nil ?_
      refine tq_then ?_
      refine tc_rbn [0,0,0,0] [(2, U 18446744073709551608)] ?_
      refine tc_rbn [0,0,0] [(9, U 4294967295)] ?_
      refine tc_rbn [0,0,0] [(10, U 4294967288)] ?_
      refine tc_rbn [0,0,0,0,0,0,0,0,0] [(11, U (IntKind.u64.wrap ((BitVec.ofInt 64 (IntKind.u64.wrap (hi * 2 ^ 3)) ||| BitVec.ofInt 64 ((lo).fdiv (2 ^ 61))).toNat : Int)))] ?_
      have e3 : IntKind.u64.wrap ((BitVec.ofInt 64 (IntKind.u64.wrap (hi * 2 ^ 3)) ||| BitVec.ofInt 64 ((lo).fdiv (2 ^ 61))).toNat : Int) = divU hi lo := rfl
      refine tc_put 11 (U (divU hi lo)) (congrArg U e3) ?_
      clear e3
      refine tc_rbn [0,0,0,0] [(12, U (IntKind.u64.wrap (lo * 2 ^ 3)))] ?_
      have e4 : IntKind.u64.wrap (lo * 2 ^ 3) = divL lo := rfl
      refine tc_put 12 (U (divL lo)) (congrArg U e4) ?_
      clear e4
      refine tc_rbn [0,0,0] [(13, U ((divL lo).fdiv (2 ^ 32)))] ?_
      have e5 : (divL lo).fdiv (2 ^ 32) = divH lo := rfl
      refine tc_put 13 (U (divH lo)) (congrArg U e5) ?_
      clear e5
      refine tc_rbn [0,0,0] [(14, U (IntKind.u64.wrap ((BitVec.ofInt 64 (divL lo) &&& BitVec.ofInt 64 (4294967295)).toNat : Int)))] ?_
      have e6 : IntKind.u64.wrap ((BitVec.ofInt 64 (divL lo) &&& BitVec.ofInt 64 (4294967295)).toNat : Int) = divZ lo := rfl
      refine tc_put 14 (U (divZ lo)) (congrArg U e6) ?_
      clear e6
      refine tc_rbn [0,0,0,0] [(15, U (IntKind.u64.wrap ((divU hi lo).tdiv 4294967295)))] ?_
      refine tc_rbn [0,0,0,0,0,0] [(16, U (IntKind.u64.wrap ((divU hi lo) - (IntKind.u64.wrap ((IntKind.u64.wrap ((divU hi lo).tdiv 4294967295)) * 4294967295)))))] ?_
      refine tc_seq ?_
      refine tc_block ?_
      refine tc_loop (σ := Int × Int) (fun s => (DigInv (divU hi lo) (divH lo) s.1 s.2)) (fun s => [(2, U 18446744073709551608), (8, U 3), (9, U 4294967295), (10, U 4294967288), (11, U (divU hi lo)), (13, U (divH lo)), (14, U (divZ lo)), (15, U s.1), (16, U s.2)]) (fun s => G) (fun s => []) (fun s => s.1.toNat) ((IntKind.u64.wrap ((divU hi lo).tdiv 4294967295), IntKind.u64.wrap (divU hi lo - IntKind.u64.wrap (IntKind.u64.wrap ((divU hi lo).tdiv 4294967295) * 4294967295)))) (dig_start (divU_bd hx hy) (divH_bd lo)) (fun s hs => ?_)
      obtain ⟨q, r⟩ := s
      have hI := hs
      dsimp only at hI
      refine tc_eq (fr' := [(2, U 18446744073709551608), (8, U 3), (9, U 4294967295), (10, U 4294967288), (11, U (divU hi lo)), (13, U (divH lo)), (14, U (divZ lo)), (15, U q), (16, U r)]) (L' := []) rfl rfl ?_
      refine tc_seq ?_
      refine tc_seq ?_
      refine tc_region ?_
      refine runL_bn [0,0,0] [(69, Bo (decide (q ≥ 4294967296)))] ?_
      refine runL_b2n (decide (q ≥ 4294967296)) [69] [1,1,1,1,1,1,1,1,0] [0,0,0,0,0,0,0,0,0] (fun bb => [(78, Bo (bb || (decide (IntKind.u64.wrap (q * 4294967288) > IntKind.u64.wrap ((IntKind.u64.wrap (4294967296 * r)) + (divH lo))))))]) ?_
      refine runL_nil ?_
      refine tq_then ?_
      refine tc_condP ((decide (q ≥ 4294967296)) || (decide (IntKind.u64.wrap (q * 4294967288) > IntKind.u64.wrap ((IntKind.u64.wrap (4294967296 * r)) + (divH lo))))) (fun h3 => ?_) (fun h3 => ?_)
      ·
        refine tc_skip ?_
        refine tq_then ?_
        refine tc_block ?_
        refine tc_rbn [0,0,0] [(15, U (IntKind.u64.wrap (q - 1)))] ?_
        refine tc_wu64 15 (q - 1) (by first | omega | (first | (have hm := dig_more hI (by assumption); have := hI.e; have := hI.u1; have := hI.r0; have := hI.r1; omega) | (have hm := dig_more hJ (by assumption); have := hJ.e; have := hJ.u1; have := hJ.r0; have := hJ.r1; omega))) ?_
        refine tc_rbn [0,0,0,0] [(16, U (IntKind.u64.wrap (r + 4294967295)))] ?_
        refine tc_wu64 16 (r + 4294967295) (by first | omega | (first | (have hm := dig_more hI (by assumption); have := hI.e; have := hI.u1; have := hI.r0; have := hI.r1; omega) | (have hm := dig_more hJ (by assumption); have := hJ.e; have := hJ.u1; have := hJ.r0; have := hJ.r1; omega))) ?_
        refine tc_rbn [0,0] [(85, Bo (decide (r + 4294967295 ≥ 4294967296)))] ?_
        refine tc_condP (decide (r + 4294967295 ≥ 4294967296)) (fun h4 => ?_) (fun h4 => ?_)
        ·
          refine tc_exit ?_
          refine tq_block_out rfl ?_
          refine tq_rnd_exit ?_
          refine tq_block_here ?_
          refine tq_then ?_
          refine tc_rbn [0,0,0,0,0,0,0,0,0] [(17, U (IntKind.u64.wrap ((IntKind.u64.wrap ((IntKind.u64.wrap ((divU hi lo) * 4294967296)) + (divH lo))) - (IntKind.u64.wrap ((q - 1) * 18446744073709551608)))))] ?_
          have e7 : IntKind.u64.wrap ((IntKind.u64.wrap ((IntKind.u64.wrap ((divU hi lo) * 4294967296)) + (divH lo))) - (IntKind.u64.wrap ((q - 1) * 18446744073709551608))) = divR (divU hi lo) (divH lo) (q - 1) := rfl
          refine tc_put 17 (U (divR (divU hi lo) (divH lo) (q - 1))) (congrArg U e7) ?_
          clear e7
          refine tc_rbn [0,0,0,0] [(18, U (IntKind.u64.wrap ((divR (divU hi lo) (divH lo) (q - 1)).tdiv 4294967295)))] ?_
          refine tc_rbn [0,0,0,0,0,0] [(16, U (IntKind.u64.wrap ((divR (divU hi lo) (divH lo) (q - 1)) - (IntKind.u64.wrap ((IntKind.u64.wrap ((divR (divU hi lo) (divH lo) (q - 1)).tdiv 4294967295)) * 4294967295)))))] ?_
          refine tc_seq ?_
          refine tc_block ?_
          have hD1 : Dig (divU hi lo) (divH lo) (q - 1) := by first | exact dig_exit hI (by assumption) | exact dig_break hI (by assumption) (by omega)
          have hb1 := divR_eq hD1 (divU_bd hx hy).1 (divH_bd lo).1
          refine tc_loop (σ := Int × Int) (fun s => (DigInv (divR (divU hi lo) (divH lo) (q - 1)) (divZ lo) s.1 s.2)) (fun s => [(2, U 18446744073709551608), (8, U 3), (9, U 4294967295), (10, U 4294967288), (14, U (divZ lo)), (15, U (q - 1)), (16, U s.2), (17, U (divR (divU hi lo) (divH lo) (q - 1))), (18, U s.1)]) (fun s => G) (fun s => []) (fun s => s.1.toNat) ((IntKind.u64.wrap ((divR (divU hi lo) (divH lo) (q - 1)).tdiv 4294967295), IntKind.u64.wrap (divR (divU hi lo) (divH lo) (q - 1) - IntKind.u64.wrap (IntKind.u64.wrap ((divR (divU hi lo) (divH lo) (q - 1)).tdiv 4294967295) * 4294967295)))) (dig_start hb1.2 (divZ_bd lo)) (fun s hs => ?_)
          obtain ⟨q2, r2⟩ := s
          have hJ := hs
          dsimp only at hJ
          refine tc_eq (fr' := [(2, U 18446744073709551608), (8, U 3), (9, U 4294967295), (10, U 4294967288), (14, U (divZ lo)), (15, U (q - 1)), (16, U r2), (17, U (divR (divU hi lo) (divH lo) (q - 1))), (18, U q2)]) (L' := []) rfl rfl ?_
          refine tc_seq ?_
          refine tc_seq ?_
          refine tc_region ?_
          refine runL_bn [0,0,0] [(104, Bo (decide (q2 ≥ 4294967296)))] ?_
          refine runL_b2n (decide (q2 ≥ 4294967296)) [104] [1,1,1,1,1,1,1,1,0] [0,0,0,0,0,0,0,0,0] (fun bb => [(113, Bo (bb || (decide (IntKind.u64.wrap (q2 * 4294967288) > IntKind.u64.wrap ((IntKind.u64.wrap (4294967296 * r2)) + (divZ lo))))))]) ?_
          refine runL_nil ?_
          refine tq_then ?_
          refine tc_condP ((decide (q2 ≥ 4294967296)) || (decide (IntKind.u64.wrap (q2 * 4294967288) > IntKind.u64.wrap ((IntKind.u64.wrap (4294967296 * r2)) + (divZ lo))))) (fun h5 => ?_) (fun h5 => ?_)
          ·
            refine tc_skip ?_
            refine tq_then ?_
            refine tc_block ?_
            refine tc_rbn [0,0,0] [(18, U (IntKind.u64.wrap (q2 - 1)))] ?_
            refine tc_wu64 18 (q2 - 1) (by first | omega | (first | (have hm := dig_more hI (by assumption); have := hI.e; have := hI.u1; have := hI.r0; have := hI.r1; omega) | (have hm := dig_more hJ (by assumption); have := hJ.e; have := hJ.u1; have := hJ.r0; have := hJ.r1; omega))) ?_
            refine tc_rbn [0,0,0,0] [(16, U (IntKind.u64.wrap (r2 + 4294967295)))] ?_
            refine tc_wu64 16 (r2 + 4294967295) (by first | omega | (first | (have hm := dig_more hI (by assumption); have := hI.e; have := hI.u1; have := hI.r0; have := hI.r1; omega) | (have hm := dig_more hJ (by assumption); have := hJ.e; have := hJ.u1; have := hJ.r0; have := hJ.r1; omega))) ?_
            refine tc_rbn [0,0] [(120, Bo (decide (r2 + 4294967295 ≥ 4294967296)))] ?_
            refine tc_condP (decide (r2 + 4294967295 ≥ 4294967296)) (fun h6 => ?_) (fun h6 => ?_)
            ·
              refine tc_exit ?_
              refine tq_block_out rfl ?_
              refine tq_rnd_exit ?_
              refine tq_block_here ?_
              refine tq_then ?_
              refine tc_rbn [0,0,0,0,0,0,0,0,0,0,0,0,0,0,0,0] [(6, U (IntKind.u64.wrap ((IntKind.u64.wrap ((q - 1) * 4294967296)) + (q2 - 1)))), (7, U ((IntKind.u64.wrap ((IntKind.u64.wrap ((IntKind.u64.wrap ((divR (divU hi lo) (divH lo) (q - 1)) * 4294967296)) + (divZ lo))) - (IntKind.u64.wrap ((q2 - 1) * 18446744073709551608)))).fdiv (2 ^ 3)))] ?_
              have e8 : IntKind.u64.wrap ((IntKind.u64.wrap ((IntKind.u64.wrap ((divR (divU hi lo) (divH lo) (q - 1)) * 4294967296)) + (divZ lo))) - (IntKind.u64.wrap ((q2 - 1) * 18446744073709551608))) = divR (divR (divU hi lo) (divH lo) (q - 1)) (divZ lo) (q2 - 1) := rfl
              refine tc_put 7 (U ((divR (divR (divU hi lo) (divH lo) (q - 1)) (divZ lo) (q2 - 1)).fdiv (2 ^ 3))) ((show (U ((IntKind.u64.wrap ((IntKind.u64.wrap ((IntKind.u64.wrap ((divR (divU hi lo) (divH lo) (q - 1)) * 4294967296)) + (divZ lo))) - (IntKind.u64.wrap ((q2 - 1) * 18446744073709551608)))).fdiv (2 ^ 3)) : Value) = U ((divR (divR (divU hi lo) (divH lo) (q - 1)) (divZ lo) (q2 - 1)).fdiv (2 ^ 3)) by simp only [e8])) ?_
              clear e8
              refine tc_ret ?_
              refine tq_ret [0, 0] [U (IntKind.u64.wrap ((IntKind.u64.wrap ((q - 1) * 4294967296)) + (q2 - 1))), U ((divR (divR (divU hi lo) (divH lo) (q - 1)) (divZ lo) (q2 - 1)).fdiv (2 ^ 3))] (bp_ret (Mem.le_refl _) ?_)
              first | (subst h2; simp [packR]; done) | (have hD2 : Dig _ _ _ := (by first | exact dig_exit hJ (by assumption) | exact dig_break hJ (by assumption) (by omega)); have he := div_end hx hy hD1 hD2; exact congr (congrArg (fun a b => Value.tuple #[U a, U b]) he.1) he.2) | trace_state
            ·
              refine tc_skip ?_
              refine tq_block ?_
              exact tq_rnd ((q2 - 1, r2 + 4294967295)) (dig_next hJ (by assumption) (by omega)) (by dsimp only; have := (dig_more hJ (by assumption)).1; omega)
          ·
            refine tc_exit ?_
            refine tq_then_exit ?_
            refine tq_rnd_exit ?_
            refine tq_block_here ?_
            refine tq_then ?_
            refine tc_rbn [0,0,0,0,0,0,0,0,0,0,0,0,0,0,0,0] [(6, U (IntKind.u64.wrap ((IntKind.u64.wrap ((q - 1) * 4294967296)) + q2))), (7, U ((IntKind.u64.wrap ((IntKind.u64.wrap ((IntKind.u64.wrap ((divR (divU hi lo) (divH lo) (q - 1)) * 4294967296)) + (divZ lo))) - (IntKind.u64.wrap (q2 * 18446744073709551608)))).fdiv (2 ^ 3)))] ?_
            have e9 : IntKind.u64.wrap ((IntKind.u64.wrap ((IntKind.u64.wrap ((divR (divU hi lo) (divH lo) (q - 1)) * 4294967296)) + (divZ lo))) - (IntKind.u64.wrap (q2 * 18446744073709551608))) = divR (divR (divU hi lo) (divH lo) (q - 1)) (divZ lo) q2 := rfl
            refine tc_put 7 (U ((divR (divR (divU hi lo) (divH lo) (q - 1)) (divZ lo) q2).fdiv (2 ^ 3))) ((show (U ((IntKind.u64.wrap ((IntKind.u64.wrap ((IntKind.u64.wrap ((divR (divU hi lo) (divH lo) (q - 1)) * 4294967296)) + (divZ lo))) - (IntKind.u64.wrap (q2 * 18446744073709551608)))).fdiv (2 ^ 3)) : Value) = U ((divR (divR (divU hi lo) (divH lo) (q - 1)) (divZ lo) q2).fdiv (2 ^ 3)) by simp only [e9])) ?_
            clear e9
            refine tc_ret ?_
            refine tq_ret [0, 0] [U (IntKind.u64.wrap ((IntKind.u64.wrap ((q - 1) * 4294967296)) + q2)), U ((divR (divR (divU hi lo) (divH lo) (q - 1)) (divZ lo) q2).fdiv (2 ^ 3))] (bp_ret (Mem.le_refl _) ?_)
            first | (subst h2; simp [packR]; done) | (have hD2 : Dig _ _ _ := (by first | exact dig_exit hJ (by assumption) | exact dig_break hJ (by assumption) (by omega)); have he := div_end hx hy hD1 hD2; exact congr (congrArg (fun a b => Value.tuple #[U a, U b]) he.1) he.2) | trace_state
        ·
          refine tc_skip ?_
          refine tq_block ?_
          exact tq_rnd ((q - 1, r + 4294967295)) (dig_next hI (by assumption) (by omega)) (by dsimp only; have := (dig_more hI (by assumption)).1; omega)
      ·
        refine tc_exit ?_
        refine tq_then_exit ?_
        refine tq_rnd_exit ?_
        refine tq_block_here ?_
        refine tq_then ?_
        refine tc_rbn [0,0,0,0,0,0,0,0,0] [(17, U (IntKind.u64.wrap ((IntKind.u64.wrap ((IntKind.u64.wrap ((divU hi lo) * 4294967296)) + (divH lo))) - (IntKind.u64.wrap (q * 18446744073709551608)))))] ?_
        have e10 : IntKind.u64.wrap ((IntKind.u64.wrap ((IntKind.u64.wrap ((divU hi lo) * 4294967296)) + (divH lo))) - (IntKind.u64.wrap (q * 18446744073709551608))) = divR (divU hi lo) (divH lo) q := rfl
        refine tc_put 17 (U (divR (divU hi lo) (divH lo) q)) (congrArg U e10) ?_
        clear e10
        refine tc_rbn [0,0,0,0] [(18, U (IntKind.u64.wrap ((divR (divU hi lo) (divH lo) q).tdiv 4294967295)))] ?_
        refine tc_rbn [0,0,0,0,0,0] [(16, U (IntKind.u64.wrap ((divR (divU hi lo) (divH lo) q) - (IntKind.u64.wrap ((IntKind.u64.wrap ((divR (divU hi lo) (divH lo) q).tdiv 4294967295)) * 4294967295)))))] ?_
        refine tc_seq ?_
        refine tc_block ?_
        have hD1 : Dig (divU hi lo) (divH lo) q := by first | exact dig_exit hI (by assumption) | exact dig_break hI (by assumption) (by omega)
        have hb1 := divR_eq hD1 (divU_bd hx hy).1 (divH_bd lo).1
        refine tc_loop (σ := Int × Int) (fun s => (DigInv (divR (divU hi lo) (divH lo) q) (divZ lo) s.1 s.2)) (fun s => [(2, U 18446744073709551608), (8, U 3), (9, U 4294967295), (10, U 4294967288), (14, U (divZ lo)), (15, U q), (16, U s.2), (17, U (divR (divU hi lo) (divH lo) q)), (18, U s.1)]) (fun s => G) (fun s => []) (fun s => s.1.toNat) ((IntKind.u64.wrap ((divR (divU hi lo) (divH lo) q).tdiv 4294967295), IntKind.u64.wrap (divR (divU hi lo) (divH lo) q - IntKind.u64.wrap (IntKind.u64.wrap ((divR (divU hi lo) (divH lo) q).tdiv 4294967295) * 4294967295)))) (dig_start hb1.2 (divZ_bd lo)) (fun s hs => ?_)
        obtain ⟨q2, r2⟩ := s
        have hJ := hs
        dsimp only at hJ
        refine tc_eq (fr' := [(2, U 18446744073709551608), (8, U 3), (9, U 4294967295), (10, U 4294967288), (14, U (divZ lo)), (15, U q), (16, U r2), (17, U (divR (divU hi lo) (divH lo) q)), (18, U q2)]) (L' := []) rfl rfl ?_
        refine tc_seq ?_
        refine tc_seq ?_
        refine tc_region ?_
        refine runL_bn [0,0,0] [(104, Bo (decide (q2 ≥ 4294967296)))] ?_
        refine runL_b2n (decide (q2 ≥ 4294967296)) [104] [1,1,1,1,1,1,1,1,0] [0,0,0,0,0,0,0,0,0] (fun bb => [(113, Bo (bb || (decide (IntKind.u64.wrap (q2 * 4294967288) > IntKind.u64.wrap ((IntKind.u64.wrap (4294967296 * r2)) + (divZ lo))))))]) ?_
        refine runL_nil ?_
        refine tq_then ?_
        refine tc_condP ((decide (q2 ≥ 4294967296)) || (decide (IntKind.u64.wrap (q2 * 4294967288) > IntKind.u64.wrap ((IntKind.u64.wrap (4294967296 * r2)) + (divZ lo))))) (fun h7 => ?_) (fun h7 => ?_)
        ·
          refine tc_skip ?_
          refine tq_then ?_
          refine tc_block ?_
          refine tc_rbn [0,0,0] [(18, U (IntKind.u64.wrap (q2 - 1)))] ?_
          refine tc_wu64 18 (q2 - 1) (by first | omega | (first | (have hm := dig_more hI (by assumption); have := hI.e; have := hI.u1; have := hI.r0; have := hI.r1; omega) | (have hm := dig_more hJ (by assumption); have := hJ.e; have := hJ.u1; have := hJ.r0; have := hJ.r1; omega))) ?_
          refine tc_rbn [0,0,0,0] [(16, U (IntKind.u64.wrap (r2 + 4294967295)))] ?_
          refine tc_wu64 16 (r2 + 4294967295) (by first | omega | (first | (have hm := dig_more hI (by assumption); have := hI.e; have := hI.u1; have := hI.r0; have := hI.r1; omega) | (have hm := dig_more hJ (by assumption); have := hJ.e; have := hJ.u1; have := hJ.r0; have := hJ.r1; omega))) ?_
          refine tc_rbn [0,0] [(120, Bo (decide (r2 + 4294967295 ≥ 4294967296)))] ?_
          refine tc_condP (decide (r2 + 4294967295 ≥ 4294967296)) (fun h8 => ?_) (fun h8 => ?_)
          ·
            refine tc_exit ?_
            refine tq_block_out rfl ?_
            refine tq_rnd_exit ?_
            refine tq_block_here ?_
            refine tq_then ?_
            refine tc_rbn [0,0,0,0,0,0,0,0,0,0,0,0,0,0,0,0] [(6, U (IntKind.u64.wrap ((IntKind.u64.wrap (q * 4294967296)) + (q2 - 1)))), (7, U ((IntKind.u64.wrap ((IntKind.u64.wrap ((IntKind.u64.wrap ((divR (divU hi lo) (divH lo) q) * 4294967296)) + (divZ lo))) - (IntKind.u64.wrap ((q2 - 1) * 18446744073709551608)))).fdiv (2 ^ 3)))] ?_
            have e11 : IntKind.u64.wrap ((IntKind.u64.wrap ((IntKind.u64.wrap ((divR (divU hi lo) (divH lo) q) * 4294967296)) + (divZ lo))) - (IntKind.u64.wrap ((q2 - 1) * 18446744073709551608))) = divR (divR (divU hi lo) (divH lo) q) (divZ lo) (q2 - 1) := rfl
            refine tc_put 7 (U ((divR (divR (divU hi lo) (divH lo) q) (divZ lo) (q2 - 1)).fdiv (2 ^ 3))) ((show (U ((IntKind.u64.wrap ((IntKind.u64.wrap ((IntKind.u64.wrap ((divR (divU hi lo) (divH lo) q) * 4294967296)) + (divZ lo))) - (IntKind.u64.wrap ((q2 - 1) * 18446744073709551608)))).fdiv (2 ^ 3)) : Value) = U ((divR (divR (divU hi lo) (divH lo) q) (divZ lo) (q2 - 1)).fdiv (2 ^ 3)) by simp only [e11])) ?_
            clear e11
            refine tc_ret ?_
            refine tq_ret [0, 0] [U (IntKind.u64.wrap ((IntKind.u64.wrap (q * 4294967296)) + (q2 - 1))), U ((divR (divR (divU hi lo) (divH lo) q) (divZ lo) (q2 - 1)).fdiv (2 ^ 3))] (bp_ret (Mem.le_refl _) ?_)
            first | (subst h2; simp [packR]; done) | (have hD2 : Dig _ _ _ := (by first | exact dig_exit hJ (by assumption) | exact dig_break hJ (by assumption) (by omega)); have he := div_end hx hy hD1 hD2; exact congr (congrArg (fun a b => Value.tuple #[U a, U b]) he.1) he.2) | trace_state
          ·
            refine tc_skip ?_
            refine tq_block ?_
            exact tq_rnd ((q2 - 1, r2 + 4294967295)) (dig_next hJ (by assumption) (by omega)) (by dsimp only; have := (dig_more hJ (by assumption)).1; omega)
        ·
          refine tc_exit ?_
          refine tq_then_exit ?_
          refine tq_rnd_exit ?_
          refine tq_block_here ?_
          refine tq_then ?_
          refine tc_rbn [0,0,0,0,0,0,0,0,0,0,0,0,0,0,0,0] [(6, U (IntKind.u64.wrap ((IntKind.u64.wrap (q * 4294967296)) + q2))), (7, U ((IntKind.u64.wrap ((IntKind.u64.wrap ((IntKind.u64.wrap ((divR (divU hi lo) (divH lo) q) * 4294967296)) + (divZ lo))) - (IntKind.u64.wrap (q2 * 18446744073709551608)))).fdiv (2 ^ 3)))] ?_
          have e12 : IntKind.u64.wrap ((IntKind.u64.wrap ((IntKind.u64.wrap ((divR (divU hi lo) (divH lo) q) * 4294967296)) + (divZ lo))) - (IntKind.u64.wrap (q2 * 18446744073709551608))) = divR (divR (divU hi lo) (divH lo) q) (divZ lo) q2 := rfl
          refine tc_put 7 (U ((divR (divR (divU hi lo) (divH lo) q) (divZ lo) q2).fdiv (2 ^ 3))) ((show (U ((IntKind.u64.wrap ((IntKind.u64.wrap ((IntKind.u64.wrap ((divR (divU hi lo) (divH lo) q) * 4294967296)) + (divZ lo))) - (IntKind.u64.wrap (q2 * 18446744073709551608)))).fdiv (2 ^ 3)) : Value) = U ((divR (divR (divU hi lo) (divH lo) q) (divZ lo) q2).fdiv (2 ^ 3)) by simp only [e12])) ?_
          clear e12
          refine tc_ret ?_
          refine tq_ret [0, 0] [U (IntKind.u64.wrap ((IntKind.u64.wrap (q * 4294967296)) + q2)), U ((divR (divR (divU hi lo) (divH lo) q) (divZ lo) q2).fdiv (2 ^ 3))] (bp_ret (Mem.le_refl _) ?_)
          first | (subst h2; simp [packR]; done) | (have hD2 : Dig _ _ _ := (by first | exact dig_exit hJ (by assumption) | exact dig_break hJ (by assumption) (by omega)); have he := div_end hx hy hD1 hD2; exact congr (congrArg (fun a b => Value.tuple #[U a, U b]) he.1) he.2) | trace_state

theorem rem64_con (hi lo : Int) (hx : 0 ≤ hi ∧ hi < 18446744073709551616) (hy : 0 ≤ lo ∧ lo < 18446744073709551616) (G : Mem) : Con Tryz.prog 97 #[U hi, U lo, U 2305843009213693951] G [] (fun u G' L' => u = U ((hi * 18446744073709551616 + lo) % 2305843009213693951)) := by
  refine con_of Tryz.func97 19 [(0, U hi), (1, U lo), (2, U 2305843009213693951)] rfl (fun w0 G0 => ?_)
  refine tc_rbn [0] [] ?_
  refine tc_seq ?_
  refine tc_region ?_
  refine runL_bn [0,0,0,0,0] [(12, U ((hi).tmod 2305843009213693951)), (13, U lo), (14, U 2305843009213693951)] ?_
  have e1 : (hi).tmod 2305843009213693951 = hi % 2305843009213693951 := IntWalk.rem_in _ _ (by omega)
  refine runL_put 12 (U (hi % 2305843009213693951)) (congrArg U e1) ?_
  clear e1
  refine runL_callV 15 (.tuple #[U (((hi % 2305843009213693951) * 18446744073709551616 + lo) / 2305843009213693951), U (((hi % 2305843009213693951) * 18446744073709551616 + lo) % 2305843009213693951)]) (div64_con (hi % 2305843009213693951) lo (by omega) (by omega) G) ?_
  refine runL_bn [0,0,0,0,0] [(8, U (((hi % 2305843009213693951) * 18446744073709551616 + lo) % 2305843009213693951))] ?_
  refine runL_nil ?_
  refine tq_then ?_
  refine tc_rbn [0,0] [(6, U (((hi % 2305843009213693951) * 18446744073709551616 + lo) % 2305843009213693951))] ?_
  refine tc_ret ?_
  refine tq_ret [0] [U (((hi % 2305843009213693951) * 18446744073709551616 + lo) % 2305843009213693951)] (bp_ret (Mem.le_refl _) ?_)
  exact congrArg U (by omega)

theorem times_con (a b : Int) (hx : 0 ≤ a ∧ a < 18446744073709551616) (hy : 0 ≤ b ∧ b < 18446744073709551616) (G : Mem) : Con Tryz.prog 80 #[U a, U b] G [] (fun u G' L' => u = U (timesM a b)) := by
  refine con_of Tryz.func80 16 [(0, U a), (1, U b)] rfl (fun w0 G0 => ?_)
  refine tc_rbn [0] [] ?_
  refine tc_seq ?_
  refine tc_region ?_
  refine runL_bn [0,0] [(8, U a), (9, U b)] ?_
  refine runL_callV 10 (.tuple #[U (a * b / 18446744073709551616), U (a * b % 18446744073709551616)]) (mul64_con a b (by omega) (by omega) G) ?_
  refine runL_bn [0,0,0,0,0] [(5, U (a * b / 18446744073709551616)), (6, U (a * b % 18446744073709551616))] ?_
  refine runL_nil ?_
  refine tq_then ?_
  refine tc_seq ?_
  refine tc_region ?_
  refine runL_bn [0,0] [(13, U (a * b / 18446744073709551616)), (14, U (a * b % 18446744073709551616))] ?_
  refine runL_callV 15 (U (((a * b / 18446744073709551616) * 18446744073709551616 + (a * b % 18446744073709551616)) % 2305843009213693951)) (rem64_con (a * b / 18446744073709551616) (a * b % 18446744073709551616) (by first | omega | exact mul_hi_bd (by omega) (by omega)) (by omega) G) ?_
  refine runL_bn [0] [(4, U (((a * b / 18446744073709551616) * 18446744073709551616 + (a * b % 18446744073709551616)) % 2305843009213693951))] ?_
  refine runL_nil ?_
  refine tq_then ?_
  refine tc_ret ?_
  refine tq_ret [0] [U (((a * b / 18446744073709551616) * 18446744073709551616 + (a * b % 18446744073709551616)) % 2305843009213693951)] (bp_ret (Mem.le_refl _) ?_)
  exact congrArg U (by unfold timesM; omega)
end Go.Proofs.YtngoijkcbmchdaaGreatDoor
