import Derived.Test.YtngoijkcbmchdaaGreatDoorSide
import Derived.Test.YtngoijkcbmchdaaGreatDoorWu
import Derived.Test.YtngoijkcbmchdaaGreatDoorWl
namespace Go.Proofs.YtngoijkcbmchdaaGreatDoor
open Go.Tx
set_option linter.unusedVariables false
set_option linter.unusedSimpArgs false

open Go.Conc Go.Conc.Lib

def eachV {α β : Type} (l : List α) (m : Int) (f : α → β) : List β × Int := if m < 1 ∨ m > 16 then ([], 1) else if l.length > 60 then ([], 2) else (l.map f, 0)

theorem work1 {ph : Ph} {Z : Goroutine → World → Prop} {G : Mem} {bj bf bo : Nat} (hty : ph.tWg = lk.tWg) (hCW : ph.C ≠ ph.Wg) (hz : ph.z = .agg #[I 0, Sl none 0 0]) (hcpe : ph.cpe = 2)
    (zj : (∀ j v, ([.chan (some ph.ch)] : List Value)[j]? = some v → G bj (0 + j) = some v)) (zf : (∀ j v, ([Fv 11 #[]] : List Value)[j]? = some v → G bf (0 + j) = some v)) (zo : (∀ j v, ([Sl (At ph.ob 0) ph.N ph.N] : List Value)[j]? = some v → G bo (0 + j) = some v))
    (hj : ∀ i, i < ph.N → ∃ a c x, ph.jv i = .agg #[I (i : Int), Sl a x.length c] ∧ RS EEnt G a c x ∧ ph.F i = [U ((ansOf x).a), I ((ansOf x).e)])
    {w : World} (ho : w.output = gho 0 0 0) (hG : ∀ b o v, G b o = some v → w.cell? ⟨b, o, none⟩ = some v) :
    Run1 Tryz.prog false w.heap.size (WAc Tryz.prog ph) Z (born Tryz.prog ⟨.fn (.func 18) #[Pt ph.Wg 0, Pt bj 0, Pt bf 0, Pt bo 0], #[]⟩) w := by
  refine work_run wl hty hCW Tryz.func18 17 [(0, Pt ph.Wg 0), (1, Pt bj 0), (2, Pt bf 0), (3, Pt bo 0)] rfl rfl rfl (fun w0 ho => ?_) ho hG
  refine tc_seq ?_
  refine tc_region ?_
  refine runL_defer (f := 19) (xs := #[.tmp 0]) (ats := #[67]) (vs := #[Pt ph.Wg 0]) ?_
  refine runL_nil ?_
  refine tq_then ?_
  refine tc_seq ?_
  refine tc_region ?_
  refine runL_ldG (o' := 0) 5 58 (cs := [.chan (some ph.ch)]) 0 (.chan (some ph.ch)) zj ?_
  refine runL_nil ?_
  refine tq_then ?_
  refine tc_block ?_
  refine tc_loopO (fun s => s ≤ ph.N) (fun s => gho 0 s 0) (fun _ => [(2, Pt bf 0), (3, Pt bo 0), (5, .chan (some ph.ch))]) (fun _ => G) (fun _ => []) (fun s => ph.N + 1 - s) 0 (Nat.zero_le _) ho.symm (fun s hs => ?_)
  refine tc_seq ?_
  refine tc_region ?_
  refine runL_recv (ph := ph) (b := s) 6 rfl rfl (fun i hi1 hi2 => ?_) ?_ (by intro _; rw [hz]; kernel_rfl)
  ·
    obtain ⟨a1, c1, x1, hjv, hsx, hFi⟩ := hj i hi2
    rw [hjv]
    refine runL_bn [0] [(7, Bo true)] ?_
    refine runL_nil ?_
    refine tq_then ?_
    refine tc_seq ?_
    refine tc_cond_true ?_
    refine tc_skip ?_
    refine tq_then ?_
    refine tc_block ?_
    refine tc_seq ?_
    refine tc_region ?_
    refine runL_bn [0] [(8, .agg #[I ((i : Int)), Sl a1 x1.length c1])] ?_
    refine runL_box 4 #[I 0, Sl none 0 0] 70 (fun b1 => ?_)
    refine runL_bsn [3] [] [[Sg b1 0 [I ((i : Int)), Sl a1 x1.length c1]]] ?_
    refine runL_nil ?_
    refine tq_then ?_
    refine tc_draw [6, 8] ?_
    refine dr_V [(0, Sl (At ph.ob 0) ph.N ph.N), (1, Pt b1 0), (2, I ((i : Int))), (3, Fv 11 #[]), (4, Pt b1 1), (5, Sl a1 x1.length c1)] ?_
    refine dr_mid [] [(1,0), (2,2), (4,0), (5,2)] [0, 3] [6] (fmc ?_ (fmc ?_ fm0)) (fmc ?_ fm0)
    · refine stab_of 0 9 (Sl (At ph.ob 0) ph.N ph.N) [(3, Pt bo 0)] (fun X => ?_)
      exact runL_ldG (o' := 0) 9 38 (cs := [Sl (At ph.ob 0) ph.N ph.N]) 0 (Sl (At ph.ob 0) ph.N ph.N) zo stab_end
    · refine stab_of 3 12 (Fv 11 #[]) [(2, Pt bf 0)] (fun X => ?_)
      exact runL_ldG (o' := 0) 12 47 (cs := [Fv 11 #[]]) 0 (Fv 11 #[]) zf stab_end
    refine act_of 6 [(12, Fv 11 #[]), (14, Sl a1 x1.length c1)] (fun X => ?_)
    refine runL_callV 15 (.agg #[U ((ansOf x1).a), I ((ansOf x1).e)]) (roots1_con G a1 c1 x1 hsx) ?_
    refine act_endN [(6, .agg #[U ((ansOf x1).a), I ((ansOf x1).e)]), (7, Pt ph.ob (0 + i * 2))] ?_
    refine dr_mid [3, 4, 5] [(1,0), (2,2)] [0, 7] [8] (fmc ?_ (fmc ?_ fm0)) (fmc ?_ fm0)
    · refine stab_of 0 9 (Sl (At ph.ob 0) ph.N ph.N) [(3, Pt bo 0)] (fun X => ?_)
      exact runL_ldG (o' := 0) 9 38 (cs := [Sl (At ph.ob 0) ph.N ph.N]) 0 (Sl (At ph.ob 0) ph.N ph.N) zo stab_end
    · refine stab_of 7 16 (Pt ph.ob (0 + i * 2)) [(9, Sl (At ph.ob 0) ph.N ph.N), (11, I ((i : Int)))] (fun X => ?_)
      exact runL_idx (b := ph.ob) (off := 0) (len := ph.N) (cap := ph.N) (ik := .i64) 16 43 2 i hi2 stab_end
    refine act_of 8 [(15, .agg #[U ((ansOf x1).a), I ((ansOf x1).e)]), (16, Pt ph.ob (0 + i * 2))] (fun X => ?_)
    refine runL_storeA (ph := ph) (j := i) (.agg #[U ((ansOf x1).a), I ((ansOf x1).e)]) rfl rfl hi2 (by rw [hFi]; rfl) (by rw [hFi, hcpe]; rfl) rfl ?_ ⟨by kernel_rfl, by rw [hcpe]; kernel_rfl⟩ (hx := by rw [hcpe]; as_aux_lemma => kernel_rfl)
    refine act_endNC0 [] ?_
    refine dr_end [0, 1, 2, 3, 4, 5, 7] [] [] [(2, Pt bf 0), (3, Pt bo 0), (5, .chan (some ph.ch))] (List.forall_mem_nil _) ?_
    refine tq_block ?_
    refine tq_ownsA [] ?_
    exact tq_rndO (i + 1) (by omega) (by omega)
  ·
    rw [hz]
    refine runL_bn [0] [(7, Bo false)] ?_
    refine runL_nil ?_
    refine tq_then ?_
    refine tc_seq ?_
    refine tc_cond_false ?_
    refine tc_exit ?_
    refine tq_then_exit ?_
    refine tq_rndO_exit ?_
    refine tq_block_here ?_
    exact tq_wend rfl

theorem work2 {ph : Ph} {Z : Goroutine → World → Prop} {G : Mem} {bj bf bo : Nat} (hty : ph.tWg = lk.tWg) (hCW : ph.C ≠ ph.Wg) (hz : ph.z = .agg #[I 0, I 0, U 0, U 0, I 0, Sr ([]), Sl none 0 0, Sl none 0 0]) (hcpe : ph.cpe = 1)
    (zj : (∀ j v, ([.chan (some ph.ch)] : List Value)[j]? = some v → G bj (0 + j) = some v)) (zf : (∀ j v, ([Fv 15 #[]] : List Value)[j]? = some v → G bf (0 + j) = some v)) (zo : (∀ j v, ([Sl (At ph.ob 0) ph.N ph.N] : List Value)[j]? = some v → G bo (0 + j) = some v))
    (hj : ∀ i, i < ph.N → ∃ vs x, ph.jv i = .agg (I (i : Int) :: vs).toArray ∧ EReply.R G vs x ∧ ph.F i = [Bo (okOf x)])
    {w : World} (ho : w.output = gho 0 0 0) (hG : ∀ b o v, G b o = some v → w.cell? ⟨b, o, none⟩ = some v) :
    Run1 Tryz.prog false w.heap.size (WAc Tryz.prog ph) Z (born Tryz.prog ⟨.fn (.func 22) #[Pt ph.Wg 0, Pt bj 0, Pt bf 0, Pt bo 0], #[]⟩) w := by
  refine work_run wl hty hCW Tryz.func22 17 [(0, Pt ph.Wg 0), (1, Pt bj 0), (2, Pt bf 0), (3, Pt bo 0)] rfl rfl rfl (fun w0 ho => ?_) ho hG
  refine tc_seq ?_
  refine tc_region ?_
  refine runL_defer (f := 19) (xs := #[.tmp 0]) (ats := #[67]) (vs := #[Pt ph.Wg 0]) ?_
  refine runL_nil ?_
  refine tq_then ?_
  refine tc_seq ?_
  refine tc_region ?_
  refine runL_ldG (o' := 0) 5 72 (cs := [.chan (some ph.ch)]) 0 (.chan (some ph.ch)) zj ?_
  refine runL_nil ?_
  refine tq_then ?_
  refine tc_block ?_
  refine tc_loopO (fun s => s ≤ ph.N) (fun s => gho 0 s 0) (fun _ => [(2, Pt bf 0), (3, Pt bo 0), (5, .chan (some ph.ch))]) (fun _ => G) (fun _ => []) (fun s => ph.N + 1 - s) 0 (Nat.zero_le _) ho.symm (fun s hs => ?_)
  refine tc_seq ?_
  refine tc_region ?_
  refine runL_recv (ph := ph) (b := s) 6 rfl rfl (fun i hi1 hi2 => ?_) ?_ (by intro _; rw [hz]; kernel_rfl)
  ·
    obtain ⟨_, x1, hjv, hRx, hFi⟩ := hj i hi2
    obtain ⟨a1, c1, a2, c2, rfl, w1, w2, w3, w4, w5, hs1, hs2⟩ := hRx
    rw [hjv]
    refine runL_bn [0] [(7, Bo true)] ?_
    refine runL_nil ?_
    refine tq_then ?_
    refine tc_seq ?_
    refine tc_cond_true ?_
    refine tc_skip ?_
    refine tq_then ?_
    refine tc_block ?_
    refine tc_seq ?_
    refine tc_region ?_
    refine runL_bn [0] [(8, .agg #[I ((i : Int)), I x1.head.epoch, U x1.head.root, U x1.head.prev, I x1.head.at_, Sr x1.proof.name, Sl a1 x1.proof.entries.length c1, Sl a2 x1.proof.sides.length c2])] ?_
    refine runL_box 4 #[I 0, I 0, U 0, U 0, I 0, Sr ([]), Sl none 0 0, Sl none 0 0] 74 (fun b1 => ?_)
    refine runL_bsn [3] [] [[Sg b1 0 [I ((i : Int)), I x1.head.epoch, U x1.head.root, U x1.head.prev, I x1.head.at_, Sr x1.proof.name, Sl a1 x1.proof.entries.length c1, Sl a2 x1.proof.sides.length c2]]] ?_
    refine runL_nil ?_
    refine tq_then ?_
    refine tc_draw [6, 8] ?_
    refine dr_V [(0, Sl (At ph.ob 0) ph.N ph.N), (1, Pt b1 0), (2, I ((i : Int))), (3, Fv 15 #[]), (4, Pt b1 1), (5, .agg #[I x1.head.epoch, U x1.head.root, U x1.head.prev, I x1.head.at_, Sr x1.proof.name, Sl a1 x1.proof.entries.length c1, Sl a2 x1.proof.sides.length c2])] ?_
    refine dr_mid [] [(1,0), (2,2), (4,0), (5,2)] [0, 3] [6] (fmc ?_ (fmc ?_ fm0)) (fmc ?_ fm0)
    · refine stab_of 0 9 (Sl (At ph.ob 0) ph.N ph.N) [(3, Pt bo 0)] (fun X => ?_)
      exact runL_ldG (o' := 0) 9 30 (cs := [Sl (At ph.ob 0) ph.N ph.N]) 0 (Sl (At ph.ob 0) ph.N ph.N) zo stab_end
    · refine stab_of 3 12 (Fv 15 #[]) [(2, Pt bf 0)] (fun X => ?_)
      exact runL_ldG (o' := 0) 12 57 (cs := [Fv 15 #[]]) 0 (Fv 15 #[]) zf stab_end
    refine act_of 6 [(12, Fv 15 #[]), (14, .agg #[I x1.head.epoch, U x1.head.root, U x1.head.prev, I x1.head.at_, Sr x1.proof.name, Sl a1 x1.proof.entries.length c1, Sl a2 x1.proof.sides.length c2])] (fun X => ?_)
    refine runL_callV 15 (Bo (okOf x1)) (replies1_con G [I x1.head.epoch, U x1.head.root, U x1.head.prev, I x1.head.at_, Sr x1.proof.name, Sl a1 x1.proof.entries.length c1, Sl a2 x1.proof.sides.length c2] x1 (⟨a1, c1, a2, c2, rfl, w1, w2, w3, w4, w5, hs1, hs2⟩)) ?_
    refine act_endN [(6, Bo (okOf x1)), (7, Pt ph.ob (0 + i * 1))] ?_
    refine dr_mid [3, 4, 5] [(1,0), (2,2)] [0, 7] [8] (fmc ?_ (fmc ?_ fm0)) (fmc ?_ fm0)
    · refine stab_of 0 9 (Sl (At ph.ob 0) ph.N ph.N) [(3, Pt bo 0)] (fun X => ?_)
      exact runL_ldG (o' := 0) 9 30 (cs := [Sl (At ph.ob 0) ph.N ph.N]) 0 (Sl (At ph.ob 0) ph.N ph.N) zo stab_end
    · refine stab_of 7 16 (Pt ph.ob (0 + i * 1)) [(9, Sl (At ph.ob 0) ph.N ph.N), (11, I ((i : Int)))] (fun X => ?_)
      exact runL_idx (b := ph.ob) (off := 0) (len := ph.N) (cap := ph.N) (ik := .i64) 16 4 1 i hi2 stab_end
    refine act_of 8 [(15, Bo (okOf x1)), (16, Pt ph.ob (0 + i * 1))] (fun X => ?_)
    refine runL_storeA (ph := ph) (j := i) (Bo (okOf x1)) rfl rfl hi2 (by rw [hFi]; rfl) (by rw [hFi, hcpe]; rfl) rfl ?_ ⟨by kernel_rfl, by rw [hcpe]; kernel_rfl⟩ (hx := by rw [hcpe]; as_aux_lemma => kernel_rfl)
    refine act_endNC0 [] ?_
    refine dr_end [0, 1, 2, 3, 4, 5, 7] [] [] [(2, Pt bf 0), (3, Pt bo 0), (5, .chan (some ph.ch))] (List.forall_mem_nil _) ?_
    refine tq_block ?_
    refine tq_ownsA [] ?_
    exact tq_rndO (i + 1) (by omega) (by omega)
  ·
    rw [hz]
    refine runL_bn [0] [(7, Bo false)] ?_
    refine runL_nil ?_
    refine tq_then ?_
    refine tc_seq ?_
    refine tc_cond_false ?_
    refine tc_exit ?_
    refine tq_then_exit ?_
    refine tq_rndO_exit ?_
    refine tq_block_here ?_
    exact tq_wend rfl

theorem each1_con {B0 : Nat} (G : Mem) (a_l : Option Addr) (c_l : Nat) (l : List (List EntD)) (h_l : RS ESlEnt G a_l c_l l) (m : Int) :
    ConA Tryz.prog B0 10 #[Sl a_l l.length c_l, I m, Fv 11 #[]] G (fun v G' => ∃ a' c', v = .tuple #[Sl a' (eachV l m ansOf).1.length c', I ((eachV l m ansOf).2)] ∧ RS EAns G' a' c' (eachV l m ansOf).1) := by
  refine conA_of Tryz.func10 49 [(0, Sl a_l l.length c_l), (1, I m), (2, Fv 11 #[])] rfl (fun w0 hB => ?_)
  refine tc_seq ?_
  refine tc_region ?_
  refine runL_boxT 5 #[Fv 11 #[]] 47 (fun b1 => ?_)
  refine runL_bn [0,0] [] ?_
  refine runL_nil ?_
  refine tq_then ?_
  refine tc_seq ?_
  refine tc_block ?_
  refine tc_seq ?_
  refine tc_region ?_
  refine runL_bn [0,0,0] [(16, Bo (decide (m < 1)))] ?_
  refine runL_b2n (decide (m < 1)) [16] [1,1,0] [0,0,0] (fun bb => [(19, Bo (bb || (decide (m > 16))))]) ?_
  refine runL_bn [0] [(13, Bo ((decide (m < 1)) || (decide (m > 16))))] ?_
  refine runL_nil ?_
  refine tq_then ?_
  refine tc_condP ((decide (m < 1)) || (decide (m > 16))) (fun h1 => ?_) (fun h1 => ?_)
  ·
    refine tc_rbn [0,0] [(6, Sl none 0 0), (7, I 1)] ?_
    refine tc_ret ?_
    refine tq_block_ret ?_
    refine tq_then_ret ?_
    refine tq_ret [0, 0] [Sl none 0 0, I 1] (bpA0 ?_)
    rw [show eachV l m ansOf = ([], 1) from by unfold eachV; rw [if_pos (by omega)]]
    exact ⟨none, 0, rfl, RS.nil' _ _⟩
  ·
    refine tc_rbn [0,0,0,0] [(20, Bo (decide (((l.length : Nat) : Int) > 60)))] ?_
    refine tc_condP (decide (((l.length : Nat) : Int) > 60)) (fun h2 => ?_) (fun h2 => ?_)
    ·
      refine tc_rbn [0,0] [(6, Sl none 0 0), (7, I 2)] ?_
      refine tc_ret ?_
      refine tq_block_ret ?_
      refine tq_then_ret ?_
      refine tq_ret [0, 0] [Sl none 0 0, I 2] (bpA0 ?_)
      rw [show eachV l m ansOf = ([], 2) from by unfold eachV; rw [if_neg (by omega), if_pos (by omega)]]
      exact ⟨none, 0, rfl, RS.nil' _ _⟩
    ·
      refine tc_skip ?_
      refine tq_block ?_
      refine tq_then ?_
      refine tc_seq ?_
      refine tc_region ?_
      refine runL_bn [0,0] [(25, I (((l.length : Nat) : Int)))] ?_
      refine runL_mkT (z := Value.agg #[U 0, I 0]) (sz := 2) (bytes := 16) 26 38 43 l.length (by omega) (by omega) (by kernel_rfl) (fun bo => ?_)
      refine runL_box 8 #[Sl none 0 0] 38 (fun b2 => ?_)
      refine runL_bsn [3] [] [[Sg b2 0 [Sl (At bo 0) l.length l.length]], [SgT 43 bo 0 (madeCells (Value.agg #[U 0, I 0]).cells (l.length * 2)).toList], [SgT 47 b1 0 [Fv 11 #[]]]] ?_
      refine runL_nil ?_
      refine tq_then ?_
      refine tc_seq ?_
      refine tc_region ?_
      refine runL_chan 27 rfl (fun r1 => ?_)
      refine runL_box 9 #[.chan none] 58 (fun b3 => ?_)
      refine runL_bsn [3] [] [[Sg b3 0 [.chan (some r1)]], [Sg b2 0 [Sl (At bo 0) l.length l.length]], [SgT 43 bo 0 (madeCells (Value.agg #[U 0, I 0]).cells (l.length * 2)).toList], [SgT 47 b1 0 [Fv 11 #[]]]] ?_
      refine runL_nil ?_
      refine tq_then ?_
      refine tc_seq ?_
      refine tc_region ?_
      refine runL_boxT 10 #[U 0, .int .u32 0] 67 (fun b4 => ?_)
      refine runL_nil ?_
      refine tq_then ?_
      obtain ⟨n, rfl⟩ : ∃ n : Nat, m = (n : Int) := ⟨m.toNat, by omega⟩
      refine tc_pool (ph := mkPh 43 2 47 (Fv 11 #[]) (.agg #[I 0, Sl none 0 0]) (fun x => [U ((ansOf x).a), I ((ansOf x).e)]) G a_l 1 l b4 r1 bo n b1) rfl hB rfl (by show (madeCells _ _).toList.length = l.length * 2; simp [size_madeCells]) (Nat.zero_lt_succ _) (show (43 : Nat) ≠ 0 by decide) (fun i hi => by obtain ⟨x, hx⟩ := getX (l := l) (k := i) hi; show ((l[i]?).elim [] _).length = _; rw [hx]; rfl) (show 0 < n by omega) (show n < 2147483648 by omega) (show (67 : Nat) ≠ 43 by decide) (show (47 : Nat) ≠ 67 by decide) (show (47 : Nat) ≠ 43 by decide) (fun w2 G2 hin => ?_)
      have hj : ∀ i, i < l.length → ∃ a c x, (mkPh 43 2 47 (Fv 11 #[]) (.agg #[I 0, Sl none 0 0]) (fun x => [U ((ansOf x).a), I ((ansOf x).e)]) G a_l 1 l b4 r1 bo n b1).jv i = .agg #[I (i : Int), Sl a x.length c] ∧ RS EEnt G2 a c x ∧ (mkPh 43 2 47 (Fv 11 #[]) (.agg #[I 0, Sl none 0 0]) (fun x => [U ((ansOf x).a), I ((ansOf x).e)]) G a_l 1 l b4 r1 bo n b1).F i = [U ((ansOf x).a), I ((ansOf x).e)] := fun i hi => by
        obtain ⟨x, hx⟩ := getX (l := l) (k := i) hi
        obtain ⟨cs, ⟨a', c', rfl, hs⟩, hc⟩ := cells_of h_l hx
        exact ⟨a', c', x, by show Value.agg (I (i : Int) :: cellsAt G a_l 1 i).toArray = _; rw [show cellsAt G a_l 1 i = _ from hc], hs.mono hin.mle, by show (l[i]?).elim [] _ = _; rw [hx]; rfl⟩
      refine tc_seq ?_
      refine tc_rbn [0,0] [(28, I ((n : Int))), (29, I 0)] ?_
      refine tc_block ?_
      refine tc_loopO (fun s => s ≤ n) (fun s => gho 0 s 0) (fun s => [(0, Sl a_l l.length c_l), (5, Pt b1 0), (8, Pt b2 0), (9, Pt b3 0), (10, Pt b4 0), (28, I ((n : Int))), (29, I ((s : Int)))]) (fun _ => G2) (fun _ => []) (fun s => n - s) 0 (Nat.zero_le _) hin.out.symm (fun s hs => ?_)
      refine tc_rbn [0] [(30, Bo (decide ((s : Int) < (n : Int))))] ?_
      refine tc_seq ?_
      refine tc_condP (decide ((s : Int) < (n : Int))) (fun h3 => ?_) (fun h3 => ?_)
      ·
        refine tc_skip ?_
        refine tq_then ?_
        refine tc_seq ?_
        refine tc_block ?_
        refine tc_seq ?_
        refine tc_region ?_
        refine runL_add 31 rfl wl rfl (show n < 2147483648 by omega) (show s < n by omega) rfl ?_ (by intro _; kernel_rfl)
        refine runL_nil ?_
        refine tq_then ?_
        refine tc_region ?_
        refine runL_bn [0] [(32, Fv 18 #[Pt b4 0, Pt b3 0, Pt b1 0, Pt b2 0])] ?_
        refine runL_go (df := ⟨.fn (.func 18) #[Pt b4 0, Pt b3 0, Pt b1 0, Pt b2 0], #[]⟩) (fn := .func 18) (caps := #[Pt b4 0, Pt b3 0, Pt b1 0, Pt b2 0]) rfl rfl rfl (fun w hw => lend_run (fun {w'} ho' hG' => work1 (ph := mkPh 43 2 47 (Fv 11 #[]) (.agg #[I 0, Sl none 0 0]) (fun x => [U ((ansOf x).a), I ((ansOf x).e)]) G a_l 1 l b4 r1 bo n b1) rfl hin.ne.2.1 rfl rfl (hin.has (Sg b3 0 [.chan (some r1)]) (by simp)) (hin.has (SgT 47 b1 0 [Fv 11 #[]]) (by simp [mkPh])) (hin.has (Sg b2 0 [Sl (At bo 0) l.length l.length]) (by simp)) hj ho' hG') hin.g2 hw (Mem.le_refl _)) ?_
        refine runL_nil ?_
        refine tq_block ?_
        refine tq_then ?_
        refine tc_region ?_
        refine runL_bn [0,0] [(29, I (IntKind.i64.wrap (((s : Int)) + 1)))] ?_
        refine runL_wi64 29 (((s : Int)) + 1) (by omega) ?_
        refine runL_nil ?_
        exact tq_rndO (s + 1) (by omega) (by omega)
      ·
        refine tc_exit ?_
        refine tq_then_exit ?_
        refine tq_rndO_exit ?_
        obtain rfl : n = s := by omega
        refine tq_block_here ?_
        refine tq_then ?_
        refine tc_seq ?_
        refine tc_rbn [0,0,0] [(34, Sl a_l l.length c_l), (35, I (((l.length : Nat) : Int))), (36, I 0)] ?_
        refine tc_block ?_
        refine tc_loopO (fun s => s ≤ l.length) (fun s => gho 0 n s) (fun s => [(8, Pt b2 0), (9, Pt b3 0), (10, Pt b4 0), (34, Sl a_l l.length c_l), (35, I (((l.length : Nat) : Int))), (36, I ((s : Int)))]) (fun _ => G2) (fun _ => []) (fun s => l.length - s) 0 (Nat.zero_le _) rfl (fun s hs => ?_)
        refine tc_rbn [0] [(37, Bo (decide ((s : Int) < ((l.length : Nat) : Int))))] ?_
        refine tc_seq ?_
        refine tc_condP (decide ((s : Int) < ((l.length : Nat) : Int))) (fun h4 => ?_) (fun h4 => ?_)
        ·
          refine tc_skip ?_
          refine tq_then ?_
          refine tc_seq ?_
          refine tc_block ?_
          refine tc_seq ?_
          refine tc_region ?_
          refine runL_bn [0] [(38, I ((s : Int)))] ?_
          obtain ⟨b5, o1, rfl⟩ := RS.addr (h_l.mono hin.mle) (k := s) (by omega)
          obtain ⟨x1, hx1⟩ := getX (l := l) (k := s) (by omega)
          obtain ⟨_, ⟨a1, c1, rfl, hs1⟩, hc1⟩ := RS.get (h_l.mono hin.mle) hx1
          refine runL_idx (b := b5) (off := o1) (len := l.length) (cap := c_l) (ik := .i64) 39 41 1 s (by omega) ?_
          refine runL_ldG 40 41 (cs := [Sl a1 x1.length c1]) 0 (Sl a1 x1.length c1) hc1 ?_
          refine runL_bn [0,0] [(11, I ((s : Int))), (12, Sl a1 x1.length c1)] ?_
          refine runL_nil ?_
          refine tq_then ?_
          refine tc_region ?_
          refine runL_ldG (o' := 0) 41 58 (cs := [.chan (some r1)]) 0 (.chan (some r1)) (hin.has (Sg b3 0 [.chan (some r1)]) (by simp)) ?_
          refine runL_bn [0,0,0] [(44, .agg #[I ((s : Int)), Sl a1 x1.length c1])] ?_
          have hca1 : cellsAt G (At b5 o1) 1 s = [Sl a1 x1.length c1] := cellsAt_eq (E := ESlEnt) h_l hin.mle hx1 rfl hc1
          refine runL_send rfl rfl (show s < l.length by omega) ?_ (hy := by show _ = Value.agg (I (s : Int) :: cellsAt G (At b5 o1) 1 s).toArray; rw [hca1]; kernel_rfl)
          refine runL_nil ?_
          refine tq_block ?_
          refine tq_then ?_
          refine tc_region ?_
          refine runL_bn [0,0] [(36, I (IntKind.i64.wrap (((s : Int)) + 1)))] ?_
          refine runL_wi64 36 (((s : Int)) + 1) (by omega) ?_
          refine runL_nil ?_
          exact tq_rndO (s + 1) (by omega) (by omega)
        ·
          refine tc_exit ?_
          refine tq_then_exit ?_
          refine tq_rndO_exit ?_
          obtain rfl : l.length = s := by omega
          refine tq_block_here ?_
          refine tq_then ?_
          refine tc_seq ?_
          refine tc_region ?_
          refine runL_ldG (o' := 0) 46 58 (cs := [.chan (some r1)]) 0 (.chan (some r1)) (hin.has (Sg b3 0 [.chan (some r1)]) (by simp)) ?_
          refine runL_close rfl rfl ?_
          refine runL_nil ?_
          refine tq_then ?_
          refine tc_seq ?_
          refine tc_region ?_
          refine runL_wait 47 rfl wl rfl (show n < 2147483648 by omega) rfl hin.ob ?_ (by intro _; kernel_rfl)
          refine runL_nil ?_
          refine tq_thenJ ?_
          refine tc_seq ?_
          refine tc_region ?_
          refine runL_ldG (o' := 0) 48 38 (cs := [Sl (At bo 0) l.length l.length]) 0 (Sl (At bo 0) l.length l.length) (fun j v hv => (Mem.le_add _ _) _ _ _ ((hin.has (Sg b2 0 [Sl (At bo 0) l.length l.length]) (by simp)) j v hv)) ?_
          refine runL_bn [0,0] [(6, Sl (At bo 0) l.length l.length), (7, I 0)] ?_
          refine runL_nil ?_
          refine tq_then ?_
          refine tc_ret ?_
          refine tq_and rfl ?_
          refine tq_ret [0, 0] [Sl (At bo 0) l.length l.length, I 0] (fun w hw => ⟨_, _, gho 17 0 0, rfl, hin.back _ _ _ _ hw, ?_⟩)
          rw [show eachV l (n : Int) ansOf = (l.map ansOf, 0) from by unfold eachV; rw [if_neg (by omega), if_neg (by omega)]]
          refine ⟨At bo 0, l.length, by simp only [List.length_map]; rfl, ?_⟩
          exact RS.ofAll (E := EAns) (ph := mkPh 43 2 47 (Fv 11 #[]) (.agg #[I 0, Sl none 0 0]) (fun x => [U ((ansOf x).a), I ((ansOf x).e)]) G a_l 1 l b4 r1 bo n b1) (f := ansOf) rfl rfl (fun i x hx => by show EAns.R _ ((l[i]?).elim [] _) _; rw [hx]; exact rfl) hin.obn (by simp only [EAns]; omega) (by omega)

theorem each2_con {B0 : Nat} (G : Mem) (a_l : Option Addr) (c_l : Nat) (l : List ReplyD) (h_l : RS EReply G a_l c_l l) (m : Int) :
    ConA Tryz.prog B0 14 #[Sl a_l l.length c_l, I m, Fv 15 #[]] G (fun v G' => ∃ a' c', v = .tuple #[Sl a' (eachV l m okOf).1.length c', I ((eachV l m okOf).2)] ∧ RS EB G' a' c' (eachV l m okOf).1) := by
  refine conA_of Tryz.func14 49 [(0, Sl a_l l.length c_l), (1, I m), (2, Fv 15 #[])] rfl (fun w0 hB => ?_)
  refine tc_seq ?_
  refine tc_region ?_
  refine runL_boxT 5 #[Fv 15 #[]] 57 (fun b1 => ?_)
  refine runL_bn [0,0] [] ?_
  refine runL_nil ?_
  refine tq_then ?_
  refine tc_seq ?_
  refine tc_block ?_
  refine tc_seq ?_
  refine tc_region ?_
  refine runL_bn [0,0,0] [(16, Bo (decide (m < 1)))] ?_
  refine runL_b2n (decide (m < 1)) [16] [1,1,0] [0,0,0] (fun bb => [(19, Bo (bb || (decide (m > 16))))]) ?_
  refine runL_bn [0] [(13, Bo ((decide (m < 1)) || (decide (m > 16))))] ?_
  refine runL_nil ?_
  refine tq_then ?_
  refine tc_condP ((decide (m < 1)) || (decide (m > 16))) (fun h1 => ?_) (fun h1 => ?_)
  ·
    refine tc_rbn [0,0] [(6, Sl none 0 0), (7, I 1)] ?_
    refine tc_ret ?_
    refine tq_block_ret ?_
    refine tq_then_ret ?_
    refine tq_ret [0, 0] [Sl none 0 0, I 1] (bpA0 ?_)
    rw [show eachV l m okOf = ([], 1) from by unfold eachV; rw [if_pos (by omega)]]
    exact ⟨none, 0, rfl, RS.nil' _ _⟩
  ·
    refine tc_rbn [0,0,0,0] [(20, Bo (decide (((l.length : Nat) : Int) > 60)))] ?_
    refine tc_condP (decide (((l.length : Nat) : Int) > 60)) (fun h2 => ?_) (fun h2 => ?_)
    ·
      refine tc_rbn [0,0] [(6, Sl none 0 0), (7, I 2)] ?_
      refine tc_ret ?_
      refine tq_block_ret ?_
      refine tq_then_ret ?_
      refine tq_ret [0, 0] [Sl none 0 0, I 2] (bpA0 ?_)
      rw [show eachV l m okOf = ([], 2) from by unfold eachV; rw [if_neg (by omega), if_pos (by omega)]]
      exact ⟨none, 0, rfl, RS.nil' _ _⟩
    ·
      refine tc_skip ?_
      refine tq_block ?_
      refine tq_then ?_
      refine tc_seq ?_
      refine tc_region ?_
      refine runL_bn [0,0] [(25, I (((l.length : Nat) : Int)))] ?_
      refine runL_mkT (z := Value.bool false) (sz := 1) (bytes := 1) 26 30 4 l.length (by omega) (by omega) (by kernel_rfl) (fun bo => ?_)
      refine runL_box 8 #[Sl none 0 0] 30 (fun b2 => ?_)
      refine runL_bsn [3] [] [[Sg b2 0 [Sl (At bo 0) l.length l.length]], [SgT 4 bo 0 (madeCells (Value.bool false).cells (l.length * 1)).toList], [SgT 57 b1 0 [Fv 15 #[]]]] ?_
      refine runL_nil ?_
      refine tq_then ?_
      refine tc_seq ?_
      refine tc_region ?_
      refine runL_chan 27 rfl (fun r1 => ?_)
      refine runL_box 9 #[.chan none] 72 (fun b3 => ?_)
      refine runL_bsn [3] [] [[Sg b3 0 [.chan (some r1)]], [Sg b2 0 [Sl (At bo 0) l.length l.length]], [SgT 4 bo 0 (madeCells (Value.bool false).cells (l.length * 1)).toList], [SgT 57 b1 0 [Fv 15 #[]]]] ?_
      refine runL_nil ?_
      refine tq_then ?_
      refine tc_seq ?_
      refine tc_region ?_
      refine runL_boxT 10 #[U 0, .int .u32 0] 67 (fun b4 => ?_)
      refine runL_nil ?_
      refine tq_then ?_
      obtain ⟨n, rfl⟩ : ∃ n : Nat, m = (n : Int) := ⟨m.toNat, by omega⟩
      refine tc_pool (ph := mkPh 4 1 57 (Fv 15 #[]) (.agg #[I 0, I 0, U 0, U 0, I 0, Sr ([]), Sl none 0 0, Sl none 0 0]) (fun x => [Bo (okOf x)]) G a_l 7 l b4 r1 bo n b1) rfl hB rfl (by show (madeCells _ _).toList.length = l.length * 1; simp [size_madeCells]) (Nat.zero_lt_succ _) (show (4 : Nat) ≠ 0 by decide) (fun i hi => by obtain ⟨x, hx⟩ := getX (l := l) (k := i) hi; show ((l[i]?).elim [] _).length = _; rw [hx]; rfl) (show 0 < n by omega) (show n < 2147483648 by omega) (show (67 : Nat) ≠ 4 by decide) (show (57 : Nat) ≠ 67 by decide) (show (57 : Nat) ≠ 4 by decide) (fun w2 G2 hin => ?_)
      have hj : ∀ i, i < l.length → ∃ vs x, (mkPh 4 1 57 (Fv 15 #[]) (.agg #[I 0, I 0, U 0, U 0, I 0, Sr ([]), Sl none 0 0, Sl none 0 0]) (fun x => [Bo (okOf x)]) G a_l 7 l b4 r1 bo n b1).jv i = .agg (I (i : Int) :: vs).toArray ∧ EReply.R G2 vs x ∧ (mkPh 4 1 57 (Fv 15 #[]) (.agg #[I 0, I 0, U 0, U 0, I 0, Sr ([]), Sl none 0 0, Sl none 0 0]) (fun x => [Bo (okOf x)]) G a_l 7 l b4 r1 bo n b1).F i = [Bo (okOf x)] := fun i hi => by
        obtain ⟨x, hx⟩ := getX (l := l) (k := i) hi
        obtain ⟨cs, hR, hc⟩ := cells_of h_l hx
        exact ⟨cs, x, by show Value.agg (I (i : Int) :: cellsAt G a_l 7 i).toArray = _; rw [show cellsAt G a_l 7 i = _ from hc], EReply.mono hin.mle hR, by show (l[i]?).elim [] _ = _; rw [hx]; rfl⟩
      refine tc_seq ?_
      refine tc_rbn [0,0] [(28, I ((n : Int))), (29, I 0)] ?_
      refine tc_block ?_
      refine tc_loopO (fun s => s ≤ n) (fun s => gho 0 s 0) (fun s => [(0, Sl a_l l.length c_l), (5, Pt b1 0), (8, Pt b2 0), (9, Pt b3 0), (10, Pt b4 0), (28, I ((n : Int))), (29, I ((s : Int)))]) (fun _ => G2) (fun _ => []) (fun s => n - s) 0 (Nat.zero_le _) hin.out.symm (fun s hs => ?_)
      refine tc_rbn [0] [(30, Bo (decide ((s : Int) < (n : Int))))] ?_
      refine tc_seq ?_
      refine tc_condP (decide ((s : Int) < (n : Int))) (fun h3 => ?_) (fun h3 => ?_)
      ·
        refine tc_skip ?_
        refine tq_then ?_
        refine tc_seq ?_
        refine tc_block ?_
        refine tc_seq ?_
        refine tc_region ?_
        refine runL_add 31 rfl wl rfl (show n < 2147483648 by omega) (show s < n by omega) rfl ?_ (by intro _; kernel_rfl)
        refine runL_nil ?_
        refine tq_then ?_
        refine tc_region ?_
        refine runL_bn [0] [(32, Fv 22 #[Pt b4 0, Pt b3 0, Pt b1 0, Pt b2 0])] ?_
        refine runL_go (df := ⟨.fn (.func 22) #[Pt b4 0, Pt b3 0, Pt b1 0, Pt b2 0], #[]⟩) (fn := .func 22) (caps := #[Pt b4 0, Pt b3 0, Pt b1 0, Pt b2 0]) rfl rfl rfl (fun w hw => lend_run (fun {w'} ho' hG' => work2 (ph := mkPh 4 1 57 (Fv 15 #[]) (.agg #[I 0, I 0, U 0, U 0, I 0, Sr ([]), Sl none 0 0, Sl none 0 0]) (fun x => [Bo (okOf x)]) G a_l 7 l b4 r1 bo n b1) rfl hin.ne.2.1 rfl rfl (hin.has (Sg b3 0 [.chan (some r1)]) (by simp)) (hin.has (SgT 57 b1 0 [Fv 15 #[]]) (by simp [mkPh])) (hin.has (Sg b2 0 [Sl (At bo 0) l.length l.length]) (by simp)) hj ho' hG') hin.g2 hw (Mem.le_refl _)) ?_
        refine runL_nil ?_
        refine tq_block ?_
        refine tq_then ?_
        refine tc_region ?_
        refine runL_bn [0,0] [(29, I (IntKind.i64.wrap (((s : Int)) + 1)))] ?_
        refine runL_wi64 29 (((s : Int)) + 1) (by omega) ?_
        refine runL_nil ?_
        exact tq_rndO (s + 1) (by omega) (by omega)
      ·
        refine tc_exit ?_
        refine tq_then_exit ?_
        refine tq_rndO_exit ?_
        obtain rfl : n = s := by omega
        refine tq_block_here ?_
        refine tq_then ?_
        refine tc_seq ?_
        refine tc_rbn [0,0,0] [(34, Sl a_l l.length c_l), (35, I (((l.length : Nat) : Int))), (36, I 0)] ?_
        refine tc_block ?_
        refine tc_loopO (fun s => s ≤ l.length) (fun s => gho 0 n s) (fun s => [(8, Pt b2 0), (9, Pt b3 0), (10, Pt b4 0), (34, Sl a_l l.length c_l), (35, I (((l.length : Nat) : Int))), (36, I ((s : Int)))]) (fun _ => G2) (fun _ => []) (fun s => l.length - s) 0 (Nat.zero_le _) rfl (fun s hs => ?_)
        refine tc_rbn [0] [(37, Bo (decide ((s : Int) < ((l.length : Nat) : Int))))] ?_
        refine tc_seq ?_
        refine tc_condP (decide ((s : Int) < ((l.length : Nat) : Int))) (fun h4 => ?_) (fun h4 => ?_)
        ·
          refine tc_skip ?_
          refine tq_then ?_
          refine tc_seq ?_
          refine tc_block ?_
          refine tc_seq ?_
          refine tc_region ?_
          refine runL_bn [0] [(38, I ((s : Int)))] ?_
          obtain ⟨b5, o1, rfl⟩ := RS.addr (h_l.mono hin.mle) (k := s) (by omega)
          obtain ⟨x1, hx1⟩ := getX (l := l) (k := s) (by omega)
          obtain ⟨_, ⟨a1, c1, a2, c2, rfl, w1, w2, w3, w4, w5, hs1, hs2⟩, hc1⟩ := RS.get (h_l.mono hin.mle) hx1
          refine runL_idx (b := b5) (off := o1) (len := l.length) (cap := c_l) (ik := .i64) 39 54 7 s (by omega) ?_
          refine runL_ldG 40 54 (cs := [I x1.head.epoch, U x1.head.root, U x1.head.prev, I x1.head.at_, Sr x1.proof.name, Sl a1 x1.proof.entries.length c1, Sl a2 x1.proof.sides.length c2]) 0 (.agg #[I x1.head.epoch, U x1.head.root, U x1.head.prev, I x1.head.at_, Sr x1.proof.name, Sl a1 x1.proof.entries.length c1, Sl a2 x1.proof.sides.length c2]) hc1 ?_
          refine runL_box 12 #[I 0, U 0, U 0, I 0, Sr ([]), Sl none 0 0, Sl none 0 0] 54 (fun b6 => ?_)
          refine runL_bsn [0,3] [(11, I ((s : Int)))] [[Sg b6 0 [I x1.head.epoch, U x1.head.root, U x1.head.prev, I x1.head.at_, Sr x1.proof.name, Sl a1 x1.proof.entries.length c1, Sl a2 x1.proof.sides.length c2]]] ?_
          refine runL_nil ?_
          refine tq_then ?_
          refine tc_region ?_
          refine runL_ldG (o' := 0) 41 72 (cs := [.chan (some r1)]) 0 (.chan (some r1)) (hin.has (Sg b3 0 [.chan (some r1)]) (by simp)) ?_
          refine runL_bn [0,2,0] [(44, .agg #[I ((s : Int)), I x1.head.epoch, U x1.head.root, U x1.head.prev, I x1.head.at_, Sr x1.proof.name, Sl a1 x1.proof.entries.length c1, Sl a2 x1.proof.sides.length c2])] ?_
          have hca1 : cellsAt G (At b5 o1) 7 s = [I x1.head.epoch, U x1.head.root, U x1.head.prev, I x1.head.at_, Sr x1.proof.name, Sl a1 x1.proof.entries.length c1, Sl a2 x1.proof.sides.length c2] := cellsAt_eq (E := EReply) h_l hin.mle hx1 rfl hc1
          refine runL_send rfl rfl (show s < l.length by omega) ?_ (hy := by show _ = Value.agg (I (s : Int) :: cellsAt G (At b5 o1) 7 s).toArray; rw [hca1]; kernel_rfl)
          refine runL_nil ?_
          refine tq_block ?_
          refine tq_then ?_
          refine tc_region ?_
          refine runL_bn [0,0] [(36, I (IntKind.i64.wrap (((s : Int)) + 1)))] ?_
          refine runL_wi64 36 (((s : Int)) + 1) (by omega) ?_
          refine runL_nil ?_
          refine tq_ownsA [] ?_
          exact tq_rndO (s + 1) (by omega) (by omega)
        ·
          refine tc_exit ?_
          refine tq_then_exit ?_
          refine tq_rndO_exit ?_
          obtain rfl : l.length = s := by omega
          refine tq_block_here ?_
          refine tq_then ?_
          refine tc_seq ?_
          refine tc_region ?_
          refine runL_ldG (o' := 0) 46 72 (cs := [.chan (some r1)]) 0 (.chan (some r1)) (hin.has (Sg b3 0 [.chan (some r1)]) (by simp)) ?_
          refine runL_close rfl rfl ?_
          refine runL_nil ?_
          refine tq_then ?_
          refine tc_seq ?_
          refine tc_region ?_
          refine runL_wait 47 rfl wl rfl (show n < 2147483648 by omega) rfl hin.ob ?_ (by intro _; kernel_rfl)
          refine runL_nil ?_
          refine tq_thenJ ?_
          refine tc_seq ?_
          refine tc_region ?_
          refine runL_ldG (o' := 0) 48 30 (cs := [Sl (At bo 0) l.length l.length]) 0 (Sl (At bo 0) l.length l.length) (fun j v hv => (Mem.le_add _ _) _ _ _ ((hin.has (Sg b2 0 [Sl (At bo 0) l.length l.length]) (by simp)) j v hv)) ?_
          refine runL_bn [0,0] [(6, Sl (At bo 0) l.length l.length), (7, I 0)] ?_
          refine runL_nil ?_
          refine tq_then ?_
          refine tc_ret ?_
          refine tq_and rfl ?_
          refine tq_ret [0, 0] [Sl (At bo 0) l.length l.length, I 0] (fun w hw => ⟨_, _, gho 17 0 0, rfl, hin.back _ _ _ _ hw, ?_⟩)
          rw [show eachV l (n : Int) okOf = (l.map okOf, 0) from by unfold eachV; rw [if_neg (by omega), if_neg (by omega)]]
          refine ⟨At bo 0, l.length, by simp only [List.length_map]; rfl, ?_⟩
          exact RS.ofAll (E := EB) (ph := mkPh 4 1 57 (Fv 15 #[]) (.agg #[I 0, I 0, U 0, U 0, I 0, Sr ([]), Sl none 0 0, Sl none 0 0]) (fun x => [Bo (okOf x)]) G a_l 7 l b4 r1 bo n b1) (f := okOf) rfl rfl (fun i x hx => by show EB.R _ ((l[i]?).elim [] _) _; rw [hx]; exact rfl) hin.obn (by simp only [EB]; omega) (by omega)
end Go.Proofs.YtngoijkcbmchdaaGreatDoor
