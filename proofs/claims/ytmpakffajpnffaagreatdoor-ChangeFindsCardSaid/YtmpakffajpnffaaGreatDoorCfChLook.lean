import Derived.Test.YtmpakffajpnffaaGreatDoorCfChange
namespace Go.Proofs.YtmpakffajpnffaaGreatDoor
open Go.Tx
set_option linter.unusedVariables false
set_option linter.unusedSimpArgs false
open Go.Tx Go.Proofs Go.Shelf
def P2 : Nat → Nat
  | 0 => 1
  | d + 1 => 2 * P2 d
theorem P2_pos : ∀ d, 1 ≤ P2 d
  | 0 => Nat.le_refl _
  | d + 1 => by have := P2_pos d; unfold P2; omega
theorem P2_half {d : Nat} (h : 0 < d) : P2 d = 2 * P2 (d - 1) ∧ 1 ≤ P2 (d - 1) := by
  obtain ⟨e, rfl⟩ : ∃ e, d = e + 1 := ⟨d - 1, by omega⟩
  exact ⟨rfl, P2_pos _⟩
def sameAt (a b : List EntD) (q : List UInt8) : Prop := (treeAtE a q).1 = (treeAtE b q).1
instance (a b : List EntD) (q : List UInt8) : Decidable (sameAt a b q) := by unfold sameAt; infer_instance
def lookD (a b : List EntD) : Nat → List UInt8 → Int × List (List UInt8)
  | 0, q => if sameAt a b q then (1, []) else (1, differ a b q)
  | d + 1, q => if sameAt a b q then (1, []) else (1 + (lookD a b d (q ++ [48])).1 + (lookD a b d (q ++ [49])).1, (lookD a b d (q ++ [48])).2 ++ (lookD a b d (q ++ [49])).2)
theorem lookD_same {a b : List EntD} {d : Nat} {q : List UInt8} (h : sameAt a b q) : lookD a b d q = (1, []) := by
  cases d <;> (unfold lookD; rw [if_pos h])
theorem lookD_leaf {a b : List EntD} {d : Nat} {q : List UInt8} (hd : d = 0) (h : ¬ sameAt a b q) : lookD a b d q = (1, differ a b q) := by
  subst hd; unfold lookD; rw [if_neg h]
theorem lookD_fork {a b : List EntD} {d : Nat} {q : List UInt8} (hd : 0 < d) (h : ¬ sameAt a b q) : lookD a b d q = (1 + (lookD a b (d - 1) (q ++ [48])).1 + (lookD a b (d - 1) (q ++ [49])).1, (lookD a b (d - 1) (q ++ [48])).2 ++ (lookD a b (d - 1) (q ++ [49])).2) := by
  obtain ⟨e, rfl⟩ : ∃ e, d = e + 1 := ⟨d - 1, by omega⟩
  conv => lhs; unfold lookD
  rw [if_neg h]; rfl
theorem lookD_bd {a b : List EntD} (ha : a.length ≤ 24) (hb : b.length ≤ 24) : ∀ (d : Nat) (q : List UInt8), 1 ≤ (lookD a b d q).1 ∧ (lookD a b d q).1 < 2 * P2 d ∧ (lookD a b d q).2.length ≤ 48 * P2 d
  | 0, q => by
    unfold lookD P2
    have := differ_len a b q
    split <;> simp; omega
  | d + 1, q => by
    have h1 := lookD_bd ha hb d (q ++ [48]); have h2 := lookD_bd ha hb d (q ++ [49]); have h3 := P2_pos d
    unfold lookD P2
    split
    · simp; omega
    · simp only [List.length_append]; omega
def chLook (a b : List EntD) : List (List UInt8) × Int × Int := if ¬ chCheck a b = 0 then ([], 0, chCheck a b) else ((lookD a b 16 []).2, (lookD a b 16 []).1, 0)
theorem look_aux (N : Nat) : ∀ (d : Nat) (G : Mem) (bm ba bb bo bl : Nat) (a b : List EntD) (aa : Option Addr) (ca : Nat) (ab : Option Addr) (cb : Nat) (h_a : RS EEnt G aa ca a) (h_b : RS EEnt G ab cb b) (hz_a : ∀ j v, [Sl aa a.length ca][j]? = some v → G ba (0 + j) = some v) (hz_b : ∀ j v, [Sl ab b.length cb][j]? = some v → G bb (0 + j) = some v) (hz_l : ∀ j v, [(.func (.func 72) #[] #[Pt bm 0, Pt ba 0, Pt bb 0, Pt bo 0, Pt bl 0] : Value)][j]? = some v → G bl (0 + j) = some v) (hla : a.length ≤ 24) (hlb : b.length ≤ 24) (q : List UInt8) (hq : q.length + d = 16) (n : Int) (hn : 0 ≤ n ∧ n + 2 * (P2 d : Nat) ≤ 1000000000) (ao : Option Addr) (co : Nat) (out : List (List UInt8)) (r : List Seg) (h_r : TRow ES G ao co out r) (ho : out.length + 48 * P2 d ≤ 1000000000), d < N → ConL Tryz.prog 72 #[Sr q, Pt bm 0, Pt ba 0, Pt bb 0, Pt bo 0, Pt bl 0] G [[Sg bm 0 [I n]], [Sg bo 0 [Sl ao out.length co]], r] (fun u G' L' => ∃ ao' co' r', u = .tuple #[] ∧ TRow ES G' ao' co' (out ++ (lookD a b d q).2) r' ∧ L' = [[Sg bm 0 [I (n + (lookD a b d q).1)]], [Sg bo 0 [Sl ao' (out ++ (lookD a b d q).2).length co']], r']) := by
 induction N with
 | zero => intros; omega
 | succ N ih =>
  intro d G bm ba bb bo bl a b aa ca ab cb h_a h_b hz_a hz_b hz_l hla hlb q hq n hn ao co out r h_r ho hN
  intro Lr
  refine con_of Tryz.func72 47 [(0, Sr q), (1, Pt bm 0), (2, Pt ba 0), (3, Pt bb 0), (4, Pt bo 0), (5, Pt bl 0)] rfl (fun w0 G0 => ?_)
  show TC _ _ _ _ _ ([Sg bm 0 [I n]] :: [Sg bo 0 [Sl ao out.length co]] :: r :: Lr)
  refine tc_rbs [2,0,3] [(0, Sr q), (2, Pt ba 0), (3, Pt bb 0), (4, Pt bo 0), (5, Pt bl 0)] ([Sg bm 0 [I (IntKind.i64.wrap (n + 1))]] :: [Sg bo 0 [Sl ao out.length co]] :: r :: Lr) ?_
  have e1 : IntKind.i64.wrap (n + 1) = n + 1 := IntWalk.i64_in _ (by first | omega | (have q1_ := P2_half (d := d) (by omega); have q2_ := lookD_bd hla hlb (d - 1) (q ++ [48]); have q3_ := lookD_bd hla hlb (d - 1) (q ++ [49]); (try simp only [List.length_append, List.length_cons, List.length_nil]); omega) | ((try simp only [List.length_append, List.length_cons, List.length_nil]); omega))
  refine tc_eq (fr' := [(0, Sr q), (2, Pt ba 0), (3, Pt bb 0), (4, Pt bo 0), (5, Pt bl 0)]) (L' := ([Sg bm 0 [I (n + 1)]] :: [Sg bo 0 [Sl ao out.length co]] :: r :: Lr)) (by rfl) (by simp only [e1]) ?_
  clear e1
  refine tc_seq (tc_region ?_)
  refine runL_ldG (o' := 0) 14 33 (cs := [Sl aa a.length ca]) 0 (Sl aa a.length ca) hz_a ?_
  refine runL_b [0] [(0, Sr q), (2, Pt ba 0), (3, Pt bb 0), (4, Pt bo 0), (5, Pt bl 0), (14, Sl aa a.length ca), (15, Sr q)] ?_
  refine runL_callV 16 (.tuple #[U ((treeAtE a q).1), I ((treeAtE a q).2)]) (treeAtE_con G aa ca a h_a q (by first | assumption | omega | (simp; done) | (simp; omega))) ?_
  refine runL_b [0,0,0,0,0] [(0, Sr q), (2, Pt ba 0), (3, Pt bb 0), (4, Pt bo 0), (5, Pt bl 0), (7, U ((treeAtE a q).1))] (runL_nil (tq_then (tc_seq (tc_region ?_))))
  refine runL_ldG (o' := 0) 20 33 (cs := [Sl ab b.length cb]) 0 (Sl ab b.length cb) hz_b ?_
  refine runL_b [0] [(0, Sr q), (2, Pt ba 0), (3, Pt bb 0), (4, Pt bo 0), (5, Pt bl 0), (7, U ((treeAtE a q).1)), (20, Sl ab b.length cb), (21, Sr q)] ?_
  refine runL_callV 22 (.tuple #[U ((treeAtE b q).1), I ((treeAtE b q).2)]) (treeAtE_con G ab cb b h_b q (by first | assumption | omega | (simp; done) | (simp; omega))) ?_
  refine runL_b [0,0,0,0,0] [(0, Sr q), (2, Pt ba 0), (3, Pt bb 0), (4, Pt bo 0), (5, Pt bl 0), (7, U ((treeAtE a q).1)), (9, U ((treeAtE b q).1))] (runL_nil (tq_then (tc_block ?_)))
  refine tc_rb [0,0,0,0] [(0, Sr q), (2, Pt ba 0), (3, Pt bb 0), (4, Pt bo 0), (5, Pt bl 0), (33, Bo (decide ((treeAtE a q).1 = (treeAtE b q).1)))] ?_
  refine tc_cond (decide ((treeAtE a q).1 = (treeAtE b q).1)) (fun h1 => ?_) (fun h1 => ?_)
  ·
   try simp only [BB] at h1
   refine tc_skip (tq_block ?_)
   refine tq_front 2 ?_
   refine tq_front 2 ?_
   refine tq_front 2 ?_
   have hf1 : n + (lookD a b d q).1 = n + 1 := by
    first | (rw [lookD_same h1]; done) | (rw [lookD_leaf (by omega) h1]; done) | (rw [lookD_fork (by omega) h1]; omega)
   have hg1 : out ++ (lookD a b d q).2 = out := by
    first | (rw [lookD_same h1]; simp; done) | (rw [lookD_leaf (by omega) h1]; done) | (rw [lookD_fork (by omega) h1]; simp; done)
   refine tq_end [] [] (bp_own (Lr := Lr) [[Sg bm 0 [I (n + 1)]], [Sg bo 0 [Sl ao out.length co]], r] (.cons_cons _ (.cons_cons _ (.cons_cons _ (List.Sublist.refl _)))) (Mem.le_refl _) ?_)
   rw [hf1, hg1]
   exact ⟨ao, co, r, rfl, h_r, rfl⟩
  ·
   try simp only [BB] at h1
   refine tc_rb [0,0,0,0] [(0, Sr q), (2, Pt ba 0), (3, Pt bb 0), (4, Pt bo 0), (5, Pt bl 0), (37, Bo (decide (((q).length : Int) = 16)))] ?_
   refine tc_cond (decide (((q).length : Int) = 16)) (fun h2 => ?_) (fun h2 => ?_)
   ·
    try simp only [BB] at h2
    refine tc_draw [4, 5, 6] ?_
    refine dr_V [(0, Sl ao out.length co), (1, Sl aa a.length ca), (2, Sl ab b.length cb), (3, Sr q)] ?_
    refine dr_mid [] [(0,4), (3,0)] [1, 2] [4] (List.forall_mem_cons.2 ⟨?_, (List.forall_mem_cons.2 ⟨?_, List.forall_mem_nil _⟩)⟩) (List.forall_mem_cons.2 ⟨?_, List.forall_mem_nil _⟩)
    ·
     refine stab_of 1 42 (Sl aa a.length ca) [(2, Pt ba 0)] (fun X => ?_)
     exact runL_ldG (o' := 0) 42 33 (cs := [Sl aa a.length ca]) 0 (Sl aa a.length ca) hz_a stab_end
    ·
     refine stab_of 2 43 (Sl ab b.length cb) [(3, Pt bb 0)] (fun X => ?_)
     exact runL_ldG (o' := 0) 43 33 (cs := [Sl ab b.length cb]) 0 (Sl ab b.length cb) hz_b stab_end
    refine act_of 4 [(42, Sl aa a.length ca), (43, Sl ab b.length cb), (44, Sr q)] (fun X => ?_)
    refine runL_callR 45 (differ_con G aa ca a h_a ab cb b h_b q (by first | assumption | omega | (simp; done) | (simp; omega)) (by omega)) (fun v G1 L1 hl1 hp => ?_)
    obtain ⟨a1, c1, r1, rfl, hr1, rfl⟩ := hp
    refine act_end (V' := [(0, Sl ao out.length co), (1, Sl aa a.length ca), (2, Sl ab b.length cb), (3, Sr q), (4, Sl a1 ((differ a b q).length) c1)]) ?_
    refine dr_mid [1, 2, 3] [(0,6)] [] [5] (List.forall_mem_nil _) (List.forall_mem_cons.2 ⟨?_, List.forall_mem_nil _⟩)
    refine act_of 5 [(41, Sl ao out.length co), (45, Sl a1 ((differ a b q).length) c1)] (fun X => ?_)
    refine runL_frzR (E := ES) 0 hr1 (by have q_ := differ_len a b q; simp only [ES]; omega) (fun G2 hl2 hs1 => ?_)
    refine runL_app' 46 9 3 (E := ES) (h_r.mono (Mem.le_trans hl1 hl2)) hs1 (by (have q1_ := differ_len a b q; have q2_ := P2_pos d; (try simp only [List.length_append, ES]); omega)) (by (have q1_ := differ_len a b q; have q2_ := P2_pos d; (try simp only [List.length_append, ES]); omega)) (fun a2 c2 r2 hr2 => ?_)
    refine act_end (V' := [(0, Sl ao out.length co), (1, Sl aa a.length ca), (2, Sl ab b.length cb), (3, Sr q), (4, Sl a1 ((differ a b q).length) c1), (5, Sl a2 ((out ++ (differ a b q)).length) c2)]) ?_
    refine dr_mid [0, 1, 2, 3] [] [] [6] (List.forall_mem_nil _) (List.forall_mem_cons.2 ⟨?_, List.forall_mem_nil _⟩)
    refine act_of 6 [(4, Pt bo 0), (46, Sl a2 ((out ++ (differ a b q)).length) c2)] (fun X => ?_)
    refine runL_st 2 ([] :: [Sg bm 0 [I (n + 1)]] :: [Sg bo 0 [Sl a2 ((out ++ (differ a b q)).length) c2]] :: r2 :: Lr) ?_
    refine act_end0 (V' := [(0, Sl ao out.length co), (1, Sl aa a.length ca), (2, Sl ab b.length cb), (3, Sr q), (4, Sl a1 ((differ a b q).length) c1), (5, Sl a2 ((out ++ (differ a b q)).length) c2)]) ?_
    refine dr_end [0, 1, 2, 3] [] [] [] (List.forall_mem_nil _) ?_
    refine tq_block ?_
    refine tq_front 3 ?_
    refine tq_front 3 ?_
    refine tq_front 3 ?_
    have hf2 : n + (lookD a b d q).1 = n + 1 := by
     first | (rw [lookD_same h1]; done) | (rw [lookD_leaf (by omega) h1]; done) | (rw [lookD_fork (by omega) h1]; omega)
    have hg2 : out ++ (lookD a b d q).2 = out ++ (differ a b q) := by
     first | (rw [lookD_same h1]; simp; done) | (rw [lookD_leaf (by omega) h1]; done) | (rw [lookD_fork (by omega) h1]; simp; done)
    refine tq_end [] [] (bp_own (Lr := Lr) [[Sg bm 0 [I (n + 1)]], [Sg bo 0 [Sl a2 ((out ++ (differ a b q)).length) c2]], r2] (.cons_cons _ (.cons_cons _ (.cons_cons _ (.cons _ (List.Sublist.refl _))))) (Mem.le_trans hl1 hl2) ?_)
    rw [hf2, hg2]
    exact ⟨a2, c2, r2, rfl, hr2, rfl⟩
   ·
    try simp only [BB] at h2
    refine tc_seq (tc_region ?_)
    refine runL_ldG (o' := 0) 25 132 (cs := [.func (.func 72) #[] #[Pt bm 0, Pt ba 0, Pt bb 0, Pt bo 0, Pt bl 0]]) 0 (.func (.func 72) #[] #[Pt bm 0, Pt ba 0, Pt bb 0, Pt bo 0, Pt bl 0]) hz_l ?_
    refine runL_b [0] [(0, Sr q), (5, Pt bl 0), (25, .func (.func 72) #[] #[Pt bm 0, Pt ba 0, Pt bb 0, Pt bo 0, Pt bl 0]), (26, Sr q)] ?_
    refine runL_cat 27 q ([48]) (by (try simp only [List.length_append, List.length_cons, List.length_nil]); omega) ?_
    refine runL_front 2 ?_
    refine runL_front 2 ?_
    refine runL_front 2 ?_
    refine runL_callL (Ls := [[Sg bm 0 [I (n + 1)]], [Sg bo 0 [Sl ao out.length co]], r]) (Lr := Lr) 28 (ih (d - 1) G bm ba bb bo bl a b aa ca ab cb h_a h_b hz_a hz_b hz_l hla hlb (q ++ ([48])) (by first | omega | (have q1_ := P2_half (d := d) (by omega); have q2_ := lookD_bd hla hlb (d - 1) (q ++ [48]); have q3_ := lookD_bd hla hlb (d - 1) (q ++ [49]); (try simp only [List.length_append, List.length_cons, List.length_nil]); omega) | ((try simp only [List.length_append, List.length_cons, List.length_nil]); omega)) (n + 1) (by first | omega | (have q1_ := P2_half (d := d) (by omega); have q2_ := lookD_bd hla hlb (d - 1) (q ++ [48]); have q3_ := lookD_bd hla hlb (d - 1) (q ++ [49]); (try simp only [List.length_append, List.length_cons, List.length_nil]); omega) | ((try simp only [List.length_append, List.length_cons, List.length_nil]); omega)) ao co out r h_r (by first | omega | (have q1_ := P2_half (d := d) (by omega); have q2_ := lookD_bd hla hlb (d - 1) (q ++ [48]); have q3_ := lookD_bd hla hlb (d - 1) (q ++ [49]); (try simp only [List.length_append, List.length_cons, List.length_nil]); omega) | ((try simp only [List.length_append, List.length_cons, List.length_nil]); omega)) (by omega)) (fun v G3 L1 hl3 hp => ?_)
    obtain ⟨a3, c3, r3, rfl, hr3, rfl⟩ := hp
    refine runL_nil (tq_then (tc_region ?_))
    refine runL_ldG (o' := 0) 29 132 (cs := [.func (.func 72) #[] #[Pt bm 0, Pt ba 0, Pt bb 0, Pt bo 0, Pt bl 0]]) 0 (.func (.func 72) #[] #[Pt bm 0, Pt ba 0, Pt bb 0, Pt bo 0, Pt bl 0]) (fun j v hv => hl3 _ _ _ (hz_l j v hv)) ?_
    refine runL_b [0] [(29, .func (.func 72) #[] #[Pt bm 0, Pt ba 0, Pt bb 0, Pt bo 0, Pt bl 0]), (30, Sr q)] ?_
    refine runL_cat 31 q ([49]) (by (try simp only [List.length_append, List.length_cons, List.length_nil]); omega) ?_
    refine runL_front 2 ?_
    refine runL_front 2 ?_
    refine runL_front 2 ?_
    refine runL_callL (Ls := [[Sg bm 0 [I ((n + 1) + (lookD a b (d - 1) (q ++ ([48]))).1)]], [Sg bo 0 [Sl a3 ((out ++ (lookD a b (d - 1) (q ++ ([48]))).2).length) c3]], r3]) (Lr := Lr) 32 (ih (d - 1) G3 bm ba bb bo bl a b aa ca ab cb (h_a.mono hl3) (h_b.mono hl3) (fun j v hv => hl3 _ _ _ (hz_a j v hv)) (fun j v hv => hl3 _ _ _ (hz_b j v hv)) (fun j v hv => hl3 _ _ _ (hz_l j v hv)) hla hlb (q ++ ([49])) (by first | omega | (have q1_ := P2_half (d := d) (by omega); have q2_ := lookD_bd hla hlb (d - 1) (q ++ [48]); have q3_ := lookD_bd hla hlb (d - 1) (q ++ [49]); (try simp only [List.length_append, List.length_cons, List.length_nil]); omega) | ((try simp only [List.length_append, List.length_cons, List.length_nil]); omega)) ((n + 1) + (lookD a b (d - 1) (q ++ ([48]))).1) (by first | omega | (have q1_ := P2_half (d := d) (by omega); have q2_ := lookD_bd hla hlb (d - 1) (q ++ [48]); have q3_ := lookD_bd hla hlb (d - 1) (q ++ [49]); (try simp only [List.length_append, List.length_cons, List.length_nil]); omega) | ((try simp only [List.length_append, List.length_cons, List.length_nil]); omega)) a3 c3 (out ++ (lookD a b (d - 1) (q ++ ([48]))).2) r3 hr3 (by first | omega | (have q1_ := P2_half (d := d) (by omega); have q2_ := lookD_bd hla hlb (d - 1) (q ++ [48]); have q3_ := lookD_bd hla hlb (d - 1) (q ++ [49]); (try simp only [List.length_append, List.length_cons, List.length_nil]); omega) | ((try simp only [List.length_append, List.length_cons, List.length_nil]); omega)) (by omega)) (fun v G4 L1 hl4 hp => ?_)
    obtain ⟨a4, c4, r4, rfl, hr4, rfl⟩ := hp
    refine runL_nil (tq_block ?_)
    refine tq_front 2 ?_
    refine tq_front 2 ?_
    refine tq_front 2 ?_
    have hf3 : n + (lookD a b d q).1 = ((n + 1) + (lookD a b (d - 1) (q ++ ([48]))).1) + (lookD a b (d - 1) (q ++ ([49]))).1 := by
     first | (rw [lookD_same h1]; done) | (rw [lookD_leaf (by omega) h1]; done) | (rw [lookD_fork (by omega) h1]; omega)
    have hg3 : out ++ (lookD a b d q).2 = ((out ++ (lookD a b (d - 1) (q ++ ([48]))).2) ++ (lookD a b (d - 1) (q ++ ([49]))).2) := by
     first | (rw [lookD_same h1]; simp; done) | (rw [lookD_leaf (by omega) h1]; done) | (rw [lookD_fork (by omega) h1]; simp; done)
    refine tq_end [] [] (bp_own (Lr := Lr) [[Sg bm 0 [I (((n + 1) + (lookD a b (d - 1) (q ++ ([48]))).1) + (lookD a b (d - 1) (q ++ ([49]))).1)]], [Sg bo 0 [Sl a4 (((out ++ (lookD a b (d - 1) (q ++ ([48]))).2) ++ (lookD a b (d - 1) (q ++ ([49]))).2).length) c4]], r4] (.cons_cons _ (.cons_cons _ (.cons_cons _ (List.Sublist.refl _)))) (Mem.le_trans hl3 hl4) ?_)
    rw [hf3, hg3]
    exact ⟨a4, c4, r4, rfl, hr4, rfl⟩
theorem look_con (d : Nat) (G : Mem) (bm ba bb bo bl : Nat) (a b : List EntD) (aa : Option Addr) (ca : Nat) (ab : Option Addr) (cb : Nat) (h_a : RS EEnt G aa ca a) (h_b : RS EEnt G ab cb b) (hz_a : ∀ j v, [Sl aa a.length ca][j]? = some v → G ba (0 + j) = some v) (hz_b : ∀ j v, [Sl ab b.length cb][j]? = some v → G bb (0 + j) = some v) (hz_l : ∀ j v, [(.func (.func 72) #[] #[Pt bm 0, Pt ba 0, Pt bb 0, Pt bo 0, Pt bl 0] : Value)][j]? = some v → G bl (0 + j) = some v) (hla : a.length ≤ 24) (hlb : b.length ≤ 24) (q : List UInt8) (hq : q.length + d = 16) (n : Int) (hn : 0 ≤ n ∧ n + 2 * (P2 d : Nat) ≤ 1000000000) (ao : Option Addr) (co : Nat) (out : List (List UInt8)) (r : List Seg) (h_r : TRow ES G ao co out r) (ho : out.length + 48 * P2 d ≤ 1000000000) : ConL Tryz.prog 72 #[Sr q, Pt bm 0, Pt ba 0, Pt bb 0, Pt bo 0, Pt bl 0] G [[Sg bm 0 [I n]], [Sg bo 0 [Sl ao out.length co]], r] (fun u G' L' => ∃ ao' co' r', u = .tuple #[] ∧ TRow ES G' ao' co' (out ++ (lookD a b d q).2) r' ∧ L' = [[Sg bm 0 [I (n + (lookD a b d q).1)]], [Sg bo 0 [Sl ao' (out ++ (lookD a b d q).2).length co']], r']) := look_aux (d + 1) d G bm ba bb bo bl a b aa ca ab cb h_a h_b hz_a hz_b hz_l hla hlb q hq n hn ao co out r h_r ho (Nat.lt_succ_self _)
end Go.Proofs.YtmpakffajpnffaaGreatDoor
