/- The library's WaitGroup in company: Wait. -/
import Derived.Test.YtngoijkcbmchdaaGreatDoorWg
import Derived.Conc.WgGenWait
set_option linter.unusedVariables false
set_option linter.unusedSimpArgs false
namespace Go.Tx
open Go.Conc Go.ConcN Go.RowKit Go.Conc.Lib Go.ConcR.Gen Go.ConcN.Gen
open Go.ConcR (KK wgBlock WgAt stA smA rd wr DC0)

section
variable (P : Program) (main : Bool) (ty : TypeId) (Wg : Nat)
def ALoad0 (S : Goroutine → World → Prop) (g : Goroutine) (w : World) : Prop := g.status = .running ∧ (WgAt ty Wg w 0 0 → ∃ g', stepG P main g w = .go g' w #[rd (stA Wg)] ∧ Way P main ty Wg S g' w)
def AAcq (S : Goroutine → World → Prop) (g : Goroutine) (w : World) : Prop :=
  g.status = .running ∧ g.offers = none ∧ (∀ st, WgAt ty Wg w st 0 → stepG P main g w = .go { g with status := .blocked } w #[]) ∧
    (WgAt ty Wg w 0 1 → ∃ g', stepG P main g w = .go g' (w.setCell (smA Wg) (.int .u32 0)) (semEvents (smA Wg)) ∧ Way P main ty Wg S g' (w.setCell (smA Wg) (.int .u32 0)))
def ACas (hit miss : Goroutine → World → Prop) (v : Nat) (g : Goroutine) (w : World) : Prop :=
  g.status = .running ∧ (WgAt ty Wg w ((v : Int) * KK) 0 → ∃ g', stepG P main g w = .go g' (w.setCell (stA Wg) (.int .u64 ((v : Int) * KK + 1))) #[rd (stA Wg), wr (stA Wg)] ∧ Way P main ty Wg hit g' (w.setCell (stA Wg) (.int .u64 ((v : Int) * KK + 1)))) ∧
    ∀ u : Nat, u < v → WgAt ty Wg w ((u : Int) * KK) 0 → ∃ g', stepG P main g w = .go g' w #[rd (stA Wg)] ∧ Way P main ty Wg miss g' w
def ALoad (zero : Goroutine → World → Prop) (more : Nat → Goroutine → World → Prop) (g : Goroutine) (w : World) : Prop :=
  g.status = .running ∧ ∀ v : Nat, v < 2147483648 → WgAt ty Wg w ((v : Int) * KK) 0 → ∃ g', stepG P main g w = .go g' w #[rd (stA Wg)] ∧ (v = 0 → Way P main ty Wg zero g' w) ∧ (v ≠ 0 → Way P main ty Wg (more v) g' w)
end
/-- At the head of Wait's loop. -/
def AHead (L : WgLink) (Wg : Nat) (cs : List Frame) (g : Goroutine) (w : World) : Prop :=
  ∃ T : Array Value, g = G ((base L.wait).at ⟨T, []⟩ [.code (L7 L), .inLoop (L7 L), .inBlock 0]) cs ∧ T.size = 84 ∧ T[0]? = some (.pointer (some ⟨Wg, 0, none⟩))
def AOver (P : Program) (main : Bool) (L : WgLink) (Wg : Nat) (cs : List Frame) : Goroutine → World → Prop :=
  AMk P main L.tWg Wg (Go.ConcR.mk .enable) (AMk P main L.tWg Wg (Go.ConcR.mk (.acquire (stA Wg))) (AOut L.wait cs))
def AHit (P : Program) (main : Bool) (L : WgLink) (Wg : Nat) (cs : List Frame) : Goroutine → World → Prop :=
  AMk P main L.tWg Wg ⟨.mark (.write (smA Wg)), false, true⟩ (AAcq P main L.tWg Wg (ALoad0 P main L.tWg Wg (AOver P main L Wg cs)))

set_option maxRecDepth 100000 in
theorem waitStartW {P : Program} {L : WgLink} (H : WgLib P L) {main : Bool} {Wg : Nat} {cs : List Frame} (w : World) (hK : WgLive L.tWg Wg w) :
    Way P main L.tWg Wg (AMk P main L.tWg Wg (Go.ConcR.mk .disable) (AHead L Wg cs)) (G (Frame.enter P L.wait #[.pointer (some ⟨Wg, 0, none⟩)] .normal) cs) w := by
  rw [enter_at _ H.f_wait (show (waitFn L).body = some (body_wait L) from rfl)]
  refine ⟨20, ?_⟩
  lib_facts
  simp only [body_wait, waitFn, Option.getD_some]
  walk_nrm
  u_c stepG_seq r0_rely hK
  u_cond true r0_rely hK
  u_reg r0_rely hK
  refine Goes.stop (fun w₁ h₁ => ?_)
  replace hK := r0_rely hK h₁
  clear h₁
  refine ⟨rfl, _, stepG_mark0 .disable (by simp) rfl rfl (by k_ne) rfl H.f_disable (x_disable_n L) (x_disable_b L) (x_disable_x L) (x_disable_f L), 9, ?_⟩
  walk_nrm
  u_c stepG_region_end r0_rely hK
  u_c stepG_block r0_rely hK
  u_c stepG_loop r0_rely hK
  exact Goes.stop (fun w₂ h₂ => ⟨_, rfl, by simp, by simp⟩)

set_option maxRecDepth 100000 in
set_option maxHeartbeats 8000000 in
theorem waitRoundW {P : Program} {L : WgLink} (H : WgLib P L) {main : Bool} {Wg : Nat} {cs : List Frame} (g : Goroutine) (w : World) (h : AHead L Wg cs g w) (hK : WgLive L.tWg Wg w) :
    Way P main L.tWg Wg (ALoad P main L.tWg Wg (AOver P main L Wg cs) (ACas P main L.tWg Wg (AHit P main L Wg cs) (AHead L Wg cs))) g w := by
  lib_facts
  obtain ⟨T, rfl, hT84, t0⟩ := h
  obtain ⟨v0, v1, v2, v3, v4, v5, v6, v7, v8, v9, v10, v11, v12, v13, v14, v15, v16, v17, v18, v19, v20, v21, v22, v23, v24, v25, v26, v27, v28, v29, v30, v31, v32, v33, v34, v35, v36, v37, v38, v39, v40, v41, v42, v43, v44, v45, v46, v47, v48, v49, v50, v51, v52, v53, v54, v55, v56, v57, v58, v59, v60, v61, v62, v63, v64, v65, v66, v67, v68, v69, v70, v71, v72, v73, v74, v75, v76, v77, v78, v79, v80, v81, v82, v83, rfl⟩ := array84 T hT84
  simp only [List.getElem?_toArray, List.getElem?_cons_zero, Option.some.injEq] at t0
  subst t0
  refine ⟨60, ?_⟩
  simp only [L7, body_wait, waitFn, Option.getD_some]
  u_c stepG_block r0_rely hK
  u_c stepG_seq r0_rely hK
  u_reg r0_rely hK
  iterate 3 (u_op r0_rely hK)
  u_call H.f_uLoad (nm_uLoad L) uLoadFn r0_rely hK
  u_c stepG_seq r0_rely hK
  u_reg r0_rely hK
  u_op r0_rely hK
  u_c stepG_region_end r0_rely hK
  u_c stepG_seq r0_rely hK
  u_reg r0_rely hK
  iterate 3 (u_op r0_rely hK)
  refine Goes.stop (fun w₁ h₁ => ?_)
  replace hK := r0_rely hK h₁
  clear h₁
  refine ⟨rfl, fun v hv hw => ?_⟩
  rcases Nat.eq_zero_or_pos v with rfl | hvp
  · replace hw : WgAt L.tWg Wg w₁ 0 0 := by simpa using hw
    refine ⟨_, stepG_load_atomic (v := 0) rfl rfl (by k_ne) rfl H.f_loadU64 (x_loadU64_n L) (x_loadU64_b L) (x_loadU64_x L) .u64 (x_loadU64_f L) rfl hw.cellSt, fun _ => ⟨90, ?_⟩, fun h => absurd rfl h⟩
    clear hw
    walk_nrm
    u_op r0_rely hK
    u_c stepG_region_end r0_rely hK
    u_c stepG_ret' r0_rely hK
    u_leave1 H.f_uLoad r0_rely hK
    u_op r0_rely hK
    u_c stepG_region_end r0_rely hK
    u_c stepG_seq r0_rely hK
    u_reg r0_rely hK
    iterate 4 (u_op r0_rely hK)
    u_c stepG_region_end r0_rely hK
    u_c stepG_seq r0_rely hK
    u_reg r0_rely hK
    iterate 4 (u_op r0_rely hK)
    u_c stepG_region_end r0_rely hK
    iterate 2 (u_c stepG_seq r0_rely hK)
    u_reg r0_rely hK
    iterate 2 (u_op r0_rely hK)
    u_c stepG_region_end r0_rely hK
    u_cond true r0_rely hK
    u_c stepG_seq r0_rely hK
    u_cond true r0_rely hK
    u_c stepG_seq r0_rely hK
    u_reg r0_rely hK
    refine Goes.stop (fun w₅ h₅ => ?_)
    replace hK := r0_rely hK h₅
    clear h₅
    refine ⟨rfl, _, stepG_mark0 .enable (by simp) rfl rfl (by k_ne) rfl H.f_enable (x_enable_n L) (x_enable_b L) (x_enable_x L) (x_enable_f L), 30, ?_⟩
    walk_nrm
    u_c stepG_region_end r0_rely hK
    u_reg r0_rely hK
    u_op r0_rely hK
    u_conv H.underlying_tWgP H.room_tWg (WgLive.cell0 hK).choose_spec r0_rely hK
    refine Goes.stop (fun w₆ h₆ => ?_)
    replace hK := r0_rely hK h₆
    clear h₆
    refine ⟨rfl, _, stepG_markAt .acquire (by simp) rfl rfl (by k_ne) rfl H.f_acquire (x_acquire_n L) (x_acquire_b L) (x_acquire_x L) (x_acquire_f L) (by simp [Act.eval, stA]), 60, ?_⟩
    walk_nrm
    u_c stepG_region_end r0_rely hK
    iterate 2 (u_c stepG_seq r0_rely hK)
    u_reg r0_rely hK
    iterate 8 (u_op r0_rely hK)
    iterate 2 (u_skip r0_rely hK)
    u_op r0_rely hK
    u_c stepG_region_end r0_rely hK
    u_cond false r0_rely hK
    u_c stepG_skip r0_rely hK
    u_c stepG_ret' r0_rely hK
    exact Goes.stop (fun _ _ => ⟨_, _, rfl⟩)
  · obtain ⟨S, hS⟩ : ∃ S : Int, (v : Int) * KK = S := ⟨_, rfl⟩
    have a1 : S / 4294967296 = (v : Int) := by rw [← hS]; simp only [KK]; omega
    have b1 : bits .and .u64 S 2147483648 = 0 := by rw [← hS]; have := st_flag v 0 (by omega) (by omega); simpa [KK] using this
    have b2 : bits .and .u64 S 2147483647 = 0 := by rw [← hS]; have := st_waiters v 0 (by omega) (by omega); simpa [KK] using this
    have c1 : IntKind.i32.wrap (v : Int) = (v : Int) := by rw [IntKind.wrap_i32]; omega
    have w1 : IntKind.u64.wrap (S + 1) = S + 1 := by rw [IntKind.wrap_u64, ← hS]; simp only [KK]; omega
    have q3 : decide ((v : Int) < 0) = false := decide_eq_false (by omega)
    have q4 : decide (0 < (v : Int)) = true := decide_eq_true (by omega)
    have q5 : ((v : Int) == 0) = false := by simp; omega
    have q6 : decide ((v : Int) = 0) = false := decide_eq_false (by omega)
    rw [hS] at hw
    refine ⟨_, stepG_load_atomic (v := S) rfl rfl (by k_ne) rfl H.f_loadU64 (x_loadU64_n L) (x_loadU64_b L) (x_loadU64_x L) .u64 (x_loadU64_f L) rfl hw.cellSt, fun h0 => absurd h0 (by omega), fun _ => ⟨90, ?_⟩⟩
    clear hw
    walk_nrm
    u_op r0_rely hK
    u_c stepG_region_end r0_rely hK
    u_c stepG_ret' r0_rely hK
    u_leave1 H.f_uLoad r0_rely hK
    u_op r0_rely hK
    u_c stepG_region_end r0_rely hK
    u_c stepG_seq r0_rely hK
    u_reg r0_rely hK
    iterate 4 (u_op r0_rely hK)
    u_c stepG_region_end r0_rely hK
    u_c stepG_seq r0_rely hK
    u_reg r0_rely hK
    iterate 4 (u_op r0_rely hK)
    u_c stepG_region_end r0_rely hK
    iterate 2 (u_c stepG_seq r0_rely hK)
    u_reg r0_rely hK
    iterate 2 (u_op r0_rely hK)
    u_c stepG_region_end r0_rely hK
    u_cnd false r0_rely hK
    u_c stepG_skip r0_rely hK
    u_c stepG_seq r0_rely hK
    u_reg r0_rely hK
    iterate 6 (u_op r0_rely hK)
    u_call H.f_uCas (nm_uCas L) uCasFn r0_rely hK
    u_c stepG_seq r0_rely hK
    u_reg r0_rely hK
    u_op r0_rely hK
    u_c stepG_region_end r0_rely hK
    u_c stepG_seq r0_rely hK
    u_reg r0_rely hK
    iterate 5 (u_op r0_rely hK)
    refine Goes.stop (fun w₂ h₂ => ?_)
    replace hK := r0_rely hK h₂
    clear h₂
    refine ⟨rfl, fun hw => ?_, fun u hu hw => ?_⟩
    · rw [hS] at hw ⊢
      refine ⟨_, (stepG_cas_hit (v := S) (n := S + 1) rfl rfl (by k_ne) rfl H.f_casU64 (x_casU64_n L) (x_casU64_b L) (x_casU64_x L) .u64 (x_casU64_f L) rfl rfl rfl hw.cellSt (hw.thaw 0)).trans (by rfl), 90, ?_⟩
      replace hK : WgLive L.tWg Wg (w₂.setCell (stA Wg) (.int .u64 (S + 1))) := ⟨_, _, hw.setSt _⟩
      clear hw
      walk_nrm
      u_op r0_rely hK
      u_c stepG_region_end r0_rely hK
      u_c stepG_ret' r0_rely hK
      u_leave1 H.f_uCas r0_rely hK
      u_c stepG_region_end r0_rely hK
      u_cond true r0_rely hK
      iterate 2 (u_c stepG_seq r0_rely hK)
      u_reg r0_rely hK
      iterate 4 (u_op r0_rely hK)
      u_c stepG_region_end r0_rely hK
      u_cond true r0_rely hK
      u_reg r0_rely hK
      iterate 3 (u_op r0_rely hK)
      u_conv H.underlying_tPU32 H.room_tU32 (WgLive.cell1 hK).choose_spec r0_rely hK
      refine Goes.stop (fun w₃ h₃ => ?_)
      replace hK := r0_rely hK h₃
      clear h₃
      refine ⟨rfl, _, stepG_markAt .write (by simp) rfl rfl (by k_ne) rfl H.f_raceWrite (x_raceWrite_n L) (x_raceWrite_b L) (x_raceWrite_x L) (x_raceWrite_f L) (ad := ⟨Wg, 1, none⟩) (by simp [Act.eval]), 90, ?_⟩
      walk_nrm
      u_c stepG_region_end r0_rely hK
      u_c stepG_seq r0_rely hK
      u_reg r0_rely hK
      u_op r0_rely hK
      u_c stepG_region_end r0_rely hK
      iterate 2 (u_c stepG_seq r0_rely hK)
      u_reg r0_rely hK
      iterate 4 (u_op r0_rely hK)
      u_skip r0_rely hK
      u_op r0_rely hK
      u_c stepG_region_end r0_rely hK
      u_cond false r0_rely hK
      u_c stepG_skip r0_rely hK
      u_c stepG_seq r0_rely hK
      u_reg r0_rely hK
      iterate 4 (u_op r0_rely hK)
      refine Goes.stop (fun w₃ h₃ => ?_)
      replace hK := r0_rely hK h₃
      clear h₃
      refine ⟨rfl, rfl, fun st hw => stepG_semacquire_wait rfl rfl rfl H.f_semacquire (x_semacquire_n L) (x_semacquire_b L) (x_semacquire_x L) (x_semacquire_f L) (by simp [Act.eval, smA]) hw.cellSm, fun hf => ?_⟩
      refine ⟨_, (stepG_semacquire (n := 1) rfl rfl (by k_ne) rfl H.f_semacquire (x_semacquire_n L) (x_semacquire_b L) (x_semacquire_x L) (x_semacquire_f L) (by simp [Act.eval, smA]) hf.cellSm (by k_ne) (hf.thaw 1)).trans (by rfl), 60, ?_⟩
      replace hK : WgLive L.tWg Wg (w₃.setCell (smA Wg) (.int .u32 0)) := ⟨_, _, hf.setSm 0⟩
      clear hf
      walk_nrm
      u_c stepG_region_end r0_rely hK
      u_c stepG_seq r0_rely hK
      u_reg r0_rely hK
      iterate 3 (u_op r0_rely hK)
      u_call H.f_uLoad (nm_uLoad L) uLoadFn r0_rely hK
      u_c stepG_seq r0_rely hK
      u_reg r0_rely hK
      u_op r0_rely hK
      u_c stepG_region_end r0_rely hK
      u_c stepG_seq r0_rely hK
      u_reg r0_rely hK
      iterate 3 (u_op r0_rely hK)
      refine Goes.stop (fun w₄ h₄ => ?_)
      replace hK := r0_rely hK h₄
      clear h₄
      refine ⟨rfl, fun hw => ⟨_, stepG_load_atomic (v := 0) rfl rfl (by k_ne) rfl H.f_loadU64 (x_loadU64_n L) (x_loadU64_b L) (x_loadU64_x L) .u64 (x_loadU64_f L) rfl hw.cellSt, 60, ?_⟩⟩
      clear hw
      walk_nrm
      u_op r0_rely hK
      u_c stepG_region_end r0_rely hK
      u_c stepG_ret' r0_rely hK
      u_leave1 H.f_uLoad r0_rely hK
      iterate 2 (u_op r0_rely hK)
      u_c stepG_region_end r0_rely hK
      u_c stepG_seq r0_rely hK
      u_cond true r0_rely hK
      u_c stepG_seq r0_rely hK
      u_reg r0_rely hK
      refine Goes.stop (fun w₅ h₅ => ?_)
      replace hK := r0_rely hK h₅
      clear h₅
      refine ⟨rfl, _, stepG_mark0 .enable (by simp) rfl rfl (by k_ne) rfl H.f_enable (x_enable_n L) (x_enable_b L) (x_enable_x L) (x_enable_f L), 30, ?_⟩
      walk_nrm
      u_c stepG_region_end r0_rely hK
      u_reg r0_rely hK
      u_op r0_rely hK
      u_conv H.underlying_tWgP H.room_tWg (WgLive.cell0 hK).choose_spec r0_rely hK
      refine Goes.stop (fun w₆ h₆ => ?_)
      replace hK := r0_rely hK h₆
      clear h₆
      refine ⟨rfl, _, stepG_markAt .acquire (by simp) rfl rfl (by k_ne) rfl H.f_acquire (x_acquire_n L) (x_acquire_b L) (x_acquire_x L) (x_acquire_f L) (by simp [Act.eval, stA]), 60, ?_⟩
      walk_nrm
      u_c stepG_region_end r0_rely hK
      iterate 2 (u_c stepG_seq r0_rely hK)
      u_reg r0_rely hK
      u_op r0_rely hK
      u_c stepG_region_end r0_rely hK
      u_cond false r0_rely hK
      u_c stepG_skip r0_rely hK
      u_c stepG_ret' r0_rely hK
      exact Goes.stop (fun _ _ => ⟨_, _, rfl⟩)
    · refine ⟨_, stepG_cas_miss (v := (u : Int) * KK) (old := S) (n := S + 1) rfl rfl (by k_ne) rfl H.f_casU64 (x_casU64_n L) (x_casU64_b L) (x_casU64_x L) .u64 (x_casU64_f L) rfl rfl rfl hw.cellSt (hw.thaw 0) (by rw [← hS]; simp only [KK]; omega), 60, ?_⟩
      clear hw
      walk_nrm
      u_op r0_rely hK
      u_c stepG_region_end r0_rely hK
      u_c stepG_ret' r0_rely hK
      u_leave1 H.f_uCas r0_rely hK
      u_c stepG_region_end r0_rely hK
      u_cond false r0_rely hK
      u_c stepG_skip r0_rely hK
      u_c stepG_inBlock r0_rely hK
      u_c stepG_inLoop r0_rely hK
      exact Goes.stop (fun w₃ h₃ => ⟨_, rfl, by simp, by simp⟩)
end Go.Tx
