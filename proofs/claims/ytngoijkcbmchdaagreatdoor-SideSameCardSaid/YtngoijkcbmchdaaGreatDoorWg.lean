/- The library's WaitGroup in company, whatever memory the others make: Add(1), Wait, the way into Done. -/
import Derived.Conc.WgGenN3
import Derived.Conc.CrowdMono
set_option linter.unusedVariables false
set_option linter.unusedSimpArgs false
namespace Go.Tx
open Go.Conc Go.ConcN Go.RowKit Go.Conc.Lib Go.ConcR.Gen Go.ConcN.Gen
open Go.ConcR (KK wgBlock WgAt stA smA rd wr DC0)

/-- The others may do what they like, if only the group's block stays one. -/
def R0 (ty : TypeId) (Wg : Nat) (w w₁ : World) : Prop := WgLive ty Wg w → WgLive ty Wg w₁
theorem r0_rely {ty : TypeId} {Wg : Nat} {w w₁ : World} (h : WgLive ty Wg w) (r : R0 ty Wg w w₁) : WgLive ty Wg w₁ := r h

section
variable (P : Program) (main : Bool) (ty : TypeId) (Wg : Nat)
/-- It goes on, saying nothing, to where S holds. -/
def Way (S : Goroutine → World → Prop) (g : Goroutine) (w : World) : Prop := ∃ m, Goes P main (R0 ty Wg) DC0 S m g w
def AMk (e : Event) (S : Goroutine → World → Prop) (g : Goroutine) (w : World) : Prop := g.status = .running ∧ ∃ g', stepG P main g w = .go g' w #[e] ∧ Way P main ty Wg S g' w
def AAdd (S1 S2 : Goroutine → World → Prop) (g : Goroutine) (w : World) : Prop :=
  g.status = .running ∧ ∀ v : Nat, v < 2147483647 → WgAt ty Wg w ((v : Int) * KK) 0 → ∃ g', stepG P main g w = .go g' (w.setCell (stA Wg) (.int .u64 (((v : Int) + 1) * KK))) #[rd (stA Wg), wr (stA Wg)] ∧
    (v = 0 → Way P main ty Wg S1 g' (w.setCell (stA Wg) (.int .u64 (((v : Int) + 1) * KK)))) ∧ (v ≠ 0 → Way P main ty Wg S2 g' (w.setCell (stA Wg) (.int .u64 (((v : Int) + 1) * KK))))
/-- It is on its way out, and has nothing left to do. -/
def AOut (f : FuncId) (cs : List Frame) (g : Goroutine) (w : World) : Prop := ∃ T todo, g = G { (base f).at ⟨T, []⟩ todo with mode := .returning } cs
end

set_option maxRecDepth 100000 in
set_option maxHeartbeats 8000000 in
theorem add1W {P : Program} {L : WgLink} (H : WgLib P L) {main : Bool} {Wg : Nat} {cs : List Frame} (w : World) (hK : WgLive L.tWg Wg w) :
    Way P main L.tWg Wg (AMk P main L.tWg Wg (Go.ConcR.mk .disable) (AAdd P main L.tWg Wg (AMk P main L.tWg Wg ⟨.mark (.read (smA Wg)), false, true⟩ (AMk P main L.tWg Wg (Go.ConcR.mk .enable) (AOut L.add cs))) (AMk P main L.tWg Wg (Go.ConcR.mk .enable) (AOut L.add cs))))
      (G (Frame.enter P L.add #[.pointer (some ⟨Wg, 0, none⟩), .int .i64 1] .normal) cs) w := by
  rw [enter_at _ H.f_add (show (addFn L).body = some (body_add L) from rfl)]
  refine ⟨60, ?_⟩
  lib_facts
  simp only [body_add]
  walk_nrmf addFn
  u_c stepG_seq r0_rely hK
  u_cond true r0_rely hK
  iterate 2 (u_c stepG_seq r0_rely hK)
  u_reg r0_rely hK
  iterate 2 (u_op r0_rely hK)
  u_c stepG_region_end r0_rely hK
  u_cond false r0_rely hK
  u_c stepG_skip r0_rely hK
  u_c stepG_seq r0_rely hK
  u_reg r0_rely hK
  refine Goes.stop (fun w₁ h₁ => ?_)
  replace hK := r0_rely hK h₁
  clear h₁
  refine ⟨rfl, _, stepG_mark0 .disable (by simp) rfl rfl (by k_ne) rfl H.f_disable (x_disable_n L) (x_disable_b L) (x_disable_x L) (x_disable_f L), 90, ?_⟩
  walk_nrm
  u_c stepG_region_end r0_rely hK
  u_reg r0_rely hK
  u_defer r0_rely hK
  u_c stepG_region_end r0_rely hK
  u_c stepG_seq r0_rely hK
  u_reg r0_rely hK
  u_op r0_rely hK
  u_c stepG_region_end r0_rely hK
  iterate 2 (u_c stepG_seq r0_rely hK)
  u_reg r0_rely hK
  u_bub r0_rely hK
  u_c stepG_region_end r0_rely hK
  u_cond false r0_rely hK
  u_c stepG_skip r0_rely hK
  u_c stepG_seq r0_rely hK
  u_reg r0_rely hK
  iterate 6 (u_op r0_rely hK)
  u_call H.f_uAdd (nm_uAdd L) uAddFn r0_rely hK
  u_c stepG_seq r0_rely hK
  u_reg r0_rely hK
  u_op r0_rely hK
  u_c stepG_region_end r0_rely hK
  u_c stepG_seq r0_rely hK
  u_reg r0_rely hK
  iterate 4 (u_op r0_rely hK)
  refine Goes.stop (fun w₂ h₂ => ?_)
  replace hK := r0_rely hK h₂
  clear h₂
  refine ⟨rfl, fun v hv hw => ?_⟩
  rcases Nat.eq_zero_or_pos v with rfl | hvp
  · replace hw : WgAt L.tWg Wg w₂ 0 0 := by simpa using hw
    have z : (((0 : Nat) : Int) + 1) * KK = KK := by simp
    rw [z]
    have e0 : IntKind.u64.wrap (0 + 4294967296) = KK := by decide
    refine ⟨_, (stepG_add_atomic rfl rfl (by k_ne) rfl H.f_addU64 (x_addU64_n L) (x_addU64_b L) (x_addU64_x L) .u64 (x_addU64_f L) rfl rfl hw.cellSt (hw.thaw 0)).trans (by rw [e0]; rfl), fun _ => ⟨110, ?_⟩, fun h => absurd rfl h⟩
    replace hK : WgLive L.tWg Wg (w₂.setCell (stA Wg) (.int .u64 KK)) := ⟨_, _, hw.setSt _⟩
    clear hw
    simp only [KK] at hK ⊢
    walk_nrm
    u_op r0_rely hK
    u_c stepG_region_end r0_rely hK
    u_c stepG_ret' r0_rely hK
    u_leave1 H.f_uAdd r0_rely hK
    u_op r0_rely hK
    u_c stepG_region_end r0_rely hK
    iterate 2 (u_c stepG_seq r0_rely hK)
    u_reg r0_rely hK
    iterate 4 (u_op r0_rely hK)
    iterate 2 (u_skip r0_rely hK)
    u_op r0_rely hK
    u_c stepG_region_end r0_rely hK
    u_cond false r0_rely hK
    u_c stepG_skip r0_rely hK
    u_c stepG_seq r0_rely hK
    u_reg r0_rely hK
    iterate 4 (u_op r0_rely hK)
    u_c stepG_region_end r0_rely hK
    u_c stepG_seq r0_rely hK
    u_reg r0_rely hK
    iterate 4 (u_op r0_rely hK)
    u_c stepG_region_end r0_rely hK
    iterate 2 (u_c stepG_seq r0_rely hK)
    u_reg r0_rely hK
    iterate 10 (u_op r0_rely hK)
    u_c stepG_region_end r0_rely hK
    u_cond true r0_rely hK
    u_reg r0_rely hK
    iterate 3 (u_op r0_rely hK)
    u_conv H.underlying_tPU32 H.room_tU32 (WgLive.cell1 hK).choose_spec r0_rely hK
    refine Goes.stop (fun w₃ h₃ => ?_)
    replace hK := r0_rely hK h₃
    clear h₃
    refine ⟨rfl, _, stepG_markAt .read (by simp) rfl rfl (by k_ne) rfl H.f_raceRead (x_raceRead_n L) (x_raceRead_b L) (x_raceRead_x L) (x_raceRead_f L) (ad := ⟨Wg, 1, none⟩) (by simp [Act.eval]), 90, ?_⟩
    walk_nrm
    u_c stepG_region_end r0_rely hK
    iterate 2 (u_c stepG_seq r0_rely hK)
    u_reg r0_rely hK
    iterate 2 (u_op r0_rely hK)
    u_c stepG_region_end r0_rely hK
    u_cond false r0_rely hK
    u_c stepG_skip r0_rely hK
    iterate 2 (u_c stepG_seq r0_rely hK)
    u_reg r0_rely hK
    iterate 3 (u_op r0_rely hK)
    iterate 2 (u_skip r0_rely hK)
    iterate 2 (u_op r0_rely hK)
    iterate 4 (u_skip r0_rely hK)
    u_op r0_rely hK
    u_c stepG_region_end r0_rely hK
    u_cond false r0_rely hK
    u_c stepG_skip r0_rely hK
    iterate 2 (u_c stepG_seq r0_rely hK)
    u_reg r0_rely hK
    iterate 3 (u_op r0_rely hK)
    iterate 2 (u_skip r0_rely hK)
    u_op r0_rely hK
    u_c stepG_region_end r0_rely hK
    u_cond true r0_rely hK
    u_c stepG_ret' r0_rely hK
    refine Goes.stop (fun w₃ h₃ => ?_)
    refine ⟨rfl, _, stepG_unwind_entry (v := .tuple #[]) (evs := #[Go.ConcR.mk .enable]) rfl H.f_enable (x_enable_n L) (x_enable_b L) (x_enable_x L) (x_enable_f L) (by simp [Extern.Race.none_]) (by simp [Go.ConcR.mk]) (by simp [Go.ConcR.mk]), 0, ?_⟩
    exact fun _ _ => ⟨_, _, rfl⟩
  · obtain ⟨V, hV⟩ : ∃ V : Int, V = (v : Int) + 1 := ⟨_, rfl⟩
    obtain ⟨S, hS⟩ : ∃ S : Int, S = V * KK := ⟨_, rfl⟩
    have eS : IntKind.u64.wrap ((v : Int) * KK + 4294967296) = S := by rw [IntKind.wrap_u64, hS, hV]; simp only [KK]; omega
    rw [← hV, ← hS]
    have a1 : S / 4294967296 = V := by rw [hS]; simp only [KK]; omega
    have b1 : bits .and .u64 S 2147483648 = 0 := by rw [hS, hV]; have := st_flag (v + 1) 0 (by omega) (by omega); simpa [KK] using this
    have b2 : bits .and .u64 S 2147483647 = 0 := by rw [hS, hV]; have := st_waiters (v + 1) 0 (by omega) (by omega); simpa [KK] using this
    have c1 : IntKind.i32.wrap V = V := by rw [IntKind.wrap_i32]; omega
    have hV1 : 1 < V := by omega
    have hV2 : V < 2147483648 := by omega
    have q1 : (V == 1) = false := by simp; omega
    have q2 : decide (V = 1) = false := decide_eq_false (by omega)
    have q3 : decide (V < 0) = false := decide_eq_false (by omega)
    have q4 : decide (0 < V) = true := decide_eq_true (by omega)
    have q5 : (V == 0) = false := by simp; omega
    have q6 : decide (V = 0) = false := decide_eq_false (by omega)
    refine ⟨_, (stepG_add_atomic rfl rfl (by k_ne) rfl H.f_addU64 (x_addU64_n L) (x_addU64_b L) (x_addU64_x L) .u64 (x_addU64_f L) rfl rfl hw.cellSt (hw.thaw 0)).trans (by rw [eS]; rfl), fun h => by omega, fun _ => ⟨110, ?_⟩⟩
    replace hK : WgLive L.tWg Wg (w₂.setCell (stA Wg) (.int .u64 S)) := ⟨_, _, hw.setSt _⟩
    clear hw hS hV eS
    walk_nrm
    u_op r0_rely hK
    u_c stepG_region_end r0_rely hK
    u_c stepG_ret' r0_rely hK
    u_leave1 H.f_uAdd r0_rely hK
    u_op r0_rely hK
    u_c stepG_region_end r0_rely hK
    iterate 2 (u_c stepG_seq r0_rely hK)
    u_reg r0_rely hK
    iterate 4 (u_op r0_rely hK)
    iterate 2 (u_skip r0_rely hK)
    u_op r0_rely hK
    u_c stepG_region_end r0_rely hK
    u_cnd false r0_rely hK
    u_c stepG_skip r0_rely hK
    u_c stepG_seq r0_rely hK
    u_reg r0_rely hK
    iterate 4 (u_op r0_rely hK)
    u_c stepG_region_end r0_rely hK
    u_c stepG_seq r0_rely hK
    u_reg r0_rely hK
    iterate 4 (u_op r0_rely hK)
    u_c stepG_region_end r0_rely hK
    iterate 2 (u_c stepG_seq r0_rely hK)
    u_reg r0_rely hK
    iterate 10 (u_op r0_rely hK)
    u_c stepG_region_end r0_rely hK
    u_cnd false r0_rely hK
    u_c stepG_skip r0_rely hK
    iterate 2 (u_c stepG_seq r0_rely hK)
    u_reg r0_rely hK
    iterate 2 (u_op r0_rely hK)
    u_c stepG_region_end r0_rely hK
    u_cnd false r0_rely hK
    u_c stepG_skip r0_rely hK
    iterate 2 (u_c stepG_seq r0_rely hK)
    u_reg r0_rely hK
    iterate 3 (u_op r0_rely hK)
    iterate 2 (u_skip r0_rely hK)
    iterate 2 (u_op r0_rely hK)
    iterate 4 (u_skip r0_rely hK)
    u_op r0_rely hK
    u_c stepG_region_end r0_rely hK
    u_cnd false r0_rely hK
    u_c stepG_skip r0_rely hK
    iterate 2 (u_c stepG_seq r0_rely hK)
    u_reg r0_rely hK
    iterate 3 (u_op r0_rely hK)
    iterate 2 (u_skip r0_rely hK)
    u_op r0_rely hK
    u_c stepG_region_end r0_rely hK
    u_cnd true r0_rely hK
    u_c stepG_ret' r0_rely hK
    refine Goes.stop (fun w₃ h₃ => ?_)
    refine ⟨rfl, _, stepG_unwind_entry (v := .tuple #[]) (evs := #[Go.ConcR.mk .enable]) rfl H.f_enable (x_enable_n L) (x_enable_b L) (x_enable_x L) (x_enable_f L) (by simp [Extern.Race.none_]) (by simp [Go.ConcR.mk]) (by simp [Go.ConcR.mk]), 0, ?_⟩
    exact fun _ _ => ⟨_, _, rfl⟩
end Go.Tx
