import Derived.Test.YtnnlpbjdignhaaaGreatDoorThWire
namespace Go.Proofs.YtnnlpbjdignhaaaGreatDoor
open Go.Tx
set_option linter.unusedVariables false
set_option linter.unusedSimpArgs false
def JcV:JS:=⟨0,0,0,0⟩
def JC (h:JS):Int :=
 if h.epoch < 0 ∨ 1000000 < h.epoch ∨ 2305843009213693951 ≤ h.root ∨ 2305843009213693951 ≤ h.prev ∨ h.at_ < 0 ∨ 1000000000 < h.at_ then 4 else if h.epoch = 0 ∧ h.prev ≠ 0 then 3 else 0
theorem JcW {h:JS} (e:JC h = 0):0 ≤ h.epoch ∧ h.epoch ≤ 1000000 ∧ h.root < 2305843009213693951 ∧ h.prev < 2305843009213693951 ∧ 0 ≤ h.at_ ∧ h.at_ ≤ 1000000000 ∧ (h.epoch = 0 → h.prev = 0):=by
 unfold JC at e;split at e
 ·
  cases e
 split at e
 ·
  cases e
 omega
def JeQ (h:JS):List UInt8:=((([3] ++ JaK (IntKind.u64.wrap h.epoch)) ++ JaK h.root) ++ JaK h.prev) ++ JaK (IntKind.u64.wrap h.at_)
def Jbz (h:JS):List UInt8 × Int:=if JC h ≠ 0 then ([],JC h) else (JeQ h,0)
theorem Jrd {x y:UInt8}:((x.toNat:Int) = (y.toNat:Int)) ↔ x = y:=⟨fun h=>UInt8.toNat.inj (by omega),fun h=>by rw [h]⟩
theorem JiM (h:JS):(JeQ h).length = 33:=by simp [JeQ]
theorem Jdn (h:JS) (G:Jt):Con Tryz.prog 42 #[.agg #[I h.epoch,U h.root,U h.prev,I h.at_]] G [] (fun u G' L'=>u = I (JC h)):=by
 refine JL Tryz.func42 41 [(0,.agg #[I h.epoch,U h.root,U h.prev,I h.at_])] rfl (fun w0 G0=>?_)
 refine Je (Jb ?_)
 refine Ju 1 #[I h.epoch,U h.root,U h.prev,I h.at_] 50 (fun b1=>?_)
 refine Jd [0] [(1,Pt b1 0)] (Jc (Ja (Je (Jy (Je (Jb ?_))))))
 refine Jd [0,2,0,0] [(1,Pt b1 0),(7,Bo (decide (h.epoch < 0)))] ?_
 refine Jay (decide (h.epoch < 0)) (fun bb=>[(1,Pt b1 0),(7,Bo bb)]) [1,1,1,0] [0,2,0,0] (fun bb=>[(1,Pt b1 0),(11,Bo (bb || (decide (h.epoch > 1000000))))]) ?_
 refine Jd [0] [(1,Pt b1 0),(12,Bo ((decide (h.epoch < 0)) || (decide (h.epoch > 1000000))))] ?_
 refine Jay ((decide (h.epoch < 0)) || (decide (h.epoch > 1000000))) (fun bb=>[(1,Pt b1 0),(12,Bo bb)]) [1,1,1,0] [0,2,0,0] (fun bb=>[(1,Pt b1 0),(16,Bo (bb || (decide (h.root ≥ 2305843009213693951))))]) ?_
 refine Jd [0] [(1,Pt b1 0),(17,Bo (((decide (h.epoch < 0)) || (decide (h.epoch > 1000000))) || (decide (h.root ≥ 2305843009213693951))))] ?_
 refine Jay (((decide (h.epoch < 0)) || (decide (h.epoch > 1000000))) || (decide (h.root ≥ 2305843009213693951))) (fun bb=>[(1,Pt b1 0),(17,Bo bb)]) [1,1,1,0] [0,2,0,0] (fun bb=>[(1,Pt b1 0),(21,Bo (bb || (decide (h.prev ≥ 2305843009213693951))))]) ?_
 refine Jd [0] [(1,Pt b1 0),(22,Bo ((((decide (h.epoch < 0)) || (decide (h.epoch > 1000000))) || (decide (h.root ≥ 2305843009213693951))) || (decide (h.prev ≥ 2305843009213693951))))] ?_
 refine Jay ((((decide (h.epoch < 0)) || (decide (h.epoch > 1000000))) || (decide (h.root ≥ 2305843009213693951))) || (decide (h.prev ≥ 2305843009213693951))) (fun bb=>[(1,Pt b1 0),(22,Bo bb)]) [1,1,1,0] [0,2,0,0] (fun bb=>[(1,Pt b1 0),(26,Bo (bb || (decide (h.at_ < 0))))]) ?_
 refine Jd [0] [(1,Pt b1 0),(27,Bo (((((decide (h.epoch < 0)) || (decide (h.epoch > 1000000))) || (decide (h.root ≥ 2305843009213693951))) || (decide (h.prev ≥ 2305843009213693951))) || (decide (h.at_ < 0))))] ?_
 refine Jay (((((decide (h.epoch < 0)) || (decide (h.epoch > 1000000))) || (decide (h.root ≥ 2305843009213693951))) || (decide (h.prev ≥ 2305843009213693951))) || (decide (h.at_ < 0))) (fun bb=>[(1,Pt b1 0),(27,Bo bb)]) [1,1,1,0] [0,2,0,0] (fun bb=>[(1,Pt b1 0),(31,Bo (bb || (decide (h.at_ > 1000000000))))]) ?_
 refine Jd [0] [(1,Pt b1 0),(3,Bo ((((((decide (h.epoch < 0)) || (decide (h.epoch > 1000000))) || (decide (h.root ≥ 2305843009213693951))) || (decide (h.prev ≥ 2305843009213693951))) || (decide (h.at_ < 0))) || (decide (h.at_ > 1000000000))))] (Jc (Ja ?_))
 refine Jo ((((((decide (h.epoch < 0)) || (decide (h.epoch > 1000000))) || (decide (h.root ≥ 2305843009213693951))) || (decide (h.prev ≥ 2305843009213693951))) || (decide (h.at_ < 0))) || (decide (h.at_ > 1000000000))) (fun h1=>?_) (fun h1=>?_)
 try simp only [BB] at h1
 refine Jg [0] [(2,I 4)] (Jk (Js (Jh ?_)))
 refine Jl [0] [I 4] (Jw (Jt.le_refl _) ?_)
 refine congrArg I ?_;unfold JC;(repeat' split) <;> first | rfl | omega
 try simp only [BB] at h1
 refine Je (Jb ?_)
 refine Jd [0,2,0,0] [(1,Pt b1 0),(36,Bo (decide (h.epoch = 0)))] ?_
 refine Jay (decide (h.epoch = 0)) (fun bb=>[(1,Pt b1 0),(36,Bo bb)]) [0,2,0,0] [1,1,1,0] (fun bb=>[(40,Bo (bb && (!decide (h.prev = 0))))]) ?_
 refine Jd [0] [(32,Bo ((decide (h.epoch = 0)) && (!decide (h.prev = 0))))] (Jc (Ja ?_))
 refine Jo ((decide (h.epoch = 0)) && (!decide (h.prev = 0))) (fun h2=>?_) (fun h2=>?_)
 try simp only [BB] at h2
 refine Jg [0] [(2,I 3)] (Jk (Js (Jh ?_)))
 refine Jl [0] [I 3] (Jw (Jt.le_refl _) ?_)
 refine congrArg I ?_;unfold JC;(repeat' split) <;> first | rfl | omega
 try simp only [BB] at h2
 refine Jn (JK (Ja ?_))
 refine Jg [0] [(2,I 0)] (Jk ?_)
 refine Jl [0] [I 0] (Jw (Jt.le_refl _) ?_)
 refine congrArg I ?_;unfold JC;(repeat' split) <;> first | rfl | omega
theorem Jk5 (h:JS) (G:Jt):Con Tryz.prog 88 #[.agg #[I h.epoch,U h.root,U h.prev,I h.at_]] G [] (fun u G' L'=>u = .tuple #[Sr ((Jbz h).1),I ((Jbz h).2)]):=by
 refine JL Tryz.func88 30 [(0,.agg #[I h.epoch,U h.root,U h.prev,I h.at_])] rfl (fun w0 G0=>?_)
 refine Je (Jb ?_)
 refine Ju 1 #[I h.epoch,U h.root,U h.prev,I h.at_] 50 (fun b1=>?_)
 refine Jd [0,0] [(1,Pt b1 0)] (Jc (Ja (Je (Je (Jb ?_)))))
 refine Jd [2] [(1,Pt b1 0),(5,.agg #[I h.epoch,U h.root,U h.prev,I h.at_])] ?_
 refine Ji 6 (I (JC h)) (Jdn h G) ?_
 refine Jd [0] [(1,Pt b1 0),(4,I (JC h))] (Jc (Ja ?_))
 refine Jg [0,0] [(1,Pt b1 0),(4,I (JC h)),(8,Bo (!decide (JC h = 0)))] ?_
 refine Jo (!decide (JC h = 0)) (fun h1=>?_) (fun h1=>?_)
 try simp only [BB] at h1
 refine Jg [0,0,0] [(2,Sr ([])),(3,I (JC h))] (Jk (Jh ?_))
 refine Jl [0,0] [Sr ([]),I (JC h)] (Jw (Jt.le_refl _) ?_)
 (unfold Jbz;rw [if_pos (by omega)];rfl)
 try simp only [BB] at h1
 refine Jn (Ja (Je ?_))
 refine Jau [0] ?_
 refine Jb6 [(2,Pt b1 0),(3,I h.epoch),(4,U (IntKind.u64.wrap h.epoch)),(5,Sr (JaK (IntKind.u64.wrap h.epoch))),(7,Pt b1 1),(8,U h.root),(9,Sr (JaK h.root)),(11,Pt b1 2),(12,U h.prev),(13,Sr (JaK h.prev)),(15,Pt b1 3),(16,I h.at_),(17,U (IntKind.u64.wrap h.at_)),(18,Sr (JaK (IntKind.u64.wrap h.at_)))] ?_
 refine JZ [] [(2,0),(3,2),(4,0),(7,0),(8,2),(11,0),(12,2),(15,0),(16,2),(17,0)] [5,9,13,18] [0] (List.forall_mem_cons.2 ⟨?_,(List.forall_mem_cons.2 ⟨?_,(List.forall_mem_cons.2 ⟨?_,(List.forall_mem_cons.2 ⟨?_,List.forall_mem_nil _⟩)⟩)⟩)⟩) (List.forall_mem_cons.2 ⟨?_,List.forall_mem_nil _⟩)
 refine Jq 5 15 (Sr (JaK (IntKind.u64.wrap h.epoch))) [(14,U (IntKind.u64.wrap h.epoch))] (fun X=>?_)
 exact Ji 15 (Sr (JaK (IntKind.u64.wrap h.epoch))) (JdF (IntKind.u64.wrap h.epoch) G) Jm
 refine Jq 9 19 (Sr (JaK h.root)) [(18,U h.root)] (fun X=>?_)
 exact Ji 19 (Sr (JaK h.root)) (JdF h.root G) Jm
 refine Jq 13 23 (Sr (JaK h.prev)) [(22,U h.prev)] (fun X=>?_)
 exact Ji 23 (Sr (JaK h.prev)) (JdF h.prev G) Jm
 refine Jq 18 28 (Sr (JaK (IntKind.u64.wrap h.at_))) [(27,U (IntKind.u64.wrap h.at_))] (fun X=>?_)
 exact Ji 28 (Sr (JaK (IntKind.u64.wrap h.at_))) (JdF (IntKind.u64.wrap h.at_) G) Jm
 refine JP 0 [] (fun X=>?_)
 refine JaB 10 1 #[Y 3] 5 (fun b2=>?_)
 refine JU [(0,Sl (At b2 0) 1 1),(1,Sr (([3]:List Int).map fun n=>UInt8.ofNat n.toNat)),(6,Sr ((([3]:List Int).map fun n=>UInt8.ofNat n.toNat) ++ (JaK (IntKind.u64.wrap h.epoch)))),(10,Sr (((([3]:List Int).map fun n=>UInt8.ofNat n.toNat) ++ (JaK (IntKind.u64.wrap h.epoch))) ++ (JaK h.root))),(14,Sr ((((([3]:List Int).map fun n=>UInt8.ofNat n.toNat) ++ (JaK (IntKind.u64.wrap h.epoch))) ++ (JaK h.root)) ++ (JaK h.prev))),(19,Sr (((((([3]:List Int).map fun n=>UInt8.ofNat n.toNat) ++ (JaK (IntKind.u64.wrap h.epoch))) ++ (JaK h.root)) ++ (JaK h.prev)) ++ (JaK (IntKind.u64.wrap h.at_)))),(20,Sr (((((([3]:List Int).map fun n=>UInt8.ofNat n.toNat) ++ (JaK (IntKind.u64.wrap h.epoch))) ++ (JaK h.root)) ++ (JaK h.prev)) ++ (JaK (IntKind.u64.wrap h.at_)))),(21,I 0)] ?_
 refine Jav [] [(2,0),(3,4),(4,0),(7,0),(8,4),(11,0),(12,4),(15,0),(16,4),(17,0),(20,0),(21,0)] [1,5,6,9,10,13,14,18,19] [(2,Sr (((((([3]:List Int).map fun n=>UInt8.ofNat n.toNat) ++ (JaK (IntKind.u64.wrap h.epoch))) ++ (JaK h.root)) ++ (JaK h.prev)) ++ (JaK (IntKind.u64.wrap h.at_)))),(3,I 0)] (List.forall_mem_cons.2 ⟨?_,(List.forall_mem_cons.2 ⟨?_,(List.forall_mem_cons.2 ⟨?_,(List.forall_mem_cons.2 ⟨?_,(List.forall_mem_cons.2 ⟨?_,(List.forall_mem_cons.2 ⟨?_,(List.forall_mem_cons.2 ⟨?_,(List.forall_mem_cons.2 ⟨?_,(List.forall_mem_cons.2 ⟨?_,List.forall_mem_nil _⟩)⟩)⟩)⟩)⟩)⟩)⟩)⟩)⟩) ?_
 refine Jq 1 11 (Sr (([3]:List Int).map fun n=>UInt8.ofNat n.toNat)) [(10,Sl (At b2 0) 1 1)] (fun X=>?_)
 exact JfH (b:=b2) (off:=0) (len:=1) (cap:=1) (cs:=List.map (Value.int .u8) [3]) 11 0 [3] rfl (Je7 (ns:=[3]) rfl) Jm
 refine Jq 5 15 (Sr (JaK (IntKind.u64.wrap h.epoch))) [(14,U (IntKind.u64.wrap h.epoch))] (fun X=>?_)
 exact Ji 15 (Sr (JaK (IntKind.u64.wrap h.epoch))) (JdF (IntKind.u64.wrap h.epoch) G) Jm
 refine Jq 6 16 (Sr ((([3]:List Int).map fun n=>UInt8.ofNat n.toNat) ++ (JaK (IntKind.u64.wrap h.epoch)))) [(11,Sr (([3]:List Int).map fun n=>UInt8.ofNat n.toNat)),(15,Sr (JaK (IntKind.u64.wrap h.epoch)))] (fun X=>?_)
 exact Jds 16 (([3]:List Int).map fun n=>UInt8.ofNat n.toNat) (JaK (IntKind.u64.wrap h.epoch)) (by simp) Jm
 refine Jq 9 19 (Sr (JaK h.root)) [(18,U h.root)] (fun X=>?_)
 exact Ji 19 (Sr (JaK h.root)) (JdF h.root G) Jm
 refine Jq 10 20 (Sr (((([3]:List Int).map fun n=>UInt8.ofNat n.toNat) ++ (JaK (IntKind.u64.wrap h.epoch))) ++ (JaK h.root))) [(16,Sr ((([3]:List Int).map fun n=>UInt8.ofNat n.toNat) ++ (JaK (IntKind.u64.wrap h.epoch)))),(19,Sr (JaK h.root))] (fun X=>?_)
 exact Jds 20 ((([3]:List Int).map fun n=>UInt8.ofNat n.toNat) ++ (JaK (IntKind.u64.wrap h.epoch))) (JaK h.root) (by simp) Jm
 refine Jq 13 23 (Sr (JaK h.prev)) [(22,U h.prev)] (fun X=>?_)
 exact Ji 23 (Sr (JaK h.prev)) (JdF h.prev G) Jm
 refine Jq 14 24 (Sr ((((([3]:List Int).map fun n=>UInt8.ofNat n.toNat) ++ (JaK (IntKind.u64.wrap h.epoch))) ++ (JaK h.root)) ++ (JaK h.prev))) [(20,Sr (((([3]:List Int).map fun n=>UInt8.ofNat n.toNat) ++ (JaK (IntKind.u64.wrap h.epoch))) ++ (JaK h.root))),(23,Sr (JaK h.prev))] (fun X=>?_)
 exact Jds 24 (((([3]:List Int).map fun n=>UInt8.ofNat n.toNat) ++ (JaK (IntKind.u64.wrap h.epoch))) ++ (JaK h.root)) (JaK h.prev) (by simp) Jm
 refine Jq 18 28 (Sr (JaK (IntKind.u64.wrap h.at_))) [(27,U (IntKind.u64.wrap h.at_))] (fun X=>?_)
 exact Ji 28 (Sr (JaK (IntKind.u64.wrap h.at_))) (JdF (IntKind.u64.wrap h.at_) G) Jm
 refine Jq 19 29 (Sr (((((([3]:List Int).map fun n=>UInt8.ofNat n.toNat) ++ (JaK (IntKind.u64.wrap h.epoch))) ++ (JaK h.root)) ++ (JaK h.prev)) ++ (JaK (IntKind.u64.wrap h.at_)))) [(24,Sr ((((([3]:List Int).map fun n=>UInt8.ofNat n.toNat) ++ (JaK (IntKind.u64.wrap h.epoch))) ++ (JaK h.root)) ++ (JaK h.prev))),(28,Sr (JaK (IntKind.u64.wrap h.at_)))] (fun X=>?_)
 exact Jds 29 ((((([3]:List Int).map fun n=>UInt8.ofNat n.toNat) ++ (JaK (IntKind.u64.wrap h.epoch))) ++ (JaK h.root)) ++ (JaK h.prev)) (JaK (IntKind.u64.wrap h.at_)) (by simp) Jm
 refine Ja (Jk ?_)
 refine Jl [0,0] [Sr (((((([3]:List Int).map fun n=>UInt8.ofNat n.toNat) ++ (JaK (IntKind.u64.wrap h.epoch))) ++ (JaK h.root)) ++ (JaK h.prev)) ++ (JaK (IntKind.u64.wrap h.at_))),I 0] (Jw (Jt.le_refl _) ?_)
 (unfold Jbz;rw [if_neg (by omega)];rfl)
end Go.Proofs.YtnnlpbjdignhaaaGreatDoor
