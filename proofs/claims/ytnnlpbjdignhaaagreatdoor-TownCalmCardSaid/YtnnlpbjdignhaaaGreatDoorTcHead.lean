import Derived.Test.YtnnlpbjdignhaaaGreatDoorTcWire
namespace Go.Proofs.YtnnlpbjdignhaaaGreatDoor
open Go.Tx
set_option linter.unusedVariables false
set_option linter.unusedSimpArgs false
def WY:JR:=⟨0,0,0,0⟩
def JD (h:JR):Int :=
 if h.epoch<0∨1000000<h.epoch∨2305843009213693951≤h.root∨2305843009213693951≤h.prev∨h.at_<0∨1000000000<h.at_ then 4 else if h.epoch=0∧h.prev ≠ 0 then 3 else 0
theorem W6 {h:JR} (e:JD h=0):0≤h.epoch∧h.epoch≤1000000∧h.root<2305843009213693951∧h.prev<2305843009213693951∧0≤h.at_∧h.at_≤1000000000∧(h.epoch=0→h.prev=0):=by
 unfold JD at e;split at e
 ·
  cases e
 split at e
 ·
  cases e
 omega
def Y8 (h:JR):List UInt8:=((([3]++KS (IntKind.u64.wrap h.epoch))++KS h.root)++KS h.prev)++KS (IntKind.u64.wrap h.at_)
def QI (h:JR):List UInt8×Int:=if JD h ≠ 0 then ([],JD h) else (Y8 h,0)
theorem Jmo {x y:UInt8}:((x.toNat:Int)=(y.toNat:Int)) ↔ x=y:=⟨fun h=>UInt8.toNat.inj (by omega),fun h=>by rw [h]⟩
theorem Jdk (h:JR):(Y8 h).length=33:=by simp [Y8]
theorem Zv (h:JR) (G:Jt):QF Tryz.prog 42 #[.agg #[I h.epoch,U h.root,U h.prev,I h.at_]] G [] (fun u G' L'=>u=I (JD h)):=by
 refine JJ Tryz.func42 41 [(0,.agg #[I h.epoch,U h.root,U h.prev,I h.at_])] rfl (fun w0 G0=>?_)
 refine Je (Jb (Ju 1 #[I h.epoch,U h.root,U h.prev,I h.at_] 50 (fun b1=>Jd [0] [(1,Pt b1 0)] (Jc (Ja (Je (Jz (Je (Jb (Jd [0,2,0,0] [(1,Pt b1 0),(7,Bo (decide (h.epoch<0)))] (KD (decide (h.epoch<0)) (fun bb=>[(1,Pt b1 0),(7,Bo bb)]) [1,1,1,0] [0,2,0,0] (fun bb=>[(1,Pt b1 0),(11,Bo (bb || (decide (h.epoch > 1000000))))]) (Jd [0] [(1,Pt b1 0),(12,Bo ((decide (h.epoch<0)) || (decide (h.epoch > 1000000))))] (KD ((decide (h.epoch<0)) || (decide (h.epoch > 1000000))) (fun bb=>[(1,Pt b1 0),(12,Bo bb)]) [1,1,1,0] [0,2,0,0] (fun bb=>[(1,Pt b1 0),(16,Bo (bb || (decide (h.root ≥ 2305843009213693951))))]) (Jd [0] [(1,Pt b1 0),(17,Bo (((decide (h.epoch<0)) || (decide (h.epoch > 1000000))) || (decide (h.root ≥ 2305843009213693951))))] (KD (((decide (h.epoch<0)) || (decide (h.epoch > 1000000))) || (decide (h.root ≥ 2305843009213693951))) (fun bb=>[(1,Pt b1 0),(17,Bo bb)]) [1,1,1,0] [0,2,0,0] (fun bb=>[(1,Pt b1 0),(21,Bo (bb || (decide (h.prev ≥ 2305843009213693951))))]) (Jd [0] [(1,Pt b1 0),(22,Bo ((((decide (h.epoch<0)) || (decide (h.epoch > 1000000))) || (decide (h.root ≥ 2305843009213693951))) || (decide (h.prev ≥ 2305843009213693951))))] (KD ((((decide (h.epoch<0)) || (decide (h.epoch > 1000000))) || (decide (h.root ≥ 2305843009213693951))) || (decide (h.prev ≥ 2305843009213693951))) (fun bb=>[(1,Pt b1 0),(22,Bo bb)]) [1,1,1,0] [0,2,0,0] (fun bb=>[(1,Pt b1 0),(26,Bo (bb || (decide (h.at_<0))))]) ?_)))))))))))))))))
 refine Jd [0] [(1,Pt b1 0),(27,Bo (((((decide (h.epoch<0)) || (decide (h.epoch > 1000000))) || (decide (h.root ≥ 2305843009213693951))) || (decide (h.prev ≥ 2305843009213693951))) || (decide (h.at_<0))))] (KD (((((decide (h.epoch<0)) || (decide (h.epoch > 1000000))) || (decide (h.root ≥ 2305843009213693951))) || (decide (h.prev ≥ 2305843009213693951))) || (decide (h.at_<0))) (fun bb=>[(1,Pt b1 0),(27,Bo bb)]) [1,1,1,0] [0,2,0,0] (fun bb=>[(1,Pt b1 0),(31,Bo (bb || (decide (h.at_ > 1000000000))))]) (Jd [0] [(1,Pt b1 0),(3,Bo ((((((decide (h.epoch<0)) || (decide (h.epoch > 1000000))) || (decide (h.root ≥ 2305843009213693951))) || (decide (h.prev ≥ 2305843009213693951))) || (decide (h.at_<0))) || (decide (h.at_ > 1000000000))))] (Jc (Ja (Jo ((((((decide (h.epoch<0)) || (decide (h.epoch > 1000000))) || (decide (h.root ≥ 2305843009213693951))) || (decide (h.prev ≥ 2305843009213693951))) || (decide (h.at_<0))) || (decide (h.at_ > 1000000000))) (fun h1=>?_) (fun h1=>?_))))))
 try simp only [BB] at h1
 refine Jg [0] [(2,I 4)] (Jk (Js (Jh (Jl [0] [I 4] (Jv (Jt.le_refl _) ?_)))))
 refine congrArg I ?_;unfold JD;(repeat' split) <;> first | rfl | omega
 try simp only [BB] at h1
 refine Je (Jb (Jd [0,2,0,0] [(1,Pt b1 0),(36,Bo (decide (h.epoch=0)))] (KD (decide (h.epoch=0)) (fun bb=>[(1,Pt b1 0),(36,Bo bb)]) [0,2,0,0] [1,1,1,0] (fun bb=>[(40,Bo (bb && (!decide (h.prev=0))))]) (Jd [0] [(32,Bo ((decide (h.epoch=0)) && (!decide (h.prev=0))))] (Jc (Ja (Jo ((decide (h.epoch=0)) && (!decide (h.prev=0))) (fun h2=>?_) (fun h2=>?_))))))))
 try simp only [BB] at h2
 refine Jg [0] [(2,I 3)] (Jk (Js (Jh (Jl [0] [I 3] (Jv (Jt.le_refl _) ?_)))))
 refine congrArg I ?_;unfold JD;(repeat' split) <;> first | rfl | omega
 try simp only [BB] at h2
 refine Jm (JM (Ja (Jg [0] [(2,I 0)] (Jk (Jl [0] [I 0] (Jv (Jt.le_refl _) ?_))))))
 refine congrArg I ?_;unfold JD;(repeat' split) <;> first | rfl | omega
theorem JfK (h:JR) (G:Jt):QF Tryz.prog 88 #[.agg #[I h.epoch,U h.root,U h.prev,I h.at_]] G [] (fun u G' L'=>u=.tuple #[Sr ((QI h).1),I ((QI h).2)]):=by
 refine JJ Tryz.func88 30 [(0,.agg #[I h.epoch,U h.root,U h.prev,I h.at_])] rfl (fun w0 G0=>?_)
 refine Je (Jb (Ju 1 #[I h.epoch,U h.root,U h.prev,I h.at_] 50 (fun b1=>Jd [0,0] [(1,Pt b1 0)] (Jc (Ja (Je (Je (Jb (Jd [2] [(1,Pt b1 0),(5,.agg #[I h.epoch,U h.root,U h.prev,I h.at_])] (Ji 6 (I (JD h)) (Zv h G) (Jd [0] [(1,Pt b1 0),(4,I (JD h))] (Jc (Ja (Jg [0,0] [(1,Pt b1 0),(4,I (JD h)),(8,Bo (!decide (JD h=0)))] (Jo (!decide (JD h=0)) (fun h1=>?_) (fun h1=>?_))))))))))))))))
 try simp only [BB] at h1
 refine Jg [0,0,0] [(2,Sr ([])),(3,I (JD h))] (Jk (Jh (Jl [0,0] [Sr ([]),I (JD h)] (Jv (Jt.le_refl _) ?_))))
 (unfold QI;rw [if_pos (by omega)];rfl)
 try simp only [BB] at h1
 refine Jm (Ja (Je (KB [0] (Wr [(2,Pt b1 0),(3,I h.epoch),(4,U (IntKind.u64.wrap h.epoch)),(5,Sr (KS (IntKind.u64.wrap h.epoch))),(7,Pt b1 1),(8,U h.root),(9,Sr (KS h.root)),(11,Pt b1 2),(12,U h.prev),(13,Sr (KS h.prev)),(15,Pt b1 3),(16,I h.at_),(17,U (IntKind.u64.wrap h.at_)),(18,Sr (KS (IntKind.u64.wrap h.at_)))] (J1 [] [(2,0),(3,2),(4,0),(7,0),(8,2),(11,0),(12,2),(15,0),(16,2),(17,0)] [5,9,13,18] [0] (List.forall_mem_cons.2 ⟨?_,(List.forall_mem_cons.2 ⟨?_,(List.forall_mem_cons.2 ⟨?_,(List.forall_mem_cons.2 ⟨?_,List.forall_mem_nil _⟩)⟩)⟩)⟩) (List.forall_mem_cons.2 ⟨?_,List.forall_mem_nil _⟩))))))
 refine Jr 5 15 (Sr (KS (IntKind.u64.wrap h.epoch))) [(14,U (IntKind.u64.wrap h.epoch))] (fun X=>?_)
 exact Ji 15 (Sr (KS (IntKind.u64.wrap h.epoch))) (ZO (IntKind.u64.wrap h.epoch) G) Jp
 refine Jr 9 19 (Sr (KS h.root)) [(18,U h.root)] (fun X=>?_)
 exact Ji 19 (Sr (KS h.root)) (ZO h.root G) Jp
 refine Jr 13 23 (Sr (KS h.prev)) [(22,U h.prev)] (fun X=>?_)
 exact Ji 23 (Sr (KS h.prev)) (ZO h.prev G) Jp
 refine Jr 18 28 (Sr (KS (IntKind.u64.wrap h.at_))) [(27,U (IntKind.u64.wrap h.at_))] (fun X=>?_)
 exact Ji 28 (Sr (KS (IntKind.u64.wrap h.at_))) (ZO (IntKind.u64.wrap h.at_) G) Jp
 refine JS 0 [] (fun X=>?_)
 refine KH 10 1 #[Y 3] 5 (fun b2=>JW [(0,Sl (At b2 0) 1 1),(1,Sr (([3]:List Int).map fun n=>UInt8.ofNat n.toNat)),(6,Sr ((([3]:List Int).map fun n=>UInt8.ofNat n.toNat)++(KS (IntKind.u64.wrap h.epoch)))),(10,Sr (((([3]:List Int).map fun n=>UInt8.ofNat n.toNat)++(KS (IntKind.u64.wrap h.epoch)))++(KS h.root))),(14,Sr ((((([3]:List Int).map fun n=>UInt8.ofNat n.toNat)++(KS (IntKind.u64.wrap h.epoch)))++(KS h.root))++(KS h.prev))),(19,Sr (((((([3]:List Int).map fun n=>UInt8.ofNat n.toNat)++(KS (IntKind.u64.wrap h.epoch)))++(KS h.root))++(KS h.prev))++(KS (IntKind.u64.wrap h.at_)))),(20,Sr (((((([3]:List Int).map fun n=>UInt8.ofNat n.toNat)++(KS (IntKind.u64.wrap h.epoch)))++(KS h.root))++(KS h.prev))++(KS (IntKind.u64.wrap h.at_)))),(21,I 0)] (KA [] [(2,0),(3,4),(4,0),(7,0),(8,4),(11,0),(12,4),(15,0),(16,4),(17,0),(20,0),(21,0)] [1,5,6,9,10,13,14,18,19] [(2,Sr (((((([3]:List Int).map fun n=>UInt8.ofNat n.toNat)++(KS (IntKind.u64.wrap h.epoch)))++(KS h.root))++(KS h.prev))++(KS (IntKind.u64.wrap h.at_)))),(3,I 0)] (List.forall_mem_cons.2 ⟨?_,(List.forall_mem_cons.2 ⟨?_,(List.forall_mem_cons.2 ⟨?_,(List.forall_mem_cons.2 ⟨?_,(List.forall_mem_cons.2 ⟨?_,(List.forall_mem_cons.2 ⟨?_,(List.forall_mem_cons.2 ⟨?_,(List.forall_mem_cons.2 ⟨?_,(List.forall_mem_cons.2 ⟨?_,List.forall_mem_nil _⟩)⟩)⟩)⟩)⟩)⟩)⟩)⟩)⟩) ?_))
 refine Jr 1 11 (Sr (([3]:List Int).map fun n=>UInt8.ofNat n.toNat)) [(10,Sl (At b2 0) 1 1)] (fun X=>?_)
 exact Jad (b:=b2) (off:=0) (len:=1) (cap:=1) (cs:=List.map (Value.int .u8) [3]) 11 0 [3] rfl (Vu (ns:=[3]) rfl) Jp
 refine Jr 5 15 (Sr (KS (IntKind.u64.wrap h.epoch))) [(14,U (IntKind.u64.wrap h.epoch))] (fun X=>?_)
 exact Ji 15 (Sr (KS (IntKind.u64.wrap h.epoch))) (ZO (IntKind.u64.wrap h.epoch) G) Jp
 refine Jr 6 16 (Sr ((([3]:List Int).map fun n=>UInt8.ofNat n.toNat)++(KS (IntKind.u64.wrap h.epoch)))) [(11,Sr (([3]:List Int).map fun n=>UInt8.ofNat n.toNat)),(15,Sr (KS (IntKind.u64.wrap h.epoch)))] (fun X=>?_)
 exact ZB 16 (([3]:List Int).map fun n=>UInt8.ofNat n.toNat) (KS (IntKind.u64.wrap h.epoch)) (by simp) Jp
 refine Jr 9 19 (Sr (KS h.root)) [(18,U h.root)] (fun X=>?_)
 exact Ji 19 (Sr (KS h.root)) (ZO h.root G) Jp
 refine Jr 10 20 (Sr (((([3]:List Int).map fun n=>UInt8.ofNat n.toNat)++(KS (IntKind.u64.wrap h.epoch)))++(KS h.root))) [(16,Sr ((([3]:List Int).map fun n=>UInt8.ofNat n.toNat)++(KS (IntKind.u64.wrap h.epoch)))),(19,Sr (KS h.root))] (fun X=>?_)
 exact ZB 20 ((([3]:List Int).map fun n=>UInt8.ofNat n.toNat)++(KS (IntKind.u64.wrap h.epoch))) (KS h.root) (by simp) Jp
 refine Jr 13 23 (Sr (KS h.prev)) [(22,U h.prev)] (fun X=>?_)
 exact Ji 23 (Sr (KS h.prev)) (ZO h.prev G) Jp
 refine Jr 14 24 (Sr ((((([3]:List Int).map fun n=>UInt8.ofNat n.toNat)++(KS (IntKind.u64.wrap h.epoch)))++(KS h.root))++(KS h.prev))) [(20,Sr (((([3]:List Int).map fun n=>UInt8.ofNat n.toNat)++(KS (IntKind.u64.wrap h.epoch)))++(KS h.root))),(23,Sr (KS h.prev))] (fun X=>?_)
 exact ZB 24 (((([3]:List Int).map fun n=>UInt8.ofNat n.toNat)++(KS (IntKind.u64.wrap h.epoch)))++(KS h.root)) (KS h.prev) (by simp) Jp
 refine Jr 18 28 (Sr (KS (IntKind.u64.wrap h.at_))) [(27,U (IntKind.u64.wrap h.at_))] (fun X=>?_)
 exact Ji 28 (Sr (KS (IntKind.u64.wrap h.at_))) (ZO (IntKind.u64.wrap h.at_) G) Jp
 refine Jr 19 29 (Sr (((((([3]:List Int).map fun n=>UInt8.ofNat n.toNat)++(KS (IntKind.u64.wrap h.epoch)))++(KS h.root))++(KS h.prev))++(KS (IntKind.u64.wrap h.at_)))) [(24,Sr ((((([3]:List Int).map fun n=>UInt8.ofNat n.toNat)++(KS (IntKind.u64.wrap h.epoch)))++(KS h.root))++(KS h.prev))),(28,Sr (KS (IntKind.u64.wrap h.at_)))] (fun X=>?_)
 exact ZB 29 ((((([3]:List Int).map fun n=>UInt8.ofNat n.toNat)++(KS (IntKind.u64.wrap h.epoch)))++(KS h.root))++(KS h.prev)) (KS (IntKind.u64.wrap h.at_)) (by simp) Jp
 refine Ja (Jk (Jl [0,0] [Sr (((((([3]:List Int).map fun n=>UInt8.ofNat n.toNat)++(KS (IntKind.u64.wrap h.epoch)))++(KS h.root))++(KS h.prev))++(KS (IntKind.u64.wrap h.at_))),I 0] (Jv (Jt.le_refl _) ?_)))
 (unfold QI;rw [if_neg (by omega)];rfl)
end Go.Proofs.YtnnlpbjdignhaaaGreatDoor
