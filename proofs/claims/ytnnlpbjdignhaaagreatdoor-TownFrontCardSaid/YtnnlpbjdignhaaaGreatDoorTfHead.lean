import Derived.Test.YtnnlpbjdignhaaaGreatDoorTfWire
namespace Go.Proofs.YtnnlpbjdignhaaaGreatDoor
open Go.Tx
set_option linter.unusedVariables false
set_option linter.unusedSimpArgs false
def WX:JU:=⟨0,0,0,0⟩
def JD (h:JU):Int :=
 if h.epoch<0∨1000000<h.epoch∨2305843009213693951≤h.root∨2305843009213693951≤h.prev∨h.at_<0∨1000000000<h.at_ then 4 else if h.epoch=0∧h.prev ≠ 0 then 3 else 0
theorem WY {h:JU} (e:JD h=0):0≤h.epoch∧h.epoch≤1000000∧h.root<2305843009213693951∧h.prev<2305843009213693951∧0≤h.at_∧h.at_≤1000000000∧(h.epoch=0→h.prev=0):=by
 unfold JD at e;split at e
 ·
  cases e
 split at e
 ·
  cases e
 omega
def YS (h:JU):List UInt8:=((([3]++KK (IntKind.u64.wrap h.epoch))++KK h.root)++KK h.prev)++KK (IntKind.u64.wrap h.at_)
def QA (h:JU):List UInt8×Int:=if JD h ≠ 0 then ([],JD h) else (YS h,0)
theorem Jlo {x y:UInt8}:((x.toNat:Int)=(y.toNat:Int)) ↔ x=y:=⟨fun h=>UInt8.toNat.inj (by omega),fun h=>by rw [h]⟩
theorem JcS (h:JU):(YS h).length=33:=by simp [YS]
theorem Zl (h:JU) (G:Jt):QE Tryz.prog 42 #[.agg #[I h.epoch,U h.root,U h.prev,I h.at_]] G [] (fun u G' L'=>u=I (JD h)):=by
 refine JL Tryz.func42 41 [(0,.agg #[I h.epoch,U h.root,U h.prev,I h.at_])] rfl (fun w0 G0=>?_)
 refine Je (Jb ?_)
 refine Ju 1 #[I h.epoch,U h.root,U h.prev,I h.at_] 50 (fun b1=>?_)
 refine Jc [0] [(1,Pt b1 0)] (Jd (Ja (Je (Jy (Je (Jb ?_))))))
 refine Jc [0,2,0,0] [(1,Pt b1 0),(7,Bo (decide (h.epoch<0)))] ?_
 refine Ky (decide (h.epoch<0)) (fun bb=>[(1,Pt b1 0),(7,Bo bb)]) [1,1,1,0] [0,2,0,0] (fun bb=>[(1,Pt b1 0),(11,Bo (bb || (decide (h.epoch > 1000000))))]) ?_
 refine Jc [0] [(1,Pt b1 0),(12,Bo ((decide (h.epoch<0)) || (decide (h.epoch > 1000000))))] ?_
 refine Ky ((decide (h.epoch<0)) || (decide (h.epoch > 1000000))) (fun bb=>[(1,Pt b1 0),(12,Bo bb)]) [1,1,1,0] [0,2,0,0] (fun bb=>[(1,Pt b1 0),(16,Bo (bb || (decide (h.root ≥ 2305843009213693951))))]) ?_
 refine Jc [0] [(1,Pt b1 0),(17,Bo (((decide (h.epoch<0)) || (decide (h.epoch > 1000000))) || (decide (h.root ≥ 2305843009213693951))))] ?_
 refine Ky (((decide (h.epoch<0)) || (decide (h.epoch > 1000000))) || (decide (h.root ≥ 2305843009213693951))) (fun bb=>[(1,Pt b1 0),(17,Bo bb)]) [1,1,1,0] [0,2,0,0] (fun bb=>[(1,Pt b1 0),(21,Bo (bb || (decide (h.prev ≥ 2305843009213693951))))]) ?_
 refine Jc [0] [(1,Pt b1 0),(22,Bo ((((decide (h.epoch<0)) || (decide (h.epoch > 1000000))) || (decide (h.root ≥ 2305843009213693951))) || (decide (h.prev ≥ 2305843009213693951))))] ?_
 refine Ky ((((decide (h.epoch<0)) || (decide (h.epoch > 1000000))) || (decide (h.root ≥ 2305843009213693951))) || (decide (h.prev ≥ 2305843009213693951))) (fun bb=>[(1,Pt b1 0),(22,Bo bb)]) [1,1,1,0] [0,2,0,0] (fun bb=>[(1,Pt b1 0),(26,Bo (bb || (decide (h.at_<0))))]) ?_
 refine Jc [0] [(1,Pt b1 0),(27,Bo (((((decide (h.epoch<0)) || (decide (h.epoch > 1000000))) || (decide (h.root ≥ 2305843009213693951))) || (decide (h.prev ≥ 2305843009213693951))) || (decide (h.at_<0))))] ?_
 refine Ky (((((decide (h.epoch<0)) || (decide (h.epoch > 1000000))) || (decide (h.root ≥ 2305843009213693951))) || (decide (h.prev ≥ 2305843009213693951))) || (decide (h.at_<0))) (fun bb=>[(1,Pt b1 0),(27,Bo bb)]) [1,1,1,0] [0,2,0,0] (fun bb=>[(1,Pt b1 0),(31,Bo (bb || (decide (h.at_ > 1000000000))))]) ?_
 refine Jc [0] [(1,Pt b1 0),(3,Bo ((((((decide (h.epoch<0)) || (decide (h.epoch > 1000000))) || (decide (h.root ≥ 2305843009213693951))) || (decide (h.prev ≥ 2305843009213693951))) || (decide (h.at_<0))) || (decide (h.at_ > 1000000000))))] (Jd (Ja ?_))
 refine Jo ((((((decide (h.epoch<0)) || (decide (h.epoch > 1000000))) || (decide (h.root ≥ 2305843009213693951))) || (decide (h.prev ≥ 2305843009213693951))) || (decide (h.at_<0))) || (decide (h.at_ > 1000000000))) (fun h1=>?_) (fun h1=>?_)
 try simp only [BB] at h1
 refine Jg [0] [(2,I 4)] (Jk (Js (Jh ?_)))
 refine Jl [0] [I 4] (Jv (Jt.le_refl _) ?_)
 refine congrArg I ?_;unfold JD;(repeat' split) <;> first | rfl | omega
 try simp only [BB] at h1
 refine Je (Jb ?_)
 refine Jc [0,2,0,0] [(1,Pt b1 0),(36,Bo (decide (h.epoch=0)))] ?_
 refine Ky (decide (h.epoch=0)) (fun bb=>[(1,Pt b1 0),(36,Bo bb)]) [0,2,0,0] [1,1,1,0] (fun bb=>[(40,Bo (bb && (!decide (h.prev=0))))]) ?_
 refine Jc [0] [(32,Bo ((decide (h.epoch=0)) && (!decide (h.prev=0))))] (Jd (Ja ?_))
 refine Jo ((decide (h.epoch=0)) && (!decide (h.prev=0))) (fun h2=>?_) (fun h2=>?_)
 try simp only [BB] at h2
 refine Jg [0] [(2,I 3)] (Jk (Js (Jh ?_)))
 refine Jl [0] [I 3] (Jv (Jt.le_refl _) ?_)
 refine congrArg I ?_;unfold JD;(repeat' split) <;> first | rfl | omega
 try simp only [BB] at h2
 refine Jm (JK (Ja ?_))
 refine Jg [0] [(2,I 0)] (Jk ?_)
 refine Jl [0] [I 0] (Jv (Jt.le_refl _) ?_)
 refine congrArg I ?_;unfold JD;(repeat' split) <;> first | rfl | omega
theorem Jfd (h:JU) (G:Jt):QE Tryz.prog 88 #[.agg #[I h.epoch,U h.root,U h.prev,I h.at_]] G [] (fun u G' L'=>u=.tuple #[Sr ((QA h).1),I ((QA h).2)]):=by
 refine JL Tryz.func88 30 [(0,.agg #[I h.epoch,U h.root,U h.prev,I h.at_])] rfl (fun w0 G0=>?_)
 refine Je (Jb ?_)
 refine Ju 1 #[I h.epoch,U h.root,U h.prev,I h.at_] 50 (fun b1=>?_)
 refine Jc [0,0] [(1,Pt b1 0)] (Jd (Ja (Je (Je (Jb ?_)))))
 refine Jc [2] [(1,Pt b1 0),(5,.agg #[I h.epoch,U h.root,U h.prev,I h.at_])] ?_
 refine Ji 6 (I (JD h)) (Zl h G) ?_
 refine Jc [0] [(1,Pt b1 0),(4,I (JD h))] (Jd (Ja ?_))
 refine Jg [0,0] [(1,Pt b1 0),(4,I (JD h)),(8,Bo (!decide (JD h=0)))] ?_
 refine Jo (!decide (JD h=0)) (fun h1=>?_) (fun h1=>?_)
 try simp only [BB] at h1
 refine Jg [0,0,0] [(2,Sr ([])),(3,I (JD h))] (Jk (Jh ?_))
 refine Jl [0,0] [Sr ([]),I (JD h)] (Jv (Jt.le_refl _) ?_)
 (unfold QA;rw [if_pos (by omega)];rfl)
 try simp only [BB] at h1
 refine Jm (Ja (Je ?_))
 refine Kw [0] ?_
 refine Wa [(2,Pt b1 0),(3,I h.epoch),(4,U (IntKind.u64.wrap h.epoch)),(5,Sr (KK (IntKind.u64.wrap h.epoch))),(7,Pt b1 1),(8,U h.root),(9,Sr (KK h.root)),(11,Pt b1 2),(12,U h.prev),(13,Sr (KK h.prev)),(15,Pt b1 3),(16,I h.at_),(17,U (IntKind.u64.wrap h.at_)),(18,Sr (KK (IntKind.u64.wrap h.at_)))] ?_
 refine JZ [] [(2,0),(3,2),(4,0),(7,0),(8,2),(11,0),(12,2),(15,0),(16,2),(17,0)] [5,9,13,18] [0] (List.forall_mem_cons.2 ⟨?_,(List.forall_mem_cons.2 ⟨?_,(List.forall_mem_cons.2 ⟨?_,(List.forall_mem_cons.2 ⟨?_,List.forall_mem_nil _⟩)⟩)⟩)⟩) (List.forall_mem_cons.2 ⟨?_,List.forall_mem_nil _⟩)
 refine Jq 5 15 (Sr (KK (IntKind.u64.wrap h.epoch))) [(14,U (IntKind.u64.wrap h.epoch))] (fun X=>?_)
 exact Ji 15 (Sr (KK (IntKind.u64.wrap h.epoch))) (ZG (IntKind.u64.wrap h.epoch) G) Jn
 refine Jq 9 19 (Sr (KK h.root)) [(18,U h.root)] (fun X=>?_)
 exact Ji 19 (Sr (KK h.root)) (ZG h.root G) Jn
 refine Jq 13 23 (Sr (KK h.prev)) [(22,U h.prev)] (fun X=>?_)
 exact Ji 23 (Sr (KK h.prev)) (ZG h.prev G) Jn
 refine Jq 18 28 (Sr (KK (IntKind.u64.wrap h.at_))) [(27,U (IntKind.u64.wrap h.at_))] (fun X=>?_)
 exact Ji 28 (Sr (KK (IntKind.u64.wrap h.at_))) (ZG (IntKind.u64.wrap h.at_) G) Jn
 refine JO 0 [] (fun X=>?_)
 refine KC 10 1 #[Y 3] 5 (fun b2=>?_)
 refine JS [(0,Sl (At b2 0) 1 1),(1,Sr (([3]:List Int).map fun n=>UInt8.ofNat n.toNat)),(6,Sr ((([3]:List Int).map fun n=>UInt8.ofNat n.toNat)++(KK (IntKind.u64.wrap h.epoch)))),(10,Sr (((([3]:List Int).map fun n=>UInt8.ofNat n.toNat)++(KK (IntKind.u64.wrap h.epoch)))++(KK h.root))),(14,Sr ((((([3]:List Int).map fun n=>UInt8.ofNat n.toNat)++(KK (IntKind.u64.wrap h.epoch)))++(KK h.root))++(KK h.prev))),(19,Sr (((((([3]:List Int).map fun n=>UInt8.ofNat n.toNat)++(KK (IntKind.u64.wrap h.epoch)))++(KK h.root))++(KK h.prev))++(KK (IntKind.u64.wrap h.at_)))),(20,Sr (((((([3]:List Int).map fun n=>UInt8.ofNat n.toNat)++(KK (IntKind.u64.wrap h.epoch)))++(KK h.root))++(KK h.prev))++(KK (IntKind.u64.wrap h.at_)))),(21,I 0)] ?_
 refine Kv [] [(2,0),(3,4),(4,0),(7,0),(8,4),(11,0),(12,4),(15,0),(16,4),(17,0),(20,0),(21,0)] [1,5,6,9,10,13,14,18,19] [(2,Sr (((((([3]:List Int).map fun n=>UInt8.ofNat n.toNat)++(KK (IntKind.u64.wrap h.epoch)))++(KK h.root))++(KK h.prev))++(KK (IntKind.u64.wrap h.at_)))),(3,I 0)] (List.forall_mem_cons.2 ⟨?_,(List.forall_mem_cons.2 ⟨?_,(List.forall_mem_cons.2 ⟨?_,(List.forall_mem_cons.2 ⟨?_,(List.forall_mem_cons.2 ⟨?_,(List.forall_mem_cons.2 ⟨?_,(List.forall_mem_cons.2 ⟨?_,(List.forall_mem_cons.2 ⟨?_,(List.forall_mem_cons.2 ⟨?_,List.forall_mem_nil _⟩)⟩)⟩)⟩)⟩)⟩)⟩)⟩)⟩) ?_
 refine Jq 1 11 (Sr (([3]:List Int).map fun n=>UInt8.ofNat n.toNat)) [(10,Sl (At b2 0) 1 1)] (fun X=>?_)
 exact VP (b:=b2) (off:=0) (len:=1) (cap:=1) (cs:=List.map (Value.int .u8) [3]) 11 0 [3] rfl (Vb (ns:=[3]) rfl) Jn
 refine Jq 5 15 (Sr (KK (IntKind.u64.wrap h.epoch))) [(14,U (IntKind.u64.wrap h.epoch))] (fun X=>?_)
 exact Ji 15 (Sr (KK (IntKind.u64.wrap h.epoch))) (ZG (IntKind.u64.wrap h.epoch) G) Jn
 refine Jq 6 16 (Sr ((([3]:List Int).map fun n=>UInt8.ofNat n.toNat)++(KK (IntKind.u64.wrap h.epoch)))) [(11,Sr (([3]:List Int).map fun n=>UInt8.ofNat n.toNat)),(15,Sr (KK (IntKind.u64.wrap h.epoch)))] (fun X=>?_)
 exact Zr 16 (([3]:List Int).map fun n=>UInt8.ofNat n.toNat) (KK (IntKind.u64.wrap h.epoch)) (by simp) Jn
 refine Jq 9 19 (Sr (KK h.root)) [(18,U h.root)] (fun X=>?_)
 exact Ji 19 (Sr (KK h.root)) (ZG h.root G) Jn
 refine Jq 10 20 (Sr (((([3]:List Int).map fun n=>UInt8.ofNat n.toNat)++(KK (IntKind.u64.wrap h.epoch)))++(KK h.root))) [(16,Sr ((([3]:List Int).map fun n=>UInt8.ofNat n.toNat)++(KK (IntKind.u64.wrap h.epoch)))),(19,Sr (KK h.root))] (fun X=>?_)
 exact Zr 20 ((([3]:List Int).map fun n=>UInt8.ofNat n.toNat)++(KK (IntKind.u64.wrap h.epoch))) (KK h.root) (by simp) Jn
 refine Jq 13 23 (Sr (KK h.prev)) [(22,U h.prev)] (fun X=>?_)
 exact Ji 23 (Sr (KK h.prev)) (ZG h.prev G) Jn
 refine Jq 14 24 (Sr ((((([3]:List Int).map fun n=>UInt8.ofNat n.toNat)++(KK (IntKind.u64.wrap h.epoch)))++(KK h.root))++(KK h.prev))) [(20,Sr (((([3]:List Int).map fun n=>UInt8.ofNat n.toNat)++(KK (IntKind.u64.wrap h.epoch)))++(KK h.root))),(23,Sr (KK h.prev))] (fun X=>?_)
 exact Zr 24 (((([3]:List Int).map fun n=>UInt8.ofNat n.toNat)++(KK (IntKind.u64.wrap h.epoch)))++(KK h.root)) (KK h.prev) (by simp) Jn
 refine Jq 18 28 (Sr (KK (IntKind.u64.wrap h.at_))) [(27,U (IntKind.u64.wrap h.at_))] (fun X=>?_)
 exact Ji 28 (Sr (KK (IntKind.u64.wrap h.at_))) (ZG (IntKind.u64.wrap h.at_) G) Jn
 refine Jq 19 29 (Sr (((((([3]:List Int).map fun n=>UInt8.ofNat n.toNat)++(KK (IntKind.u64.wrap h.epoch)))++(KK h.root))++(KK h.prev))++(KK (IntKind.u64.wrap h.at_)))) [(24,Sr ((((([3]:List Int).map fun n=>UInt8.ofNat n.toNat)++(KK (IntKind.u64.wrap h.epoch)))++(KK h.root))++(KK h.prev))),(28,Sr (KK (IntKind.u64.wrap h.at_)))] (fun X=>?_)
 exact Zr 29 ((((([3]:List Int).map fun n=>UInt8.ofNat n.toNat)++(KK (IntKind.u64.wrap h.epoch)))++(KK h.root))++(KK h.prev)) (KK (IntKind.u64.wrap h.at_)) (by simp) Jn
 refine Ja (Jk ?_)
 refine Jl [0,0] [Sr (((((([3]:List Int).map fun n=>UInt8.ofNat n.toNat)++(KK (IntKind.u64.wrap h.epoch)))++(KK h.root))++(KK h.prev))++(KK (IntKind.u64.wrap h.at_))),I 0] (Jv (Jt.le_refl _) ?_)
 (unfold QA;rw [if_neg (by omega)];rfl)
end Go.Proofs.YtnnlpbjdignhaaaGreatDoor
