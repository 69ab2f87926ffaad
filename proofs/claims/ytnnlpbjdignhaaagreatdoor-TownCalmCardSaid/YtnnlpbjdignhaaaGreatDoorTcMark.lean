import Derived.Test.YtnnlpbjdignhaaaGreatDoorTcWire
import Derived.Test.YtnnlpbjdignhaaaGreatDoorTcBits
namespace Go.Proofs.YtnnlpbjdignhaaaGreatDoor
open Go.Tx
set_option linter.unusedVariables false
set_option linter.unusedSimpArgs false
def Kx (k a b:Int):List UInt8:=(([k]:List Int).map (fun n=>UInt8.ofNat n.toNat)++KS a)++KS b
theorem Zh (k a b:Int):(Kx k a b).length=17:=by simp [Kx]
theorem Zw (l:List UInt8) (hl:l.length≤140737488355328) (G:Jt):QF Tryz.prog 171 #[Sr l] G [] (fun u G' L'=>u=U (Jf l)):=by
 refine JJ Tryz.func171 21 [(0,Sr l)] rfl (fun w0 G0=>?_)
 refine Jg [0] [(0,Sr l)] (Jg [0] [(0,Sr l),(3,U 1)] (Je (Jg [0,0,0] [(0,Sr l),(3,U 1),(6,I ((l).length:Int)),(7,I 0)] (Jz ?_))))
 refine Qc (σ:=Nat×Int) (fun s=>(s.1≤l.length)∧(0≤s.2∧s.2<2305843009213693951)∧(s.2=(l.take s.1).foldl JcX 1)) (fun s=>[(0,Sr l),(3,U s.2),(6,I ((l).length:Int)),(7,I (s.1:Int))]) (fun s=>G) (fun s=>[]) (fun s=>l.length-s.1) (0,1) (⟨Nat.zero_le _,by omega,by simp⟩) (fun s hs=>?_)
 obtain ⟨i,m⟩:=s
 obtain ⟨hi,hb,hm⟩:=hs
 dsimp only at hi hb hm
 refine KQ (fr':=[(0,Sr l),(3,U m),(6,I ((l).length:Int)),(7,I (i:Int))]) (L':=[]) rfl rfl (Jg [0] [(0,Sr l),(3,U m),(6,I ((l).length:Int)),(7,I (i:Int)),(8,Bo (decide ((i:Int)<((l).length:Int))))] (Je (Jo (decide ((i:Int)<((l).length:Int))) (fun h1=>?_) (fun h1=>?_))))
 try simp only [BB] at h1
 refine Jm (Ja (Je (Jz (Jg [0,0] [(0,Sr l),(3,U m),(4,I (i:Int)),(6,I ((l).length:Int)),(7,I (i:Int))] ?_))))
 obtain ⟨y1,hy1⟩:=Wh (l:=l) (k:=i) (by omega)
 have e1:IntKind.u64.wrap (y1.toNat:Int)=(y1.toNat:Int):=IntWalk.u64_in _ (by (have:=Jbe m 1099511628211;have:=y1.toNat_lt;omega))
 have e2:IntKind.u64.wrap ((Wf m 1099511628211)+(y1.toNat:Int))=(Wf m 1099511628211)+(y1.toNat:Int):=IntWalk.u64_in _ (by (have:=Jbe m 1099511628211;have:=y1.toNat_lt;omega))
 have e3:IntKind.u64.wrap (((Wf m 1099511628211)+(y1.toNat:Int))+1)=((Wf m 1099511628211)+(y1.toNat:Int))+1:=IntWalk.u64_in _ (by (have:=Jbe m 1099511628211;have:=y1.toNat_lt;omega))
 have e4:(((Wf m 1099511628211)+(y1.toNat:Int))+1).tmod 2305843009213693951=(((Wf m 1099511628211)+(y1.toNat:Int))+1) % 2305843009213693951:=IntWalk.rem_in _ _ (by (have:=Jbe m 1099511628211;have:=y1.toNat_lt;omega))
 refine KB [] (Wr [(0,U m),(1,U (Wf m 1099511628211)),(2,Sr l),(3,I (i:Int)),(4,Y (y1.toNat:Int)),(5,U (y1.toNat:Int)),(6,U ((Wf m 1099511628211)+(y1.toNat:Int))),(7,U (((Wf m 1099511628211)+(y1.toNat:Int))+1)),(8,U ((((Wf m 1099511628211)+(y1.toNat:Int))+1) % 2305843009213693951)),(9,U ((((Wf m 1099511628211)+(y1.toNat:Int))+1) % 2305843009213693951))] (KA [] [(0,0),(2,0),(3,0),(9,0)] [1,4,5,6,7,8] [(0,Sr l),(3,U ((((Wf m 1099511628211)+(y1.toNat:Int))+1) % 2305843009213693951)),(6,I ((l).length:Int)),(7,I (i:Int))] (List.forall_mem_cons.2 ⟨?_,(List.forall_mem_cons.2 ⟨?_,(List.forall_mem_cons.2 ⟨?_,(List.forall_mem_cons.2 ⟨?_,(List.forall_mem_cons.2 ⟨?_,(List.forall_mem_cons.2 ⟨?_,List.forall_mem_nil _⟩)⟩)⟩)⟩)⟩)⟩) ?_))
 refine Jr 1 11 (U (Wf m 1099511628211)) [(10,U m)] (fun X=>?_)
 exact Ji 11 (U (Wf m 1099511628211)) (JjE m 1099511628211 (by omega) (by omega) G) Jp
 refine Jr 4 14 (Y (y1.toNat:Int)) [(12,Sr l),(13,I (i:Int))] (fun X=>?_)
 exact Jac (ik:=.i64) 14 i y1 hy1 Jp
 refine Jr 5 15 (U (y1.toNat:Int)) [(14,Y (y1.toNat:Int))] (fun X=>?_)
 exact K6 15 (U (IntKind.u64.wrap (y1.toNat:Int))) (U (y1.toNat:Int)) (by simp only [e1]) Jp
 refine Jr 6 16 (U ((Wf m 1099511628211)+(y1.toNat:Int))) [(11,U (Wf m 1099511628211)),(15,U (y1.toNat:Int))] (fun X=>?_)
 exact K6 16 (U (IntKind.u64.wrap ((Wf m 1099511628211)+(y1.toNat:Int)))) (U ((Wf m 1099511628211)+(y1.toNat:Int))) (by simp only [e2]) Jp
 refine Jr 7 17 (U (((Wf m 1099511628211)+(y1.toNat:Int))+1)) [(16,U ((Wf m 1099511628211)+(y1.toNat:Int)))] (fun X=>?_)
 exact K6 17 (U (IntKind.u64.wrap (((Wf m 1099511628211)+(y1.toNat:Int))+1))) (U (((Wf m 1099511628211)+(y1.toNat:Int))+1)) (by simp only [e3]) Jp
 refine Jr 8 18 (U ((((Wf m 1099511628211)+(y1.toNat:Int))+1) % 2305843009213693951)) [(17,U (((Wf m 1099511628211)+(y1.toNat:Int))+1))] (fun X=>?_)
 exact K6 18 (U ((((Wf m 1099511628211)+(y1.toNat:Int))+1).tmod 2305843009213693951)) (U ((((Wf m 1099511628211)+(y1.toNat:Int))+1) % 2305843009213693951)) (by simp only [e4]) Jp
 refine JM (Ja (Jb (Jd [0,0] [(0,Sr l),(3,U ((((Wf m 1099511628211)+(y1.toNat:Int))+1) % 2305843009213693951)),(6,I ((l).length:Int)),(7,I (IntKind.i64.wrap ((i:Int)+1)))] ?_)))
 have e5:IntKind.i64.wrap ((i:Int)+1)=(i:Int)+1:=IntWalk.i64_in _ (by omega)
 refine J3 (fr':=[(0,Sr l),(3,U ((((Wf m 1099511628211)+(y1.toNat:Int))+1) % 2305843009213693951)),(6,I ((l).length:Int)),(7,I ((i:Int)+1))]) (L':=[]) (by simp only [e5]) (by rfl) ?_
 clear e5
 exact Jc (Qg (i+1,(((Wf m 1099511628211)+(y1.toNat:Int))+1) % 2305843009213693951) (⟨by omega,by dsimp only;omega,by rw [hm];exact (JhI (f:=JcX) hy1).symm⟩) (by dsimp only;omega))
 try simp only [BB] at h1
 exact K0 (J2 (Kf (JU (Ja (Jg [0,0] [(2,U m)] (Jk (Jl [0] [U m] (Jv (Jt.le_refl _) (congrArg U (by rw [hm,List.take_of_length_le (by omega)];rfl))))))))))
theorem Jaq (k x y:Int) (G:Jt):QF Tryz.prog 193 #[Y k,U x,U y] G [] (fun u G' L'=>u=Sr (Kx k x y)):=by
 refine JJ Tryz.func193 16 [(0,Y k),(1,U x),(2,U y)] rfl (fun w0 G0=>?_)
 refine Jg [0] [(0,Y k),(1,U x),(2,U y)] (Je (KB [1] (Wr [(0,Y k),(3,U x),(4,Sr (KS x)),(6,U y),(7,Sr (KS y))] (J1 [] [(0,0),(3,0),(6,0)] [4,7] [1] (List.forall_mem_cons.2 ⟨?_,(List.forall_mem_cons.2 ⟨?_,List.forall_mem_nil _⟩)⟩) (List.forall_mem_cons.2 ⟨?_,List.forall_mem_nil _⟩)))))
 refine Jr 4 11 (Sr (KS x)) [(10,U x)] (fun X=>?_)
 exact Ji 11 (Sr (KS x)) (ZO x G) Jp
 refine Jr 7 14 (Sr (KS y)) [(13,U y)] (fun X=>?_)
 exact Ji 14 (Sr (KS y)) (ZO y G) Jp
 refine JS 1 [(7,Y k)] (fun X=>?_)
 refine KH 8 1 #[Y k] 5 (fun b1=>JW [(1,Sl (At b1 0) 1 1),(2,Sr (([k]:List Int).map fun n=>UInt8.ofNat n.toNat)),(5,Sr ((([k]:List Int).map fun n=>UInt8.ofNat n.toNat)++(KS x))),(8,Sr (((([k]:List Int).map fun n=>UInt8.ofNat n.toNat)++(KS x))++(KS y))),(9,Sr (((([k]:List Int).map fun n=>UInt8.ofNat n.toNat)++(KS x))++(KS y)))] (KA [0] [(3,0),(6,0),(9,0)] [2,4,5,7,8] [(6,Sr (((([k]:List Int).map fun n=>UInt8.ofNat n.toNat)++(KS x))++(KS y)))] (List.forall_mem_cons.2 ⟨?_,(List.forall_mem_cons.2 ⟨?_,(List.forall_mem_cons.2 ⟨?_,(List.forall_mem_cons.2 ⟨?_,(List.forall_mem_cons.2 ⟨?_,List.forall_mem_nil _⟩)⟩)⟩)⟩)⟩) ?_))
 refine Jr 2 9 (Sr (([k]:List Int).map fun n=>UInt8.ofNat n.toNat)) [(8,Sl (At b1 0) 1 1)] (fun X=>?_)
 exact Jad (b:=b1) (off:=0) (len:=1) (cap:=1) (cs:=List.map (Value.int .u8) [k]) 9 0 [k] rfl (Vu (ns:=[k]) rfl) Jp
 refine Jr 4 11 (Sr (KS x)) [(10,U x)] (fun X=>?_)
 exact Ji 11 (Sr (KS x)) (ZO x G) Jp
 refine Jr 5 12 (Sr ((([k]:List Int).map fun n=>UInt8.ofNat n.toNat)++(KS x))) [(9,Sr (([k]:List Int).map fun n=>UInt8.ofNat n.toNat)),(11,Sr (KS x))] (fun X=>?_)
 exact ZB 12 (([k]:List Int).map fun n=>UInt8.ofNat n.toNat) (KS x) (by simp) Jp
 refine Jr 7 14 (Sr (KS y)) [(13,U y)] (fun X=>?_)
 exact Ji 14 (Sr (KS y)) (ZO y G) Jp
 refine Jr 8 15 (Sr (((([k]:List Int).map fun n=>UInt8.ofNat n.toNat)++(KS x))++(KS y))) [(12,Sr ((([k]:List Int).map fun n=>UInt8.ofNat n.toNat)++(KS x))),(14,Sr (KS y))] (fun X=>?_)
 exact ZB 15 ((([k]:List Int).map fun n=>UInt8.ofNat n.toNat)++(KS x)) (KS y) (by simp) Jp
 refine Ja (Jk (Jl [0] [Sr (((([k]:List Int).map fun n=>UInt8.ofNat n.toNat)++(KS x))++(KS y))] (Jv (Jt.le_refl _) ?_)))
 rfl
theorem JgH (k x y:Int) (G:Jt):QF Tryz.prog 173 #[Y k,U x,U y] G [] (fun u G' L'=>u=U (Jf (Kx k x y))):=by
 refine JJ Tryz.func173 12 [(0,Y k),(1,U x),(2,U y)] rfl (fun w0 G0=>?_)
 refine Jg [0] [(0,Y k),(1,U x),(2,U y)] (Je (Jb (Jd [0,0,0] [(7,Y k),(8,U x),(9,U y)] (Ji 10 (Sr (Kx k x y)) (Jaq k x y G) (Ji 11 (U (Jf (Kx k x y))) (Zw (Kx k x y) (by (simp [Kx];done)) G) (Jd [0] [(6,U (Jf (Kx k x y)))] (Jc (Ja (Jk (Jl [0] [U (Jf (Kx k x y))] (Jv (Jt.le_refl _) ?_)))))))))))
 rfl
end Go.Proofs.YtnnlpbjdignhaaaGreatDoor
