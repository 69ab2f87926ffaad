import Derived.Test.YtnnlpbjdignhaaaGreatDoorTfWire
import Derived.Test.YtnnlpbjdignhaaaGreatDoorTfBits
namespace Go.Proofs.YtnnlpbjdignhaaaGreatDoor
open Go.Tx
set_option linter.unusedVariables false
set_option linter.unusedSimpArgs false
def Kx (k a b:Int):List UInt8:=(([k]:List Int).map (fun n=>UInt8.ofNat n.toNat)++KK a)++KK b
theorem Zb (k a b:Int):(Kx k a b).length=17:=by simp [Kx]
theorem Zm (l:List UInt8) (hl:l.length≤140737488355328) (G:Jt):QE Tryz.prog 171 #[Sr l] G [] (fun u G' L'=>u=U (Jf l)):=by
 refine JL Tryz.func171 21 [(0,Sr l)] rfl (fun w0 G0=>?_)
 refine Jg [0] [(0,Sr l)] ?_
 refine Jg [0] [(0,Sr l),(3,U 1)] (Je ?_)
 refine Jg [0,0,0] [(0,Sr l),(3,U 1),(6,I ((l).length:Int)),(7,I 0)] (Jy ?_)
 refine Qb (σ:=Nat×Int) (fun s=>(s.1≤l.length)∧(0≤s.2∧s.2<2305843009213693951)∧(s.2=(l.take s.1).foldl Jcw 1)) (fun s=>[(0,Sr l),(3,U s.2),(6,I ((l).length:Int)),(7,I (s.1:Int))]) (fun s=>G) (fun s=>[]) (fun s=>l.length-s.1) (0,1) (⟨Nat.zero_le _,by omega,by simp⟩) (fun s hs=>?_)
 obtain ⟨i,m⟩:=s
 obtain ⟨hi,hb,hm⟩:=hs
 dsimp only at hi hb hm
 refine KJ (fr':=[(0,Sr l),(3,U m),(6,I ((l).length:Int)),(7,I (i:Int))]) (L':=[]) rfl rfl ?_
 refine Jg [0] [(0,Sr l),(3,U m),(6,I ((l).length:Int)),(7,I (i:Int)),(8,Bo (decide ((i:Int)<((l).length:Int))))] (Je ?_)
 refine Jo (decide ((i:Int)<((l).length:Int))) (fun h1=>?_) (fun h1=>?_)
 try simp only [BB] at h1
 refine Jm (Ja (Je (Jy ?_)))
 refine Jg [0,0] [(0,Sr l),(3,U m),(4,I (i:Int)),(6,I ((l).length:Int)),(7,I (i:Int))] ?_
 obtain ⟨y1,hy1⟩:=Q8 (l:=l) (k:=i) (by omega)
 have e1:IntKind.u64.wrap (y1.toNat:Int)=(y1.toNat:Int):=IntWalk.u64_in _ (by (have:=JaM m 1099511628211;have:=y1.toNat_lt;omega))
 have e2:IntKind.u64.wrap ((Q6 m 1099511628211)+(y1.toNat:Int))=(Q6 m 1099511628211)+(y1.toNat:Int):=IntWalk.u64_in _ (by (have:=JaM m 1099511628211;have:=y1.toNat_lt;omega))
 have e3:IntKind.u64.wrap (((Q6 m 1099511628211)+(y1.toNat:Int))+1)=((Q6 m 1099511628211)+(y1.toNat:Int))+1:=IntWalk.u64_in _ (by (have:=JaM m 1099511628211;have:=y1.toNat_lt;omega))
 have e4:(((Q6 m 1099511628211)+(y1.toNat:Int))+1).tmod 2305843009213693951=(((Q6 m 1099511628211)+(y1.toNat:Int))+1) % 2305843009213693951:=IntWalk.rem_in _ _ (by (have:=JaM m 1099511628211;have:=y1.toNat_lt;omega))
 refine Kw [] ?_
 refine Wa [(0,U m),(1,U (Q6 m 1099511628211)),(2,Sr l),(3,I (i:Int)),(4,Y (y1.toNat:Int)),(5,U (y1.toNat:Int)),(6,U ((Q6 m 1099511628211)+(y1.toNat:Int))),(7,U (((Q6 m 1099511628211)+(y1.toNat:Int))+1)),(8,U ((((Q6 m 1099511628211)+(y1.toNat:Int))+1) % 2305843009213693951)),(9,U ((((Q6 m 1099511628211)+(y1.toNat:Int))+1) % 2305843009213693951))] ?_
 refine Kv [] [(0,0),(2,0),(3,0),(9,0)] [1,4,5,6,7,8] [(0,Sr l),(3,U ((((Q6 m 1099511628211)+(y1.toNat:Int))+1) % 2305843009213693951)),(6,I ((l).length:Int)),(7,I (i:Int))] (List.forall_mem_cons.2 ⟨?_,(List.forall_mem_cons.2 ⟨?_,(List.forall_mem_cons.2 ⟨?_,(List.forall_mem_cons.2 ⟨?_,(List.forall_mem_cons.2 ⟨?_,(List.forall_mem_cons.2 ⟨?_,List.forall_mem_nil _⟩)⟩)⟩)⟩)⟩)⟩) ?_
 refine Jq 1 11 (U (Q6 m 1099511628211)) [(10,U m)] (fun X=>?_)
 exact Ji 11 (U (Q6 m 1099511628211)) (JiQ m 1099511628211 (by omega) (by omega) G) Jn
 refine Jq 4 14 (Y (y1.toNat:Int)) [(12,Sr l),(13,I (i:Int))] (fun X=>?_)
 exact VO (ik:=.i64) 14 i y1 hy1 Jn
 refine Jq 5 15 (U (y1.toNat:Int)) [(14,Y (y1.toNat:Int))] (fun X=>?_)
 exact KZ 15 (U (IntKind.u64.wrap (y1.toNat:Int))) (U (y1.toNat:Int)) (by simp only [e1]) Jn
 refine Jq 6 16 (U ((Q6 m 1099511628211)+(y1.toNat:Int))) [(11,U (Q6 m 1099511628211)),(15,U (y1.toNat:Int))] (fun X=>?_)
 exact KZ 16 (U (IntKind.u64.wrap ((Q6 m 1099511628211)+(y1.toNat:Int)))) (U ((Q6 m 1099511628211)+(y1.toNat:Int))) (by simp only [e2]) Jn
 refine Jq 7 17 (U (((Q6 m 1099511628211)+(y1.toNat:Int))+1)) [(16,U ((Q6 m 1099511628211)+(y1.toNat:Int)))] (fun X=>?_)
 exact KZ 17 (U (IntKind.u64.wrap (((Q6 m 1099511628211)+(y1.toNat:Int))+1))) (U (((Q6 m 1099511628211)+(y1.toNat:Int))+1)) (by simp only [e3]) Jn
 refine Jq 8 18 (U ((((Q6 m 1099511628211)+(y1.toNat:Int))+1) % 2305843009213693951)) [(17,U (((Q6 m 1099511628211)+(y1.toNat:Int))+1))] (fun X=>?_)
 exact KZ 18 (U ((((Q6 m 1099511628211)+(y1.toNat:Int))+1).tmod 2305843009213693951)) (U ((((Q6 m 1099511628211)+(y1.toNat:Int))+1) % 2305843009213693951)) (by simp only [e4]) Jn
 refine JK (Ja (Jb ?_))
 refine Jc [0,0] [(0,Sr l),(3,U ((((Q6 m 1099511628211)+(y1.toNat:Int))+1) % 2305843009213693951)),(6,I ((l).length:Int)),(7,I (IntKind.i64.wrap ((i:Int)+1)))] ?_
 have e5:IntKind.i64.wrap ((i:Int)+1)=(i:Int)+1:=IntWalk.i64_in _ (by omega)
 refine J2 (fr':=[(0,Sr l),(3,U ((((Q6 m 1099511628211)+(y1.toNat:Int))+1) % 2305843009213693951)),(6,I ((l).length:Int)),(7,I ((i:Int)+1))]) (L':=[]) (by simp only [e5]) (by rfl) ?_
 clear e5
 refine Jd ?_
 exact Qd (i+1,(((Q6 m 1099511628211)+(y1.toNat:Int))+1) % 2305843009213693951) (⟨by omega,by dsimp only;omega,by rw [hm];exact (Jg4 (f:=Jcw) hy1).symm⟩) (by dsimp only;omega)
 try simp only [BB] at h1
 refine KU (J3 (Ke (JW (Ja ?_))))
 refine Jg [0,0] [(2,U m)] (Jk ?_)
 refine Jl [0] [U m] (Jv (Jt.le_refl _) ?_)
 exact congrArg U (by rw [hm,List.take_of_length_le (by omega)];rfl)
theorem V1 (k x y:Int) (G:Jt):QE Tryz.prog 193 #[Y k,U x,U y] G [] (fun u G' L'=>u=Sr (Kx k x y)):=by
 refine JL Tryz.func193 16 [(0,Y k),(1,U x),(2,U y)] rfl (fun w0 G0=>?_)
 refine Jg [0] [(0,Y k),(1,U x),(2,U y)] (Je ?_)
 refine Kw [1] ?_
 refine Wa [(0,Y k),(3,U x),(4,Sr (KK x)),(6,U y),(7,Sr (KK y))] ?_
 refine JZ [] [(0,0),(3,0),(6,0)] [4,7] [1] (List.forall_mem_cons.2 ⟨?_,(List.forall_mem_cons.2 ⟨?_,List.forall_mem_nil _⟩)⟩) (List.forall_mem_cons.2 ⟨?_,List.forall_mem_nil _⟩)
 refine Jq 4 11 (Sr (KK x)) [(10,U x)] (fun X=>?_)
 exact Ji 11 (Sr (KK x)) (ZG x G) Jn
 refine Jq 7 14 (Sr (KK y)) [(13,U y)] (fun X=>?_)
 exact Ji 14 (Sr (KK y)) (ZG y G) Jn
 refine JO 1 [(7,Y k)] (fun X=>?_)
 refine KC 8 1 #[Y k] 5 (fun b1=>?_)
 refine JS [(1,Sl (At b1 0) 1 1),(2,Sr (([k]:List Int).map fun n=>UInt8.ofNat n.toNat)),(5,Sr ((([k]:List Int).map fun n=>UInt8.ofNat n.toNat)++(KK x))),(8,Sr (((([k]:List Int).map fun n=>UInt8.ofNat n.toNat)++(KK x))++(KK y))),(9,Sr (((([k]:List Int).map fun n=>UInt8.ofNat n.toNat)++(KK x))++(KK y)))] ?_
 refine Kv [0] [(3,0),(6,0),(9,0)] [2,4,5,7,8] [(6,Sr (((([k]:List Int).map fun n=>UInt8.ofNat n.toNat)++(KK x))++(KK y)))] (List.forall_mem_cons.2 ⟨?_,(List.forall_mem_cons.2 ⟨?_,(List.forall_mem_cons.2 ⟨?_,(List.forall_mem_cons.2 ⟨?_,(List.forall_mem_cons.2 ⟨?_,List.forall_mem_nil _⟩)⟩)⟩)⟩)⟩) ?_
 refine Jq 2 9 (Sr (([k]:List Int).map fun n=>UInt8.ofNat n.toNat)) [(8,Sl (At b1 0) 1 1)] (fun X=>?_)
 exact VP (b:=b1) (off:=0) (len:=1) (cap:=1) (cs:=List.map (Value.int .u8) [k]) 9 0 [k] rfl (Vb (ns:=[k]) rfl) Jn
 refine Jq 4 11 (Sr (KK x)) [(10,U x)] (fun X=>?_)
 exact Ji 11 (Sr (KK x)) (ZG x G) Jn
 refine Jq 5 12 (Sr ((([k]:List Int).map fun n=>UInt8.ofNat n.toNat)++(KK x))) [(9,Sr (([k]:List Int).map fun n=>UInt8.ofNat n.toNat)),(11,Sr (KK x))] (fun X=>?_)
 exact Zr 12 (([k]:List Int).map fun n=>UInt8.ofNat n.toNat) (KK x) (by simp) Jn
 refine Jq 7 14 (Sr (KK y)) [(13,U y)] (fun X=>?_)
 exact Ji 14 (Sr (KK y)) (ZG y G) Jn
 refine Jq 8 15 (Sr (((([k]:List Int).map fun n=>UInt8.ofNat n.toNat)++(KK x))++(KK y))) [(12,Sr ((([k]:List Int).map fun n=>UInt8.ofNat n.toNat)++(KK x))),(14,Sr (KK y))] (fun X=>?_)
 exact Zr 15 ((([k]:List Int).map fun n=>UInt8.ofNat n.toNat)++(KK x)) (KK y) (by simp) Jn
 refine Ja (Jk ?_)
 refine Jl [0] [Sr (((([k]:List Int).map fun n=>UInt8.ofNat n.toNat)++(KK x))++(KK y))] (Jv (Jt.le_refl _) ?_)
 rfl
theorem Jf0 (k x y:Int) (G:Jt):QE Tryz.prog 173 #[Y k,U x,U y] G [] (fun u G' L'=>u=U (Jf (Kx k x y))):=by
 refine JL Tryz.func173 12 [(0,Y k),(1,U x),(2,U y)] rfl (fun w0 G0=>?_)
 refine Jg [0] [(0,Y k),(1,U x),(2,U y)] (Je (Jb ?_))
 refine Jc [0,0,0] [(7,Y k),(8,U x),(9,U y)] ?_
 refine Ji 10 (Sr (Kx k x y)) (V1 k x y G) ?_
 refine Ji 11 (U (Jf (Kx k x y))) (Zm (Kx k x y) (by (simp [Kx];done)) G) ?_
 refine Jc [0] [(6,U (Jf (Kx k x y)))] (Jd (Ja (Jk ?_)))
 refine Jl [0] [U (Jf (Kx k x y))] (Jv (Jt.le_refl _) ?_)
 rfl
end Go.Proofs.YtnnlpbjdignhaaaGreatDoor
