import Derived.Test.YtnnlpbjdignhaaaGreatDoorTcRep
import Derived.Test.YtnnlpbjdignhaaaGreatDoorTcBits
import Derived.Test.YtnnlpbjdignhaaaGreatDoorTcTy
namespace Go.Proofs.YtnnlpbjdignhaaaGreatDoor
open Go.Tx
set_option linter.unusedVariables false
set_option linter.unusedSimpArgs false
open Go.Tx Go.Proofs
theorem Jl5 (y:Int) (hy:0≤y∧y<9223372036854775808) (G:Jt):QF Tryz.prog 106 #[U 1,U y] G [] (fun u G' L'=>u=.tuple #[U 0,U y]):=by
 refine JJ Tryz.func106 30 [(0,U 1),(1,U y)] rfl (fun w0 G0=>?_)
 exact Jg [0,0] [(0,U 1),(1,U y)] (Je (Jem (Jm (Ja (Je (Jb (Jd [0,0] [(23,U 1),(24,U y)] (Ji 25 (.tuple #[U (1*y / 18446744073709551616),U (1*y % 18446744073709551616)]) (Jfb 1 y (by omega) (by omega) G) (Jd [0,0,0,0,0] [(8,U (1*y / 18446744073709551616)),(9,U (1*y % 18446744073709551616))] (Jc (Ja (Jg [0,0,0,0] [(4,U (1*y / 18446744073709551616)),(5,U (1*y % 18446744073709551616))] (Jk (Jl [0,0] [U (1*y / 18446744073709551616),U (1*y % 18446744073709551616)] (Jv (Jt.le_refl _) (congr (congrArg (fun a b=>Value.tuple #[U a,U b]) (by omega)) (by omega)))))))))))))))))
theorem Jhx (G:Jt) (a_l:Option Addr) (c_l:Nat) (p:QT) (h_l:RS Ws G a_l c_l [p]) (n:Nat) (hn:n≤1000):QF Tryz.prog 70 #[Sl a_l 1 c_l,I (n:Int)] G [] (fun u G' L'=>∃ a' c' r,u=Sl a' (List.replicate n p).length c'∧J9 Ws G' a' c' (List.replicate n p) r∧L'=[r]):=by
 obtain ⟨bx,ox,rfl⟩:=RS.addr h_l (k:=0) (by simp)
 obtain ⟨csx,h_p,hcx⟩:=RS.get h_l (k:=0) (x:=p) rfl
 have h1x:=Ws.one h_p
 obtain ⟨rfl,_,_,_,_,_,_⟩:=id h_p
 rw [Nat.zero_mul,Nat.add_zero] at hcx
 refine JJ Tryz.func70 48 [(0,Sl (At bx ox) 1 c_l),(1,I (n:Int))] rfl (fun w0 G0=>?_)
 refine Jg [0] [(0,Sl (At bx ox) 1 c_l),(1,I (n:Int))] (Je (Jg [0,0] [(0,Sl (At bx ox) 1 c_l),(1,I (n:Int)),(10,Bo (decide ((n:Int)<0)))] (Jo (decide ((n:Int)<0)) (fun h1=>?_) (fun h1=>?_))))
 try simp only [BB] at h1
 exfalso;omega
 try simp only [BB] at h1
 refine Jm (Ja (Je (Jb (Jd [0,0,0,0,0] [(0,Sl (At bx ox) 1 c_l),(15,U (IntKind.u64.wrap (1:Int))),(17,U (IntKind.u64.wrap (n:Int)))] ?_))))
 have e1:IntKind.u64.wrap (n:Int)=(n:Int):=IntWalk.u64_in _ (by omega)
 refine J3 (fr':=[(0,Sl (At bx ox) 1 c_l),(15,U (IntKind.u64.wrap (1:Int))),(17,U (n:Int))]) (L':=[]) (by simp only [e1]) (by rfl) ?_
 clear e1
 refine Ji 18 (.tuple #[U 0,U (n:Int)]) (Jl5 (n:Int) (by omega) G) (Jd [0,0,0,0,0] [(0,Sl (At bx ox) 1 c_l),(5,U 0),(6,U (n:Int))] (Jc (Ja (Je (Jg [0,0,0,0,0,0] [(0,Sl (At bx ox) 1 c_l),(6,U (n:Int)),(26,Bo (decide ((n:Int) > 9223372036854775807)))] (Jo (decide ((n:Int) > 9223372036854775807)) (fun h2=>?_) (fun h2=>?_)))))))
 try simp only [BB] at h2
 exfalso;omega
 try simp only [BB] at h2
 refine Jm (Ja (Je (Jb (Jd [0,0] [(0,Sl (At bx ox) 1 c_l),(29,I (IntKind.i64.wrap (n:Int)))] ?_))))
 have e2:IntKind.i64.wrap (n:Int)=(n:Int):=IntWalk.i64_in _ (by omega)
 refine J3 (fr':=[(0,Sl (At bx ox) 1 c_l),(29,I (n:Int))]) (L':=[]) (by simp only [e2]) (by rfl) ?_
 clear e2
 refine Jiw (z:=(.agg #[I 0,I 0,I 0,I 0,I 0,I 0])) (bytes:=48) 30 36 56 n 6 (by omega) (by omega) (by kernel_rfl) (fun bz Fz hFz=>Jd [0] [(0,Sl (At bx ox) 1 c_l),(7,Sl (At bz 0) n n)] (Jc (Ja (Je (Jb (Jd [0,0] [(7,Sl (At bz 0) n n),(31,Sl (At bz 0) n n),(32,Sl (At bx ox) 1 c_l)] (Jaf (b:=bz) (off:=0) (p:=0) (nd:=n) (cd:=n) (bs:=bx) (os:=ox) (ns:=1) (cs:=c_l) (F:=Fz) 33 0 6 (Jgk [I p.least,I p.most,I p.lost,I p.gap,I p.next,I p.asked] n) (Jen _ _) (by rw [Jen,hFz,Nat.zero_add];exact Nat.mul_le_mul_right _ (Nat.min_le_right 1 n)) (fun u hu=>h1x u (Jl3 hu)) (JmJ hcx) (Jd [0] [(7,Sl (At bz 0) n n),(8,I ((Nat.min 1 n:Nat):Int))] (Jc (Ja (Je (Jz ?_))))))))))))
 refine Qc (σ:=Nat×List Value) (fun q_=>(Jce [I p.least,I p.most,I p.lost,I p.gap,I p.next,I p.asked] n q_.1 q_.2)) (fun q_=>[(7,Sl (At bz 0) n n),(8,I (q_.1:Int))]) (fun q_=>G) (fun q_=>[[Sg bz 0 q_.2]]) (fun q_=>n-q_.1) ((Nat.min 1 n),(QH Fz 0 (Jgk [I p.least,I p.most,I p.lost,I p.gap,I p.next,I p.asked] n))) (.start hFz) (fun q_ hs=>?_)
 obtain ⟨k,F⟩:=q_
 have hI:=hs
 dsimp only at hI
 refine KQ (fr':=[(7,Sl (At bz 0) n n),(8,I (k:Int))]) (L':=[[Sg bz 0 F]]) rfl rfl (Je (Jg [0,0,0,0] [(7,Sl (At bz 0) n n),(8,I (k:Int)),(37,Bo (decide ((k:Int)<(n:Int))))] (Jo (decide ((k:Int)<(n:Int))) (fun h3=>?_) (fun h3=>?_))))
 try simp only [BB] at h3
 refine Jm (Ja (Jz (KB [7] (Wr [(0,I (k:Int)),(1,Sl (At bz 0) n n),(2,I (k:Int)),(3,Sl (At bz (0+k*6)) (n-k) (n-k)),(4,Sl (At bz 0) n n),(5,I (k:Int)),(6,Sl (At bz 0) k n)] (J1 [] [(0,0),(1,0),(2,0),(4,0),(5,0)] [3,6] [7] (List.forall_mem_cons.2 ⟨?_,(List.forall_mem_cons.2 ⟨?_,List.forall_mem_nil _⟩)⟩) (List.forall_mem_cons.2 ⟨?_,List.forall_mem_nil _⟩))))))
 refine Jr 3 41 (Sl (At bz (0+k*6)) (n-k) (n-k)) [(39,Sl (At bz 0) n n),(40,I (k:Int))] (fun X=>?_)
 exact Va (b:=bz) (off:=0) (len:=n) (cap:=n) 41 6 (some (I (k:Int))) none k n (.inr ⟨_,rfl⟩) (.inl ⟨rfl,rfl⟩) (by omega) (by omega) (by omega) Jp
 refine Jr 6 44 (Sl (At bz 0) k n) [(42,Sl (At bz 0) n n),(43,I (k:Int))] (fun X=>?_)
 exact Jcw (b:=bz) (off:=0) (len:=n) (cap:=n) 44 6 (some (I (k:Int))) k (.inr ⟨_,rfl⟩) (by omega) Jp
 refine JS 7 [(41,Sl (At bz (0+k*6)) (n-k) (n-k)),(44,Sl (At bz 0) k n)] (fun X=>?_)
 refine Jaf (b:=bz) (off:=0) (p:=k*6) (nd:=n-k) (cd:=n-k) (bs:=bz) (os:=0) (ns:=k) (cs:=n) (F:=F) 45 0 6 (F.take (Nat.min k (n-k)*6)) (hI.xlen (V2 _ _).1) (by have q_:(F.take (Nat.min k (n-k)*6)).length=Nat.min k (n-k)*6:=hI.xlen (V2 _ _).1;have q1_:F.length=n*6:=hI.len;have q2_:=V2 k (n-k);omega) (hI.one (V2 _ _).1 h1x) (JmK 0 rfl) ?_
 have e3:IntKind.i64.wrap ((k:Int)+((Nat.min k (n-k):Nat):Int))=((k+Nat.min k (n-k):Nat):Int):=(IntWalk.i64_in _ (by (have q_:=V2 k (n-k);have q2_:=hI.le;omega))).trans (show (k:Int)+((Nat.min k (n-k):Nat):Int)=((k+Nat.min k (n-k):Nat):Int) from (Int.natCast_add _ _).symm)
 refine JW [(7,I ((Nat.min k (n-k):Nat):Int)),(8,I ((k+Nat.min k (n-k):Nat):Int)),(9,I ((k+Nat.min k (n-k):Nat):Int))] (KA [1,2,3,4,5,6] [(0,0),(9,0)] [8] [(7,Sl (At bz 0) n n),(8,I ((k+Nat.min k (n-k):Nat):Int))] (List.forall_mem_cons.2 ⟨?_,List.forall_mem_nil _⟩) ?_)
 refine Jr 8 46 (I ((k+Nat.min k (n-k):Nat):Int)) [(38,I (k:Int)),(45,I ((Nat.min k (n-k):Nat):Int))] (fun X=>?_)
 exact K6 46 (I (IntKind.i64.wrap ((k:Int)+((Nat.min k (n-k):Nat):Int)))) (I ((k+Nat.min k (n-k):Nat):Int)) (by simp only [e3]) Jp
 exact JM (Qg (k+Nat.min k (n-k),(QH F (k*6) (F.take (Nat.min k (n-k)*6)))) (hI.next (V2 _ _).1 (by (try dsimp only);have q_:=V2 k (n-k);have q2_:=hI.le;omega)) (by (try dsimp only);have q_:=hI.pos;have q2_:=V2 k (n-k);omega))
 try simp only [BB] at h3
 refine K0 (J2 (Kf (JU (Ja (Jg [0,0] [(4,Sl (At bz 0) n n)] (Jk ?_))))))
 have hrw:=hI.row (E:=Ws) (G:=G) (x:=p) (b:=bz) (by omega) h_p (by omega)
 refine JcU (fr':=[(4,Sl (At bz 0) ((List.replicate n p).length) n)]) (L':=[[Sg bz 0 F]]) (by simp only [List.length_replicate]) rfl (Jj 0 ?_)
 have hf1:List.replicate n p=(List.replicate n p):=by
  rfl
 refine Jl [0] [Sl (At bz 0) ((List.replicate n p).length) n] (JY [[Sg bz 0 F]] (.cons_cons _ .slnil) (Jt.le_refl _) ?_)
 rw [hf1]
 try dsimp only
 exact ⟨(At bz 0),n,([Sg bz 0 F]),rfl,hrw,rfl⟩
end Go.Proofs.YtnnlpbjdignhaaaGreatDoor
