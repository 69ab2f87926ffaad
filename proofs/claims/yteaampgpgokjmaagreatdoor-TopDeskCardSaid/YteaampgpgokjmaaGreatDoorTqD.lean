import Derived.Test.YteaampgpgokjmaaGreatDoorTqC
set_option linter.unusedVariables false
set_option linter.unusedSimpArgs false
namespace Go.Proofs.YteaampgpgokjmaaGreatDoor
open Go.Tx
open Go.Proofs
open _root_.List renaming forall_mem_nil → Ha, length_append → Hd, length_cons → He, mem_append → Hf, length_nil → Hi, take_add_one → Hj, take_of_length_le → Hk, getElem?_eq_getElem → Hl, length_map → Hm, length_take → Hn, length → Ho, getElem?_eq_some_iff → Hq, mem_of_getElem? → Hr, mem_cons → Ht, any_eq_true → Hv, getElem?_append_left → Hw, length_set → Hx, getElem?_cons_zero → Hy, append_assoc → HA, foldl_append → HB, length_filter_le → HC, mem_of_mem_take → HE, replicate → HF, getElem?_drop → HG, getElem?_append_right → HI, map_cons → HJ, getElem?_set_self → HL, nodup_cons → HM, mem_filter → HN
open IntKind renaming i64 → Hb
open _root_.Decidable renaming not_not → Hc
open _root_.Nat renaming le_trans → Hg, le_of_ble_eq_true → Hh, zero_le → Hs, beq → Hu, lt_of_lt_of_le → HH
open IntWalk renaming i64_in → Hp
open _root_.Bool renaming not_eq_false → Hz, or_eq_false_iff → HD, eq_false_or_eq_true → HK
open _root_.Option renaming some → HO
def WG (l:List (List J3)):List J3:=l[l.length-1]?.getD []
theorem JnH {l:List (List J3)} {k:Nat} {x:List J3} (hk:k=l.length-1) (h:l[k]? = some x):x=WG l:=by unfold WG;rw [← hk,h];rfl
def KR (l:List J3):Bs:=l.map fun x=>x.name
def QB (l:List Zn):Bs:=l.map fun x=>x.name
def Jas (c:KL) (m:Bs):Bs:=KR (WG c.books)++QB c.queue.wait++m
def WT (c:KL) (m:Bs):Int:=(nn (Jas c m):Int)
theorem Jg8 {l:List J3} {i:Nat} {x:J3} (h:l[i]? = some x):KR (l.take (i+1))=KR (l.take i)++[x.name]:=by unfold KR;rw [Hj,h];simp
theorem Jg9 {l:List Zn} {i:Nat} {x:Zn} (h:l[i]? = some x):QB (l.take (i+1))=QB (l.take i)++[x.name]:=by unfold QB;rw [Hj,h];simp
theorem Jph {l:Bs} {i:Nat} {x:Bb} (h:l[i]? = some x):l.take (i+1)=l.take i++[x]:=by rw [Hj,h];rfl
def Yk (n most:Int):Bool:=decide (n ≥ 1) && decide (n≤most)
theorem V0 {n most:Int}:Yk n most=true ↔ 1≤n∧n≤most:=by unfold Yk;simp
def K1 (root a:Int):JV×Int:=if ¬ JO ⟨0,root,0,a⟩=0 then (ZF,JO ⟨0,root,0,a⟩) else (⟨0,root,0,a⟩,0)
theorem Jat {r a:Int} (hr:0≤r∧r<18446744073709551616) (ha:-9223372036854775808≤a∧a<9223372036854775808):(-9223372036854775808≤(K1 r a).1.epoch∧(K1 r a).1.epoch<9223372036854775808)∧(0≤(K1 r a).1.root∧(K1 r a).1.root<18446744073709551616)∧(0≤(K1 r a).1.prev∧(K1 r a).1.prev<18446744073709551616)∧(-9223372036854775808≤(K1 r a).1.at_∧(K1 r a).1.at_<9223372036854775808):=by
 unfold K1 ZF;split <;> simp <;> omega
theorem Jiz (l:List J3):(KR l).length=l.length:=by simp [KR]
theorem JiA (l:List Zn):(QB l).length=l.length:=by simp [QB]
def Yi:KL:=⟨⟨0,[]⟩,0,0,0,[],[]⟩
def Ks (most batch every:Int):KL×Int:=if Yk most 30=false∨Yk batch 30=false∨Yk every 1000=false then (Yi,4) else (⟨⟨most,[]⟩,batch,every,0,[(K1 (JW [] []).1 0).1],[[]]⟩,0)
def YG:List JV→List (List J3)→Int
 | _,[]=>0
 | hs,l::bs=>if ¬ (JW l []).2=0 then (JW l []).2 else if ¬ (JW l []).1=(W6 hs).root then 8 else YG (hs.drop 1) bs
def QO (c:KL):Int:=if (¬ (W6 c.heads).epoch=0∨¬ (c.books.length:Int)=c.heads.length)∨(Zg c.heads).at_ > c.now then 3 else YG c.heads c.books
theorem Jch {hs:List JV} {bs:List (List J3)} {i:Nat} {x:List J3} (hx:bs[i]? = some x):YG (hs.drop i) (bs.drop i)=if ¬ (JW x []).2=0 then (JW x []).2 else if ¬ (JW x []).1=(hs[i]?.getD ZF).root then 8 else YG (hs.drop (i+1)) (bs.drop (i+1)):=by
 obtain ⟨hl,he⟩:=Hq.1 hx
 rw [List.drop_eq_getElem_cons hl,he]
 show (if _ then _ else if _ then _ else _)=_
 have:W6 (hs.drop i)=hs[i]?.getD ZF:=by unfold W6;rw [HG];simp
 rw [this,List.drop_drop]
theorem JjK {hs:List JV} {bs:List (List J3)} {i:Nat} {x:List J3} {h:JV} (hx:bs[i]? = some x) (hh:hs[i]? = some h) (h0:(JW x []).2=0) (h1:(JW x []).1=h.root):YG (hs.drop i) (bs.drop i)=YG (hs.drop (i+1)) (bs.drop (i+1)):=by
 rw [Jch hx,if_neg (by omega),hh,if_neg (by simpa using h1)]
theorem Jld {hs:List JV} {bs:List (List J3)} {i:Nat} {x:List J3} (hx:bs[i]? = some x) (h0:¬ (JW x []).2=0):YG (hs.drop i) (bs.drop i)=(JW x []).2:=by
 rw [Jch hx,if_pos h0]
theorem Jle {hs:List JV} {bs:List (List J3)} {i:Nat} {x:List J3} {h:JV} (hx:bs[i]? = some x) (hh:hs[i]? = some h) (h0:(JW x []).2=0) (h1:¬ (JW x []).1=h.root):YG (hs.drop i) (bs.drop i)=8:=by
 rw [Jch hx,if_neg (by omega),hh,if_pos (by simpa using h1)]
theorem Jgi:∀ (bs:List (List J3)) (hs:List JV),YG hs bs=0 ↔ ∀ (k:Nat) x,bs[k]? = some x→(JW x []).2=0∧(JW x []).1=(hs[k]?.getD ZF).root
 | [],hs=>by simp [YG]
 | l::bs,hs=>by
  have ih:=Jgi bs (hs.drop 1)
  have e:W6 hs=hs[0]?.getD ZF:=rfl
  unfold YG
  constructor
  ·
   intro h
   split at h
   · contradiction
   split at h
   · cases h
   ·
    rename_i h1 h2
    intro k x hx
    cases k with
    | zero=>simp only [Hy,HO.injEq] at hx;subst hx;exact ⟨Hc.1 h1,by rw [← e];exact Hc.1 h2⟩
    | succ k =>
     have:=ih.1 h k x (by simpa using hx)
     rw [HG,Nat.add_comm] at this;exact this
  ·
   intro h
   obtain ⟨h1,h2⟩:=h 0 l rfl
   rw [if_neg (by omega),if_neg (by rw [e];omega)]
   refine ih.2 fun k x hx=>?_
   rw [HG,Nat.add_comm]
   exact h (k+1) x (by simpa using hx)
def Ke (c:KL):Int:=if ¬ Kl c.queue=0 then Kl c.queue else if (Yk c.batch 30=false∨Yk c.every 1000=false)∨c.now<0∨c.now > 1000000000 then 4 else if ¬ (Kf c.heads).1=0 then (Kf c.heads).1 else if ¬ QO c=0 then QO c else if WT c [] > 24 then 7 else 0
structure Za (c:KL):Prop where
 queue:Kl c.queue=0
 batch:1≤c.batch∧c.batch≤30
 every:1≤c.every∧c.every≤1000
 now:0≤c.now∧c.now≤1000000000
 chain:Zr c.heads
 first:(W6 c.heads).epoch=0
 len:c.books.length=c.heads.length
 at_:(Zg c.heads).at_≤c.now
 root:∀ (k:Nat) x,c.books[k]? = some x→(JW x []).2=0∧(JW x []).1=(c.heads[k]?.getD ZF).root
 names:nn (Jas c [])≤24
theorem JaT {c:KL}:QO c=0 ↔ (W6 c.heads).epoch=0∧c.books.length=c.heads.length∧(Zg c.heads).at_≤c.now∧∀ (k:Nat) x,c.books[k]? = some x→(JW x []).2=0∧(JW x []).1=(c.heads[k]?.getD ZF).root:=by
 unfold QO
 rw [← Jgi]
 split
 ·
  rename_i h
  refine ⟨fun e=>(by cases e),fun ⟨a,b,d,_⟩=>?_⟩
  rcases h with (h | h) | h
  · exact absurd a h
  · omega
  · omega
 ·
  rename_i h
  simp only [not_or,Hc] at h
  refine ⟨fun e=>⟨h.1.1,by have:=h.1.2;omega,by omega,e⟩,fun e=>e.2.2.2⟩
theorem WM {c:KL}:Ke c=0 ↔ Za c:=by
 unfold Ke
 constructor
 ·
  intro h
  split at h
  · contradiction
  split at h
  · cases h
  split at h
  · contradiction
  split at h
  · contradiction
  split at h
  · cases h
  ·
   rename_i h1 h2 h3 h4 h5
   simp only [not_or,Hz] at h2
   obtain ⟨⟨a1,a2⟩,a3,a4⟩:=h2
   obtain ⟨b1,b2,b3,b4⟩:=JaT.1 (Hc.1 h4)
   unfold WT at h5
   exact ⟨Hc.1 h1,V0.1 a1,V0.1 a2,⟨by omega,by omega⟩,Qd.1 (Hc.1 h3),b1,b2,b3,b4,by omega⟩
 ·
  intro h
  have e1:=V0.2 h.batch
  have e2:=V0.2 h.every
  have e3:=JaT.2 ⟨h.first,h.len,h.at_,h.root⟩
  have e4:=Qd.2 h.chain
  have e5:=h.names
  have e6:=h.now
  rw [if_neg (by rw [h.queue];simp),if_neg (by rw [e1,e2];simp;omega),if_neg (by rw [e4];simp),if_neg (by rw [e3];simp),if_neg (by unfold WT;omega)]
theorem Jlf {c:KL} {x:JV} (h:(c.heads[0]? = some x∧¬ x.epoch=0)∨¬ (c.books.length:Int)=c.heads.length∨(∃ y,c.heads[c.heads.length-1]? = some y∧y.at_ > c.now)):QO c=3:=by
 unfold QO
 rw [if_pos]
 rcases h with ⟨h,h2⟩ | h | ⟨y,h,h2⟩
 · rw [W7 h] at h2;exact .inl (.inl h2)
 · exact .inl (.inr h)
 · rw [WN rfl h] at h2;exact .inr h2
theorem Jpi {c:KL} {x y:JV} (hx:c.heads[0]? = some x) (h1:x.epoch=0) (h2:(c.books.length:Int)=c.heads.length) (hy:c.heads[c.heads.length-1]? = some y) (h3:¬ y.at_ > c.now):QO c=YG c.heads c.books:=by
 unfold QO
 rw [W7 hx] at h1;rw [WN rfl hy] at h3
 rw [if_neg]
 rintro ((h | h) | h)
 · exact h h1
 · exact h h2
 · exact h3 h
theorem JfF {c:KL} (hq:Kl c.queue=0) (hc:(Kf c.heads).1=0) (hb:QO c=0):0<c.books.length∧c.books.length≤1000∧(WG c.books).length≤1000∧c.queue.wait.length≤1000:=by
 have h1:=K6.1 hq
 have h2:=Qd.1 hc
 obtain ⟨_,b2,_,b4⟩:=JaT.1 hb
 have l1:=h2.len1;have l2:=h2.len
 have hl:c.books.length-1<c.books.length:=by omega
 have e:c.books[c.books.length-1]? = some (WG c.books):=by unfold WG;rw [Hl hl];rfl
 have:=(Jdi (b4 _ _ e).1).1.len
 omega
def Ku (c:KL) (epoch:Int):List J3×Int:=if ¬ Ke c=0 then ([],Ke c) else if epoch<0∨epoch ≥ c.books.length then ([],4) else (c.books[epoch.toNat]?.getD [],0)
theorem JcD {c:KL} {e:Int} (h:(Ku c e).2=0):Za c∧0≤e∧e<c.books.length∧c.books[e.toNat]? = some (Ku c e).1:=by
 unfold Ku at h ⊢
 split at h
 · contradiction
 split at h
 · cases h
 ·
  rename_i h1 h2
  rw [if_neg h1,if_neg h2]
  have hl:e.toNat<c.books.length:=by omega
  refine ⟨WM.1 (Hc.1 h1),by omega,by omega,?_⟩
  simp only
  rw [Hl hl];rfl
theorem Jpj (c:KL) (e:Int):(Ku c e).1.length≤24:=by
 by_cases h:(Ku c e).2=0
 ·
  obtain ⟨ok,_,_,hx⟩:=JcD h
  exact (Jdi (ok.root _ _ hx).1).1.len
 ·
  unfold Ku at h ⊢
  split
  · simp
  split
  · simp
  · rename_i h1 h2;rw [if_neg h1,if_neg h2] at h;exact absurd rfl h
def Jgj:Go.Shelf.Ren:=⟨fun x=>if Hu x 7 then 210 else if Hu x 8 then 209 else if Hu x 10 then 248 else if Hu x 11 then 247 else 0,fun x=>if Hu x 0 then 0 else if Hu x 4 then 4 else if Hu x 23 then 292 else if Hu x 24 then 22 else if Hu x 26 then 9 else if Hu x 27 then 294 else if Hu x 28 then 295 else if Hu x 33 then 139 else if Hu x 3 then 4 else 0,fun x=>x⟩
theorem lay_n7:SlLaysZ.n7 Tryz.prog Jgj:={
 mixed:=rfl,
 f7:=⟨Tryz.f210.name,by decide,Tryz.func210.trans (by kernel_rfl)⟩,
 f10:=⟨Tryz.f248.name,by decide,Tryz.func248.trans (by kernel_rfl)⟩,
 t0:=by kernel_rfl,
 a0:=by intro w;kernel_rfl,
 z0:=by intro w;kernel_rfl,
 v0:=by intro w;kernel_rfl,
 t4:=by kernel_rfl,
 a4:=by intro w;kernel_rfl,
 z4:=by intro w;kernel_rfl,
 v4:=by intro w;kernel_rfl,
 t23:=by kernel_rfl,
 a23:=by intro w;kernel_rfl,
 z23:=by intro w;kernel_rfl,
 v23:=by intro w;kernel_rfl,
 t26:=by kernel_rfl,
 a26:=by intro w;kernel_rfl,
 z26:=by intro w;kernel_rfl,
 v26:=by intro w;kernel_rfl,
 t27:=by kernel_rfl,
 a27:=by intro w;kernel_rfl,
 z27:=by intro w;kernel_rfl,
 v27:=by intro w;kernel_rfl,
 t28:=by kernel_rfl,
 a28:=by intro w;kernel_rfl,
 z28:=by intro w;kernel_rfl,
 v28:=by intro w;kernel_rfl,
 t33:=by kernel_rfl,
 a33:=by intro w;kernel_rfl,
 z33:=by intro w;kernel_rfl,
 v33:=by intro w;kernel_rfl }
theorem lay_n8:SlLaysZ.n8 Tryz.prog Jgj:={
 mixed:=rfl,
 f8:=⟨Tryz.f209.name,by decide,Tryz.func209.trans (by kernel_rfl)⟩,
 f11:=⟨Tryz.f247.name,by decide,Tryz.func247.trans (by kernel_rfl)⟩,
 t0:=by kernel_rfl,
 a0:=by intro w;kernel_rfl,
 z0:=by intro w;kernel_rfl,
 v0:=by intro w;kernel_rfl,
 t24:=by kernel_rfl,
 a24:=by intro w;kernel_rfl,
 z24:=by intro w;kernel_rfl,
 v24:=by intro w;kernel_rfl,
 t26:=by kernel_rfl,
 a26:=by intro w;kernel_rfl,
 z26:=by intro w;kernel_rfl,
 v26:=by intro w;kernel_rfl,
 t28:=by kernel_rfl,
 a28:=by intro w;kernel_rfl,
 z28:=by intro w;kernel_rfl,
 v28:=by intro w;kernel_rfl,
 i26:=by kernel_rfl }
theorem JqP:SlLaysZ.n10 Tryz.prog Jgj:={
 mixed:=rfl,
 f10:=⟨Tryz.f248.name,by decide,Tryz.func248.trans (by kernel_rfl)⟩,
 t0:=by kernel_rfl,
 a0:=by intro w;kernel_rfl,
 z0:=by intro w;kernel_rfl,
 v0:=by intro w;kernel_rfl,
 t4:=by kernel_rfl,
 a4:=by intro w;kernel_rfl,
 z4:=by intro w;kernel_rfl,
 v4:=by intro w;kernel_rfl,
 t23:=by kernel_rfl,
 a23:=by intro w;kernel_rfl,
 z23:=by intro w;kernel_rfl,
 v23:=by intro w;kernel_rfl,
 t26:=by kernel_rfl,
 a26:=by intro w;kernel_rfl,
 z26:=by intro w;kernel_rfl,
 v26:=by intro w;kernel_rfl,
 t33:=by kernel_rfl,
 a33:=by intro w;kernel_rfl,
 z33:=by intro w;kernel_rfl,
 v33:=by intro w;kernel_rfl }
theorem Jha (G:J4) (root:Int) (hw_root:rU root) (a:Int) (hw_a:rI a) :Q7 96 #[U root,I a] G (.tuple #[.agg #[I (((K1 root a).1).epoch),U (((K1 root a).1).root),U (((K1 root a).1).prev),I (((K1 root a).1).at_)],I ((K1 root a).2)]):=by
 refine JS Tryz.func96 18 [(0,U root),(1,I a)] rfl (fun w0 G0=>?_)
 refine Jf (Jd (Jv 4 #[I 0,U 0,U 0,I 0] 43 (fun b1=>Jb [0] [] (Je (Jc (Jf (Jd (Jb [0,0,0] [(10,.agg #[I 0,U root,U 0,I a])] (Jv 6 #[I 0,U 0,U 0,I 0] 43 (fun b2=>JX [3] [] [[Sg b2 0 [I 0,U root,U 0,I a]],[Sg b1 0 [I 0,U 0,U 0,I 0]]] (Je (Jc (Jf (Jf (Jd (Jb [2] [(11,.agg #[I 0,U root,U 0,I a])] (Jl 12 (I (JO (⟨0,root,0,a⟩:JV))) (Yf (⟨0,root,0,a⟩:JV) G) (Jb [0] [(7,I (JO (⟨0,root,0,a⟩:JV)))] (Je (Jc (Jg [0,0] [(14,Bo (!decide (JO (⟨0,root,0,a⟩:JV)=0)))] (Jm (!decide (JO (⟨0,root,0,a⟩:JV)=0)) (fun h1=>?_) (fun h1=>?_)))))))))))))))))))))))
 refine Jg [0,0,5,0] [(5,I (JO (⟨0,root,0,a⟩:JV)))] (Jo (Jj (Jp [1,0] [.agg #[I 0,U 0,U 0,I 0],I (JO (⟨0,root,0,a⟩:JV))] (Jy (Jh _) ?_))))
 have hf_:(K1 root a)=((⟨0,0,0,0⟩:JV),(JO (⟨0,root,0,a⟩:JV))):=by
  unfold K1 ZF;(rw [if_pos ‹_›];done)
 · (try rw [hf_]);(simp only [QD];done)
 refine Jq (Jc (QF [2,5,0] [(5,I 0)] [[Sg b2 0 [I 0,U root,U 0,I a]],[Sg b1 0 [I 0,U root,U 0,I a]]] (Jo (Jp [1,0] [.agg #[I 0,U root,U 0,I a],I 0] (Jy (Jh _) ?_)))))
 have hf_:(K1 root a)=((⟨0,root,0,a⟩:JV),0):=by
  unfold K1 ZF;(rw [if_neg (by omega)];done)
 · (try rw [hf_]);(simp only [QD];done)
theorem Jbq (G:J4) (n:Int) (most:Int) :Q7 94 #[I n,I most] G (Bo (Yk n most)):=by
 refine JS Tryz.func94 12 [(0,I n),(1,I most)] rfl (fun w0 G0=>?_)
 refine Jg [0] [] (Jf (Jd (Jb [0,0,0] [(7,Bo (decide (n ≥ 1)))] (Kk (decide (n ≥ 1)) [7] [0,0,0,0] [1,1,1,0] (fun bb=>[(11,Bo (bb && (decide (n≤most))))]) (Jb [0] [(4,Bo ((decide (n ≥ 1)) && (decide (n≤most))))] (Je (Jc (Jo (Jp [0] [Bo ((decide (n ≥ 1)) && (decide (n≤most)))] (Jy (Jh _) (congrArg Bo (?_:(Yk n most)=((decide (n ≥ 1)) && (decide (n≤most)))).symm)))))))))))
 rfl
theorem Jgk (G:J4) (vs_c:Bv) (c:KL) (h_c:JaJ.R G vs_c c) (hb:0<c.books.length) (hb2:c.books.length≤1000):YL 164 #[.agg vs_c.toArray] G [] (fun u G' L'=>∃ (a1:Ba) (c2:Nat),u=Sl a1 ((WG c.books).length) c2∧(RS QJ G' a1 c2 (WG c.books))∧L'=[]):=by
 obtain ⟨a1,c1,a2,c2,a3,c3,rfl,_,_,_,_,_,_,hs3⟩:=h_c
 refine JS Tryz.func164 11 [(0,(QH c a1 c1 a2 c2 a3 c3))] rfl (fun w0 G0=>?_)
 refine Jf (Jd (Jv 1 #[I c.queue.most,Sl a1 c.queue.wait.length c1,I c.batch,I c.every,I c.now,Sl a2 c.heads.length c2,Sl a3 c.books.length c3] 60 (fun b1=>Jb [0] [] (Je (Jc (Jf (Jd (Jb [0,2,0,2,0,0] [(4,Sl a3 c.books.length c3),(8,I (Hb.wrap ((c.books.length:Int)-1)))] ?_))))))))
 have e1:Hb.wrap ((c.books.length:Int)-1)=((c.books.length-1:Nat):Int):=(Hp _ (by omega)).trans (show (c.books.length:Int)-1=((c.books.length-1:Nat):Int) by omega)
 refine KE 8 (I ((c.books.length-1:Nat):Int)) (congrArg I e1) ?_
 clear e1
 obtain ⟨b2,o1,rfl⟩:=RS.addr hs3 (k:=c.books.length-1) (by omega)
 obtain ⟨x1,hx1⟩:=QW (l:=c.books) (k:=c.books.length-1) (by omega)
 obtain ⟨_,⟨a4,c4,rfl,hs4⟩,hc1⟩:=RS.get hs3 hx1
 refine JY (b:=b2) (off:=o1) (len:=c.books.length) (cap:=c3) (ik:=.i64) 9 44 1 (c.books.length-1) J5 (JR 10 44 (cs:=[Sl a4 x1.length c4]) 0 (Sl a4 x1.length c4) hc1 (Jb [0] [(2,Sl a4 x1.length c4)] (Je (Jc (Jo ?_)))))
 have hf1:WG c.books=x1:=by
  exact (JnH rfl hx1).symm
 refine Jp [0] [Sl a4 x1.length c4] (JB [] (Jh _) ?_)
 rw [hf1]
 try dsimp only
 exact ⟨a4,c4,rfl,hs4,rfl⟩
theorem Jci (G:J4) (vs_c:Bv) (c:KL) (h_c:JaJ.R G vs_c c) (a_more:Ba) (c_more:Nat) (more:Bs) (h_more:RS ES G a_more c_more more) (hb:0<c.books.length) (hb2:c.books.length≤1000) (hn1:(WG c.books).length≤1000) (hn2:c.queue.wait.length≤1000) (hn3:more.length≤1000):Q7 155 #[.agg vs_c.toArray,Sl a_more more.length c_more] G (I (WT c more)):=by
 obtain ⟨a1,c1,a2,c2,a3,c3,rfl,w1,hs1,w2,w3,w4,hs2,hs3⟩:=h_c
 refine JS Tryz.func155 49 [(0,(QH c a1 c1 a2 c2 a3 c3)),(1,Sl a_more more.length c_more)] rfl (fun w0 G0=>?_)
 refine Jf (Jd (Jv 2 #[I c.queue.most,Sl a1 c.queue.wait.length c1,I c.batch,I c.every,I c.now,Sl a2 c.heads.length c2,Sl a3 c.books.length c3] 60 (fun b1=>Jb [0] [] (Je (Jc (Jf (Jd (Jlb 12 9 4 (fun b2 ob1 hm1=>Jb [0] [(5,.map (some b2))] (Je (Jc (Jf (Jf (Jd (Jb [4] [(13,(QH c a1 c1 a2 c2 a3 c3))] (JM 14 (Jgk G (KX c a1 c1 a2 c2 a3 c3) c (⟨a1,c1,a2,c2,a3,c3,rfl,w1,hs1,w2,w3,w4,hs2,hs3⟩) ‹_› ‹_›) (fun v G1 L1 hl1 hp=>?_)))))))))))))))))
 obtain ⟨a4,c4,rfl,hs4,rfl⟩:=hp
 refine Jb [0,0] [(15,I ((WG c.books).length:Int)),(16,I 0)] (Je (Jc (Jx ?_)))
 have hlm_h_more:more.length≤9223372036854775807:=Hg (h_more).le (h_more).max
 have hlm_hs4:(WG c.books).length≤9223372036854775807:=Hg (hs4).le (hs4).max
 refine Qb (σ:=Nat×Obj) (fun q_=>(q_.1≤(WG c.books).length)∧(Jey Tryz.prog 9 4 q_.2 q_.1 (Dn (KR ((WG c.books).take q_.1))))) (fun q_=>[(1,Sl a_more more.length c_more),(2,Pt b1 0),(5,.map (some b2)),(14,Sl a4 ((WG c.books).length) c4),(15,I ((WG c.books).length:Int)),(16,I (q_.1:Int))]) (fun q_=>G1) (fun q_=>[[Ob b2 q_.2],[Sg b1 0 (KX c a1 c1 a2 c2 a3 c3)]]) (fun q_=>(WG c.books).length-q_.1) (0,ob1) ⟨(by (try dsimp only);exact Hs _),(by (try dsimp only);exact hm1)⟩ (fun q_ hs=>?_)
 obtain ⟨i,ob1⟩:=q_
 obtain ⟨hi,hm1⟩:=hs
 dsimp only at hi hm1
 dsimp only
 refine Jg [0] [(17,Bo (decide ((i:Int)<((WG c.books).length:Int))))] (Jf (Jm (decide ((i:Int)<((WG c.books).length:Int))) (fun h1=>?_) (fun h1=>?_)))
 refine Jq (Jc (Jf (Jx (Jf (Jd ?_)))))
 obtain ⟨b3,o1,rfl⟩:=RS.addr hs4 (k:=i) (by omega)
 obtain ⟨x1,hx1⟩:=QW (l:=WG c.books) (k:=i) (by omega)
 obtain ⟨_,⟨rfl,w5,_⟩,hc1⟩:=RS.get hs4 hx1
 refine JY (b:=b3) (off:=o1) (len:=(WG c.books).length) (cap:=c4) (ik:=.i64) 18 111 2 i J5 (JR 19 111 (cs:=[Sr x1.name,Sr x1.value]) 0 (.agg #[Sr x1.name,Sr x1.value]) hc1 (Jv 7 #[Sr ([]),Sr ([])] 111 (fun b4=>JX [3] [] [[Sg b4 0 [Sr x1.name,Sr x1.value]],[Ob b2 ob1],[Sg b1 0 (KX c a1 c1 a2 c2 a3 c3)]] (Je (Jc (Jd (Jb [0,0,2] [(20,.map (some b2)),(22,Sr x1.name)] (Jez (n:=i) (D:=Dn (KR ((WG c.books).take i))) (s:=x1.name) 1 292 9 4 true hm1 (Go.Maps.string_keyed (by kernel_rfl)) (by kernel_rfl) (by kernel_rfl) (by kernel_rfl) (Hg w5 (by decide)) (HH (m:=1000000) J5 (by decide)) (fun ob2 hm2=>?_)))))))))
 rw [← JfD] at hm2
 exact Je (JN (Jc (Jd (Jb [0,0] [(16,I (Hb.wrap ((i:Int)+1)))] (Kp 16 ((i:Int)+1) J5 (Je (QA [[Ob b2 ob2],[Sg b1 0 (KX c a1 c1 a2 c2 a3 c3)]] (Qf (i+1,ob2) ⟨J5,(by rw [Jg8 hx1];exact hm2)⟩ (by (try dsimp only);omega)))))))))
 refine KW (J1 (J8 (JT (Jc (Jf (Jg [0,0,4,0,0] [(26,Sl a1 c.queue.wait.length c1),(27,I (c.queue.wait.length:Int)),(28,I 0)] (Jx ?_)))))))
 have hlm_h_more:more.length≤9223372036854775807:=Hg (h_more).le (h_more).max
 have hlm_hs1:c.queue.wait.length≤9223372036854775807:=Hg (hs1).le (hs1).max
 refine Qb (σ:=Nat×Obj) (fun q_=>(q_.1≤c.queue.wait.length)∧(Jey Tryz.prog 9 4 q_.2 ((WG c.books).length+q_.1) (Dn (KR (WG c.books)++QB (c.queue.wait.take q_.1))))) (fun q_=>[(1,Sl a_more more.length c_more),(5,.map (some b2)),(26,Sl a1 c.queue.wait.length c1),(27,I (c.queue.wait.length:Int)),(28,I (q_.1:Int))]) (fun q_=>G1) (fun q_=>[[Ob b2 q_.2],[Sg b1 0 (KX c a1 c1 a2 c2 a3 c3)]]) (fun q_=>c.queue.wait.length-q_.1) (0,ob1) ⟨(by (try dsimp only);exact Hs _),(by (try dsimp only);have e_:=Hk (i:=i) (l:=WG c.books) (by omega);have e2_:i=(WG c.books).length:=(by omega);have q_:=hm1;rw [e_] at q_;rw [e2_] at q_;simpa [QB] using q_)⟩ (fun q_ hs=>?_)
 obtain ⟨j,ob2⟩:=q_
 obtain ⟨hi,hm2⟩:=hs
 dsimp only at hi hm2
 dsimp only
 refine Jg [0] [(29,Bo (decide ((j:Int)<(c.queue.wait.length:Int))))] (Jf (Jm (decide ((j:Int)<(c.queue.wait.length:Int))) (fun h2=>?_) (fun h2=>?_)))
 refine Jq (Jc (Jf (Jx (Jf (Jd ?_)))))
 obtain ⟨b5,o2,rfl⟩:=RS.addr (hs1.mono hl1) (k:=j) (by omega)
 obtain ⟨x2,hx2⟩:=QW (l:=c.queue.wait) (k:=j) (by omega)
 obtain ⟨_,⟨rfl,w7,_,_,_⟩,hc2⟩:=RS.get (hs1.mono hl1) hx2
 refine JY (b:=b5) (off:=o2) (len:=c.queue.wait.length) (cap:=c1) (ik:=.i64) 30 182 4 j J5 (JR 31 182 (cs:=[Sr x2.name,Sr x2.value,U x2.n,U x2.tag]) 0 (.agg #[Sr x2.name,Sr x2.value,U x2.n,U x2.tag]) hc2 (Jv 9 #[Sr ([]),Sr ([]),U 0,U 0] 182 (fun b6=>JX [3] [] [[Sg b6 0 [Sr x2.name,Sr x2.value,U x2.n,U x2.tag]],[Ob b2 ob2],[Sg b1 0 (KX c (At b5 o2) c1 a2 c2 a3 c3)]] (Je (Jc (Jd (Jb [0,0,2] [(32,.map (some b2)),(34,Sr x2.name)] (Jez (n:=(WG c.books).length+j) (D:=Dn (KR (WG c.books)++QB (c.queue.wait.take j))) (s:=x2.name) 1 292 9 4 true hm2 (Go.Maps.string_keyed (by kernel_rfl)) (by kernel_rfl) (by kernel_rfl) (by kernel_rfl) (Hg w7 (by decide)) (HH (m:=1000000) J5 (by decide)) (fun ob3 hm3=>?_)))))))))
 rw [← JfD] at hm3
 exact Je (JN (Jc (Jd (Jb [0,0] [(28,I (Hb.wrap ((j:Int)+1)))] (Kp 28 ((j:Int)+1) J5 (Je (QA [[Ob b2 ob3],[Sg b1 0 (KX c (At b5 o2) c1 a2 c2 a3 c3)]] (Qf (j+1,ob3) ⟨J5,(by rw [Jg9 hx2,← HA];exact hm3)⟩ (by (try dsimp only);omega)))))))))
 refine KW (J1 (J8 (JT (Jc (Jf (Jg [0,0,0] [(36,Sl a_more more.length c_more),(37,I (more.length:Int)),(38,I 0)] (Jx ?_)))))))
 have hlm_h_more:more.length≤9223372036854775807:=Hg (h_more).le (h_more).max
 refine Qb (σ:=Nat×Obj) (fun q_=>(q_.1≤more.length)∧(Jey Tryz.prog 9 4 q_.2 ((WG c.books).length+c.queue.wait.length+q_.1) (Dn (KR (WG c.books)++QB c.queue.wait++more.take q_.1)))) (fun q_=>[(5,.map (some b2)),(36,Sl a_more more.length c_more),(37,I (more.length:Int)),(38,I (q_.1:Int))]) (fun q_=>G1) (fun q_=>[[Ob b2 q_.2],[Sg b1 0 (KX c a1 c1 a2 c2 a3 c3)]]) (fun q_=>more.length-q_.1) (0,ob2) ⟨(by (try dsimp only);exact Hs _),(by (try dsimp only);have e_:=Hk (i:=j) (l:=c.queue.wait) (by omega);have e2_:j=c.queue.wait.length:=(by omega);have q_:=hm2;rw [e_] at q_;rw [e2_] at q_;simpa using q_)⟩ (fun q_ hs=>?_)
 obtain ⟨k,ob3⟩:=q_
 obtain ⟨hi,hm3⟩:=hs
 dsimp only at hi hm3
 dsimp only
 refine Jg [0] [(39,Bo (decide ((k:Int)<(more.length:Int))))] (Jf (Jm (decide ((k:Int)<(more.length:Int))) (fun h3=>?_) (fun h3=>?_)))
 refine Jq (Jc (Jf (Jx (Jf (Jd ?_)))))
 obtain ⟨b7,o3,rfl⟩:=RS.addr (h_more.mono hl1) (k:=k) (by omega)
 obtain ⟨x3,hx3⟩:=QW (l:=more) (k:=k) (by omega)
 obtain ⟨_,⟨rfl,w11⟩,hc3⟩:=RS.get (h_more.mono hl1) hx3
 refine JY (b:=b7) (off:=o3) (len:=more.length) (cap:=c_more) (ik:=.i64) 40 9 1 k J5 (JR 41 9 (cs:=[Sr x3]) 0 (Sr x3) hc3 (Jb [0] [(11,Sr x3)] (Je (Jc (Jd (Jb [0,0] [(42,.map (some b2)),(43,Sr x3)] (Jez (n:=(WG c.books).length+c.queue.wait.length+k) (D:=Dn (KR (WG c.books)++QB c.queue.wait++more.take k)) (s:=x3) 0 292 9 4 true hm3 (Go.Maps.string_keyed (by kernel_rfl)) (by kernel_rfl) (by kernel_rfl) (by kernel_rfl) (Hg w11 (by decide)) (HH (m:=1000000) J5 (by decide)) (fun ob4 hm4=>?_))))))))
 rw [← JfD] at hm4
 exact Je (JN (Jc (Jd (Jb [0,0] [(38,I (Hb.wrap ((k:Int)+1)))] (Kp 38 ((k:Int)+1) J5 (Je (Qf (k+1,ob4) ⟨J5,(by rw [Jph hx3,← HA];exact hm4)⟩ (by (try dsimp only);omega))))))))
 refine KW (J1 (J8 (JT (Jc (Jf (Jd (Jb [0] [(45,.map (some b2))] (JnG (ρ:=Jgj) (b:=b2) 46 lay_n7 (fun bk1=>Jiy (ρ:=Jgj) (b:=b2) (bk:=bk1) (D:=Dn (KR (WG c.books)++QB c.queue.wait++more.take k)) 47 1 0 lay_n8 JqP hm3 (by rw [(Jml _).2.2];refine Hg (nn_le _) ?_;simp only [Hd,Jiz,JiA,Hn];omega) (fun a5 c5=>?_))))))))))
 refine Jb [0,0] [(4,I (((strKeys (Dn (KR (WG c.books)++QB c.queue.wait++more.take k))).length:Nat):Int))] (Je (Jc (Jo (Jp [0] [I (((strKeys (Dn (KR (WG c.books)++QB c.queue.wait++more.take k))).length:Nat):Int)] (Jy hl1 (congrArg I (?_:(WT c more)=(((strKeys (Dn (KR (WG c.books)++QB c.queue.wait++more.take k))).length:Nat):Int)).symm))))))
 rw [JqO];unfold WT Jas;rw [Hk (i:=k) (l:=more) (by omega)]
theorem JiB (G:J4) (most:Int) (hw_most:rI most) (batch:Int) (hw_batch:rI batch) (every:Int) (hw_every:rI every) :YL 55 #[I most,I batch,I every] G [] (fun u G' L'=>∃ (a1:Ba) (c2:Nat) (a3:Ba) (c4:Nat) (a5:Ba) (c6:Nat),u=.tuple #[.agg #[I (((Ks most batch every).1).queue.most),Sl a1 ((((Ks most batch every).1).queue.wait).length) c2,I (((Ks most batch every).1).batch),I (((Ks most batch every).1).every),I (((Ks most batch every).1).now),Sl a3 ((((Ks most batch every).1).heads).length) c4,Sl a5 ((((Ks most batch every).1).books).length) c6],I ((Ks most batch every).2)]∧(rI (((Ks most batch every).1).queue.most))∧(RS Q4 G' a1 c2 (((Ks most batch every).1).queue.wait))∧(rI (((Ks most batch every).1).batch))∧(rI (((Ks most batch every).1).every))∧(rI (((Ks most batch every).1).now))∧(RS KG G' a3 c4 (((Ks most batch every).1).heads))∧(RS Qi G' a5 c6 (((Ks most batch every).1).books))∧L'=[]):=by
 refine JS Tryz.func55 43 [(0,I most),(1,I batch),(2,I every)] rfl (fun w0 G0=>?_)
 refine Jf (Jd (Jv 6 #[I 0,Sl none 0 0,I 0,I 0,I 0,Sl none 0 0,Sl none 0 0] 60 (fun b1=>Jb [0] [] (Je (Jc (Jf (Jf (Jd (Jb [0] [(12,I most)] (Jl 13 (Bo (Yk most 30)) (Jbq G most 30) (Jb [0,0] [(15,Bo (!(Yk most 30)))] (QS [15] (!(Yk most 30)) (fun h1=>?_) (fun h1=>?_)))))))))))))
 refine Jb [1,1,1,0,0,1,1,1,0] [(24,Bo true)] (Je (Jc (JZ (Jg [0,3,0] [(7,I 4)] (Jo (Jj ?_))))))
 have hf1:Ks most batch every=((⟨(⟨0,[]⟩:QY),0,0,0,[],[]⟩:KL),4):=by
  unfold Ks Yi;simp_all
 refine Jp [0,0] [.agg #[I 0,Sl none 0 0,I 0,I 0,I 0,Sl none 0 0,Sl none 0 0],I 4] (JB [] (Jh _) ?_)
 rw [hf1]
 try dsimp only
 exact ⟨none,0,none,0,none,0,rfl,J5,(JP Q4 G),J5,J5,J5,(JP KG G),(JP Qi G),rfl⟩
 refine Jb [0] [(16,I batch)] (Jl 17 (Bo (Yk batch 30)) (Jbq G batch 30) (Jb [0,0,0] [(20,Bo (!(Yk batch 30)))] (QS [20] (!(Yk batch 30)) (fun h2=>?_) (fun h2=>?_))))
 refine Jb [1,1,1,0] [(24,Bo true)] (Je (Jc (JZ (Jg [0,3,0] [(7,I 4)] (Jo (Jj ?_))))))
 have hf2:Ks most batch every=((⟨(⟨0,[]⟩:QY),0,0,0,[],[]⟩:KL),4):=by
  unfold Ks Yi;simp_all
 refine Jp [0,0] [.agg #[I 0,Sl none 0 0,I 0,I 0,I 0,Sl none 0 0,Sl none 0 0],I 4] (JB [] (Jh _) ?_)
 rw [hf2]
 try dsimp only
 exact ⟨none,0,none,0,none,0,rfl,J5,(JP Q4 G),J5,J5,J5,(JP KG G),(JP Qi G),rfl⟩
 refine Jb [0] [(21,I every)] (Jl 22 (Bo (Yk every 1000)) (Jbq G every 1000) (Jb [0,0] [(24,Bo (!(Yk every 1000)))] (Je (Jc (Jm (!(Yk every 1000)) (fun h3=>?_) (fun h3=>?_))))))
 refine Jg [0,3,0] [(7,I 4)] (Jo (Jj ?_))
 have hf3:Ks most batch every=((⟨(⟨0,[]⟩:QY),0,0,0,[],[]⟩:KL),4):=by
  unfold Ks Yi;simp_all
 refine Jp [0,0] [.agg #[I 0,Sl none 0 0,I 0,I 0,I 0,Sl none 0 0,Sl none 0 0],I 4] (JB [] (Jh _) ?_)
 rw [hf3]
 try dsimp only
 exact ⟨none,0,none,0,none,0,rfl,J5,(JP Q4 G),J5,J5,J5,(JP KG G),(JP Qi G),rfl⟩
 refine Jq (Jc (Jf (Jd (Jl 27 (.tuple #[U ((JW ([]) []).1),I ((JW ([]) []).2)]) (JbI G none 0 ([]) (JP QJ G)) (Jb [0,0,0,0,0] [(8,U ((JW ([]) []).1))] (Je (Jc (Jf (Jd (Jb [0] [(31,U ((JW ([]) []).1))] (Jl 32 (.tuple #[(VR (K1 ((JW ([]) []).1) 0).1),I ((K1 ((JW ([]) []).1) 0).2)]) (Jha G ((JW ([]) []).1) (Vo _ _) 0 J5) (Jb [0,0,0] [(33,(VR (K1 ((JW ([]) []).1) 0).1)),(34,I ((K1 ((JW ([]) []).1) 0).2))] (Jv 10 #[I 0,U 0,U 0,I 0] 43 (fun b2=>JX [3,0] [] [[Sg b2 0 (JdD (K1 ((JW ([]) []).1) 0).1)],[Sg b1 0 [I 0,Sl none 0 0,I 0,I 0,I 0,Sl none 0 0,Sl none 0 0]]] (Je (Jc (Jf (Jd (Jb [0,0,0,0,2] [(36,.agg #[I most,Sl none 0 0]),(37,I batch),(38,I every),(39,(VR (K1 ((JW ([]) []).1) 0).1))] (Ki 40 1 #[I (((K1 ((JW ([]) []).1) 0).1).epoch),U (((K1 ((JW ([]) []).1) 0).1).root),U (((K1 ((JW ([]) []).1) 0).1).prev),I (((K1 ((JW ([]) []).1) 0).1).at_)] 43 (fun b3=>Ki 41 1 #[Sl none 0 0] 44 (fun b4=>?_))))))))))))))))))))))
 refine JX [0,9,0] [(7,I 0)] [[Sg b4 0 [Sl none 0 0]],[Sg b3 0 (JdD (K1 ((JW ([]) []).1) 0).1)],[Sg b2 0 (JdD (K1 ((JW ([]) []).1) 0).1)],[Sg b1 0 [I most,Sl none 0 0,I batch,I every,I 0,Sl (At b3 0) 1 1,Sl (At b4 0) 1 1]]] (Je (Jc (Jo (JfE (b:=b3) (o:=0) (cs:=(JdD (K1 ((JW ([]) []).1) 0).1)) 1 (fun G1 hl1 hz1=>?_)))))
 have hs1:RS KG G1 (At b3 0) 1 [((K1 ((JW ([]) []).1) 0).1)]:=RS.lit [(JdD (K1 ((JW ([]) []).1) 0).1)] [((K1 ((JW ([]) []).1) 0).1)] ⟨⟨rfl,(by have q_:=Jat (r:=(JW [] []).1) (a:=0) (Vo _ _) (by omega);omega),(by have q_:=Jat (r:=(JW [] []).1) (a:=0) (Vo _ _) (by omega);omega),(by have q_:=Jat (r:=(JW [] []).1) (a:=0) (Vo _ _) (by omega);omega),(by have q_:=Jat (r:=(JW [] []).1) (a:=0) (Vo _ _) (by omega);omega)⟩,trivial⟩ hz1 (Hh rfl) (Hh rfl)
 refine JfE (b:=b4) (o:=0) (cs:=[Sl none 0 0]) 0 (fun G2 hl2 hz2=>?_)
 have hs2:RS Qi G2 (At b4 0) 1 [[]]:=RS.lit [[Sl none 0 0]] [[]] ⟨⟨none,0,rfl,(JP QJ G2)⟩,trivial⟩ hz2 (Hh rfl) (Hh rfl)
 have hf4:Ks most batch every=((⟨(⟨most,[]⟩:QY),batch,every,0,[((K1 ((JW ([]) []).1) 0).1)],[[]]⟩:KL),0):=by
  unfold Ks Yi;simp_all
 refine Jp [3,0] [.agg #[I most,Sl none 0 0,I batch,I every,I 0,Sl (At b3 0) 1 1,Sl (At b4 0) 1 1],I 0] (JB [] (Ja hl1 hl2) ?_)
 rw [hf4]
 try dsimp only
 exact ⟨none,0,(At b3 0),1,(At b4 0),1,rfl,hw_most,(JP Q4 G2),hw_batch,hw_every,J5,(hs1.mono hl2),hs2,rfl⟩
set_option maxRecDepth 20000 in
theorem Jgl (G:J4) (vs_c:Bv) (c:KL) (h_c:JaJ.R G vs_c c) (h0:1≤c.heads.length) (h9:c.heads.length≤40):Q7 206 #[.agg vs_c.toArray] G (I (QO c)):=by
 obtain ⟨a1,c1,a2,c2,a3,c3,rfl,_,_,_,_,_,hs2,hs3⟩:=h_c
 refine JS Tryz.func206 63 [(0,(QH c a1 c1 a2 c2 a3 c3))] rfl (fun w0 G0=>?_)
 refine Jf (Jd (Jv 1 #[I c.queue.most,Sl a1 c.queue.wait.length c1,I c.batch,I c.every,I c.now,Sl a2 c.heads.length c2,Sl a3 c.books.length c3] 60 (fun b1=>Jb [0] [] (Je (Jc (Jg [0,2,0,0] [(3,I (c.heads.length:Int))] (Jf (Jf ?_))))))))
 obtain ⟨b2,o1,rfl⟩:=RS.addr hs2 (k:=0) (by omega)
 obtain ⟨x1,hx1⟩:=QW (l:=c.heads) (k:=0) (by omega)
 obtain ⟨_,⟨rfl,_,_,_,_⟩,hc1⟩:=RS.get hs2 hx1
 rcases HK (!decide (x1.epoch=0)) with h1 | h1
 have h1d:=h1
 try simp only [BB] at h1d
 refine Kt [] (Wz [(0,Pt b1 5),(1,Sl (At b2 o1) c.heads.length c2),(2,Pt b2 (o1+0*4)),(3,Pt b2 (o1+0*4)),(4,I x1.epoch),(5,Bo true),(6,Bo true),(7,undef),(8,undef),(9,undef),(10,undef),(11,undef),(12,Bo true),(13,Bo true),(14,undef),(15,undef),(16,undef),(17,undef),(18,undef),(19,undef),(20,undef),(21,undef),(22,undef),(23,undef),(24,Bo true)] (Kq [] [(0,0),(1,2),(3,0),(6,0),(7,1),(8,1),(9,1),(10,1),(11,1),(12,0),(13,0),(14,1),(15,1),(16,1),(17,1),(18,1),(19,1),(20,1),(21,1),(22,1),(23,1),(24,0)] [2,4,5] [(1,Pt b1 0),(35,Bo true)] (Kb ?_ (Kb ?_ (Kb ?_ K4))) ?_))
 refine Jr 2 13 (Pt b2 (o1+0*4)) [(12,Sl (At b2 o1) c.heads.length c2)] (fun X=>?_)
 exact JY (b:=b2) (off:=o1) (len:=c.heads.length) (cap:=c2) (ik:=.i64) 13 43 4 0 J5 Jn
 refine Jr 4 15 (I x1.epoch) [(14,Pt b2 (o1+0*4))] (fun X=>?_)
 exact JR 15 2 (cs:=[I x1.epoch,U x1.root,U x1.prev,I x1.at_]) 0 (I x1.epoch) hc1 Jn
 refine Jr 5 16 (Bo true) [(15,I x1.epoch)] (fun X=>?_)
 exact Qc 16 (Bo (!decide (x1.epoch=0))) (Bo true) (by rw [h1]) Jn
 refine Jc (JZ (Jg [0] [(2,I 3)] (Jo (Jj (Jp [0] [I 3] (Jy (Jh _) (congrArg I (?_:(QO c)=3).symm)))))))
 exact Jlf (.inl ⟨hx1,by assumption⟩)
 have h1d:=h1
 try simp only [BB] at h1d
 rcases HK (!decide ((c.books.length:Int)=(c.heads.length:Int))) with h2 | h2
 have h2d:=h2
 try simp only [BB] at h2d
 refine Kt [] (Wz [(0,Pt b1 5),(1,Sl (At b2 o1) c.heads.length c2),(2,Pt b2 (o1+0*4)),(3,Pt b2 (o1+0*4)),(4,I x1.epoch),(5,Bo false),(6,Bo false),(7,Pt b1 6),(8,Sl a3 c.books.length c3),(9,I (c.books.length:Int)),(10,I (c.heads.length:Int)),(11,Bo true),(12,Bo true),(13,Bo true),(14,undef),(15,undef),(16,undef),(17,undef),(18,undef),(19,undef),(20,undef),(21,undef),(22,undef),(23,undef),(24,Bo true)] (Kq [] [(0,0),(1,2),(3,0),(6,0),(7,0),(8,2),(9,0),(10,0),(12,0),(13,0),(14,1),(15,1),(16,1),(17,1),(18,1),(19,1),(20,1),(21,1),(22,1),(23,1),(24,0)] [2,4,5,11] [(1,Pt b1 0),(35,Bo true)] (Kb ?_ (Kb ?_ (Kb ?_ (Kb ?_ K4)))) ?_))
 refine Jr 2 13 (Pt b2 (o1+0*4)) [(12,Sl (At b2 o1) c.heads.length c2)] (fun X=>?_)
 exact JY (b:=b2) (off:=o1) (len:=c.heads.length) (cap:=c2) (ik:=.i64) 13 43 4 0 J5 Jn
 refine Jr 4 15 (I x1.epoch) [(14,Pt b2 (o1+0*4))] (fun X=>?_)
 exact JR 15 2 (cs:=[I x1.epoch,U x1.root,U x1.prev,I x1.at_]) 0 (I x1.epoch) hc1 Jn
 refine Jr 5 16 (Bo false) [(15,I x1.epoch)] (fun X=>?_)
 exact Qc 16 (Bo (!decide (x1.epoch=0))) (Bo false) (by rw [h1]) Jn
 refine Jr 11 22 (Bo true) [(17,Bo false),(20,I (c.books.length:Int)),(21,I (c.heads.length:Int))] (fun X=>?_)
 exact Qc 22 (Bo (!decide ((c.books.length:Int)=(c.heads.length:Int)))) (Bo true) (by rw [h2]) Jn
 refine Jc (JZ (Jg [0] [(2,I 3)] (Jo (Jj (Jp [0] [I 3] (Jy (Jh _) (congrArg I (?_:(QO c)=3).symm)))))))
 exact Jlf (x:=ZF) (.inr (.inl ‹_›))
 have h2d:=h2
 try simp only [BB] at h2d
 have e1:Hb.wrap ((c.heads.length:Int)-1)=((c.heads.length-1:Nat):Int):=(Hp _ (by omega)).trans (show (c.heads.length:Int)-1=((c.heads.length-1:Nat):Int) by omega)
 obtain ⟨x2,hx2⟩:=QW (l:=c.heads) (k:=c.heads.length-1) (by omega)
 obtain ⟨_,⟨rfl,_,_,_,_⟩,hc2⟩:=RS.get hs2 hx2
 refine Kt [] (Wz [(0,Pt b1 5),(1,Sl (At b2 o1) c.heads.length c2),(2,Pt b2 (o1+0*4)),(3,Pt b2 (o1+0*4)),(4,I x1.epoch),(5,Bo false),(6,Bo false),(7,Pt b1 6),(8,Sl a3 c.books.length c3),(9,I (c.books.length:Int)),(10,I (c.heads.length:Int)),(11,Bo false),(12,Bo false),(13,Bo false),(14,Pt b1 5),(15,Sl (At b2 o1) c.heads.length c2),(16,I (c.heads.length:Int)),(17,I ((c.heads.length-1:Nat):Int)),(18,Pt b2 (o1+(c.heads.length-1)*4)),(19,Pt b2 (o1+(c.heads.length-1)*4+3)),(20,I x2.at_),(21,Pt b1 4),(22,I c.now),(23,Bo (decide (x2.at_ > c.now))),(24,Bo (decide (x2.at_ > c.now)))] (Kq [] [(0,0),(1,2),(3,0),(6,0),(7,0),(8,2),(9,0),(10,0),(12,0),(13,0),(14,0),(15,2),(16,0),(19,0),(21,0),(22,2),(23,0),(24,0)] [2,4,5,11,17,18,20] [(1,Pt b1 0),(35,Bo (decide (x2.at_ > c.now)))] (Kb ?_ (Kb ?_ (Kb ?_ (Kb ?_ (Kb ?_ (Kb ?_ (Kb ?_ K4))))))) ?_))
 refine Jr 2 13 (Pt b2 (o1+0*4)) [(12,Sl (At b2 o1) c.heads.length c2)] (fun X=>?_)
 exact JY (b:=b2) (off:=o1) (len:=c.heads.length) (cap:=c2) (ik:=.i64) 13 43 4 0 J5 Jn
 refine Jr 4 15 (I x1.epoch) [(14,Pt b2 (o1+0*4))] (fun X=>?_)
 exact JR 15 2 (cs:=[I x1.epoch,U x1.root,U x1.prev,I x1.at_]) 0 (I x1.epoch) hc1 Jn
 refine Jr 5 16 (Bo false) [(15,I x1.epoch)] (fun X=>?_)
 exact Qc 16 (Bo (!decide (x1.epoch=0))) (Bo false) (by rw [h1]) Jn
 refine Jr 11 22 (Bo false) [(17,Bo false),(20,I (c.books.length:Int)),(21,I (c.heads.length:Int))] (fun X=>?_)
 exact Qc 22 (Bo (!decide ((c.books.length:Int)=(c.heads.length:Int)))) (Bo false) (by rw [h2]) Jn
 refine Jr 17 28 (I ((c.heads.length-1:Nat):Int)) [(24,Bo false),(27,I (c.heads.length:Int))] (fun X=>?_)
 exact Qc 28 (I (Hb.wrap ((c.heads.length:Int)-1))) (I ((c.heads.length-1:Nat):Int)) (by simp only [e1]) Jn
 refine Jr 18 29 (Pt b2 (o1+(c.heads.length-1)*4)) [(24,Bo false),(26,Sl (At b2 o1) c.heads.length c2),(28,I ((c.heads.length-1:Nat):Int))] (fun X=>?_)
 exact JY (b:=b2) (off:=o1) (len:=c.heads.length) (cap:=c2) (ik:=.i64) 29 43 4 (c.heads.length-1) J5 Jn
 refine Jr 20 31 (I x2.at_) [(24,Bo false),(30,Pt b2 (o1+(c.heads.length-1)*4+3))] (fun X=>?_)
 exact JR 31 2 (cs:=[I x2.epoch,U x2.root,U x2.prev,I x2.at_]) 3 (I x2.at_) hc2 Jn
 refine Jc (Jm (decide (x2.at_ > c.now)) (fun h3=>?_) (fun h3=>?_))
 refine Jg [0] [(2,I 3)] (Jo (Jj (Jp [0] [I 3] (Jy (Jh _) (congrArg I (?_:(QO c)=3).symm)))))
 exact Jlf (x:=ZF) (.inr (.inr ⟨_,hx2,by omega⟩))
 refine Jq (Jc (Jf (Jg [0,2,0,0] [(37,Sl a3 c.books.length c3),(38,I (c.books.length:Int)),(39,I 0)] (Jx ?_))))
 have hlm_hs3:c.books.length≤9223372036854775807:=Hg (hs3).le (hs3).max
 refine Qb (σ:=Nat) (fun q_=>(q_≤c.books.length)∧(YG c.heads c.books=YG (c.heads.drop q_) (c.books.drop q_))) (fun q_=>[(1,Pt b1 0),(37,Sl a3 c.books.length c3),(38,I (c.books.length:Int)),(39,I (q_:Int))]) (fun q_=>G) (fun q_=>[[Sg b1 0 (KX c a1 c1 (At b2 o1) c2 a3 c3)]]) (fun q_=>c.books.length-q_) 0 ⟨(by (try dsimp only);exact Hs _),rfl⟩ (fun q_ hs=>?_)
 revert hs;revert q_;intro i hs
 obtain ⟨hi,hn⟩:=hs
 dsimp only
 refine Jg [0] [(40,Bo (decide ((i:Int)<(c.books.length:Int))))] (Jf (Jm (decide ((i:Int)<(c.books.length:Int))) (fun h4=>?_) (fun h4=>?_)))
 refine Jq (Jc (Jf (Jx (Jf (Jd (Jb [0] [(41,I (i:Int))] ?_))))))
 obtain ⟨b3,o2,rfl⟩:=RS.addr hs3 (k:=i) (by omega)
 obtain ⟨x3,hx3⟩:=QW (l:=c.books) (k:=i) (by omega)
 obtain ⟨_,⟨a4,c4,rfl,hs4⟩,hc3⟩:=RS.get hs3 hx3
 refine JY (b:=b3) (off:=o2) (len:=c.books.length) (cap:=c3) (ik:=.i64) 42 44 1 i J5 (JR 43 44 (cs:=[Sl a4 x3.length c4]) 0 (Sl a4 x3.length c4) hc3 (Jb [0,0] [(4,I (i:Int)),(5,Sl a4 x3.length c4)] (Je (Jc (Jf (Jd (Jb [0] [(45,Sl a4 x3.length c4)] (Jl 46 (.tuple #[U ((JW x3 []).1),I ((JW x3 []).2)]) (JbI G a4 c4 x3 hs4) (Jb [0,0,0,0,0] [(6,U ((JW x3 []).1)),(7,I ((JW x3 []).2))] (Je (Jc (Jx (Jg [0,0,0] [(49,Bo (!decide ((JW x3 []).2=0)))] (Jm (!decide ((JW x3 []).2=0)) (fun h5=>?_) (fun h5=>?_)))))))))))))))
 refine Jg [0,0] [(2,I ((JW x3 []).2))] (Jo (Ju (Ju (Jj (Q0 (Ju (Jj (Jp [0] [I ((JW x3 []).2)] (Jy (Jh _) (congrArg I (?_:(QO c)=((JW x3 []).2)).symm))))))))))
 (rw [Jpi hx1 ‹_› ‹_› hx2 (by omega),hn];exact Jld hx3 ‹_›)
 refine Jf (Jd (Jb [0,0,2,0] [(54,U ((JW x3 []).1)),(56,Sl (At b2 o1) c.heads.length c2),(57,I (i:Int))] ?_))
 obtain ⟨x4,hx4⟩:=QW (l:=c.heads) (k:=i) (by omega)
 obtain ⟨_,⟨rfl,_,_,_,_⟩,hc4⟩:=RS.get hs2 hx4
 refine JY (b:=b2) (off:=o1) (len:=c.heads.length) (cap:=c2) (ik:=.i64) 58 43 4 i J5 (Jb [0] [(59,Pt b2 (o1+i*4+1))] (JR 60 41 (cs:=[I x4.epoch,U x4.root,U x4.prev,I x4.at_]) 1 (U x4.root) hc4 (Jb [0,0] [(53,Bo (!decide ((JW x3 []).1=x4.root)))] (Je (Jc (Jm (!decide ((JW x3 []).1=x4.root)) (fun h6=>?_) (fun h6=>?_)))))))
 refine Jg [0] [(2,I 8)] (Jo (Ju (Ju (Jj (Q0 (Ju (Jj (Jp [0] [I 8] (Jy (Jh _) (congrArg I (?_:(QO c)=8).symm))))))))))
 (rw [Jpi hx1 ‹_› ‹_› hx2 (by omega),hn];exact Jle hx3 hx4 ‹_› ‹_›)
 exact Jq (JN (JN (Jc (Jd (Jb [0,0] [(39,I (Hb.wrap ((i:Int)+1)))] (Kp 39 ((i:Int)+1) J5 (Je (Qf (i+1) ⟨J5,(by rw [hn];exact JjK hx3 hx4 ‹_› ‹_›)⟩ (by (try dsimp only);omega)))))))))
 refine KW (J1 (J8 (JT (Jc (Jg [0] [(2,I 0)] (Jo (Jp [0] [I 0] (Jy (Jh _) (congrArg I (?_:(QO c)=0).symm)))))))))
 (rw [Jpi hx1 ‹_› ‹_› hx2 (by omega),hn];(have e_:c.books.drop i=[]:=List.drop_eq_nil_of_le (by omega);rw [e_];simp [YG]))
theorem VK (G:J4) (vs_c:Bv) (c:KL) (h_c:JaJ.R G vs_c c) :Q7 152 #[.agg vs_c.toArray] G (I (Ke c)):=by
 obtain ⟨a1,c1,a2,c2,a3,c3,rfl,w1,hs1,w2,w3,w4,hs2,hs3⟩:=h_c
 refine JS Tryz.func152 50 [(0,(QH c a1 c1 a2 c2 a3 c3))] rfl (fun w0 G0=>?_)
 refine Jf (Jd (Jv 1 #[I c.queue.most,Sl a1 c.queue.wait.length c1,I c.batch,I c.every,I c.now,Sl a2 c.heads.length c2,Sl a3 c.books.length c3] 60 (fun b1=>Jb [0] [] (Je (Jc (Jf (Jf (Jd (Jb [0,2] [(8,.agg #[I c.queue.most,Sl a1 c.queue.wait.length c1])] (Jl 9 (I (Kl c.queue)) (JaK G [I c.queue.most,Sl a1 c.queue.wait.length c1] c.queue (⟨a1,c1,rfl,w1,hs1⟩)) (Jb [0] [(3,I (Kl c.queue))] (Je (Jc (Jg [0,0] [(11,Bo (!decide (Kl c.queue=0)))] (Jm (!decide (Kl c.queue=0)) (fun h1=>?_) (fun h1=>?_))))))))))))))))
 refine Jg [0,0] [(2,I (Kl c.queue))] (Jo (Jj (Jp [0] [I (Kl c.queue)] (Jy (Jh _) (congrArg I (?_:(Ke c)=(Kl c.queue)).symm)))))
 · unfold Ke;(rw [if_pos ‹_›];done)
 refine Jq (Jc (Jf (Jf (Jd (Jb [0,2] [(14,I c.batch)] (Jl 15 (Bo (Yk c.batch 30)) (Jbq G c.batch 30) (Jb [0,0] [(17,Bo (!(Yk c.batch 30)))] (QS [17] (!(Yk c.batch 30)) (fun h2=>?_) (fun h2=>?_)))))))))
 refine Jb [1,1,1,1,0,0,1,1,1,0,0,1,1,1,0] [(32,Bo true)] (Je (Jc (JZ (Jg [0] [(2,I 4)] (Jo (Jj (Jp [0] [I 4] (Jy (Jh _) (congrArg I (?_:(Ke c)=4).symm)))))))))
 · unfold Ke;(rw [if_neg (by simp_all)];(rw [if_pos (by (simp_all;done))];done))
 refine Jb [0,2] [(19,I c.every)] (Jl 20 (Bo (Yk c.every 1000)) (Jbq G c.every 1000) (Jb [0,0,0] [(23,Bo (!(Yk c.every 1000)))] (Kk (!(Yk c.every 1000)) [23] [1,1,1,0] [0,2,0,0] (fun bb=>[(27,Bo (bb || (decide (c.now<0))))]) (Jb [0] [(28,Bo ((!(Yk c.every 1000)) || (decide (c.now<0))))] (Kk ((!(Yk c.every 1000)) || (decide (c.now<0))) [28] [1,1,1,0] [0,2,0,0] (fun bb=>[(32,Bo (bb || (decide (c.now > 1000000000))))]) (Je (Jc (Jm (((!(Yk c.every 1000)) || (decide (c.now<0))) || (decide (c.now > 1000000000))) (fun h3=>?_) (fun h3=>?_)))))))))
 refine Jg [0] [(2,I 4)] (Jo (Jj (Jp [0] [I 4] (Jy (Jh _) (congrArg I (?_:(Ke c)=4).symm)))))
 · unfold Ke;(rw [if_neg (by simp_all)];(rw [if_pos (by (simp_all;grind))];done))
 refine Jq (Jc (Jf (Jf (Jd (Jb [0,2] [(35,Sl a2 c.heads.length c2)] (Jl 36 (.tuple #[I ((Kf c.heads).1),I ((Kf c.heads).2)]) (JaP G a2 c2 c.heads hs2) (Jb [0,0,0,0,0] [(4,I ((Kf c.heads).1))] (Je (Jc (Jg [0,0] [(40,Bo (!decide ((Kf c.heads).1=0)))] (Jm (!decide ((Kf c.heads).1=0)) (fun h4=>?_) (fun h4=>?_))))))))))))
 refine Jg [0,0] [(2,I ((Kf c.heads).1))] (Jo (Jj (Jp [0] [I ((Kf c.heads).1)] (Jy (Jh _) (congrArg I (?_:(Ke c)=((Kf c.heads).1)).symm)))))
 · unfold Ke;(rw [if_neg (by simp_all)];(rw [if_neg (by simp_all)];(rw [if_pos (by (simp_all;done))];done)))
 refine Jq (Jc (Jf (Jf (Jd (Jb [2] [(42,(QH c a1 c1 a2 c2 a3 c3))] (Jl 43 (I (QO c)) (Jgl G (KX c a1 c1 a2 c2 a3 c3) c (⟨a1,c1,a2,c2,a3,c3,rfl,w1,hs1,w2,w3,w4,hs2,hs3⟩) (by (have q_:=Qd.1 ‹_›;have q1_:=q_.len1;have q2_:=q_.len;omega)) (by (have q_:=Qd.1 ‹_›;have q1_:=q_.len1;have q2_:=q_.len;omega))) (Jb [0] [(6,I (QO c))] (Je (Jc (Jg [0,0] [(45,Bo (!decide (QO c=0)))] (Jm (!decide (QO c=0)) (fun h5=>?_) (fun h5=>?_))))))))))))
 refine Jg [0,0] [(2,I (QO c))] (Jo (Jj (Jp [0] [I (QO c)] (Jy (Jh _) (congrArg I (?_:(Ke c)=(QO c)).symm)))))
 · unfold Ke;(rw [if_neg (by simp_all)];(rw [if_neg (by simp_all)];(rw [if_neg (by simp_all)];(rw [if_pos (by (simp_all;done))];done))))
 refine Jq (Jc (Jf (Jf (Jd (Jb [2] [(47,(QH c a1 c1 a2 c2 a3 c3))] (Jl 48 (I (WT c ([]))) (Jci G (KX c a1 c1 a2 c2 a3 c3) c (⟨a1,c1,a2,c2,a3,c3,rfl,w1,hs1,w2,w3,w4,hs2,hs3⟩) none 0 ([]) (JP ES G) (by (obtain ⟨q1_,q2_,q3_,q4_⟩:=JfF (c:=c) ‹_› ‹_› ‹_›;assumption)) (by (obtain ⟨q1_,q2_,q3_,q4_⟩:=JfF (c:=c) ‹_› ‹_› ‹_›;assumption)) (by (obtain ⟨q1_,q2_,q3_,q4_⟩:=JfF (c:=c) ‹_› ‹_› ‹_›;assumption)) (by (obtain ⟨q1_,q2_,q3_,q4_⟩:=JfF (c:=c) ‹_› ‹_› ‹_›;assumption)) (by (simp;done))) (Jb [0] [(49,Bo (decide (WT c ([]) > 24)))] (Je (Jc (Jm (decide (WT c ([]) > 24)) (fun h6=>?_) (fun h6=>?_)))))))))))
 refine Jg [0] [(2,I 7)] (Jo (Jj (Jp [0] [I 7] (Jy (Jh _) (congrArg I (?_:(Ke c)=7).symm)))))
 · unfold Ke;(rw [if_neg (by simp_all)];(rw [if_neg (by simp_all)];(rw [if_neg (by simp_all)];(rw [if_neg (by simp_all)];(rw [if_pos (by (simp_all;done))];done)))))
 refine Jq (Jc (Jg [0] [(2,I 0)] (Jo (Jp [0] [I 0] (Jy (Jh _) (congrArg I (?_:(Ke c)=0).symm))))))
 · unfold Ke;(rw [if_neg (by simp_all)];(rw [if_neg (by simp_all)];(rw [if_neg (by simp_all)];(rw [if_neg (by simp_all)];(rw [if_neg (by simp_all)];done)))))
theorem Jhb (G:J4) (vs_c:Bv) (c:KL) (h_c:JaJ.R G vs_c c) (epoch:Int) (hw_epoch:rI epoch) :YL 193 #[.agg vs_c.toArray,I epoch] G [] (fun u G' L'=>∃ (a1:Ba) (c2:Nat) (r3:Bg),u=.tuple #[Sl a1 (((Ku c epoch).1).length) c2,I ((Ku c epoch).2)]∧(J0 QJ G' a1 c2 ((Ku c epoch).1) r3)∧L'=[r3]):=by
 obtain ⟨a1,c1,a2,c2,a3,c3,rfl,w1,hs1,w2,w3,w4,hs2,hs3⟩:=h_c
 refine JS Tryz.func193 27 [(0,(QH c a1 c1 a2 c2 a3 c3)),(1,I epoch)] rfl (fun w0 G0=>?_)
 refine Jf (Jd (Jv 2 #[I c.queue.most,Sl a1 c.queue.wait.length c1,I c.batch,I c.every,I c.now,Sl a2 c.heads.length c2,Sl a3 c.books.length c3] 60 (fun b1=>Jb [0,0] [] (Je (Jc (Jf (Jf (Jd (Jb [2] [(7,(QH c a1 c1 a2 c2 a3 c3))] (Jl 8 (I (Ke c)) (VK G (KX c a1 c1 a2 c2 a3 c3) c (⟨a1,c1,a2,c2,a3,c3,rfl,w1,hs1,w2,w3,w4,hs2,hs3⟩)) (Jb [0] [(6,I (Ke c))] (Je (Jc (Jg [0,0] [(10,Bo (!decide (Ke c=0)))] (Jm (!decide (Ke c=0)) (fun h1=>?_) (fun h1=>?_))))))))))))))))
 refine Jg [0,0,0] [(4,Sl none 0 0),(5,I (Ke c))] (Jo (Jj (ZN (Jk 0 ?_))))
 have hf1:Ku c epoch=([],Ke c):=by
  unfold Ku;simp_all
 refine Jp [0,0] [Sl none 0 0,I (Ke c)] (JB [[]] (Jh _) ?_)
 rw [hf1]
 try dsimp only
 exact ⟨none,0,([]),rfl,(J0.none QJ _),rfl⟩
 refine Jq (Jc (Jf (Jf (Jd (Jb [0,0,0] [(14,Bo (decide (epoch<0)))] (Kk (decide (epoch<0)) [14] [1,1,1,1,1,0] [0,0,2,0,0,0] (fun bb=>[(20,Bo (bb || (decide (epoch ≥ (c.books.length:Int)))))]) (Je (Jc (Jm ((decide (epoch<0)) || (decide (epoch ≥ (c.books.length:Int)))) (fun h2=>?_) (fun h2=>?_))))))))))
 refine Jg [0,0] [(4,Sl none 0 0),(5,I 4)] (Jo (Jj (ZN (Jk 0 ?_))))
 have hf2:Ku c epoch=([],4):=by
  unfold Ku;simp_all
 refine Jp [0,0] [Sl none 0 0,I 4] (JB [[]] (Jh _) ?_)
 rw [hf2]
 try dsimp only
 exact ⟨none,0,([]),rfl,(J0.none QJ _),rfl⟩
 refine Jq (Jc (Jf (Jd (Jb [0,2,0] [(22,Sl a3 c.books.length c3),(23,I epoch)] ?_))))
 obtain ⟨kn1,hkn1⟩:∃ k_:Nat,epoch=(k_:Int):=⟨(epoch).toNat,by omega⟩
 have e1:epoch=(kn1:Int):=hkn1
 refine KE 23 (I (kn1:Int)) (congrArg I e1) ?_
 obtain ⟨b2,o1,rfl⟩:=RS.addr hs3 (k:=kn1) (by omega)
 obtain ⟨x1,hx1⟩:=QW (l:=c.books) (k:=kn1) (by omega)
 obtain ⟨_,⟨a4,c4,rfl,hs4⟩,hc1⟩:=RS.get hs3 hx1
 refine JY (b:=b2) (off:=o1) (len:=c.books.length) (cap:=c3) (ik:=.i64) 24 44 1 kn1 J5 (JR 25 44 (cs:=[Sl a4 x1.length c4]) 0 (Sl a4 x1.length c4) hc1 (JM 26 (YO G a4 c4 x1 hs4) (fun v G1 L1 hl1 hp=>?_)))
 obtain ⟨a5,c5,r1,rfl,hr1,rfl⟩:=hp
 refine Jb [0,0] [(4,Sl a5 x1.length c5),(5,I 0)] (Je (Jc (Jo (Jk 0 ?_))))
 have hf3:Ku c epoch=(x1,0):=by
  unfold Ku;simp_all
 refine Jp [0,0] [Sl a5 x1.length c5,I 0] (JB [r1] hl1 ?_)
 rw [hf3]
 try dsimp only
 exact ⟨a5,c5,r1,rfl,hr1,rfl⟩
theorem Jpk {α:Type} {x b:List α} {i:Nat} {v:α} (h:x.take i=b.take i) (hi:i<x.length) (hv:b[i]? = some v):(x.set i v).take (i+1)=b.take (i+1):=by
 rw [Hj,List.take_set_of_le (Nat.le_refl _),h,Hj,hv,HL hi]
theorem Jlg {α:Type} {x b:List α} {i:Nat} (hl:x.length=b.length) (h:x.take i=b.take i) (hi:b.length≤i):x=b:=by
 rw [Hk (by omega),Hk hi] at h;exact h
def Zm (c:KL):Bool:=decide ((c.heads.length:Int)=40) || decide (c.now=1000000000)
def Kx (c:KL) (a:Zn):KL×Int×Int:=if ¬ Ke c=0 then (Yi,0,Ke c) else if ¬ (JU c.queue a).2.2=0∧¬ (JU c.queue a).2.2=7 then (Yi,0,(JU c.queue a).2.2) else if Zm c=true then (Yi,0,9) else if (JU c.queue a).2.2=7∨WT c [a.name] > 24 then (Yi,0,7) else (⟨(JU c.queue a).1,c.batch,c.every,c.now,c.heads,c.books⟩,c.now-c.now.tmod c.every+(Qo (JU c.queue a).2.1 c.batch c.every).1,0)
def JaU (b:List J3) (l:List Zn):List J3:=l.foldl (fun b a=>(Qj b a.name a.value).1) b
theorem JjL {b:List J3} {l:List Zn} {i:Nat} {a:Zn} (h:l[i]? = some a):(Qj (JaU b (l.take i)) a.name a.value).1=JaU b (l.take (i+1)):=by
 unfold JaU;rw [Hj,h];simp [HB]
def YW (c:KL):List J3:=JaU (WG c.books) (J6 c.queue c.batch).2.1
def KM (c:KL):KL×Bool×Int:=if ¬ Ke c=0 then (Yi,false,Ke c) else if Zm c=true then (c,false,0) else if ¬ (c.now+1).tmod c.every=0 then (⟨c.queue,c.batch,c.every,c.now+1,c.heads,c.books⟩,false,0) else (⟨(J6 c.queue c.batch).1,c.batch,c.every,c.now+1,(QE c.heads (JW (YW c) []).1 (c.now+1)).1,c.books++[YW c]⟩,true,0)
theorem Je2 {b:List J3} (h:Wd b):(KR b).Nodup:=by
 unfold KR
 refine List.pairwise_map.2 (h.pair.imp fun {x y} hxy e=>?_)
 rw [Z1.2 e] at hxy;omega
theorem JbN {b:List J3} {s:Bb}:s∈KR b ↔ ∃ x∈b,x.name=s:=by unfold KR;simp
theorem Zs {b:List Zn} {s:Bb}:s∈QB b ↔ ∃ x∈b,x.name=s:=by unfold QB;simp
theorem Je3 {b:List J3} {name value:Bb} (h:Wd b) (hr:KK name value=0) (hf:name∈KR b∨b.length<24):(Qj b name value).2=0:=by
 have hp:=(Jgd hr).2.2
 have e1:JG b name=((bsF b name Q2).1,(bsF b name Q2).2,0):=by
  unfold JG;rw [if_neg (by rw [KS.2 h];simp),if_neg (by rw [hp];simp)]
 have e2:Zt b name value=0:=by
  unfold Zt
  rw [e1,if_neg (by simp),if_neg (by rw [hr];simp),if_neg]
  rintro ⟨q1,q2⟩
  rcases hf with hf | hf
  ·
   have:=(Jit h name).2 (JbN.1 hf)
   rw [this] at q1;cases q1
  · omega
 unfold Qj
 rw [if_neg (by omega)]
theorem JeA {b:List J3} {name value:Bb} (h:(Qj b name value).2=0) {s:Bb}:s∈KR (Qj b name value).1 ↔ s=name∨s∈KR b:=by
 obtain ⟨_,_,_,q⟩:=VW h
 rw [JbN,JbN]
 constructor
 ·
  rintro ⟨x,hx,rfl⟩
  rcases (q x).1 hx with e | ⟨e,_⟩
  · exact .inl (by rw [e])
  · exact .inr ⟨x,e,rfl⟩
 ·
  rintro (rfl | ⟨x,hx,rfl⟩)
  · exact ⟨_,(q _).2 (.inl rfl),rfl⟩
  ·
   by_cases e:x.name=name
   · exact ⟨_,(q _).2 (.inl rfl),e.symm⟩
   · exact ⟨x,(q x).2 (.inr ⟨hx,e⟩),rfl⟩
theorem JeB {a:Zn} (h:Kw a=0):KK a.name a.value=0:=h
theorem JhI:∀ (l:List Zn) (b:List J3),Wd b→(∀ a∈l,Kw a=0)→nn (KR b++QB l)≤24 →
  Wd (JaU b l)∧(∀ s,s∈KR (JaU b l) ↔ s∈KR b∨s∈QB l)
 | [],b,h,_,_=>⟨h,fun s=>by simp [JaU,QB]⟩
 | a::l,b,h,hr,hn=>by
  have ha:=JeB (hr a (by simp))
  have hf:a.name∈KR b∨b.length<24:=by
   by_cases e:a.name∈KR b
   · exact .inl e
   ·
    right
    have h1:(a.name::KR b).Nodup:=HM.2 ⟨e,Je2 h⟩
    have h2:=Jgg h1
    have h3:nn (a.name::KR b)≤nn (KR b++QB (a::l)):=JbM fun x hx=>by
     rcases Ht.1 hx with rfl | hx
     · exact Hf.2 (.inr (Zs.2 ⟨a,by simp,rfl⟩))
     · exact Hf.2 (.inl hx)
    simp only [He] at h2
    have:(KR b).length=b.length:=by simp [KR]
    omega
  have hs:=Je3 h ha hf
  have hok:=(VW hs).2.2.1
  have hmem:∀ s,s∈KR (Qj b a.name a.value).1++QB l→s∈KR b++QB (a::l):=fun s hs'=>by
   rcases Hf.1 hs' with q | q
   ·
    rcases (JeA hs).1 q with rfl | q
    · exact Hf.2 (.inr (Zs.2 ⟨a,by simp,rfl⟩))
    · exact Hf.2 (.inl q)
   · exact Hf.2 (.inr (by simp only [QB,HJ,Ht];exact .inr q))
  obtain ⟨q1,q2⟩:=JhI l _ hok (fun x hx=>hr x (by simp [hx])) (Hg (JbM hmem) hn)
  refine ⟨q1,fun s=>?_⟩
  show s∈KR (JaU (Qj b a.name a.value).1 l) ↔ _
  rw [q2 s,JeA hs]
  simp only [QB,HJ,Ht]
  constructor
  ·
   rintro ((h | h) | h)
   · exact .inr (.inl h)
   · exact .inl h
   · exact .inr (.inr h)
  ·
   rintro (h | h | h)
   · exact .inl (.inr h)
   · exact .inl (.inl h)
   · exact .inr h
theorem Za.last {c:KL} (h:Za c):c.books[c.books.length-1]? = some (WG c.books):=by
 have:=h.len;have:=h.chain.len1
 have hl:c.books.length-1<c.books.length:=by omega
 unfold WG;rw [Hl hl];rfl
theorem Za.book {c:KL} (h:Za c) {k:Nat} {x:List J3} (hx:c.books[k]? = some x):Wd x:=(Jdi (h.root k x hx).1).1
theorem Za.bds {c:KL} (h:Za c):0<c.books.length∧c.books.length≤1000∧(WG c.books).length≤1000∧c.queue.wait.length≤1000∧1≤c.heads.length∧c.heads.length≤40:=by
 have h1:=K6.1 h.queue
 have:=h.len;have:=h.chain.len1;have:=h.chain.len
 have:=(h.book h.last).len
 omega
theorem Yl {c:KL} (h:Ke c=0):(0<c.books.length∧c.books.length≤1000∧(WG c.books).length≤1000∧c.queue.wait.length≤1000∧1≤c.heads.length∧c.heads.length≤40)∧(0≤c.now∧c.now≤1000000000)∧(1≤c.batch∧c.batch≤30)∧1≤c.every∧c.every≤1000 :=
 let q:=WM.1 h
 ⟨q.bds,q.now,q.batch,q.every⟩
theorem Jcj {c:KL} {a:Zn} (h:(Kx c a).2.2=0):Za c∧(JU c.queue a).2.2=0∧Zm c=false∧nn (Jas c [a.name])≤24∧Kx c a=(⟨(JU c.queue a).1,c.batch,c.every,c.now,c.heads,c.books⟩,c.now-c.now.tmod c.every+(Qo (JU c.queue a).2.1 c.batch c.every).1,0):=by
 unfold Kx at h ⊢
 split at h
 · contradiction
 split at h
 · rename_i h1 h2;exact absurd h h2.1
 split at h
 · cases h
 split at h
 · cases h
 ·
  rename_i h1 h2 h3 h4
  rw [if_neg h1,if_neg h2,if_neg h3,if_neg h4]
  simp only [not_or] at h4
  have h5:=h4.2;unfold WT at h5
  exact ⟨WM.1 (Hc.1 h1),by apply Decidable.byContradiction;intro hc;exact h2 ⟨hc,h4.1⟩,by simpa using h3,by omega,rfl⟩
theorem Jgm {c:KL} {a:Zn} (h:(Kx c a).2.2=0):Za (Kx c a).1:=by
 obtain ⟨ok,hq,_,hn,e⟩:=Jcj h
 rw [e]
 obtain ⟨_,_,_,e2⟩:=Jb7 hq
 refine ⟨Jf2 hq,ok.batch,ok.every,ok.now,ok.chain,ok.first,ok.len,ok.at_,ok.root,?_⟩
 refine Hg (JbM fun x hx=>?_) hn
 unfold Jas at hx ⊢
 rw [e2] at hx
 simp only [QB,List.map_append,HJ,List.map_nil,Hf,List.mem_singleton,List.not_mem_nil,or_false] at hx ⊢
 rcases hx with h | h | h
 · exact .inl (.inl h)
 · exact .inl (.inr h)
 · exact .inr h
theorem Jpl {c:KL} (h:Za c) (hc:Zm c=false) {r:Int} (hr:r<2305843009213693951):(QE c.heads r (c.now+1)).2=0∧QE c.heads r (c.now+1)=(c.heads++[(Jz (Zg c.heads) r (c.now+1)).1],0)∧(Jz (Zg c.heads) r (c.now+1)).2=0:=by
 unfold Zm at hc
 simp only [HD,decide_eq_false_iff_not] at hc
 have hn:=h.now
 have he:(Jz (Zg c.heads) r (c.now+1)).2=0:=by
  have hk:JO (Zg c.heads)=0:=h.chain.ok _ (Hr h.chain.last)
  have hl:=h.chain.lastE
  have hf:=h.first
  have hlen:=h.chain.len
  have ha:=h.at_
  have hb:=JeT (Zg c.heads)
  have hb2:=Zf hk
  unfold Jz
  have:YE (Zg c.heads) r (c.now+1)=0:=by
   unfold YE
   rw [if_neg (by omega),if_neg (by omega),if_neg (by omega)]
   unfold JO
   simp only
   rw [if_neg (by omega),if_neg (by omega)]
  rw [if_neg (by omega)]
 have hg:Yh c.heads r (c.now+1)=0:=by
  unfold Yh
  rw [if_neg (by rw [QN.2 h.chain];simp),if_neg (by exact_mod_cast hc.1),he]
 refine ⟨?_,?_,he⟩ <;> (unfold QE;rw [if_neg (by omega)])
theorem Jhc (l:List JV) (r t:Int):(QE l r t).1.length≤40:=by
 by_cases h:(QE l r t).2=0
 ·
  obtain ⟨_,h2,_,h4⟩:=JdQ h
  rw [h4];simp;omega
 · rw [Jg2 h];simp
theorem Jbb {c:KL} (h:Za c):(J6 c.queue c.batch).2.2=0∧J6 c.queue c.batch=((⟨c.queue.most,c.queue.wait.drop (Q1 c.batch c.queue.wait)⟩:QY),c.queue.wait.take (Q1 c.batch c.queue.wait),(0:Int)):=by
 have hq:=h.queue;have hb:=h.batch
 constructor <;> (unfold J6;rw [if_neg (by omega),if_neg (by omega)])
theorem Je4 {c:KL} (h:Za c):Wd (YW c)∧(∀ s,s∈KR (YW c) ↔ s∈KR (WG c.books)∨s∈QB (c.queue.wait.take (Q1 c.batch c.queue.wait))):=by
 unfold YW
 rw [(Jbb h).2]
 refine JhI _ _ (h.book h.last) (fun a ha=>(K6.1 h.queue).2.2.2 a (HE ha)) (Hg (JbM fun x hx=>?_) h.names)
 unfold Jas
 rcases Hf.1 hx with q | q
 · simp [q]
 ·
  obtain ⟨a,ha,rfl⟩:=Zs.1 q
  have:a.name∈QB c.queue.wait:=Zs.2 ⟨a,HE ha,rfl⟩
  simp [this]
theorem Jlh (l:List (List J3)) (x:List J3):WG (l++[x])=x:=by unfold WG;simp
theorem Jli {l:List JV} (h:1≤l.length) (m:List JV):W6 (l++m)=W6 l:=by
 unfold W6;rw [Hw (by omega)]
theorem Jlj (l:List JV) (x:JV):Zg (l++[x])=x:=by unfold Zg;simp
structure Ticked (c d:KL):Prop where
 ok:Za d
 batch:d.batch=c.batch
 every:d.every=c.every
 heads:∃ m,d.heads=c.heads++m
 books:∃ m,d.books=c.books++m
theorem JbO {c:KL} (h:Za c):(KM c).2.2=0∧Ticked c (KM c).1:=by
 have h0:=WM.2 h
 unfold KM
 rw [if_neg (by omega)]
 by_cases h1:Zm c=true
 · rw [if_pos h1];exact ⟨rfl,h,rfl,rfl,⟨[],by simp⟩,⟨[],by simp⟩⟩
 rw [if_neg h1]
 have h1':Zm c=false:=by simpa using h1
 have hnow:c.now+1≤1000000000:=by
  have:=h.now;unfold Zm at h1';simp only [HD,decide_eq_false_iff_not] at h1';omega
 by_cases h2:(c.now+1).tmod c.every=0
 ·
  rw [if_neg (by omega)]
  obtain ⟨t1,t2⟩:=Je4 h
  have hroot:=JaO (q:=[]) t1 (by simp) (by simp)
  have hb:=Jcg (KB (YW c) []) []
  have hr:(JW (YW c) []).1<2305843009213693951:=by rw [hroot];exact hb.2
  obtain ⟨g1,g2,g3⟩:=Jpl h h1' hr
  obtain ⟨k1,k2⟩:=Jk9 g3
  obtain ⟨u1,u2⟩:=Jbb h
  have hlen1:=h.chain.len1
  have hlt:c.heads.length<40:=(JdQ g1).2.1
  rw [g2]
  have hbk:=h.len
  have hnx:=(Ja0 g3).2.2.2.1
  refine ⟨rfl,⟨Jfn u1,h.batch,h.every,⟨by have:=h.now;show 0≤c.now+1;omega,hnow⟩,h.chain.snoc hlt k2 k1,?_,?_,?_,?_,?_⟩,rfl,rfl,⟨_,rfl⟩,⟨_,rfl⟩⟩
  · show (W6 (c.heads++_)).epoch=0;rw [Jli hlen1];exact h.first
  · simp only [Hd,He,Hi];omega
  · show (Zg (c.heads++_)).at_≤c.now+1;rw [Jlj,hnx];exact Int.le_refl _
  ·
   intro k x hx
   simp only at hx ⊢
   by_cases hk:k<c.books.length
   ·
    rw [Hw hk] at hx
    rw [Hw (by omega)]
    exact h.root k x hx
   ·
    rw [HI (by omega)] at hx
    have hk2:k-c.books.length=0:=by
     have:=(Hq.1 hx).1;simp at this;omega
    rw [hk2] at hx
    simp only [Hy,HO.injEq] at hx
    subst hx
    rw [HI (by omega),show k-c.heads.length=0 by omega]
    refine ⟨by rw [hroot],?_⟩
    show _=(Jz _ _ _).1.root
    rw [hnx]
  ·
   refine Hg (JbM fun x hx=>?_) h.names
   unfold Jas at hx ⊢
   simp only [Jlh,List.append_nil] at hx ⊢
   rw [u2] at hx
   rcases Hf.1 hx with q | q
   ·
    rcases (t2 x).1 q with q | q
    · exact Hf.2 (.inl q)
    ·
     obtain ⟨a,ha,rfl⟩:=Zs.1 q
     exact Hf.2 (.inr (Zs.2 ⟨a,HE ha,rfl⟩))
   ·
    obtain ⟨a,ha,rfl⟩:=Zs.1 q
    exact Hf.2 (.inr (Zs.2 ⟨a,List.mem_of_mem_drop ha,rfl⟩))
 ·
  rw [if_pos h2]
  refine ⟨rfl,⟨h.queue,h.batch,h.every,⟨by have:=h.now;show 0≤c.now+1;omega,hnow⟩,h.chain,h.first,h.len,?_,h.root,h.names⟩,rfl,rfl,⟨[],by simp⟩,⟨[],by simp⟩⟩
  have:=h.at_;show (Zg c.heads).at_≤c.now+1;omega
theorem JcV {c:KL} (h:Za c):((KM c).1.now=c.now∧Zm c=true)∨(Zm c=false∧(KM c).1.now=c.now+1):=by
 have h0:=WM.2 h
 unfold KM
 rw [if_neg (by omega)]
 by_cases h1:Zm c=true
 · rw [if_pos h1];exact .inl ⟨rfl,h1⟩
 ·
  rw [if_neg h1]
  refine .inr ⟨by simpa using h1,?_⟩
  split <;> rfl
theorem JqQ {n e:Int} (h:0≤n):n.tmod e=n % e:=Int.tmod_eq_emod_of_nonneg h
theorem Jau {n e:Int} (h:0≤n) (he:1≤e):0≤n.tmod e∧n.tmod e≤n∧n.tmod e<e:=by
 rw [JqQ h]
 have h2:=Int.emod_nonneg n (show e ≠ 0 by omega)
 have h3:=Int.emod_lt_of_pos n (show 0<e by omega)
 have h1:=Int.emod_add_mul_ediv n e
 have h4:0≤e*(n / e):=Int.mul_nonneg (by omega) (Int.ediv_nonneg h (by omega))
 omega
theorem Jgn (a b e:Int):0≤(Qo a b e).1∧(Qo a b e).1≤31000:=by
 unfold Qo
 split
 · simp
 ·
  have h1:=Jfx (a:=a) (b:=b) (by omega) (by omega)
  have h2:=Jl4 (a:=a.tdiv b+1) (b:=e) (by omega) (by omega)
  simp only;omega
theorem Je5 (G:J4) (vs_c:Bv) (c:KL) (h_c:JaJ.R G vs_c c) :Q7 154 #[.agg vs_c.toArray] G (Bo (Zm c)):=by
 obtain ⟨a1,c1,a2,c2,a3,c3,rfl,_,_,_,_,_,_,_⟩:=h_c
 refine JS Tryz.func154 12 [(0,(QH c a1 c1 a2 c2 a3 c3))] rfl (fun w0 G0=>?_)
 refine Jf (Jd (Jv 1 #[I c.queue.most,Sl a1 c.queue.wait.length c1,I c.batch,I c.every,I c.now,Sl a2 c.heads.length c2,Sl a3 c.books.length c3] 60 (fun b1=>Jb [0] [] (Je (Jc (Jf (Jd (Jb [0,2,0,0,0] [(7,Bo (decide ((c.heads.length:Int)=40)))] (Kk (decide ((c.heads.length:Int)=40)) [7] [1,1,1,0] [0,2,0,0] (fun bb=>[(11,Bo (bb || (decide (c.now=1000000000))))]) (Jb [0] [(2,Bo ((decide ((c.heads.length:Int)=40)) || (decide (c.now=1000000000))))] (Je (Jc (Jo (Jp [0] [Bo ((decide ((c.heads.length:Int)=40)) || (decide (c.now=1000000000)))] (Jy (Jh _) (congrArg Bo (?_:(Zm c)=((decide ((c.heads.length:Int)=40)) || (decide (c.now=1000000000)))).symm))))))))))))))))
 rfl
theorem Je6 (G:J4) (vs_c:Bv) (c:KL) (h_c:JaJ.R G vs_c c) (hb:c.books.length≤1000):YL 156 #[.agg vs_c.toArray] G [] (fun u G' L'=>∃ (a1:Ba) (c2:Nat) (a3:Ba) (c4:Nat) (a5:Ba),u=.agg #[I c.queue.most,Sl a1 c.queue.wait.length c2,I c.batch,I c.every,I c.now,Sl a3 c.heads.length c4,Sl a5 c.books.length c.books.length]∧(rI c.queue.most)∧(RS Q4 G' a1 c2 c.queue.wait)∧(rI c.batch)∧(rI c.every)∧(rI c.now)∧(RS KG G' a3 c4 c.heads)∧(RS Qi G' a5 c.books.length c.books)∧L'=[]):=by
 obtain ⟨a1,c1,a2,c2,a3,c3,rfl,w1,hs1,w2,w3,w4,hs2,hs3⟩:=h_c
 refine JS Tryz.func156 37 [(0,(QH c a1 c1 a2 c2 a3 c3))] rfl (fun w0 G0=>?_)
 refine Jf (Jd (Jv 1 #[I c.queue.most,Sl a1 c.queue.wait.length c1,I c.batch,I c.every,I c.now,Sl a2 c.heads.length c2,Sl a3 c.books.length c3] 60 (fun b1=>Jv 2 #[I 0,Sl none 0 0,I 0,I 0,I 0,Sl none 0 0,Sl none 0 0] 60 (fun b2=>Je (Jc (Jf (Jd (Jb [0,0,4] [(8,Sl a1 c.queue.wait.length c1)] (JM 9 (YP G a1 c1 c.queue.wait hs1) (fun v G1 L1 hl1 hp=>?_))))))))))
 obtain ⟨a4,c4,r1,rfl,hr1,rfl⟩:=hp
 refine JX [0,0,7] [] [r1,[Sg b2 0 [I 0,Sl none 0 0,I 0,I 0,I 0,Sl none 0 0,Sl none 0 0]],[Sg b1 0 (KX c a4 c4 a2 c2 a3 c3)]] (Je (Jc (Jf (Jd (Jb [0,6] [(13,Sl a2 c.heads.length c2)] (JM 14 (VH G1 a2 c2 c.heads (hs2.mono hl1)) (fun v G2 L1 hl2 hp=>?_)))))))
 obtain ⟨a5,c5,r2,rfl,hr2,rfl⟩:=hp
 refine JX [0,9] [] [r2,r1,[Sg b2 0 [I 0,Sl none 0 0,I 0,I 0,I 0,Sl none 0 0,Sl none 0 0]],[Sg b1 0 (KX c a4 c4 a5 c5 a3 c3)]] (Je (Jc (Jf (Jd (Jb [0,8,0] [(18,I (c.books.length:Int))] (Jgh (E:=Qi) (bytes:=24) 19 58 44 c.books.length ([]:List J3) ⟨rfl,rfl,fun G=>⟨_,_,rfl,JP QJ G⟩⟩ J5 J5 (by kernel_rfl) (fun a6 r3 hr3=>Jb [0] [(3,Sl a6 ((HF c.books.length ([]:List J3)).length) c.books.length)] (Je (Jc (Jf (Jg [0,10,0,0] [(21,Sl a3 c.books.length c3),(22,I (c.books.length:Int)),(23,I 0)] (Jx ?_))))))))))))
 have hlm_hs3:c.books.length≤9223372036854775807:=Hg (hs3).le (hs3).max
 refine Qb (σ:=Nat×Ba×Nat×Bg×List (List J3)×J4) (fun q_=>(J4.le G2 q_.2.2.2.2.2)∧(q_.1≤c.books.length)∧(J0 Qi q_.2.2.2.2.2 q_.2.1 q_.2.2.1 q_.2.2.2.2.1 q_.2.2.2.1)∧(q_.2.2.2.2.1.length=c.books.length∧q_.2.2.2.2.1.take q_.1=c.books.take q_.1)∧(q_.2.2.1=q_.2.2.2.2.1.length)) (fun q_=>[(1,Pt b1 0),(2,Pt b2 0),(3,Sl q_.2.1 q_.2.2.2.2.1.length q_.2.2.1),(21,Sl a3 c.books.length c3),(22,I (c.books.length:Int)),(23,I (q_.1:Int))]) (fun q_=>q_.2.2.2.2.2) (fun q_=>[q_.2.2.2.1,r2,r1,[Sg b2 0 [I 0,Sl none 0 0,I 0,I 0,I 0,Sl none 0 0,Sl none 0 0]],[Sg b1 0 (KX c a4 c4 a5 c5 a3 c3)]]) (fun q_=>c.books.length-q_.1) (0,a6,c.books.length,r3,(HF c.books.length ([]:List J3)),G2) ⟨(Jh _),(by (try dsimp only);exact Hs _),hr3,⟨by simp,rfl⟩,(by (try dsimp only);simp)⟩ (fun q_ hs=>?_)
 obtain ⟨i,aw,cw,rw,xw,g⟩:=q_
 obtain ⟨hle,hi,hrw,hxw,hcw⟩:=hs
 dsimp only at hle hi hrw hxw hcw
 dsimp only
 refine Jg [0] [(24,Bo (decide ((i:Int)<(c.books.length:Int))))] (Jf (Jm (decide ((i:Int)<(c.books.length:Int))) (fun h1=>?_) (fun h1=>?_)))
 refine Jq (Jc (Jf (Jx (Jf (Jd (Jb [0] [(25,I (i:Int))] ?_))))))
 obtain ⟨b3,o1,rfl⟩:=RS.addr (hs3.mono (Ja (Ja hl1 hl2) hle)) (k:=i) (by omega)
 obtain ⟨x1,hx1⟩:=QW (l:=c.books) (k:=i) (by omega)
 obtain ⟨_,⟨a7,c6,rfl,hs4⟩,hc1⟩:=RS.get (hs3.mono (Ja (Ja hl1 hl2) hle)) hx1
 refine JY (b:=b3) (off:=o1) (len:=c.books.length) (cap:=c3) (ik:=.i64) 26 44 1 i J5 (JR 27 44 (cs:=[Sl a7 x1.length c6]) 0 (Sl a7 x1.length c6) hc1 (Jb [0,0] [(4,I (i:Int)),(5,Sl a7 x1.length c6)] (Je (Jc (Jd (Jb [0,0,0] [(28,Sl aw xw.length cw),(29,I (i:Int)),(30,Sl a7 x1.length c6)] (JM 31 (YO g a7 c6 x1 hs4) (fun v G3 L1 hl3 hp=>?_))))))))
 obtain ⟨a8,c7,_,rfl,hr4,rfl⟩:=hp
 obtain ⟨_,hx2⟩:=QW (l:=xw) (k:=i) (by omega)
 obtain ⟨b4,o2,_,_,⟨_,_,rfl,_⟩,ha1,_,_⟩:=J0.ix (hrw.mono hl3) hx2
 refine Qv (b:=b4) (off:=o2) (len:=xw.length) (cap:=cw) (ik:=.i64) 32 44 1 i ha1 J5 (WC (E:=QJ) 0 hr4 (by exact (hs4).fit) (fun G4 hl4 hs6=>YA (b:=b4) (off:=o2) 1 (hrw.mono (Ja hl3 hl4)) i x1 ha1 J5 (Sl a8 x1.length c7) [Sl a8 x1.length c7] ⟨a8,c7,rfl,hs6⟩ (fun r5 hr5=>?_)))
 have e1:xw.length=(xw.set i x1).length:=(Hx ..).symm
 exact KE 3 (Sl aw ((xw.set i x1).length) cw) (congrArg (Sl aw · cw) e1) (KE 28 (Sl aw ((xw.set i x1).length) cw) (congrArg (Sl aw · cw) e1) (Je (JN (Jc (Jd (Jb [0,0] [(23,I (Hb.wrap ((i:Int)+1)))] (Kp 23 ((i:Int)+1) J5 (Je (QA [r5,r2,r1,[Sg b2 0 [I 0,Sl none 0 0,I 0,I 0,I 0,Sl none 0 0,Sl none 0 0]],[Sg b1 0 (KX c a4 c4 a5 c5 (At b3 o1) c3)]] (Qf (i+1,aw,cw,r5,xw.set i x1,G4) ⟨(Ja hle (Ja hl3 hl4)),J5,hr5,⟨by simp only [Hx];exact hxw.1,Jpk hxw.2 J5 hx1⟩,(by simp only [Hx];exact hcw)⟩ (by (try dsimp only);omega)))))))))))
 refine KW (J1 (J8 (JT (Jc (QF [0,0,11] [] [rw,r2,r1,[Sg b2 0 [I 0,Sl none 0 0,I 0,I 0,I 0,Sl none 0 0,Sl none 0 0]],[Sg b1 0 [I c.queue.most,Sl a4 c.queue.wait.length c4,I c.batch,I c.every,I c.now,Sl a5 c.heads.length c5,Sl aw xw.length cw]]] (QF [10,9] [] [rw,r2,r1,[Sg b2 0 [I c.queue.most,Sl a4 c.queue.wait.length c4,I c.batch,I c.every,I c.now,Sl a5 c.heads.length c5,Sl aw xw.length cw]],[Sg b1 0 [I c.queue.most,Sl a4 c.queue.wait.length c4,I c.batch,I c.every,I c.now,Sl a5 c.heads.length c5,Sl aw xw.length cw]]] (Jo ?_)))))))
 subst hcw
 refine Wm (E:=Q4) 2 (hr1.mono (Ja hl2 hle)) (by exact (hs1).fit) (fun G5 hl5 hs7=>Wm (E:=KG) 1 (hr2.mono (Ja hle hl5)) (by exact (hs2.mono hl1).fit) (fun G6 hl6 hs8=>Wm (E:=Qi) 0 (hrw.mono (Ja hl5 hl6)) (by simp only [Qi];omega) (fun G7 hl7 hs9=>?_)))
 have hf1:c=(⟨c.queue,c.batch,c.every,c.now,c.heads,xw⟩:KL):=by
  have e_:xw=c.books:=Jlg hxw.1 hxw.2 (by omega);subst e_;rfl
 refine Jp [3] [.agg #[I c.queue.most,Sl a4 c.queue.wait.length c4,I c.batch,I c.every,I c.now,Sl a5 c.heads.length c5,Sl aw xw.length xw.length]] (JB [] (Ja (Ja (Ja (Ja (Ja hl1 hl2) hle) hl5) hl6) hl7) ?_)
 rw [hf1]
 try dsimp only
 exact ⟨a4,c4,a5,c5,aw,rfl,w1,(hs7.mono (Ja hl6 hl7)),w2,w3,w4,(hs8.mono hl7),hs9,rfl⟩
theorem JdW (G:J4) (vs_c:Bv) (c:KL) (h_c:JaJ.R G vs_c c) (vs_a:Bv) (a:Zn) (h_a:Q4.R G vs_a a) :YL 103 #[.agg vs_c.toArray,.agg vs_a.toArray] G [] (fun u G' L'=>∃ (a1:Ba) (c2:Nat) (a3:Ba) (c4:Nat) (a5:Ba) (c6:Nat),u=.tuple #[.agg #[I (((Kx c a).1).queue.most),Sl a1 ((((Kx c a).1).queue.wait).length) c2,I (((Kx c a).1).batch),I (((Kx c a).1).every),I (((Kx c a).1).now),Sl a3 ((((Kx c a).1).heads).length) c4,Sl a5 ((((Kx c a).1).books).length) c6],I ((Kx c a).2.1),I ((Kx c a).2.2)]∧(rI (((Kx c a).1).queue.most))∧(RS Q4 G' a1 c2 (((Kx c a).1).queue.wait))∧(rI (((Kx c a).1).batch))∧(rI (((Kx c a).1).every))∧(rI (((Kx c a).1).now))∧(RS KG G' a3 c4 (((Kx c a).1).heads))∧(RS Qi G' a5 c6 (((Kx c a).1).books))∧(rI ((Kx c a).2.1))∧L'=[]):=by
 obtain ⟨a1,c1,a2,c2,a3,c3,rfl,w1,hs1,w2,w3,w4,hs2,hs3⟩:=h_c
 obtain ⟨rfl,w5,w6,w7,w8⟩:=h_a
 refine JS Tryz.func103 76 [(0,(QH c a1 c1 a2 c2 a3 c3)),(1,.agg #[Sr a.name,Sr a.value,U a.n,U a.tag])] rfl (fun w0 G0=>?_)
 refine Jf (Jd (Jv 2 #[I c.queue.most,Sl a1 c.queue.wait.length c1,I c.batch,I c.every,I c.now,Sl a2 c.heads.length c2,Sl a3 c.books.length c3] 60 (fun b1=>Jv 3 #[Sr a.name,Sr a.value,U a.n,U a.tag] 182 (fun b2=>Jv 4 #[I 0,Sl none 0 0,I 0,I 0,I 0,Sl none 0 0,Sl none 0 0] 60 (fun b3=>Jb [0,0] [] (Je (Jc (Jf (Jf (Jd (Jb [6] [(13,(QH c a1 c1 a2 c2 a3 c3))] (Jl 14 (I (Ke c)) (VK G (KX c a1 c1 a2 c2 a3 c3) c (⟨a1,c1,a2,c2,a3,c3,rfl,w1,hs1,w2,w3,w4,hs2,hs3⟩)) (Jb [0] [(7,I (Ke c))] (Je (Jc (Jg [0,0] [(16,Bo (!decide (Ke c=0)))] (Jm (!decide (Ke c=0)) (fun h1=>?_) (fun h1=>?_))))))))))))))))))
 refine Jg [0,0,3,0,0] [(5,I 0),(6,I (Ke c))] (Jo (Jj ?_))
 have hf1:Kx c a=((⟨(⟨0,[]⟩:QY),0,0,0,[],[]⟩:KL),0,Ke c):=by
  unfold Kx Yi;(rw [if_pos ‹_›];done)
 refine Jp [0,0,0] [.agg #[I 0,Sl none 0 0,I 0,I 0,I 0,Sl none 0 0,Sl none 0 0],I 0,I (Ke c)] (JB [] (Jh _) ?_)
 rw [hf1]
 try dsimp only
 exact ⟨none,0,none,0,none,0,rfl,J5,(JP Q4 G),J5,J5,J5,(JP KG G),(JP Qi G),J5,rfl⟩
 refine Jq (Jc (Jf (Jd (Jb [0,6,4] [(21,.agg #[I c.queue.most,Sl a1 c.queue.wait.length c1]),(22,.agg #[Sr a.name,Sr a.value,U a.n,U a.tag])] (JM 23 (Jil G [I c.queue.most,Sl a1 c.queue.wait.length c1] c.queue (⟨a1,c1,rfl,w1,hs1⟩) [Sr a.name,Sr a.value,U a.n,U a.tag] a (⟨rfl,w5,w6,w7,w8⟩)) (fun v G1 L1 hl1 hp=>?_))))))
 obtain ⟨a4,c4,rfl,w9,hs4,rfl⟩:=hp
 refine Jb [0,0,0,0] [(24,.agg #[I (((JU c.queue a).1).most),Sl a4 ((((JU c.queue a).1).wait).length) c4]),(25,I ((JU c.queue a).2.1)),(26,I ((JU c.queue a).2.2))] (Jv 8 #[I 0,Sl none 0 0] 57 (fun b4=>JX [3,0,0] [(9,I ((JU c.queue a).2.1)),(10,I ((JU c.queue a).2.2))] [[Sg b4 0 [I (((JU c.queue a).1).most),Sl a4 ((((JU c.queue a).1).wait).length) c4]],[Sg b3 0 [I 0,Sl none 0 0,I 0,I 0,I 0,Sl none 0 0,Sl none 0 0]],[Sg b2 0 [Sr a.name,Sr a.value,U a.n,U a.tag]],[Sg b1 0 (KX c a1 c1 a2 c2 a3 c3)]] (Je (Jc (Jf (Jx (Jf (Jd (Jb [0,0,0] [(30,Bo (!decide ((JU c.queue a).2.2=0)))] (Kk (!decide ((JU c.queue a).2.2=0)) [30] [0,0,0] [1,1,0] (fun bb=>[(33,Bo (bb && (!decide ((JU c.queue a).2.2=7))))]) (Jb [0] [(27,Bo ((!decide ((JU c.queue a).2.2=0)) && (!decide ((JU c.queue a).2.2=7))))] (Je (Jc (Jm ((!decide ((JU c.queue a).2.2=0)) && (!decide ((JU c.queue a).2.2=7))) (fun h2=>?_) (fun h2=>?_)))))))))))))))
 refine Jg [0,0,5,0,0] [(5,I 0),(6,I ((JU c.queue a).2.2))] (Jo (Ju (Jj ?_)))
 have hf2:Kx c a=((⟨(⟨0,[]⟩:QY),0,0,0,[],[]⟩:KL),0,(JU c.queue a).2.2):=by
  unfold Kx Yi;(rw [if_neg (by simp_all)];simp_all;done)
 refine Jp [1,0,0] [.agg #[I 0,Sl none 0 0,I 0,I 0,I 0,Sl none 0 0,Sl none 0 0],I 0,I ((JU c.queue a).2.2)] (JB [] hl1 ?_)
 rw [hf2]
 try dsimp only
 exact ⟨none,0,none,0,none,0,rfl,J5,(JP Q4 G1),J5,J5,J5,(JP KG G1),(JP Qi G1),J5,rfl⟩
 refine Jf (Jd (Jb [8] [(37,(QH c a1 c1 a2 c2 a3 c3))] (Jl 38 (Bo (Zm c)) (Je5 G1 (KX c a1 c1 a2 c2 a3 c3) c (⟨a1,c1,a2,c2,a3,c3,rfl,w1,(hs1.mono hl1),w2,w3,w4,(hs2.mono hl1),(hs3.mono hl1)⟩)) (Jb [0] [(36,Bo (Zm c))] (Je (Jc (Jm (Zm c) (fun h3=>?_) (fun h3=>?_))))))))
 refine Jg [0,5,0,0] [(5,I 0),(6,I 9)] (Jo (Ju (Jj ?_)))
 have hf3:Kx c a=((⟨(⟨0,[]⟩:QY),0,0,0,[],[]⟩:KL),0,9):=by
  unfold Kx Yi;(rw [if_neg (by simp_all)];simp_all;done)
 refine Jp [1,0,0] [.agg #[I 0,Sl none 0 0,I 0,I 0,I 0,Sl none 0 0,Sl none 0 0],I 0,I 9] (JB [] hl1 ?_)
 rw [hf3]
 try dsimp only
 exact ⟨none,0,none,0,none,0,rfl,J5,(JP Q4 G1),J5,J5,J5,(JP KG G1),(JP Qi G1),J5,rfl⟩
 refine Jf (Jd (Jb [0,0,0] [(43,Bo (decide ((JU c.queue a).2.2=7)))] (QS [43] (decide ((JU c.queue a).2.2=7)) (fun h4=>?_) (fun h4=>?_))))
 refine Jb [1,1,1,1,1,1,0,0] [(40,Bo true)] (Je (Jc (JZ (Jg [0,5,0,0] [(5,I 0),(6,I 7)] (Jo (Ju (Jj ?_)))))))
 have hf4:Kx c a=((⟨(⟨0,[]⟩:QY),0,0,0,[],[]⟩:KL),0,7):=by
  unfold Kx Yi;(rw [if_neg (by simp_all)];simp_all;done)
 refine Jp [1,0,0] [.agg #[I 0,Sl none 0 0,I 0,I 0,I 0,Sl none 0 0,Sl none 0 0],I 0,I 7] (JB [] hl1 ?_)
 rw [hf4]
 try dsimp only
 exact ⟨none,0,none,0,none,0,rfl,J5,(JP Q4 G1),J5,J5,J5,(JP KG G1),(JP Qi G1),J5,rfl⟩
 refine Jb [8,0,6] [(44,(QH c a1 c1 a2 c2 a3 c3)),(46,Sr a.name)] (Ki 47 1 #[Sr a.name] 9 (fun b5=>Qu (b:=b5) (o:=0) (cs:=[Sr a.name]) 0 (fun G2 hl2 hz1=>?_)))
 have hs5:RS ES G2 (At b5 0) 1 [a.name]:=RS.lit [[Sr a.name]] [a.name] ⟨⟨rfl,w5⟩,trivial⟩ hz1 (Hh rfl) (Hh rfl)
 refine Jl 48 (I (WT c ([a.name]))) (Jci G2 (KX c a1 c1 a2 c2 a3 c3) c (⟨a1,c1,a2,c2,a3,c3,rfl,w1,(hs1.mono (Ja hl1 hl2)),w2,w3,w4,(hs2.mono (Ja hl1 hl2)),(hs3.mono (Ja hl1 hl2))⟩) (At b5 0) 1 ([a.name]) hs5 (by (have q_:=Yl ‹_›;(try dsimp only);omega)) (by (have q_:=Yl ‹_›;(try dsimp only);omega)) (by (have q_:=Yl ‹_›;(try dsimp only);omega)) (by (have q_:=Yl ‹_›;(try dsimp only);omega)) (by (simp;done))) (Jb [0,0,0] [(40,Bo (decide (WT c ([a.name]) > 24)))] (Je (Jc (Jm (decide (WT c ([a.name]) > 24)) (fun h5=>?_) (fun h5=>?_)))))
 refine Jg [0,7,0,0] [(5,I 0),(6,I 7)] (Jo (Ju (Jj ?_)))
 have hf5:Kx c a=((⟨(⟨0,[]⟩:QY),0,0,0,[],[]⟩:KL),0,7):=by
  unfold Kx Yi;(rw [if_neg (by simp_all)];simp_all;done)
 refine Jp [2,0,0] [.agg #[I 0,Sl none 0 0,I 0,I 0,I 0,Sl none 0 0,Sl none 0 0],I 0,I 7] (JB [] (Ja hl1 hl2) ?_)
 rw [hf5]
 try dsimp only
 exact ⟨none,0,none,0,none,0,rfl,J5,(JP Q4 G2),J5,J5,J5,(JP KG G2),(JP Qi G2),J5,rfl⟩
 refine Jq (JN (Jc (Jf (Jd (Jb [10] [(52,(QH c a1 c1 a2 c2 a3 c3))] (JM 53 (Je6 G2 (KX c a1 c1 a2 c2 a3 c3) c (⟨a1,c1,a2,c2,a3,c3,rfl,w1,(hs1.mono (Ja hl1 hl2)),w2,w3,w4,(hs2.mono (Ja hl1 hl2)),(hs3.mono (Ja hl1 hl2))⟩) (by (have q_:=Yl ‹_›;(try dsimp only);omega))) (fun v G3 L1 hl3 hp=>?_)))))))
 obtain ⟨a5,c5,a6,c6,a7,rfl,_,_,w11,w12,w13,hs7,hs8,rfl⟩:=hp
 refine JX [11] [] [[],[Sg b4 0 [I (((JU c.queue a).1).most),Sl a4 ((((JU c.queue a).1).wait).length) c4]],[Sg b3 0 [I 0,Sl none 0 0,I 0,I 0,I 0,Sl none 0 0,Sl none 0 0]],[Sg b2 0 [Sr a.name,Sr a.value,U a.n,U a.tag]],[Sg b1 0 (KX c a5 c5 a6 c6 a7 c.books.length)]] (Je (Jc (QF [4,0,11] [] [[],[Sg b4 0 [I (((JU c.queue a).1).most),Sl a4 ((((JU c.queue a).1).wait).length) c4]],[Sg b3 0 [I 0,Sl none 0 0,I 0,I 0,I 0,Sl none 0 0,Sl none 0 0]],[Sg b2 0 [Sr a.name,Sr a.value,U a.n,U a.tag]],[Sg b1 0 [I (((JU c.queue a).1).most),Sl a4 ((((JU c.queue a).1).wait).length) c4,I c.batch,I c.every,I c.now,Sl a6 c.heads.length c6,Sl a7 c.books.length c.books.length]]] (Jf (Jd (Jb [0,0,10,0,10] [(57,I ((JU c.queue a).2.1)),(59,I c.batch),(61,I c.every)] (Jl 62 (.tuple #[I ((Qo ((JU c.queue a).2.1) c.batch c.every).1),I ((Qo ((JU c.queue a).2.1) c.batch c.every).2)]) (JgW G3 ((JU c.queue a).2.1) c.batch c.every) (Jb [0,0,0,0,0] [(11,I ((Qo ((JU c.queue a).2.1) c.batch c.every).1))] (Je (Jc (Jf ?_)))))))))))
 have e1:Hb.wrap (c.now-((c.now).tmod c.every))=c.now-((c.now).tmod c.every):=Hp _ (by (have q_:=Yl ‹_›;have q10_:=Jau (n:=c.now) (e:=c.every) (by omega) (by omega);have q11_:=Jgn (JU c.queue a).2.1 c.batch c.every;omega))
 have e2:Hb.wrap ((c.now-((c.now).tmod c.every))+((Qo ((JU c.queue a).2.1) c.batch c.every).1))=(c.now-((c.now).tmod c.every))+((Qo ((JU c.queue a).2.1) c.batch c.every).1):=Hp _ (by (have q_:=Yl ‹_›;have q10_:=Jau (n:=c.now) (e:=c.every) (by omega) (by omega);have q11_:=Jgn (JU c.queue a).2.1 c.batch c.every;omega))
 refine Kt [11] (Wz [(0,.agg #[I (((JU c.queue a).1).most),Sl a4 ((((JU c.queue a).1).wait).length) c4,I c.batch,I c.every,I c.now,Sl a6 c.heads.length c6,Sl a7 c.books.length c.books.length]),(1,Pt b1 4),(2,I c.now),(3,Pt b1 4),(4,I c.now),(5,Pt b1 3),(6,I c.every),(7,I ((c.now).tmod c.every)),(8,I (c.now-((c.now).tmod c.every))),(9,I ((Qo ((JU c.queue a).2.1) c.batch c.every).1)),(10,I ((c.now-((c.now).tmod c.every))+((Qo ((JU c.queue a).2.1) c.batch c.every).1)))] (JL [] [(0,10),(1,0),(2,10),(3,0),(4,10),(5,0),(6,10),(9,0)] [7,8,10] [11] (Kb ?_ (Kb ?_ (Kb ?_ K4))) (Kb ?_ K4)))
 refine Jr 7 72 (I ((c.now).tmod c.every)) [(69,I c.now),(71,I c.every)] (fun X=>?_)
 exact Jdx (k:=.i64) (x:=c.now) (y:=c.every) 72 false ((c.now).tmod c.every) (by (have q_:=Yl ‹_›;have q10_:=Jau (n:=c.now) (e:=c.every) J5 (by omega);have q11_:=Jgn (JU c.queue a).2.1 c.batch c.every;omega)) rfl Jn
 refine Jr 8 73 (I (c.now-((c.now).tmod c.every))) [(67,I c.now),(72,I ((c.now).tmod c.every))] (fun X=>?_)
 exact Qc 73 (I (Hb.wrap (c.now-((c.now).tmod c.every)))) (I (c.now-((c.now).tmod c.every))) (by simp only [e1]) Jn
 refine Jr 10 75 (I ((c.now-((c.now).tmod c.every))+((Qo ((JU c.queue a).2.1) c.batch c.every).1))) [(73,I (c.now-((c.now).tmod c.every))),(74,I ((Qo ((JU c.queue a).2.1) c.batch c.every).1))] (fun X=>?_)
 exact Qc 75 (I (Hb.wrap ((c.now-((c.now).tmod c.every))+((Qo ((JU c.queue a).2.1) c.batch c.every).1)))) (I ((c.now-((c.now).tmod c.every))+((Qo ((JU c.queue a).2.1) c.batch c.every).1))) (by simp only [e2]) Jn
 refine JA 11 [(4,Pt b3 0),(65,.agg #[I (((JU c.queue a).1).most),Sl a4 ((((JU c.queue a).1).wait).length) c4,I c.batch,I c.every,I c.now,Sl a6 c.heads.length c6,Sl a7 c.books.length c.books.length])] (fun X=>?_)
 refine KI 2 [[],[Sg b4 0 [I (((JU c.queue a).1).most),Sl a4 ((((JU c.queue a).1).wait).length) c4]],[Sg b3 0 [I (((JU c.queue a).1).most),Sl a4 ((((JU c.queue a).1).wait).length) c4,I c.batch,I c.every,I c.now,Sl a6 c.heads.length c6,Sl a7 c.books.length c.books.length]],[Sg b2 0 [Sr a.name,Sr a.value,U a.n,U a.tag]],[Sg b1 0 [I (((JU c.queue a).1).most),Sl a4 ((((JU c.queue a).1).wait).length) c4,I c.batch,I c.every,I c.now,Sl a6 c.heads.length c6,Sl a7 c.books.length c.books.length]]] ?_
 have e3:Hb.wrap (c.now-((c.now).tmod c.every))=c.now-((c.now).tmod c.every):=Hp _ (by (have q_:=Yl ‹_›;have q10_:=Jau (n:=c.now) (e:=c.every) (by omega) (by omega);have q11_:=Jgn (JU c.queue a).2.1 c.batch c.every;omega))
 have e4:Hb.wrap ((c.now-((c.now).tmod c.every))+((Qo ((JU c.queue a).2.1) c.batch c.every).1))=(c.now-((c.now).tmod c.every))+((Qo ((JU c.queue a).2.1) c.batch c.every).1):=Hp _ (by (have q_:=Yl ‹_›;have q10_:=Jau (n:=c.now) (e:=c.every) (by omega) (by omega);have q11_:=Jgn (JU c.queue a).2.1 c.batch c.every;omega))
 refine J9 [(12,I ((c.now-((c.now).tmod c.every))+((Qo ((JU c.queue a).2.1) c.batch c.every).1))),(13,I 0)] (Kq [0] [(1,0),(2,10),(3,0),(4,10),(5,0),(6,10),(9,0),(12,0),(13,0)] [7,8,10] [(4,Pt b3 0),(5,I ((c.now-((c.now).tmod c.every))+((Qo ((JU c.queue a).2.1) c.batch c.every).1))),(6,I 0)] (Kb ?_ (Kb ?_ (Kb ?_ K4))) ?_)
 refine Jr 7 72 (I ((c.now).tmod c.every)) [(69,I c.now),(71,I c.every)] (fun X=>?_)
 exact Jdx (k:=.i64) (x:=c.now) (y:=c.every) 72 false ((c.now).tmod c.every) (by (have q_:=Yl ‹_›;have q10_:=Jau (n:=c.now) (e:=c.every) J5 (by omega);have q11_:=Jgn (JU c.queue a).2.1 c.batch c.every;omega)) rfl Jn
 refine Jr 8 73 (I (c.now-((c.now).tmod c.every))) [(67,I c.now),(72,I ((c.now).tmod c.every))] (fun X=>?_)
 exact Qc 73 (I (Hb.wrap (c.now-((c.now).tmod c.every)))) (I (c.now-((c.now).tmod c.every))) (by simp only [e3]) Jn
 refine Jr 10 75 (I ((c.now-((c.now).tmod c.every))+((Qo ((JU c.queue a).2.1) c.batch c.every).1))) [(73,I (c.now-((c.now).tmod c.every))),(74,I ((Qo ((JU c.queue a).2.1) c.batch c.every).1))] (fun X=>?_)
 exact Qc 75 (I (Hb.wrap ((c.now-((c.now).tmod c.every))+((Qo ((JU c.queue a).2.1) c.batch c.every).1)))) (I ((c.now-((c.now).tmod c.every))+((Qo ((JU c.queue a).2.1) c.batch c.every).1))) (by simp only [e4]) Jn
 refine Jc (Jo ?_)
 have hf6:Kx c a=((⟨((JU c.queue a).1),c.batch,c.every,c.now,c.heads,c.books⟩:KL),(c.now-((c.now).tmod c.every))+((Qo ((JU c.queue a).2.1) c.batch c.every).1),0):=by
  unfold Kx Yi;(rw [if_neg (by simp_all)];simp_all;done)
 refine Jp [2,0,0] [.agg #[I (((JU c.queue a).1).most),Sl a4 ((((JU c.queue a).1).wait).length) c4,I c.batch,I c.every,I c.now,Sl a6 c.heads.length c6,Sl a7 c.books.length c.books.length],I ((c.now-((c.now).tmod c.every))+((Qo ((JU c.queue a).2.1) c.batch c.every).1)),I 0] (JB [] (Ja (Ja hl1 hl2) hl3) ?_)
 rw [hf6]
 try dsimp only
 exact ⟨a4,c4,a6,c6,a7,c.books.length,rfl,w9,(hs4.mono (Ja hl2 hl3)),w11,w12,w13,hs7,hs8,(by (have q_:=Yl ‹_›;have q10_:=Jau (n:=c.now) (e:=c.every) J5 (by omega);have q11_:=Jgn (JU c.queue a).2.1 c.batch c.every;omega)),rfl⟩
set_option maxRecDepth 20000 in
theorem Jhd (G:J4) (vs_c:Bv) (c:KL) (h_c:JaJ.R G vs_c c) :YL 110 #[.agg vs_c.toArray] G [] (fun u G' L'=>∃ (a1:Ba) (c2:Nat) (a3:Ba) (c4:Nat) (a5:Ba) (c6:Nat),u=.tuple #[.agg #[I (((KM c).1).queue.most),Sl a1 ((((KM c).1).queue.wait).length) c2,I (((KM c).1).batch),I (((KM c).1).every),I (((KM c).1).now),Sl a3 ((((KM c).1).heads).length) c4,Sl a5 ((((KM c).1).books).length) c6],Bo ((KM c).2.1),I ((KM c).2.2)]∧(rI (((KM c).1).queue.most))∧(RS Q4 G' a1 c2 (((KM c).1).queue.wait))∧(rI (((KM c).1).batch))∧(rI (((KM c).1).every))∧(rI (((KM c).1).now))∧(RS KG G' a3 c4 (((KM c).1).heads))∧(RS Qi G' a5 c6 (((KM c).1).books))∧L'=[]):=by
 obtain ⟨a1,c1,a2,c2,a3,c3,rfl,w1,hs1,w2,w3,w4,hs2,hs3⟩:=h_c
 refine JS Tryz.func110 88 [(0,(QH c a1 c1 a2 c2 a3 c3))] rfl (fun w0 G0=>?_)
 refine Jf (Jd (Jv 1 #[I c.queue.most,Sl a1 c.queue.wait.length c1,I c.batch,I c.every,I c.now,Sl a2 c.heads.length c2,Sl a3 c.books.length c3] 60 (fun b1=>Jv 2 #[I 0,Sl none 0 0,I 0,I 0,I 0,Sl none 0 0,Sl none 0 0] 60 (fun b2=>Jb [0,0] [] (Je (Jc (Jf (Jf (Jd (Jb [4] [(14,(QH c a1 c1 a2 c2 a3 c3))] (Jl 15 (I (Ke c)) (VK G (KX c a1 c1 a2 c2 a3 c3) c (⟨a1,c1,a2,c2,a3,c3,rfl,w1,hs1,w2,w3,w4,hs2,hs3⟩)) (Jb [0] [(5,I (Ke c))] (Je (Jc (Jg [0,0] [(17,Bo (!decide (Ke c=0)))] (Jm (!decide (Ke c=0)) (fun h1=>?_) (fun h1=>?_)))))))))))))))))
 refine Jg [0,0,3,0,0] [(3,Bo false),(4,I (Ke c))] (Jo (Jj ?_))
 have hf1:KM c=((⟨(⟨0,[]⟩:QY),0,0,0,[],[]⟩:KL),false,Ke c):=by
  unfold KM Yi;(rw [if_pos ‹_›];done)
 refine Jp [0,0,0] [.agg #[I 0,Sl none 0 0,I 0,I 0,I 0,Sl none 0 0,Sl none 0 0],Bo false,I (Ke c)] (JB [] (Jh _) ?_)
 rw [hf1]
 try dsimp only
 exact ⟨none,0,none,0,none,0,rfl,J5,(JP Q4 G),J5,J5,J5,(JP KG G),(JP Qi G),rfl⟩
 refine Jq (Jc (Jf (Jd (Jb [4] [(20,(QH c a1 c1 a2 c2 a3 c3))] (JM 21 (Je6 G (KX c a1 c1 a2 c2 a3 c3) c (⟨a1,c1,a2,c2,a3,c3,rfl,w1,hs1,w2,w3,w4,hs2,hs3⟩) (by (have q_:=Yl ‹_›;(try dsimp only);omega))) (fun v G1 L1 hl1 hp=>?_))))))
 obtain ⟨a4,c4,a5,c5,a6,rfl,w5,hs4,w6,w7,w8,hs5,hs6,rfl⟩:=hp
 refine JX [5] [] [[Sg b2 0 [I 0,Sl none 0 0,I 0,I 0,I 0,Sl none 0 0,Sl none 0 0]],[Sg b1 0 (KX c a4 c4 a5 c5 a6 c.books.length)]] (Je (Jc (Jf (Jf (Jd (Jb [4] [(22,(QH c a4 c4 a5 c5 a6 c.books.length))] (Jl 23 (Bo (Zm c)) (Je5 G1 (KX c a4 c4 a5 c5 a6 c.books.length) c (⟨a4,c4,a5,c5,a6,c.books.length,rfl,w5,hs4,w6,w7,w8,hs5,hs6⟩)) (Je (Jc (Jm (Zm c) (fun h2=>?_) (fun h2=>?_)))))))))))
 refine QF [4,3,0,0] [(3,Bo false),(4,I 0)] [[Sg b2 0 (KX c a4 c4 a5 c5 a6 c.books.length)],[Sg b1 0 (KX c a4 c4 a5 c5 a6 c.books.length)]] (Jo (Jj ?_))
 have hf2:KM c=(c,false,0):=by
  unfold KM Yi;(rw [if_neg (by simp_all)];(rw [if_pos ‹_›];done))
 refine Jp [0,0,0] [(QH c a4 c4 a5 c5 a6 c.books.length),Bo false,I 0] (JB [] hl1 ?_)
 rw [hf2]
 try dsimp only
 exact ⟨a4,c4,a5,c5,a6,c.books.length,rfl,w5,hs4,w6,w7,w8,hs5,hs6,rfl⟩
 refine Jq (Jc (QF [0,4,0,0,5] [] [[Sg b2 0 [I 0,Sl none 0 0,I 0,I 0,I 0,Sl none 0 0,Sl none 0 0]],[Sg b1 0 [I c.queue.most,Sl a4 c.queue.wait.length c4,I c.batch,I c.every,I (Hb.wrap (c.now+1)),Sl a5 c.heads.length c5,Sl a6 c.books.length c.books.length]]] ?_))
 have e1:Hb.wrap (c.now+1)=c.now+1:=Hp _ (by (have q_:=Yl ‹_›;have q10_:=Jau (n:=c.now+1) (e:=c.every) (by omega) (by omega);omega))
 refine Jc7 (L':=[[Sg b2 0 [I 0,Sl none 0 0,I 0,I 0,I 0,Sl none 0 0,Sl none 0 0]],[Sg b1 0 [I c.queue.most,Sl a4 c.queue.wait.length c4,I c.batch,I c.every,I (c.now+1),Sl a5 c.heads.length c5,Sl a6 c.books.length c.books.length]]]) (by simp only [KX,QH,e1];first | done | rfl) ?_
 clear e1
 refine Jf (Jf (Jd (Jb [0,4,0,4] [(30,I (c.now+1)),(32,I c.every)] (Jdx (k:=.i64) (x:=c.now+1) (y:=c.every) 33 false ((c.now+1).tmod c.every) (by (have q_:=Yl ‹_›;have q10_:=Jau (n:=c.now+1) (e:=c.every) J5 (by omega);omega)) rfl (Jb [0] [(34,Bo (!decide ((c.now+1).tmod c.every=0)))] (Je (Jc (Jm (!decide ((c.now+1).tmod c.every=0)) (fun h3=>?_) (fun h3=>?_)))))))))
 refine QF [4,3,0,0] [(3,Bo false),(4,I 0)] [[Sg b2 0 [I c.queue.most,Sl a4 c.queue.wait.length c4,I c.batch,I c.every,I (c.now+1),Sl a5 c.heads.length c5,Sl a6 c.books.length c.books.length]],[Sg b1 0 [I c.queue.most,Sl a4 c.queue.wait.length c4,I c.batch,I c.every,I (c.now+1),Sl a5 c.heads.length c5,Sl a6 c.books.length c.books.length]]] (Jo (Jj ?_))
 have hf3:KM c=((⟨c.queue,c.batch,c.every,c.now+1,c.heads,c.books⟩:KL),false,0):=by
  unfold KM Yi;(rw [if_neg (by simp_all)];(rw [if_neg (by simp_all)];(rw [if_pos ‹_›];done)))
 refine Jp [0,0,0] [.agg #[I c.queue.most,Sl a4 c.queue.wait.length c4,I c.batch,I c.every,I (c.now+1),Sl a5 c.heads.length c5,Sl a6 c.books.length c.books.length],Bo false,I 0] (JB [] hl1 ?_)
 rw [hf3]
 try dsimp only
 exact ⟨a4,c4,a5,c5,a6,c.books.length,rfl,‹_›,hs4,‹_›,‹_›,(by have q_:=Yl ‹_›;(try dsimp only);omega),hs5,hs6,rfl⟩
 refine Jq (Jc (Jf (Jd (Jb [0,4,0,4] [(38,.agg #[I c.queue.most,Sl a4 c.queue.wait.length c4]),(40,I c.batch)] (JM 41 (JgV G1 [I c.queue.most,Sl a4 c.queue.wait.length c4] c.queue (⟨a4,c4,rfl,‹_›,hs4⟩) c.batch) (fun v G2 L1 hl2 hp=>?_))))))
 obtain ⟨a7,c6,a8,c7,rfl,w9,hs7,hs8,rfl⟩:=hp
 refine Jb [0,0,0,0] [(42,.agg #[I (((J6 c.queue c.batch).1).most),Sl a7 ((((J6 c.queue c.batch).1).wait).length) c6]),(43,Sl a8 (((J6 c.queue c.batch).2.1).length) c7),(44,I ((J6 c.queue c.batch).2.2))] (Jv 6 #[I 0,Sl none 0 0] 57 (fun b3=>JX [3,0,0] [(7,Sl a8 (((J6 c.queue c.batch).2.1).length) c7)] [[Sg b3 0 [I (((J6 c.queue c.batch).1).most),Sl a7 ((((J6 c.queue c.batch).1).wait).length) c6]],[Sg b2 0 [I 0,Sl none 0 0,I 0,I 0,I 0,Sl none 0 0,Sl none 0 0]],[Sg b1 0 [I c.queue.most,Sl a4 c.queue.wait.length c4,I c.batch,I c.every,I (c.now+1),Sl a5 c.heads.length c5,Sl a6 c.books.length c.books.length]]] (Je (Jc (Jf (Jd (Jb [6] [(45,.agg #[I c.queue.most,Sl a4 c.queue.wait.length c4,I c.batch,I c.every,I (c.now+1),Sl a5 c.heads.length c5,Sl a6 c.books.length c.books.length])] (JM 46 (Jgk G2 [I c.queue.most,Sl a4 c.queue.wait.length c4,I c.batch,I c.every,I (c.now+1),Sl a5 c.heads.length c5,Sl a6 c.books.length c.books.length] (⟨c.queue,c.batch,c.every,c.now+1,c.heads,c.books⟩:KL) (⟨a4,c4,a5,c5,a6,c.books.length,rfl,‹_›,(hs4.mono hl2),‹_›,‹_›,(by have q_:=Yl ‹_›;(try dsimp only);omega),(hs5.mono hl2),(hs6.mono hl2)⟩) (by (have q_:=Yl ‹_›;(try dsimp only);omega)) (by (have q_:=Yl ‹_›;(try dsimp only);omega))) (fun v G3 L1 hl3 hp=>?_)))))))))
 obtain ⟨a9,c8,rfl,hs9,rfl⟩:=hp
 refine JM 47 (YO G3 a9 c8 (WG (⟨c.queue,c.batch,c.every,c.now+1,c.heads,c.books⟩:KL).books) hs9) (fun v G4 L1 hl4 hp=>?_)
 obtain ⟨a10,c9,r1,rfl,hr1,rfl⟩:=hp
 refine Jb [0] [(9,Sl a10 ((WG (⟨c.queue,c.batch,c.every,c.now+1,c.heads,c.books⟩:KL).books).length) c9)] (Je (Jc (Jf (Jg [0,0,0] [(48,Sl a8 (((J6 c.queue c.batch).2.1).length) c7),(49,I (((J6 c.queue c.batch).2.1).length:Int)),(50,I 0)] (Jx ?_)))))
 have hlm_hs8:((J6 c.queue c.batch).2.1).length≤9223372036854775807:=Hg (hs8).le (hs8).max
 refine Qb (σ:=Nat×Ba×Nat×Bg×List J3×J4) (fun q_=>(J4.le G4 q_.2.2.2.2.2)∧(q_.1≤((J6 c.queue c.batch).2.1).length)∧(J0 QJ q_.2.2.2.2.2 q_.2.1 q_.2.2.1 q_.2.2.2.2.1 q_.2.2.2.1)∧(q_.2.2.2.2.1=JaU (WG c.books) ((J6 c.queue c.batch).2.1.take q_.1)∧q_.2.2.2.2.1.length≤1000)) (fun q_=>[(1,Pt b1 0),(2,Pt b2 0),(6,Pt b3 0),(9,Sl q_.2.1 q_.2.2.2.2.1.length q_.2.2.1),(48,Sl a8 (((J6 c.queue c.batch).2.1).length) c7),(49,I (((J6 c.queue c.batch).2.1).length:Int)),(50,I (q_.1:Int))]) (fun q_=>q_.2.2.2.2.2) (fun q_=>[q_.2.2.2.1,[Sg b3 0 [I (((J6 c.queue c.batch).1).most),Sl a7 ((((J6 c.queue c.batch).1).wait).length) c6]],[Sg b2 0 [I 0,Sl none 0 0,I 0,I 0,I 0,Sl none 0 0,Sl none 0 0]],[Sg b1 0 [I c.queue.most,Sl a4 c.queue.wait.length c4,I c.batch,I c.every,I (c.now+1),Sl a5 c.heads.length c5,Sl a6 c.books.length c.books.length]]]) (fun q_=>((J6 c.queue c.batch).2.1).length-q_.1) (0,a10,c9,r1,WG (⟨c.queue,c.batch,c.every,c.now+1,c.heads,c.books⟩:KL).books,G4) ⟨(Jh _),(by (try dsimp only);exact Hs _),hr1,⟨rfl,by have q_:=Yl ‹_›;(try dsimp only);omega⟩⟩ (fun q_ hs=>?_)
 obtain ⟨i,aw,cw,rw,xw,g⟩:=q_
 obtain ⟨hle,hi,hrw,hxw⟩:=hs
 dsimp only at hle hi hrw hxw
 dsimp only
 refine Jg [0] [(51,Bo (decide ((i:Int)<(((J6 c.queue c.batch).2.1).length:Int))))] (Jf (Jm (decide ((i:Int)<(((J6 c.queue c.batch).2.1).length:Int))) (fun h4=>?_) (fun h4=>?_)))
 refine Jq (Jc (Jf (Jx (Jf (Jd ?_)))))
 obtain ⟨b4,o1,rfl⟩:=RS.addr (hs8.mono (Ja (Ja hl3 hl4) hle)) (k:=i) (by omega)
 obtain ⟨x1,hx1⟩:=QW (l:=(J6 c.queue c.batch).2.1) (k:=i) (by omega)
 obtain ⟨_,⟨rfl,w10,w11,_,_⟩,hc1⟩:=RS.get (hs8.mono (Ja (Ja hl3 hl4) hle)) hx1
 refine JY (b:=b4) (off:=o1) (len:=((J6 c.queue c.batch).2.1).length) (cap:=c7) (ik:=.i64) 52 182 4 i J5 (JR 53 182 (cs:=[Sr x1.name,Sr x1.value,U x1.n,U x1.tag]) 0 (.agg #[Sr x1.name,Sr x1.value,U x1.n,U x1.tag]) hc1 (Jv 11 #[Sr ([]),Sr ([]),U 0,U 0] 182 (fun b5=>JX [3] [] [[Sg b5 0 [Sr x1.name,Sr x1.value,U x1.n,U x1.tag]],rw,[Sg b3 0 [I (((J6 c.queue c.batch).1).most),Sl a7 ((((J6 c.queue c.batch).1).wait).length) c6]],[Sg b2 0 [I 0,Sl none 0 0,I 0,I 0,I 0,Sl none 0 0,Sl none 0 0]],[Sg b1 0 [I c.queue.most,Sl a4 c.queue.wait.length c4,I c.batch,I c.every,I (c.now+1),Sl a5 c.heads.length c5,Sl a6 c.books.length c.books.length]]] (Je (Jc (Jd (Jb [0,0,2,0,2] [(55,Sl aw xw.length cw),(57,Sr x1.name),(59,Sr x1.value)] (WC (E:=QJ) 1 hrw (by (have q0_:=hxw.2;simp only [QJ];omega)) (fun G5 hl5 hs10=>JM 60 (Jjw G5 aw cw xw hs10 x1.name w10 x1.value w11) (fun v G6 L1 hl6 hp=>?_))))))))))
 obtain ⟨a11,c10,r2,rfl,hr2,rfl⟩:=hp
 refine Jb [0,0,0,0] [(9,Sl a11 (((Qj xw x1.name x1.value).1).length) c10)] (Je (JN (Jc (Jd (Jb [0,0] [(50,I (Hb.wrap ((i:Int)+1)))] (Kp 50 ((i:Int)+1) J5 (Je (Jk 0 (Jk 1 (Jk 2 ?_))))))))))
 exact QA [r2,[Sg b3 0 [I (((J6 c.queue c.batch).1).most),Sl a7 ((((J6 c.queue c.batch).1).wait).length) c6]],[Sg b2 0 [I 0,Sl none 0 0,I 0,I 0,I 0,Sl none 0 0,Sl none 0 0]],[Sg b1 0 [I c.queue.most,Sl a4 c.queue.wait.length c4,I c.batch,I c.every,I (c.now+1),Sl a5 c.heads.length c5,Sl a6 c.books.length c.books.length]]] (Qf (i+1,a11,c10,r2,(Qj xw x1.name x1.value).1,G6) ⟨(Ja hle (Ja hl5 hl6)),J5,hr2,⟨by rw [hxw.1];exact JjL hx1,Hg (Jjv _ _ _) (by decide)⟩⟩ (by (try dsimp only);omega))
 refine KW (J1 (J8 (JT (Jc (Jf (Jd (Jb [0] [(65,Sl aw xw.length cw)] (WC (E:=QJ) 0 hrw (by (have q0_:=hxw.2;simp only [QJ];omega)) (fun G7 hl7 hs11=>Jl 66 (.tuple #[U ((JW xw []).1),I ((JW xw []).2)]) (JbI G7 aw cw xw hs11) (Jb [0,0,0,0,0] [(12,U ((JW xw []).1))] (Je (Jc (Jf (Kt [4,5,7,9] (Wz [(0,.agg #[I (((J6 c.queue c.batch).1).most),Sl a7 ((((J6 c.queue c.batch).1).wait).length) c6]),(1,Pt b1 6),(2,Sl a6 c.books.length c.books.length),(3,Sl aw xw.length cw),(6,Pt b1 0)] (JL [] [(0,4),(1,0),(2,8),(3,0),(6,0)] [] [4] (Ha _) (Kb ?_ K4)))))))))))))))))
 refine JA 4 [(72,Sl aw xw.length cw)] (fun X=>?_)
 refine Ki 73 1 #[Sl aw xw.length cw] 44 (fun b6=>JC [(4,Sl (At b6 0) 1 1)] (JL [3] [(0,6),(1,0),(2,10),(6,0)] [] [5] (Ha _) (Kb ?_ K4)))
 refine JA 5 [(71,Sl a6 c.books.length c.books.length),(73,Sl (At b6 0) 1 1)] (fun X=>?_)
 refine Jlc (E:=Qi) (b:=b6) (cs:=[Sl aw xw.length cw]) 74 44 0 xw (hs6.mono (Ja (Ja (Ja (Ja hl2 hl3) hl4) hle) hl7)) (⟨aw,cw,rfl,hs11⟩) (by (have q_:=Yl ‹_›;(try simp only [Hd,He,Hi]);omega)) (by (have q_:=Yl ‹_›;simp only [Qi,Hd,He,Hi];omega)) (fun a12 c11 r3 hr3=>JC [(5,Sl a12 ((c.books++[xw]).length) c11)] (JL [1,2,3] [(0,8),(6,0)] [] [7] (Ha _) (Kb ?_ K4)))
 refine JA 7 [(69,.agg #[I (((J6 c.queue c.batch).1).most),Sl a7 ((((J6 c.queue c.batch).1).wait).length) c6]),(75,Pt b1 0)] (fun X=>?_)
 refine KI 5 [r3,[Sg b6 0 [Sl aw xw.length cw]],[],[Sg b3 0 [I (((J6 c.queue c.batch).1).most),Sl a7 ((((J6 c.queue c.batch).1).wait).length) c6]],[Sg b2 0 [I 0,Sl none 0 0,I 0,I 0,I 0,Sl none 0 0,Sl none 0 0]],[Sg b1 0 [I (((J6 c.queue c.batch).1).most),Sl a7 ((((J6 c.queue c.batch).1).wait).length) c6,I c.batch,I c.every,I (c.now+1),Sl a5 c.heads.length c5,Sl a6 c.books.length c.books.length]]] (J9 [(8,Pt b1 6)] (JL [0,1,2,3,6] [(8,0)] [] [9] (Ha _) (Kb ?_ K4)))
 refine JA 9 [(74,Sl a12 ((c.books++[xw]).length) c11),(76,Pt b1 6)] (fun X=>?_)
 refine KI 5 [r3,[Sg b6 0 [Sl aw xw.length cw]],[],[Sg b3 0 [I (((J6 c.queue c.batch).1).most),Sl a7 ((((J6 c.queue c.batch).1).wait).length) c6]],[Sg b2 0 [I 0,Sl none 0 0,I 0,I 0,I 0,Sl none 0 0,Sl none 0 0]],[Sg b1 0 [I (((J6 c.queue c.batch).1).most),Sl a7 ((((J6 c.queue c.batch).1).wait).length) c6,I c.batch,I c.every,I (c.now+1),Sl a5 c.heads.length c5,Sl a12 ((c.books++[xw]).length) c11]]] (J9 [] (Kq [0,1,2,3,6,8] [] [] [(1,Pt b1 0),(2,Pt b2 0),(12,U ((JW xw []).1))] (Ha _) (Jc (Jf (Jd (Jb [0,12,0,0,12] [(79,Sl a5 c.heads.length c5),(80,U ((JW xw []).1)),(82,I (c.now+1))] (JM 83 (Jg3 G7 a5 c5 c.heads (hs5.mono (Ja (Ja (Ja (Ja hl2 hl3) hl4) hle) hl7)) ((JW xw []).1) (Vo _ _) (c.now+1) (by have q_:=Yl ‹_›;(try dsimp only);omega)) (fun v G8 L1 hl8 hp=>?_))))))))
 obtain ⟨a13,c12,r4,rfl,hr4,rfl⟩:=hp
 refine JX [0,0,0,0,15] [] [r4,r3,[Sg b6 0 [Sl aw xw.length cw]],[],[Sg b3 0 [I (((J6 c.queue c.batch).1).most),Sl a7 ((((J6 c.queue c.batch).1).wait).length) c6]],[Sg b2 0 [I 0,Sl none 0 0,I 0,I 0,I 0,Sl none 0 0,Sl none 0 0]],[Sg b1 0 [I (((J6 c.queue c.batch).1).most),Sl a7 ((((J6 c.queue c.batch).1).wait).length) c6,I c.batch,I c.every,I (c.now+1),Sl a13 (((QE c.heads ((JW xw []).1) (c.now+1)).1).length) c12,Sl a12 ((c.books++[xw]).length) c11]]] (Je (Jc (QF [14,13,0,0] [(3,Bo true),(4,I 0)] [r4,r3,[Sg b6 0 [Sl aw xw.length cw]],[],[Sg b3 0 [I (((J6 c.queue c.batch).1).most),Sl a7 ((((J6 c.queue c.batch).1).wait).length) c6]],[Sg b2 0 [I (((J6 c.queue c.batch).1).most),Sl a7 ((((J6 c.queue c.batch).1).wait).length) c6,I c.batch,I c.every,I (c.now+1),Sl a13 (((QE c.heads ((JW xw []).1) (c.now+1)).1).length) c12,Sl a12 ((c.books++[xw]).length) c11]],[Sg b1 0 [I (((J6 c.queue c.batch).1).most),Sl a7 ((((J6 c.queue c.batch).1).wait).length) c6,I c.batch,I c.every,I (c.now+1),Sl a13 (((QE c.heads ((JW xw []).1) (c.now+1)).1).length) c12,Sl a12 ((c.books++[xw]).length) c11]]] (Jo (Wm (E:=KG) 0 hr4 (by (have q_:=Jhc c.heads ((JW xw []).1) (c.now+1);simp only [KG];omega)) (fun G9 hl9 hs12=>Wm (E:=Qi) 1 (hr3.mono (Ja hl8 hl9)) (by (have q_:=Yl ‹_›;simp only [Qi,Hd,He,Hi];omega)) (fun G10 hl10 hs13=>?_)))))))
 have hf4:KM c=((⟨((J6 c.queue c.batch).1),c.batch,c.every,c.now+1,(QE c.heads ((JW xw []).1) (c.now+1)).1,(c.books++[xw])⟩:KL),true,0):=by
  unfold KM Yi;(rw [if_neg (by simp_all)];(rw [if_neg (by simp_all)];(rw [if_neg (by simp_all)];have e_:xw=YW c:=(by rw [hxw.1,Hk (by omega)];rfl);rw [← e_])))
 refine Jp [5,0,0] [.agg #[I (((J6 c.queue c.batch).1).most),Sl a7 ((((J6 c.queue c.batch).1).wait).length) c6,I c.batch,I c.every,I (c.now+1),Sl a13 (((QE c.heads ((JW xw []).1) (c.now+1)).1).length) c12,Sl a12 ((c.books++[xw]).length) c11],Bo true,I 0] (JB [] (Ja (Ja (Ja (Ja (Ja (Ja (Ja (Ja hl1 hl2) hl3) hl4) hle) hl7) hl8) hl9) hl10) ?_)
 rw [hf4]
 try dsimp only
 exact ⟨a7,c6,a13,c12,a12,c11,rfl,w9,(hs7.mono (Ja (Ja (Ja (Ja (Ja (Ja hl3 hl4) hle) hl7) hl8) hl9) hl10)),‹_›,‹_›,(by have q_:=Yl ‹_›;(try dsimp only);omega),(hs12.mono hl10),hs13,rfl⟩
theorem JjM {a:Zn} {l:List Zn} {b:List J3} (h:Wd b) (hr:∀ x∈a::l,Kw x=0) (hn:nn (KR b++QB (a::l))≤24) :
  (Qj b a.name a.value).2=0∧Wd (Qj b a.name a.value).1∧(∀ x∈l,Kw x=0)∧nn (KR (Qj b a.name a.value).1++QB l)≤24:=by
 have ha:=JeB (hr a (by simp))
 have hf:a.name∈KR b∨b.length<24:=by
  by_cases e:a.name∈KR b
  · exact .inl e
  ·
   right
   have h1:(a.name::KR b).Nodup:=HM.2 ⟨e,Je2 h⟩
   have h2:=Jgg h1
   have h3:nn (a.name::KR b)≤nn (KR b++QB (a::l)):=JbM fun x hx=>by
    rcases Ht.1 hx with rfl | hx
    · exact Hf.2 (.inr (Zs.2 ⟨a,by simp,rfl⟩))
    · exact Hf.2 (.inl hx)
   simp only [He] at h2
   have:(KR b).length=b.length:=by simp [KR]
   omega
 have hs:=Je3 h ha hf
 refine ⟨hs,(VW hs).2.2.1,fun x hx=>hr x (by simp [hx]),Hg (JbM fun s hs'=>?_) hn⟩
 rcases Hf.1 hs' with q | q
 ·
  rcases (JeA hs).1 q with rfl | q
  · exact Hf.2 (.inr (Zs.2 ⟨a,by simp,rfl⟩))
  · exact Hf.2 (.inl q)
 · exact Hf.2 (.inr (by simp only [QB,HJ,Ht];exact .inr q))
theorem Je7:∀ (l:List Zn) (b:List J3) (x:J3),Wd b→(∀ a∈l,Kw a=0)→nn (KR b++QB l)≤24→x∈b→(∀ a∈l,a.name ≠ x.name)→x∈JaU b l
 | [],b,x,_,_,_,hx,_=>hx
 | a::l,b,x,h,hr,hn,hx,hne=>by
  obtain ⟨h1,h2,h3,h4⟩:=JjM h hr hn
  exact Je7 l _ x h2 h3 h4 (((VW h1).2.2.2 x).2 (.inr ⟨hx,fun e=>hne a (by simp) e.symm⟩)) (fun y hy=>hne y (by simp [hy]))
theorem Jgo:∀ (l:List Zn) (b:List J3) (p:Nat) (a:Zn),Wd b→(∀ a∈l,Kw a=0)→nn (KR b++QB l)≤24→l[p]? = some a→(∀ q x,q ≠ p→l[q]? = some x→x.name ≠ a.name)→(⟨a.name,a.value⟩:J3)∈JaU b l
 | [],b,p,a,_,_,_,hp,_=>by simp at hp
 | y::l,b,p,a,h,hr,hn,hp,hne=>by
  obtain ⟨h1,h2,h3,h4⟩:=JjM h hr hn
  cases p with
  | zero =>
   simp only [Hy,HO.injEq] at hp
   subst hp
   refine Je7 l _ _ h2 h3 h4 (((VW h1).2.2.2 _).2 (.inl rfl)) (fun x hx=>?_)
   obtain ⟨k,hk⟩:=List.getElem?_of_mem hx
   exact hne (k+1) x (by omega) (by simpa using hk)
  | succ p=>exact Jgo l _ p a h2 h3 h4 (by simpa using hp) (fun q x hq hx=>hne (q+1) x (by omega) (by simpa using hx))
def JeC:QL:=⟨ZF,Jeu⟩
def JH (c:KL) (name:Bb) (epoch:Int):QL×Int:=if ¬ (Ku c epoch).2=0 then (JeC,(Ku c epoch).2) else if ¬ (KU (Ku c epoch).1 name).2=0 then (JeC,(KU (Ku c epoch).1 name).2) else (⟨c.heads[epoch.toNat]?.getD ZF,(KU (Ku c epoch).1 name).1⟩,0)
theorem Jpm {c:KL} {name:Bb} {e:Int} (h:(JH c name e).2=0):(Ku c e).2=0∧JF (JH c name e).1=Wx (Ku c e).1 name∧(Wx (Ku c e).1 name).2.2=0∧(JH c name e).1.head.epoch=e:=by
 unfold JH at h ⊢
 split at h
 · contradiction
 split at h
 · contradiction
 ·
  rename_i h1 h2
  rw [if_neg h1,if_neg h2]
  have b1:=Hc.1 h1
  have b2:=Hc.1 h2
  obtain ⟨ok,e0,e1,hx⟩:=JcD b1
  obtain ⟨q1,q2,q3,q4⟩:=JnE b2
  obtain ⟨r1,r2⟩:=ok.root _ _ hx
  have hl:e.toNat<c.heads.length:=by rw [← ok.len];omega
  have hh:c.heads[e.toNat]? = some c.heads[e.toNat]:=Hl hl
  have hc:=ok.chain.ok _ (List.getElem_mem hl)
  have he:=ok.chain.epoch _ _ hh
  rw [hh] at r2 ⊢
  simp only [Option.getD_some] at r2 ⊢
  refine ⟨b1,?_,q3,?_⟩
  ·
   unfold JF
   simp only
   rw [if_neg (by rw [hc];simp),← r2]
   exact q2
  · rw [he,ok.first];omega
theorem V5 (G:J4) (vs_c:Bv) (c:KL) (h_c:JaJ.R G vs_c c) (name:Bb) (hw_name:(name).length≤140737488351232) (epoch:Int) (hw_epoch:rI epoch) :YL 141 #[.agg vs_c.toArray,Sr name,I epoch] G [] (fun u G' L'=>∃ (a1:Ba) (c2:Nat) (a3:Ba) (c4:Nat),u=.tuple #[.agg #[I (((JH c name epoch).1).head.epoch),U (((JH c name epoch).1).head.root),U (((JH c name epoch).1).head.prev),I (((JH c name epoch).1).head.at_),Sr (((JH c name epoch).1).proof.name),Sl a1 ((((JH c name epoch).1).proof.entries).length) c2,Sl a3 ((((JH c name epoch).1).proof.sides).length) c4],I ((JH c name epoch).2)]∧(rI (((JH c name epoch).1).head.epoch))∧(rU (((JH c name epoch).1).head.root))∧(rU (((JH c name epoch).1).head.prev))∧(rI (((JH c name epoch).1).head.at_))∧((((JH c name epoch).1).proof.name).length≤140737488351232)∧(RS QJ G' a1 c2 (((JH c name epoch).1).proof.entries))∧(RS EU G' a3 c4 (((JH c name epoch).1).proof.sides))∧L'=[]):=by
 obtain ⟨a1,c1,a2,c2,a3,c3,rfl,w1,hs1,w2,w3,w4,hs2,hs3⟩:=h_c
 refine JS Tryz.func141 38 [(0,(QH c a1 c1 a2 c2 a3 c3)),(1,Sr name),(2,I epoch)] rfl (fun w0 G0=>?_)
 refine Jf (Jd (Jv 3 #[I c.queue.most,Sl a1 c.queue.wait.length c1,I c.batch,I c.every,I c.now,Sl a2 c.heads.length c2,Sl a3 c.books.length c3] 60 (fun b1=>Jv 6 #[I 0,U 0,U 0,I 0,Sr ([]),Sl none 0 0,Sl none 0 0] 49 (fun b2=>Jb [0] [] (Je (Jc (Jf (Jd (Jb [4,0] [(12,(QH c a1 c1 a2 c2 a3 c3)),(13,I epoch)] (JM 14 (Jhb G (KX c a1 c1 a2 c2 a3 c3) c (⟨a1,c1,a2,c2,a3,c3,rfl,w1,hs1,w2,w3,w4,hs2,hs3⟩) epoch hw_epoch) (fun v G1 L1 hl1 hp=>?_)))))))))))
 obtain ⟨a4,c4,_,rfl,hr1,rfl⟩:=hp
 refine Jb [0,0,0,0,0] [(8,Sl a4 (((Ku c epoch).1).length) c4),(9,I ((Ku c epoch).2))] (Je (Jc (Jf (Jg [0,0] [(18,Bo (!decide ((Ku c epoch).2=0)))] (Jm (!decide ((Ku c epoch).2=0)) (fun h1=>?_) (fun h1=>?_))))))
 refine Jg [0,0,5,0] [(7,I ((Ku c epoch).2))] (Jo (Jj ?_))
 have hf1:JH c name epoch=((⟨(⟨0,0,0,0⟩:JV),(⟨[],[],[]⟩:Qy)⟩:QL),(Ku c epoch).2):=by
  unfold JH JeC;(rw [if_pos ‹_›];rfl)
 refine Jp [1,0] [.agg #[I 0,U 0,U 0,I 0,Sr ([]),Sl none 0 0,Sl none 0 0],I ((Ku c epoch).2)] (JB [] hl1 ?_)
 rw [hf1]
 try dsimp only
 exact ⟨none,0,none,0,rfl,J5,J5,J5,J5,(Hh rfl),(JP QJ G1),(JP EU G1),rfl⟩
 refine Jq (Jc (Jf (Jd (Jb [0,0] [(22,Sl a4 (((Ku c epoch).1).length) c4),(23,Sr name)] (WC (E:=QJ) 0 hr1 (by have q_:=Jpj c epoch;simp only [QJ];omega) (fun G2 hl2 hs4=>JM 24 (Jg0 G2 a4 c4 ((Ku c epoch).1) hs4 name hw_name) (fun v G3 L1 hl3 hp=>?_)))))))
 obtain ⟨a5,c5,a6,c6,rfl,w5,hs5,hs6,rfl⟩:=hp
 refine Jb [0,0,0] [(25,(Jah (KU ((Ku c epoch).1) name).1 a5 c5 a6 c6)),(26,I ((KU ((Ku c epoch).1) name).2))] (Jv 10 #[Sr ([]),Sl none 0 0,Sl none 0 0] 47 (fun b3=>JX [3,0] [(9,I ((KU ((Ku c epoch).1) name).2))] [[Sg b3 0 (VV (KU ((Ku c epoch).1) name).1 a5 c5 a6 c6)],[],[Sg b2 0 [I 0,U 0,U 0,I 0,Sr ([]),Sl none 0 0,Sl none 0 0]],[Sg b1 0 (KX c a1 c1 a2 c2 a3 c3)]] (Je (Jc (Jf (Jg [0,0] [(28,Bo (!decide ((KU ((Ku c epoch).1) name).2=0)))] (Jm (!decide ((KU ((Ku c epoch).1) name).2=0)) (fun h2=>?_) (fun h2=>?_))))))))
 refine Jg [0,0,7,0] [(7,I ((KU ((Ku c epoch).1) name).2))] (Jo (Jj ?_))
 have hf2:JH c name epoch=((⟨(⟨0,0,0,0⟩:JV),(⟨[],[],[]⟩:Qy)⟩:QL),(KU ((Ku c epoch).1) name).2):=by
  unfold JH JeC;(rw [if_neg (by omega)];(rw [if_pos ‹_›];rfl))
 refine Jp [2,0] [.agg #[I 0,U 0,U 0,I 0,Sr ([]),Sl none 0 0,Sl none 0 0],I ((KU ((Ku c epoch).1) name).2)] (JB [] (Ja (Ja hl1 hl2) hl3) ?_)
 rw [hf2]
 try dsimp only
 exact ⟨none,0,none,0,rfl,J5,J5,J5,J5,(Hh rfl),(JP QJ G3),(JP EU G3),rfl⟩
 refine Jq (Jc ?_)
 obtain ⟨kn1,hkn1⟩:∃ k_:Nat,epoch=(k_:Int):=⟨(epoch).toNat,by (have q_:=JcD (c:=c) ‹_›;have q1_:=q_.1.len;omega)⟩
 have e1:epoch=(kn1:Int):=hkn1
 refine Wa 2 (I (kn1:Int)) (congrArg I e1) (Jf ?_)
 obtain ⟨b4,o1,rfl⟩:=RS.addr (hs2.mono (Ja (Ja hl1 hl2) hl3)) (k:=kn1) (by (have q_:=JcD (c:=c) ‹_›;have q1_:=q_.1.len;omega))
 obtain ⟨x1,hx1⟩:=QW (l:=c.heads) (k:=kn1) (by (have q_:=JcD (c:=c) ‹_›;have q1_:=q_.1.len;omega))
 obtain ⟨_,⟨rfl,w6,w7,w8,w9⟩,hc1⟩:=RS.get (hs2.mono (Ja (Ja hl1 hl2) hl3)) hx1
 refine Kt [7] (Wz [(0,Pt b1 5),(1,Sl (At b4 o1) c.heads.length c2),(2,I (kn1:Int)),(3,Pt b4 (o1+kn1*4)),(4,.agg #[I x1.epoch,U x1.root,U x1.prev,I x1.at_]),(5,(Jah (KU ((Ku c epoch).1) name).1 a5 c5 a6 c6)),(6,(W2 (⟨x1,(KU ((Ku c epoch).1) name).1⟩:QL) a5 c5 a6 c6))] (JL [] [(0,0),(1,8),(2,0),(5,2),(6,0)] [3,4] [7] (Kb ?_ (Kb ?_ K4)) (Kb ?_ K4)))
 refine Jr 3 34 (Pt b4 (o1+kn1*4)) [(32,Sl (At b4 o1) c.heads.length c2),(33,I (kn1:Int))] (fun X=>?_)
 exact JY (b:=b4) (off:=o1) (len:=c.heads.length) (cap:=c2) (ik:=.i64) 34 43 4 kn1 (by (have q_:=JcD (c:=c) ‹_›;have q1_:=q_.1.len;omega)) Jn
 refine Jr 4 35 (.agg #[I x1.epoch,U x1.root,U x1.prev,I x1.at_]) [(34,Pt b4 (o1+kn1*4))] (fun X=>?_)
 exact JR 35 43 (cs:=[I x1.epoch,U x1.root,U x1.prev,I x1.at_]) 0 (.agg #[I x1.epoch,U x1.root,U x1.prev,I x1.at_]) hc1 Jn
 refine JA 7 [(6,Pt b2 0),(37,(W2 (⟨x1,(KU ((Ku c epoch).1) name).1⟩:QL) a5 c5 a6 c6))] (fun X=>?_)
 refine KI 2 [[Sg b3 0 (VV (KU ((Ku c epoch).1) name).1 a5 c5 a6 c6)],[],[Sg b2 0 (ZO (⟨x1,(KU ((Ku c epoch).1) name).1⟩:QL) a5 c5 a6 c6)],[Sg b1 0 (KX c a1 c1 (At b4 o1) c2 a3 c3)]] (J9 [(8,I 0)] (Kq [0,1,2,3,4,5,6] [(8,0)] [] [(6,Pt b2 0),(7,I 0)] (Ha _) (Jc (Jo ?_))))
 have hf3:JH c name epoch=((⟨x1,((KU ((Ku c epoch).1) name).1)⟩:QL),0):=by
  unfold JH JeC;(rw [if_neg (by omega)];(rw [if_neg (by simp_all)];simp_all;done))
 refine Jp [2,0] [(W2 (⟨x1,(KU ((Ku c epoch).1) name).1⟩:QL) a5 c5 a6 c6),I 0] (JB [] (Ja (Ja hl1 hl2) hl3) ?_)
 rw [hf3]
 try dsimp only
 exact ⟨a5,c5,a6,c6,rfl,w6,w7,w8,w9,w5,hs5,hs6,rfl⟩
def ZR (c:KL) (a b:Int):List JV×Int:=if ¬ Ke c=0 then ([],Ke c) else Zj c.heads a b
set_option maxHeartbeats 1600000 in
theorem Jgp (G:J4) (vs_c:Bv) (c:KL) (h_c:JaJ.R G vs_c c) (a:Int) (hw_a:rI a) (b:Int) (hw_b:rI b) :YL 167 #[.agg vs_c.toArray,I a,I b] G [] (fun u G' L'=>∃ (a1:Ba) (c2:Nat),u=.tuple #[Sl a1 (((ZR c a b).1).length) c2,I ((ZR c a b).2)]∧(RS KG G' a1 c2 ((ZR c a b).1))∧L'=[]):=by
 obtain ⟨a1,c1,a2,c2,a3,c3,rfl,w1,hs1,w2,w3,w4,hs2,hs3⟩:=h_c
 refine JS Tryz.func167 21 [(0,(QH c a1 c1 a2 c2 a3 c3)),(1,I a),(2,I b)] rfl (fun w0 G0=>?_)
 refine Jf (Jd (Jv 3 #[I c.queue.most,Sl a1 c.queue.wait.length c1,I c.batch,I c.every,I c.now,Sl a2 c.heads.length c2,Sl a3 c.books.length c3] 60 (fun b1=>Jb [0,0] [] (Je (Jc (Jf (Jf (Jd (Jb [2] [(9,(QH c a1 c1 a2 c2 a3 c3))] (Jl 10 (I (Ke c)) (VK G (KX c a1 c1 a2 c2 a3 c3) c (⟨a1,c1,a2,c2,a3,c3,rfl,w1,hs1,w2,w3,w4,hs2,hs3⟩)) (Jb [0] [(8,I (Ke c))] (Je (Jc (Jg [0,0] [(12,Bo (!decide (Ke c=0)))] (Jm (!decide (Ke c=0)) (fun h1=>?_) (fun h1=>?_))))))))))))))))
 refine Jg [0,0,0] [(6,Sl none 0 0),(7,I (Ke c))] (Jo (Jj ?_))
 have hf1:ZR c a b=([],Ke c):=by
  unfold ZR;(rw [if_pos ‹_›];done)
 refine Jp [0,0] [Sl none 0 0,I (Ke c)] (JB [] (Jh _) ?_)
 rw [hf1]
 try dsimp only
 exact ⟨none,0,rfl,(JP KG G),rfl⟩
 refine Jq (Jc (Jf (Jd (Jb [0,2,0,0] [(15,Sl a2 c.heads.length c2),(16,I a),(17,I b)] (JM 18 (Jg4 G a2 c2 c.heads hs2 a hw_a b hw_b) (fun v G1 L1 hl1 hp=>?_))))))
 obtain ⟨a4,c4,rfl,hs4,rfl⟩:=hp
 refine Jb [0,0,0,0] [(6,Sl a4 (((Zj c.heads a b).1).length) c4),(7,I ((Zj c.heads a b).2))] (Je (Jc (Jo ?_)))
 have hf2:ZR c a b=((Zj c.heads a b).1,(Zj c.heads a b).2):=by
  unfold ZR;(rw [if_neg (by omega)];done)
 refine Jp [0,0] [Sl a4 (((Zj c.heads a b).1).length) c4,I ((Zj c.heads a b).2)] (JB [] hl1 ?_)
 rw [hf2]
 try dsimp only
 exact ⟨a4,c4,rfl,hs4,rfl⟩
def Vr (p:Wl):Prop:=1≤p.least∧p.least≤p.most∧p.most≤1000∧1≤p.lost∧p.lost≤100∧p.least≤p.gap∧p.gap≤p.most∧0≤p.next∧p.next≤1000000000∧0≤p.asked∧p.asked≤1000000
instance (p:Wl):Decidable (Vr p):=inferInstanceAs (Decidable (_∧_))
def KN (p:Wl):Int:=if Vr p then 0 else 4
theorem ZK (p:Wl):KN p=0 ↔ Vr p:=by unfold KN;split <;> simp_all
theorem JiC (p:Wl):KN p=0∨KN p=4:=by unfold KN;split <;> simp
theorem JbP {p:Wl} (h:Vr p):KN p=0:=if_pos h
theorem JcW {p:Wl} (h:¬ Vr p):KN p=4:=if_neg h
def KO (p:Wl) (now:Int):Int:=if KN p=0∧(now<0∨1000000000<now) then 4 else KN p
theorem Jdj (p:Wl) (now:Int):KO p now=0 ↔ (Vr p∧0≤now∧now≤1000000000):=by
 rw [← ZK];unfold KO;have:=JiC p;split <;> omega
theorem Jck {p:Wl} {now:Int} (h:KO p now=0):1≤p.least∧p.least≤p.most∧p.most≤1000∧1≤p.lost∧p.lost≤100∧p.least≤p.gap∧p.gap≤p.most∧0≤p.next∧p.next≤1000000000∧0≤p.asked∧p.asked≤1000000∧0≤now∧now≤1000000000:=by
 have:=(Jdj p now).1 h;unfold Vr at this;omega
def Qa (now n:Int):Int:=if 1000000000<now+n then 1000000000 else now+n
def VT:Wl:=⟨0,0,0,0,0,0⟩
def KP (p:Wl) (now:Int):Wl×Int :=
 if KO p now ≠ 0 then (VT,KO p now) else if now<p.next then (VT,9) else if p.asked=1000000 then (VT,7) else
 (⟨p.least,p.most,p.lost,if p.most<2*p.gap then p.most else 2*p.gap,Qa now p.gap,p.asked+1⟩,0)
def Ws (least top lost:Int):Wl×Int:=if Vr ⟨least,top,lost,least,0,0⟩ then (⟨least,top,lost,least,0,0⟩,0) else (VT,4)
def Wh (p:Wl) (now:Int):Wl×Int :=
 if KO p now ≠ 0 then (VT,KO p now) else
 (⟨p.least,p.most,p.lost,p.least,if Qa now p.least<p.next then Qa now p.least else p.next,0⟩,0)
theorem Je8 {p:Wl} {now:Int} (h:(KP p now).2=0) :
  1≤p.least∧p.least≤p.most∧p.most≤1000∧1≤p.lost∧p.lost≤100∧p.least≤p.gap∧p.gap≤p.most∧0≤p.next∧p.next≤1000000000∧0≤p.asked∧p.asked<1000000∧0≤now∧now≤1000000000∧p.next≤now ∧
  KN (KP p now).1=0∧(KP p now).1.least=p.least∧(KP p now).1.most=p.most∧(KP p now).1.lost=p.lost∧(KP p now).1.asked=p.asked+1 ∧
  (p.most<2*p.gap∧(KP p now).1.gap=p.most∨2*p.gap≤p.most∧(KP p now).1.gap=2*p.gap) ∧
  (1000000000<now+p.gap∧(KP p now).1.next=1000000000∨now+p.gap≤1000000000∧(KP p now).1.next=now+p.gap):=by
 unfold KP at h ⊢
 split at h
 · contradiction
 split at h
 · cases h
 split at h
 · cases h
 rename_i h1 h2 h3
 have hb:=Jck (p:=p) (now:=now) (by omega)
 rw [if_neg h1,if_neg h2,if_neg h3]
 dsimp only
 refine ⟨by omega,by omega,by omega,by omega,by omega,by omega,by omega,by omega,by omega,by omega,by omega,by omega,by omega,by omega,JbP ?_,rfl,rfl,rfl,rfl,?_,?_⟩
 · unfold Vr Qa;simp only;(repeat' split) <;> omega
 · split <;> omega
 · unfold Qa;split <;> omega
theorem JiD {p:Wl} {now:Int} (h:(KP p now).2 ≠ 0):(KP p now).1=VT:=by
 revert h;unfold KP;(repeat' split) <;> simp
theorem JiE {p:Wl} {now:Int} (h:(Wh p now).2=0):KO p now=0∧Wh p now=(⟨p.least,p.most,p.lost,p.least,if Qa now p.least<p.next then Qa now p.least else p.next,0⟩,0):=by
 revert h;unfold Wh;split
 · intro h;exact absurd h ‹_›
 · intro _;exact ⟨by omega,rfl⟩
theorem Jgq {a b c:Int} (h:(Ws a b c).2=0):Vr ⟨a,b,c,a,0,0⟩∧Ws a b c=(⟨a,b,c,a,0,0⟩,0):=by
 revert h;unfold Ws;split
 · rename_i h1;intro _;exact ⟨h1,rfl⟩
 · simp
theorem JjN {a b c:Int} (h:(Ws a b c).2 ≠ 0):(Ws a b c).1=VT:=by
 revert h;unfold Ws;split <;> simp
def Jbr (p:Wl):Bool:=decide (KN p=0) && decide (p.asked ≥ p.lost)
def ZT (p:Wl) (now:Int):Bool×Int:=(decide (KO p now=0) && decide (now ≥ p.next),KO p now)
def Wu (p:Wl):Bool×Int:=(Jbr p,KN p)
theorem Jbc (G:J4) (vs_p:Bv) (p:Wl) (h_p:Wp.R G vs_p p) :Q7 100 #[.agg vs_p.toArray] G (I (KN p)):=by
 obtain ⟨rfl,_,_,_,_,_,_⟩:=h_p
 refine JS Tryz.func100 62 [(0,.agg #[I p.least,I p.most,I p.lost,I p.gap,I p.next,I p.asked])] rfl (fun w0 G0=>?_)
 refine Jf (Jd (Jv 1 #[I p.least,I p.most,I p.lost,I p.gap,I p.next,I p.asked] 143 (fun b1=>Jb [0] [] (Je (Jc (Jf (Jf (Jd (Jb [0,2,0,0] [(6,Bo (decide (p.least<1)))] (Kk (decide (p.least<1)) [6] [1,1,1,1,1,0] [0,2,0,2,0,0] (fun bb=>[(12,Bo (bb || (decide (p.least > p.most))))]) (Jb [0] [(13,Bo ((decide (p.least<1)) || (decide (p.least > p.most))))] (Kk ((decide (p.least<1)) || (decide (p.least > p.most))) [13] [1,1,1,0] [0,2,0,0] (fun bb=>[(17,Bo (bb || (decide (p.most > 1000))))]) (Jb [0] [(18,Bo (((decide (p.least<1)) || (decide (p.least > p.most))) || (decide (p.most > 1000))))] (Kk (((decide (p.least<1)) || (decide (p.least > p.most))) || (decide (p.most > 1000))) [18] [1,1,1,0] [0,2,0,0] (fun bb=>[(22,Bo (bb || (decide (p.lost<1))))]) (Jb [0] [(23,Bo ((((decide (p.least<1)) || (decide (p.least > p.most))) || (decide (p.most > 1000))) || (decide (p.lost<1))))] (Kk ((((decide (p.least<1)) || (decide (p.least > p.most))) || (decide (p.most > 1000))) || (decide (p.lost<1))) [23] [1,1,1,0] [0,2,0,0] (fun bb=>[(27,Bo (bb || (decide (p.lost > 100))))]) ?_))))))))))))))))
 refine Jb [0] [(28,Bo (((((decide (p.least<1)) || (decide (p.least > p.most))) || (decide (p.most > 1000))) || (decide (p.lost<1))) || (decide (p.lost > 100))))] (Kk (((((decide (p.least<1)) || (decide (p.least > p.most))) || (decide (p.most > 1000))) || (decide (p.lost<1))) || (decide (p.lost > 100))) [28] [1,1,1,1,1,0] [0,2,0,2,0,0] (fun bb=>[(34,Bo (bb || (decide (p.gap<p.least))))]) (Jb [0] [(35,Bo ((((((decide (p.least<1)) || (decide (p.least > p.most))) || (decide (p.most > 1000))) || (decide (p.lost<1))) || (decide (p.lost > 100))) || (decide (p.gap<p.least))))] (Kk ((((((decide (p.least<1)) || (decide (p.least > p.most))) || (decide (p.most > 1000))) || (decide (p.lost<1))) || (decide (p.lost > 100))) || (decide (p.gap<p.least))) [35] [1,1,1,1,1,0] [0,2,0,2,0,0] (fun bb=>[(41,Bo (bb || (decide (p.gap > p.most))))]) (Jb [0] [(42,Bo (((((((decide (p.least<1)) || (decide (p.least > p.most))) || (decide (p.most > 1000))) || (decide (p.lost<1))) || (decide (p.lost > 100))) || (decide (p.gap<p.least))) || (decide (p.gap > p.most))))] (Kk (((((((decide (p.least<1)) || (decide (p.least > p.most))) || (decide (p.most > 1000))) || (decide (p.lost<1))) || (decide (p.lost > 100))) || (decide (p.gap<p.least))) || (decide (p.gap > p.most))) [42] [1,1,1,0] [0,2,0,0] (fun bb=>[(46,Bo (bb || (decide (p.next<0))))]) (Jb [0] [(47,Bo ((((((((decide (p.least<1)) || (decide (p.least > p.most))) || (decide (p.most > 1000))) || (decide (p.lost<1))) || (decide (p.lost > 100))) || (decide (p.gap<p.least))) || (decide (p.gap > p.most))) || (decide (p.next<0))))] (Kk ((((((((decide (p.least<1)) || (decide (p.least > p.most))) || (decide (p.most > 1000))) || (decide (p.lost<1))) || (decide (p.lost > 100))) || (decide (p.gap<p.least))) || (decide (p.gap > p.most))) || (decide (p.next<0))) [47] [1,1,1,0] [0,2,0,0] (fun bb=>[(51,Bo (bb || (decide (p.next > 1000000000))))]) (Jb [0] [(52,Bo (((((((((decide (p.least<1)) || (decide (p.least > p.most))) || (decide (p.most > 1000))) || (decide (p.lost<1))) || (decide (p.lost > 100))) || (decide (p.gap<p.least))) || (decide (p.gap > p.most))) || (decide (p.next<0))) || (decide (p.next > 1000000000))))] (Kk (((((((((decide (p.least<1)) || (decide (p.least > p.most))) || (decide (p.most > 1000))) || (decide (p.lost<1))) || (decide (p.lost > 100))) || (decide (p.gap<p.least))) || (decide (p.gap > p.most))) || (decide (p.next<0))) || (decide (p.next > 1000000000))) [52] [1,1,1,0] [0,2,0,0] (fun bb=>[(56,Bo (bb || (decide (p.asked<0))))]) (Jb [0] [(57,Bo ((((((((((decide (p.least<1)) || (decide (p.least > p.most))) || (decide (p.most > 1000))) || (decide (p.lost<1))) || (decide (p.lost > 100))) || (decide (p.gap<p.least))) || (decide (p.gap > p.most))) || (decide (p.next<0))) || (decide (p.next > 1000000000))) || (decide (p.asked<0))))] ?_))))))))))
 refine Kk ((((((((((decide (p.least<1)) || (decide (p.least > p.most))) || (decide (p.most > 1000))) || (decide (p.lost<1))) || (decide (p.lost > 100))) || (decide (p.gap<p.least))) || (decide (p.gap > p.most))) || (decide (p.next<0))) || (decide (p.next > 1000000000))) || (decide (p.asked<0))) [57] [1,1,1,0] [0,2,0,0] (fun bb=>[(61,Bo (bb || (decide (p.asked > 1000000))))]) (Je (Jc (Jm (((((((((((decide (p.least<1)) || (decide (p.least > p.most))) || (decide (p.most > 1000))) || (decide (p.lost<1))) || (decide (p.lost > 100))) || (decide (p.gap<p.least))) || (decide (p.gap > p.most))) || (decide (p.next<0))) || (decide (p.next > 1000000000))) || (decide (p.asked<0))) || (decide (p.asked > 1000000))) (fun h1=>?_) (fun h1=>?_))))
 refine Jg [0] [(2,I 4)] (Jo (Jj (Jp [0] [I 4] (Jy (Jh _) (congrArg I (?_:(KN p)=4).symm)))))
 exact JcW (by unfold Vr;omega)
 refine Jq (Jc (Jg [0] [(2,I 0)] (Jo (Jp [0] [I 0] (Jy (Jh _) (congrArg I (?_:(KN p)=0).symm))))))
 exact JbP (by unfold Vr;omega)
theorem JbX (G:J4) (vs_p:Bv) (p:Wl) (h_p:Wp.R G vs_p p) (now:Int) :Q7 215 #[.agg vs_p.toArray,I now] G (I (KO p now)):=by
 obtain ⟨rfl,w1,w2,w3,w4,w5,w6⟩:=h_p
 refine JS Tryz.func215 19 [(0,.agg #[I p.least,I p.most,I p.lost,I p.gap,I p.next,I p.asked]),(1,I now)] rfl (fun w0 G0=>?_)
 refine Jf (Jd (Jv 2 #[I p.least,I p.most,I p.lost,I p.gap,I p.next,I p.asked] 143 (fun b1=>Jb [0] [] (Je (Jc (Jf (Jd (Jb [2] [(6,.agg #[I p.least,I p.most,I p.lost,I p.gap,I p.next,I p.asked])] (Jl 7 (I (KN p)) (Jbc G [I p.least,I p.most,I p.lost,I p.gap,I p.next,I p.asked] p (⟨rfl,w1,w2,w3,w4,w5,w6⟩)) (Jb [0] [(5,I (KN p))] (Je (Jc (Jf (Jf (Jd (Jb [0,0,0] [(10,Bo (decide (KN p=0)))] (QS [10] (decide (KN p=0)) (fun h1=>?_) (fun h1=>?_))))))))))))))))))
 refine Jb [0,0,0] [(13,Bo (decide (now<0)))] (Kk (decide (now<0)) [13] [1,1,0] [0,0,0] (fun bb=>[(16,Bo (bb || (decide (now > 1000000000))))]) (Jb [0] [(17,Bo ((decide (now<0)) || (decide (now > 1000000000))))] (Je (Jc (Jm ((decide (now<0)) || (decide (now > 1000000000))) (fun h2=>?_) (fun h2=>?_))))))
 refine Jd (Jb [0] [(5,I 4)] (Je (Jc (Jg [0,0] [(4,I 4)] (Jo (Jp [0] [I 4] (Jy (Jh _) (congrArg I (?_:(KO p now)=4).symm))))))))
 unfold KO;split <;> omega
 refine Jq (Jc (Jg [0,0] [(4,I (KN p))] (Jo (Jp [0] [I (KN p)] (Jy (Jh _) (congrArg I (?_:(KO p now)=(KN p)).symm))))))
 unfold KO;split <;> omega
 refine Jb [1,1,1,1,1,1,0] [(17,Bo false)] (Je (Jc (Qt (Jq (Jc (Jg [0,0] [(4,I (KN p))] (Jo (Jp [0] [I (KN p)] (Jy (Jh _) (congrArg I (?_:(KO p now)=(KN p)).symm))))))))))
 unfold KO;split <;> omega
theorem JjO (G:J4) (vs_p:Bv) (p:Wl) (h_p:Wp.R G vs_p p) (now:Int) :Q7 217 #[.agg vs_p.toArray,I now] G (.tuple #[Bo ((ZT p now).1),I ((ZT p now).2)]):=by
 obtain ⟨rfl,w1,w2,w3,w4,w5,w6⟩:=h_p
 refine JS Tryz.func217 19 [(0,.agg #[I p.least,I p.most,I p.lost,I p.gap,I p.next,I p.asked]),(1,I now)] rfl (fun w0 G0=>?_)
 refine Jf (Jd (Jv 2 #[I p.least,I p.most,I p.lost,I p.gap,I p.next,I p.asked] 143 (fun b1=>Jb [0,0] [] (Je (Jc (Jf (Jd (Jb [2,0] [(7,.agg #[I p.least,I p.most,I p.lost,I p.gap,I p.next,I p.asked]),(8,I now)] (Jl 9 (I (KO p now)) (JbX G [I p.least,I p.most,I p.lost,I p.gap,I p.next,I p.asked] p (⟨rfl,w1,w2,w3,w4,w5,w6⟩) now) (Jb [0] [(6,I (KO p now))] (Je (Jc (Jf (Jd (Jb [0,0,0] [(12,Bo (decide (KO p now=0)))] (Kk (decide (KO p now=0)) [12] [0,0,2,0,0] [1,1,1,1,0] (fun bb=>[(17,Bo (bb && (decide (now ≥ p.next))))]) (Jb [0,0,0] [(4,Bo ((decide (KO p now=0)) && (decide (now ≥ p.next)))),(5,I (KO p now))] (Je (Jc (Jo (Jp [0,0] [Bo ((decide (KO p now=0)) && (decide (now ≥ p.next))),I (KO p now)] (Jy (Jh _) ?_))))))))))))))))))))))
 have hf_:(ZT p now)=(((decide (KO p now=0)) && (decide (now ≥ p.next))),(KO p now)):=by
  rfl
 · (try rw [hf_]);(simp only [QD];done)
theorem JcX (G:J4) (now:Int) (n:Int) (hn:-9000000000000000000≤now+n∧now+n≤9000000000000000000):Q7 216 #[I now,I n] G (I (Qa now n)):=by
 refine JS Tryz.func216 9 [(0,I now),(1,I n)] rfl (fun w0 G0=>?_)
 refine Jg [0] [] (Jg [0,0,0,0,0] [(4,I (if 1000000000<(Hb.wrap (now+n)) then 1000000000 else (Hb.wrap (now+n))))] ?_)
 have e1:Hb.wrap (now+n)=now+n:=Hp _ (by omega)
 refine Wa 4 (I (if 1000000000<(now+n) then 1000000000 else (now+n))) (show (I (if 1000000000<(Hb.wrap (now+n)) then 1000000000 else (Hb.wrap (now+n))):Value)=I (if 1000000000<(now+n) then 1000000000 else (now+n)) by simp only [e1]) ?_
 clear e1
 refine Jo (Jp [0] [I (if 1000000000<(now+n) then 1000000000 else (now+n))] (Jy (Jh _) (congrArg I (?_:(Qa now n)=(if 1000000000<(now+n) then 1000000000 else (now+n))).symm)))
 unfold Qa;split <;> rfl
theorem JdX (G:J4) (vs_p:Bv) (p:Wl) (h_p:Wp.R G vs_p p) (now:Int) :Q7 170 #[.agg vs_p.toArray,I now] G (.tuple #[.agg #[I (((KP p now).1).least),I (((KP p now).1).most),I (((KP p now).1).lost),I (((KP p now).1).gap),I (((KP p now).1).next),I (((KP p now).1).asked)],I ((KP p now).2)]):=by
 obtain ⟨rfl,w1,w2,w3,w4,w5,w6⟩:=h_p
 refine JS Tryz.func170 45 [(0,.agg #[I p.least,I p.most,I p.lost,I p.gap,I p.next,I p.asked]),(1,I now)] rfl (fun w0 G0=>?_)
 refine Jf (Jd (Jv 2 #[I p.least,I p.most,I p.lost,I p.gap,I p.next,I p.asked] 143 (fun b1=>Jv 4 #[I 0,I 0,I 0,I 0,I 0,I 0] 143 (fun b2=>Jb [0] [] (Je (Jc (Jf (Jd (Jb [4,0] [(9,.agg #[I p.least,I p.most,I p.lost,I p.gap,I p.next,I p.asked]),(10,I now)] (Jl 11 (.tuple #[Bo ((ZT p now).1),I ((ZT p now).2)]) (JjO G [I p.least,I p.most,I p.lost,I p.gap,I p.next,I p.asked] p (⟨rfl,w1,w2,w3,w4,w5,w6⟩) now) (Jb [0,0,0,0,0] [(6,Bo ((ZT p now).1)),(7,I ((ZT p now).2))] (Je (Jc (Jf (Jx (Jg [0,0,0] [(14,Bo (!decide ((ZT p now).2=0)))] (Jm (!decide ((ZT p now).2=0)) (fun h1=>?_) (fun h1=>?_))))))))))))))))))
 refine Jg [0,0,3,0] [(5,I ((ZT p now).2))] (Jo (Ju (Jj (Jp [0,0] [.agg #[I 0,I 0,I 0,I 0,I 0,I 0],I ((ZT p now).2)] (Jy (Jh _) ?_)))))
 have hf_:(KP p now)=((⟨0,0,0,0,0,0⟩:Wl),((ZT p now).2)):=by
  unfold KP VT;(try unfold ZT at *);(repeat' split) <;> rfl
 · (try rw [hf_]);(simp only [QD];done)
 refine Jg [0,0,0] [(19,Bo (!((ZT p now).1)))] (Jm (!((ZT p now).1)) (fun h2=>?_) (fun h2=>?_))
 refine Jg [0,3,0] [(5,I 9)] (Jo (Ju (Jj (Jp [0,0] [.agg #[I 0,I 0,I 0,I 0,I 0,I 0],I 9] (Jy (Jh _) ?_)))))
 have hf_:(KP p now)=((⟨0,0,0,0,0,0⟩:Wl),9):=by
  unfold KP VT;(try unfold ZT at *);(repeat' split) <;> first | rfl | (exfalso;omega) | (simp_all;done)
 · (try rw [hf_]);(simp only [QD];done)
 refine Jg [0,4,0,0] [(23,Bo (decide (p.asked=1000000)))] (Jm (decide (p.asked=1000000)) (fun h3=>?_) (fun h3=>?_))
 refine Jg [0,3,0] [(5,I 7)] (Jo (Ju (Jj (Jp [0,0] [.agg #[I 0,I 0,I 0,I 0,I 0,I 0],I 7] (Jy (Jh _) ?_)))))
 have hf_:(KP p now)=((⟨0,0,0,0,0,0⟩:Wl),7):=by
  unfold KP VT;(try unfold ZT at *);(repeat' split) <;> first | rfl | (exfalso;omega) | (exfalso;simp_all;omega)
 · (try rw [hf_]);(simp only [QD];done)
 refine Jq (JN (Jc (QF [0,4,0,0,5] [] [[Sg b2 0 [I 0,I 0,I 0,I 0,I 0,I 0]],[Sg b1 0 [I p.least,I p.most,I p.lost,I p.gap,I p.next,I (Hb.wrap (p.asked+1))]]] ?_)))
 have e1:Hb.wrap (p.asked+1)=p.asked+1:=Hp _ (by (have q_:=Jck (p:=p) (now:=now) ‹_›;omega))
 refine Jc7 (L':=[[Sg b2 0 [I 0,I 0,I 0,I 0,I 0,I 0]],[Sg b1 0 [I p.least,I p.most,I p.lost,I p.gap,I p.next,I (p.asked+1)]]]) (by simp only [e1]) ?_
 clear e1
 refine Jf (Jd (Jb [0,0,4] [(32,I now),(34,I p.gap)] (Jl 35 (I (Qa now p.gap)) (JcX G now p.gap (by (have q_:=Jck (p:=p) (now:=now) ‹_›;omega))) (JX [0,5] [] [[Sg b2 0 [I 0,I 0,I 0,I 0,I 0,I 0]],[Sg b1 0 [I p.least,I p.most,I p.lost,I p.gap,I (Qa now p.gap),I (p.asked+1)]]] (Je (Jc (QF [0,4,0,0,4,0,0,5] [] [[Sg b2 0 [I 0,I 0,I 0,I 0,I 0,I 0]],[Sg b1 0 [I p.least,I p.most,I p.lost,I (if p.most<(Hb.wrap (2*p.gap)) then p.most else (Hb.wrap (2*p.gap))),I (Qa now p.gap),I (p.asked+1)]]] ?_)))))))
 have e2:Hb.wrap (2*p.gap)=2*p.gap:=Hp _ (by (have q_:=Jck (p:=p) (now:=now) ‹_›;omega))
 refine Jc7 (L':=[[Sg b2 0 [I 0,I 0,I 0,I 0,I 0,I 0]],[Sg b1 0 [I p.least,I p.most,I p.lost,I (if p.most<(2*p.gap) then p.most else (2*p.gap)),I (Qa now p.gap),I (p.asked+1)]]]) (by simp only [e2]) ?_
 clear e2
 refine QF [4,3,0] [(5,I 0)] [[Sg b2 0 [I p.least,I p.most,I p.lost,I (if p.most<(2*p.gap) then p.most else (2*p.gap)),I (Qa now p.gap),I (p.asked+1)]],[Sg b1 0 [I p.least,I p.most,I p.lost,I (if p.most<(2*p.gap) then p.most else (2*p.gap)),I (Qa now p.gap),I (p.asked+1)]]] (Jo (Jp [0,0] [.agg #[I p.least,I p.most,I p.lost,I (if p.most<(2*p.gap) then p.most else (2*p.gap)),I (Qa now p.gap),I (p.asked+1)],I 0] (Jy (Jh _) ?_)))
 have hf_:(KP p now)=((⟨p.least,p.most,p.lost,if p.most<(2*p.gap) then p.most else (2*p.gap),Qa now p.gap,p.asked+1⟩:Wl),0):=by
  unfold KP VT;(try unfold ZT at *);(repeat' split) <;> first | rfl | (exfalso;omega) | (exfalso;simp_all;omega)
 · (try rw [hf_]);(simp only [QD];done)
theorem JjP (G:J4) (a:Int) (hw_a:rI a) (b:Int) (hw_b:rI b) (c:Int) (hw_c:rI c) :Q7 58 #[I a,I b,I c] G (.tuple #[.agg #[I (((Ws a b c).1).least),I (((Ws a b c).1).most),I (((Ws a b c).1).lost),I (((Ws a b c).1).gap),I (((Ws a b c).1).next),I (((Ws a b c).1).asked)],I ((Ws a b c).2)]):=by
 refine JS Tryz.func58 22 [(0,I a),(1,I b),(2,I c)] rfl (fun w0 G0=>?_)
 refine Jf (Jd (Jv 6 #[I 0,I 0,I 0,I 0,I 0,I 0] 143 (fun b1=>Jb [0] [] (Je (Jc (Jf (Jd (Jb [0,0,0,0,0] [(14,.agg #[I a,I b,I c,I a,I 0,I 0])] (Jv 8 #[I 0,I 0,I 0,I 0,I 0,I 0] 143 (fun b2=>JX [3] [] [[Sg b2 0 [I a,I b,I c,I a,I 0,I 0]],[Sg b1 0 [I 0,I 0,I 0,I 0,I 0,I 0]]] (Je (Jc (Jf (Jf (Jd (Jb [2] [(15,.agg #[I a,I b,I c,I a,I 0,I 0])] (Jl 16 (I (KN (⟨a,b,c,a,0,0⟩:Wl))) (Jbc G [I a,I b,I c,I a,I 0,I 0] (⟨a,b,c,a,0,0⟩:Wl) (⟨rfl,hw_a,hw_b,hw_c,hw_a,(by (simp;done)),(by (simp;done))⟩)) (Jb [0] [(9,I (KN (⟨a,b,c,a,0,0⟩:Wl)))] (Je (Jc (Jg [0,0] [(18,Bo (!decide (KN (⟨a,b,c,a,0,0⟩:Wl)=0)))] (Jm (!decide (KN (⟨a,b,c,a,0,0⟩:Wl)=0)) (fun h1=>?_) (fun h1=>?_)))))))))))))))))))))))
 refine Jg [0,0,5,0] [(7,I (KN (⟨a,b,c,a,0,0⟩:Wl)))] (Jo (Jj (Jp [1,0] [.agg #[I 0,I 0,I 0,I 0,I 0,I 0],I (KN (⟨a,b,c,a,0,0⟩:Wl))] (Jy (Jh _) ?_))))
 have hf_:(Ws a b c)=((⟨0,0,0,0,0,0⟩:Wl),(KN (⟨a,b,c,a,0,0⟩:Wl))):=by
  rw [ZK] at *;unfold Ws VT;split <;> first | (rename_i hx;rw [JcW hx];done) | contradiction
 · (try rw [hf_]);(simp only [QD];done)
 refine Jq (Jc (QF [2,5,0] [(7,I 0)] [[Sg b2 0 [I a,I b,I c,I a,I 0,I 0]],[Sg b1 0 [I a,I b,I c,I a,I 0,I 0]]] (Jo (Jp [1,0] [.agg #[I a,I b,I c,I a,I 0,I 0],I 0] (Jy (Jh _) ?_)))))
 have hf_:(Ws a b c)=((⟨a,b,c,a,0,0⟩:Wl),0):=by
  rw [ZK] at *;unfold Ws VT;split <;> rfl
 · (try rw [hf_]);(simp only [QD];done)
theorem Jhe (G:J4) (vs_p:Bv) (p:Wl) (h_p:Wp.R G vs_p p) (now:Int) :Q7 169 #[.agg vs_p.toArray,I now] G (.tuple #[.agg #[I (((Wh p now).1).least),I (((Wh p now).1).most),I (((Wh p now).1).lost),I (((Wh p now).1).gap),I (((Wh p now).1).next),I (((Wh p now).1).asked)],I ((Wh p now).2)]):=by
 obtain ⟨rfl,w1,w2,w3,w4,w5,w6⟩:=h_p
 refine JS Tryz.func169 27 [(0,.agg #[I p.least,I p.most,I p.lost,I p.gap,I p.next,I p.asked]),(1,I now)] rfl (fun w0 G0=>?_)
 refine Jf (Jd (Jv 2 #[I p.least,I p.most,I p.lost,I p.gap,I p.next,I p.asked] 143 (fun b1=>Jv 4 #[I 0,I 0,I 0,I 0,I 0,I 0] 143 (fun b2=>Jb [0] [] (Je (Jc (Jf (Jf (Jd (Jb [4,0] [(7,.agg #[I p.least,I p.most,I p.lost,I p.gap,I p.next,I p.asked]),(8,I now)] (Jl 9 (I (KO p now)) (JbX G [I p.least,I p.most,I p.lost,I p.gap,I p.next,I p.asked] p (⟨rfl,w1,w2,w3,w4,w5,w6⟩) now) (Jb [0] [(6,I (KO p now))] (Je (Jc (Jg [0,0] [(11,Bo (!decide (KO p now=0)))] (Jm (!decide (KO p now=0)) (fun h1=>?_) (fun h1=>?_)))))))))))))))))
 refine Jg [0,0,3,0] [(5,I (KO p now))] (Jo (Jj (Jp [0,0] [.agg #[I 0,I 0,I 0,I 0,I 0,I 0],I (KO p now)] (Jy (Jh _) ?_))))
 have hf_:(Wh p now)=((⟨0,0,0,0,0,0⟩:Wl),(KO p now)):=by
  unfold Wh VT;(repeat' split) <;> rfl
 · (try rw [hf_]);(simp only [QD];done)
 refine Jq (Jc (QF [0,4,0,5,0,5] [] [[Sg b2 0 [I 0,I 0,I 0,I 0,I 0,I 0]],[Sg b1 0 [I p.least,I p.most,I p.lost,I p.least,I p.next,I 0]]] (Jf (Kt [8] (Wz [(0,Pt b1 4),(1,I p.next),(2,I now),(3,Pt b1 0),(4,I p.least),(5,I (Qa now p.least)),(6,I (if (Qa now p.least)<p.next then (Qa now p.least) else p.next)),(7,Pt b1 4)] (JL [] [(0,0),(1,4),(2,0),(3,0),(4,4),(6,0),(7,0)] [5] [8] (Kb ?_ K4) (Kb ?_ K4)))))))
 refine Jr 5 23 (I (Qa now p.least)) [(20,I now),(22,I p.least)] (fun X=>?_)
 exact Jl 23 (I (Qa now p.least)) (JcX G now p.least (by (have q_:=Jck (p:=p) (now:=now) ‹_›;omega))) Jn
 refine JA 8 [(24,I (if (Qa now p.least)<p.next then (Qa now p.least) else p.next)),(25,Pt b1 4)] (fun X=>?_)
 refine KI 1 [[Sg b2 0 [I 0,I 0,I 0,I 0,I 0,I 0]],[Sg b1 0 [I p.least,I p.most,I p.lost,I p.least,I (if (Qa now p.least)<p.next then (Qa now p.least) else p.next),I 0]]] (J9 [] (Kq [0,1,2,3,4,5,6,7] [] [] [(2,Pt b1 0),(4,Pt b2 0)] (Ha _) (Jc (QF [4,3,0] [(5,I 0)] [[Sg b2 0 [I p.least,I p.most,I p.lost,I p.least,I (if (Qa now p.least)<p.next then (Qa now p.least) else p.next),I 0]],[Sg b1 0 [I p.least,I p.most,I p.lost,I p.least,I (if (Qa now p.least)<p.next then (Qa now p.least) else p.next),I 0]]] (Jo (Jp [0,0] [.agg #[I p.least,I p.most,I p.lost,I p.least,I (if (Qa now p.least)<p.next then (Qa now p.least) else p.next),I 0],I 0] (Jy (Jh _) ?_)))))))
 have hf_:(Wh p now)=((⟨p.least,p.most,p.lost,p.least,if (Qa now p.least)<p.next then (Qa now p.least) else p.next,0⟩:Wl),0):=by
  unfold Wh VT;(repeat' split) <;> first | rfl | (exfalso;omega)
 · (try rw [hf_]);(simp only [QD];done)
theorem JcY (G:J4) (vs_p:Bv) (p:Wl) (h_p:Wp.R G vs_p p) :Q7 171 #[.agg vs_p.toArray] G (.tuple #[Bo ((Wu p).1),I ((Wu p).2)]):=by
 obtain ⟨rfl,w1,w2,w3,w4,w5,w6⟩:=h_p
 refine JS Tryz.func171 17 [(0,.agg #[I p.least,I p.most,I p.lost,I p.gap,I p.next,I p.asked])] rfl (fun w0 G0=>?_)
 refine Jf (Jd (Jv 1 #[I p.least,I p.most,I p.lost,I p.gap,I p.next,I p.asked] 143 (fun b1=>Jb [0,0] [] (Je (Jc (Jf (Jd (Jb [2] [(5,.agg #[I p.least,I p.most,I p.lost,I p.gap,I p.next,I p.asked])] (Jl 6 (I (KN p)) (Jbc G [I p.least,I p.most,I p.lost,I p.gap,I p.next,I p.asked] p (⟨rfl,w1,w2,w3,w4,w5,w6⟩)) (Jb [0] [(4,I (KN p))] (Je (Jc (Jf (Jd (Jb [0,0,0] [(9,Bo (decide (KN p=0)))] (Kk (decide (KN p=0)) [9] [0,2,0,2,0,0] [1,1,1,1,1,0] (fun bb=>[(15,Bo (bb && (decide (p.asked ≥ p.lost))))]) (Jb [0,0,0] [(2,Bo ((decide (KN p=0)) && (decide (p.asked ≥ p.lost)))),(3,I (KN p))] (Je (Jc (Jo (Jp [0,0] [Bo ((decide (KN p=0)) && (decide (p.asked ≥ p.lost))),I (KN p)] (Jy (Jh _) ?_))))))))))))))))))))))
 have hf_:(Wu p)=(((decide (KN p=0)) && (decide (p.asked ≥ p.lost))),(KN p)):=by
  rfl
 · (try rw [hf_]);(simp only [QD];done)
def Jcl:YM:=⟨0,[]⟩
def Jfo (l:JQ) (n:YM):Bool:=decide (l.due≤n.now)
def Qk (n:YM):Int:=if n.now<0∨1000000000<n.now then 4 else if 60<n.way.length then 7 else if (n.way.any fun x0=>Jfo x0 n)=true then 4 else 0
theorem Q6 {n:YM} (h:Qk n=0):0≤n.now∧n.now≤1000000000∧n.way.length≤60∧∀ l∈n.way,n.now<l.due:=by
 unfold Qk at h
 split at h
 · cases h
 split at h
 · cases h
 split at h
 · cases h
 ·
  rename_i h1 h2 h3
  refine ⟨by omega,by omega,by omega,fun l hl=>?_⟩
  have:¬ Jfo l n=true:=fun hc=>h3 (Hv.2 ⟨l,hl,hc⟩)
  unfold Jfo at this
  simpa using this
def VL (k:Int):Bool:=decide (k<1) || decide (k > 100)
theorem Jmn {l:List Int} {i:Nat} {x:Int} (h:(l.any fun x0=>VL x0)=false) (hx:l[i]? = some x):1≤x∧x≤100:=by
 have:=List.any_eq_false.1 h x (Hr hx)
 unfold VL at this
 simp at this;omega
def Jpn (l:JQ) (d:Int):JQ:=⟨l.to_,l.from_,l.since,d,l.heads,l.reply⟩
def Kz (n:YM) (l:JQ) (fates:List Int):YM×Int :=
 if Qk n ≠ 0 then (Jcl,Qk n) else if (fates.any fun x0=>VL x0)=true then (Jcl,4) else if (fates.length:Int) > 60-(n.way.length:Int) then (Jcl,7) else (⟨n.now,n.way++fates.map fun k=>Jpn l (n.now+k)⟩,0)
def Kr (n:YM):YM×List JQ×Int :=
 if Qk n ≠ 0 then (Jcl,[],Qk n) else if n.now=1000000000 then (Jcl,[],9) else (⟨n.now+1,n.way.filter fun l=>!decide (l.due=n.now+1)⟩,n.way.filter fun l=>decide (l.due=n.now+1),0)
theorem JnI {α:Type} {l:List α} {i:Nat} {x:α} (h:l[i]? = some x):l.take i++[x]=l.take (i+1):=by rw [Hj,h];rfl
theorem Jpo {α β:Type} {l:List α} {i:Nat} {x:α} (f:α→β) (h:l[i]? = some x):(l.take i).map f++[f x]=(l.take (i+1)).map f:=by rw [Hj,h];simp
theorem Je9 {α:Type} {l:List α} {i:Nat} {x:α} {p:α→Bool} (h:l[i]? = some x) (hp:p x=true):(l.take i).filter p++[x]=(l.take (i+1)).filter p:=by rw [Hj,h];simp [hp]
theorem Jfa {α:Type} {l:List α} {i:Nat} {x:α} {p:α→Bool} (h:l[i]? = some x) (hp:p x=false):(l.take i).filter p=(l.take (i+1)).filter p:=by rw [Hj,h];simp [hp]
theorem Wo {α:Type} (p:α→Bool) (l:List α) (i:Nat):((l.take i).filter p).length≤l.length:=Hg (HC _ _) (List.length_take_le' i l)
theorem Jfb (G:J4) (vs_l:Bv) (l:JQ) (h_l:Kg.R G vs_l l) :YL 109 #[.agg vs_l.toArray] G [] (fun u G' L'=>∃ (a1:Ba) (c2:Nat) (a3:Ba) (c4:Nat) (a5:Ba) (c6:Nat),u=.agg #[I l.to_,I l.from_,I l.since,I l.due,Sl a1 l.heads.length c2,I l.reply.head.epoch,U l.reply.head.root,U l.reply.head.prev,I l.reply.head.at_,Sr l.reply.proof.name,Sl a3 l.reply.proof.entries.length c4,Sl a5 l.reply.proof.sides.length c6]∧(rI l.to_)∧(rI l.from_)∧(rI l.since)∧(rI l.due)∧(RS KG G' a1 c2 l.heads)∧(rI l.reply.head.epoch)∧(rU l.reply.head.root)∧(rU l.reply.head.prev)∧(rI l.reply.head.at_)∧((l.reply.proof.name).length≤140737488351232)∧(RS QJ G' a3 c4 l.reply.proof.entries)∧(RS EU G' a5 c6 l.reply.proof.sides)∧L'=[]):=by
 obtain ⟨a1,c1,a2,c2,a3,c3,rfl,w1,w2,w3,w4,hs1,w5,w6,w7,w8,w9,hs2,hs3⟩:=h_l
 refine JS Tryz.func109 24 [(0,(Q9 l a1 c1 a2 c2 a3 c3))] rfl (fun w0 G0=>?_)
 refine Jf (Jd (Jv 1 #[I l.to_,I l.from_,I l.since,I l.due,Sl a1 l.heads.length c1,I l.reply.head.epoch,U l.reply.head.root,U l.reply.head.prev,I l.reply.head.at_,Sr l.reply.proof.name,Sl a2 l.reply.proof.entries.length c2,Sl a3 l.reply.proof.sides.length c3] 51 (fun b1=>Jv 2 #[I 0,I 0,I 0,I 0,Sl none 0 0,I 0,U 0,U 0,I 0,Sr ([]),Sl none 0 0,Sl none 0 0] 51 (fun b2=>Je (Jc (Jf (Jd (Jb [0,4] [(4,Sl a1 l.heads.length c1)] (JM 5 (VH G a1 c1 l.heads hs1) (fun v G1 L1 hl1 hp=>?_))))))))))
 obtain ⟨a4,c4,r1,rfl,hr1,rfl⟩:=hp
 refine JX [0,7] [] [r1,[Sg b2 0 [I 0,I 0,I 0,I 0,Sl none 0 0,I 0,U 0,U 0,I 0,Sr ([]),Sl none 0 0,Sl none 0 0]],[Sg b1 0 (Kv l a4 c4 a2 c2 a3 c3)]] (Je (Jc (Jf (Jd (Jb [0,0,0,6] [(10,Sl a2 l.reply.proof.entries.length c2)] (JM 11 (YO G1 a2 c2 l.reply.proof.entries (hs2.mono hl1)) (fun v G2 L1 hl2 hp=>?_)))))))
 obtain ⟨a5,c5,r2,rfl,hr2,rfl⟩:=hp
 refine JX [0,0,0,9] [] [r2,r1,[Sg b2 0 [I 0,I 0,I 0,I 0,Sl none 0 0,I 0,U 0,U 0,I 0,Sr ([]),Sl none 0 0,Sl none 0 0]],[Sg b1 0 (Kv l a4 c4 a5 c5 a3 c3)]] (Je (Jc (Jf (Jd (Jb [0,0,0,8] [(18,Sl a3 l.reply.proof.sides.length c3)] (JM 19 (Jem G2 a3 c3 l.reply.proof.sides (hs3.mono (Ja hl1 hl2))) (fun v G3 L1 hl3 hp=>?_)))))))
 obtain ⟨a6,c6,r3,rfl,hr3,rfl⟩:=hp
 refine JX [0,0,0,11] [] [r3,r2,r1,[Sg b2 0 [I 0,I 0,I 0,I 0,Sl none 0 0,I 0,U 0,U 0,I 0,Sr ([]),Sl none 0 0,Sl none 0 0]],[Sg b1 0 (Kv l a4 c4 a5 c5 a6 c6)]] (Je (Jc (QF [10,9] [] [r3,r2,r1,[Sg b2 0 (Kv l a4 c4 a5 c5 a6 c6)],[Sg b1 0 (Kv l a4 c4 a5 c5 a6 c6)]] (Jo (Wm (E:=KG) 2 (hr1.mono (Ja hl2 hl3)) (by exact (hs1).fit) (fun G4 hl4 hs4=>Wm (E:=QJ) 1 (hr2.mono (Ja hl3 hl4)) (by exact (hs2.mono hl1).fit) (fun G5 hl5 hs5=>Wm (E:=EU) 0 (hr3.mono (Ja hl4 hl5)) (by exact (hs3.mono (Ja hl1 hl2)).fit) (fun G6 hl6 hs6=>?_))))))))
 have hf1:l=l:=by
  rfl
 refine Jp [3] [(Q9 l a4 c4 a5 c5 a6 c6)] (JB [] (Ja (Ja (Ja (Ja (Ja hl1 hl2) hl3) hl4) hl5) hl6) ?_)
 rw [hf1]
 try dsimp only
 exact ⟨a4,c4,a5,c5,a6,c6,rfl,w1,w2,w3,w4,(hs4.mono (Ja hl5 hl6)),w5,w6,w7,w8,w9,(hs5.mono hl6),hs6,rfl⟩
theorem JbQ (G:J4) (a_l:Ba) (c_l:Nat) (l:List JQ) (h_l:RS Kg G a_l c_l l) (hf:l.length*152≤140737488351232):YL 108 #[Sl a_l l.length c_l] G [] (fun u G' L'=>∃ (a1:Ba) (c2:Nat) (r3:Bg),u=Sl a1 l.length c2∧(J0 Kg G' a1 c2 l r3)∧L'=[r3]):=by
 refine JS Tryz.func108 19 [(0,Sl a_l l.length c_l)] rfl (fun w0 G0=>?_)
 refine Jg [0] [] (Jg [0] [(3,Sl none 0 0)] (Jf (Jg [0,0,0] [(6,Sl a_l l.length c_l),(7,I (l.length:Int)),(8,I 0)] (Jx (Z4 ?_)))))
 have hlm_h_l:l.length≤9223372036854775807:=Hg (h_l).le (h_l).max
 refine Qb (σ:=Nat×Ba×Nat×Bg×List JQ×J4) (fun q_=>(J4.le G q_.2.2.2.2.2)∧(q_.1≤l.length)∧(J0 Kg q_.2.2.2.2.2 q_.2.1 q_.2.2.1 q_.2.2.2.2.1 q_.2.2.2.1)∧(q_.2.2.2.2.1=l.take q_.1)) (fun q_=>[(3,Sl q_.2.1 q_.2.2.2.2.1.length q_.2.2.1),(6,Sl a_l l.length c_l),(7,I (l.length:Int)),(8,I (q_.1:Int))]) (fun q_=>q_.2.2.2.2.2) (fun q_=>[q_.2.2.2.1]) (fun q_=>l.length-q_.1) (0,none,0,[],[],G) ⟨(Jh _),(by (try dsimp only);exact Hs _),(J0.none Kg _),(by (try dsimp only);rfl)⟩ (fun q_ hs=>?_)
 obtain ⟨i,ao,co,ro,xo,g⟩:=q_
 obtain ⟨hle,hi,hro,hxo⟩:=hs
 dsimp only at hle hi hro hxo
 dsimp only
 refine Jg [0] [(9,Bo (decide ((i:Int)<(l.length:Int))))] (Jf (Jm (decide ((i:Int)<(l.length:Int))) (fun h1=>?_) (fun h1=>?_)))
 refine Jq (Jc (Jf (Jx (Jf (Jd ?_)))))
 obtain ⟨b1,o1,rfl⟩:=RS.addr (h_l.mono hle) (k:=i) (by omega)
 obtain ⟨x1,hx1⟩:=QW (l:=l) (k:=i) (by omega)
 obtain ⟨_,⟨a1,c1,a2,c2,a3,c3,rfl,w1,w2,w3,w4,hs1,w5,w6,w7,w8,w9,hs2,hs3⟩,hc1⟩:=RS.get (h_l.mono hle) hx1
 refine JY (b:=b1) (off:=o1) (len:=l.length) (cap:=c_l) (ik:=.i64) 10 51 12 i J5 (JR 11 51 (cs:=(Kv x1 a1 c1 a2 c2 a3 c3)) 0 (Q9 x1 a1 c1 a2 c2 a3 c3) hc1 (Jv 5 #[I 0,I 0,I 0,I 0,Sl none 0 0,I 0,U 0,U 0,I 0,Sr ([]),Sl none 0 0,Sl none 0 0] 51 (fun b2=>JX [3] [] [[Sg b2 0 (Kv x1 a1 c1 a2 c2 a3 c3)],ro] (Je (Jc (Jd (Jb [0,2] [(12,Sl ao xo.length co),(13,(Q9 x1 a1 c1 a2 c2 a3 c3))] (JM 14 (Jfb g (Kv x1 a1 c1 a2 c2 a3 c3) x1 (⟨a1,c1,a2,c2,a3,c3,rfl,w1,w2,w3,w4,hs1,w5,w6,w7,w8,w9,hs2,hs3⟩)) (fun v G1 L1 hl1 hp=>?_)))))))))
 obtain ⟨a4,c4,a5,c5,a6,c6,rfl,w10,w11,w12,w13,hs4,w14,w15,w16,w17,w18,hs5,hs6,rfl⟩:=hp
 exact Ki 15 1 #[I x1.to_,I x1.from_,I x1.since,I x1.due,Sl a4 x1.heads.length c4,I x1.reply.head.epoch,U x1.reply.head.root,U x1.reply.head.prev,I x1.reply.head.at_,Sr x1.reply.proof.name,Sl a5 x1.reply.proof.entries.length c5,Sl a6 x1.reply.proof.sides.length c6] 51 (fun b3=>Qr (b:=b3) (cs:=(Kv x1 a4 c4 a5 c5 a6 c6)) 16 51 2 0 (E:=Kg) x1 (hro.mono hl1) ⟨a4,c4,a5,c5,a6,c6,rfl,w10,w11,w12,w13,hs4,w14,w15,w16,w17,w18,hs5,hs6⟩ (by have q1_:=congrArg Ho hxo;(try simp only [Kg,Hd,He,Hi,Hn,Hm] at *);omega) (by have q1_:=congrArg Ho hxo;(try simp only [Kg,Hd,He,Hi,Hn,Hm] at *);omega) (fun a7 c7 r1 hr1=>Jb [0] [(3,Sl a7 ((xo++[x1]).length) c7)] (Je (JN (Jc (Jd (Jb [0,0] [(8,I (Hb.wrap ((i:Int)+1)))] (Kp 8 ((i:Int)+1) J5 (Je (QA [r1] (Qf (i+1,a7,c7,r1,xo++[x1],G1) ⟨(Ja hle hl1),J5,hr1,(by rw [hxo];exact JnI hx1)⟩ (by (try dsimp only);omega))))))))))))
 refine KW (J1 (J8 (JT (Jc (Jg [0,0] [(2,Sl ao xo.length co)] (Jo (Jk 0 ?_)))))))
 have hf1:l=xo:=by
  rw [hxo,Hk (by omega)]
 refine Jp [0] [Sl ao xo.length co] (JB [ro] hle ?_)
 rw [hf1]
 try dsimp only
 exact ⟨ao,co,ro,rfl,hro,rfl⟩
theorem Jpp (G:J4) (vs_l:Bv) (l:JQ) (h_l:Kg.R G vs_l l) (vs_n:Bv) (n:YM) (h_n:ENet.R G vs_n n) (b_n:Nat) (hz_n:∀ j v,(vs_n:Bv)[j]? = some v→G b_n (0+j)=some v) :Q7 159 #[.agg vs_l.toArray,Pt b_n 0] G (Bo (Jfo l n)):=by
 obtain ⟨a1,c1,a2,c2,a3,c3,rfl,_,_,_,_,_,_,_,_,_,_,_,_⟩:=h_l
 obtain ⟨a4,c4,rfl,_,_⟩:=h_n
 refine JS Tryz.func159 9 [(0,(Q9 l a1 c1 a2 c2 a3 c3)),(1,Pt b_n 0)] rfl (fun w0 G0=>?_)
 refine Jf (Jd (Jv 2 #[I l.to_,I l.from_,I l.since,I l.due,Sl a1 l.heads.length c1,I l.reply.head.epoch,U l.reply.head.root,U l.reply.head.prev,I l.reply.head.at_,Sr l.reply.proof.name,Sl a2 l.reply.proof.entries.length c2,Sl a3 l.reply.proof.sides.length c3] 51 (fun b1=>Jb [0] [] (Je (Jc (Jf (Jd (Jb [0,2,0] [(5,I l.due),(6,Pt b_n 0)] (JR (o':=0) 7 2 (cs:=[I n.now,Sl a4 n.way.length c4]) 0 (I n.now) hz_n (Jb [0,0] [(3,Bo (decide (l.due≤n.now)))] (Je (Jc (Jo (Jp [0] [Bo (decide (l.due≤n.now))] (Jy (Jh _) (congrArg Bo (?_:(Jfo l n)=(decide (l.due≤n.now))).symm))))))))))))))))
 rfl
theorem JdY (G:J4) (vs_n:Bv) (n:YM) (h_n:ENet.R G vs_n n) :Q7 105 #[.agg vs_n.toArray] G (I (Qk n)):=by
 obtain ⟨a1,c1,rfl,w1,hs1⟩:=h_n
 refine JS Tryz.func105 22 [(0,.agg #[I n.now,Sl a1 n.way.length c1])] rfl (fun w0 G0=>?_)
 refine Jf (Jd (Jv 1 #[I n.now,Sl a1 n.way.length c1] 65 (fun b1=>Jb [0] [] (Je (Jc (Jf (Jx (Jf (Jd (Jb [0,2,0,0] [(7,Bo (decide (n.now<0)))] (Kk (decide (n.now<0)) [7] [1,1,1,0] [0,2,0,0] (fun bb=>[(11,Bo (bb || (decide (n.now > 1000000000))))]) (Jb [0] [(3,Bo ((decide (n.now<0)) || (decide (n.now > 1000000000))))] (Je (Jc (Jm ((decide (n.now<0)) || (decide (n.now > 1000000000))) (fun h1=>?_) (fun h1=>?_))))))))))))))))
 refine Jg [0] [(2,I 4)] (Jo (Ju (Jj (Jp [0] [I 4] (Jy (Jh _) (congrArg I (?_:(Qk n)=4).symm))))))
 · unfold Qk;(rw [if_pos (by omega)];done)
 refine Jg [0,2,0,0,0] [(12,Bo (decide ((n.way.length:Int) > 60)))] (Jm (decide ((n.way.length:Int) > 60)) (fun h2=>?_) (fun h2=>?_))
 refine Jg [0] [(2,I 7)] (Jo (Ju (Jj (Jp [0] [I 7] (Jy (Jh _) (congrArg I (?_:(Qk n)=7).symm))))))
 · unfold Qk;(rw [if_neg (by omega),if_pos (by omega)];done)
 refine Jf (Jd (Jb [0,2,0] [(19,Sl a1 n.way.length c1),(20,Fv 159 #[Pt b1 0])] (Qu (b:=b1) (o:=0) (cs:=[I n.now,Sl a1 n.way.length c1]) 0 (fun G1 hl1 hz1=>Jl 21 (Bo (n.way.any (fun x0=>Jfo x0 n))) (Jii G1 a1 c1 n.way (hs1.mono hl1) 159 #[Pt b1 0] (fun x0=>Jfo x0 n) (fun _ _=>by kernel_rfl) (fun vs0 x0 hx0=>by obtain ⟨a2,c2,a3,c3,a4,c4,rfl,w2,w3,w4,w5,hs2,w6,w7,w8,w9,w10,hs3,hs4⟩:=hx0;exact Jpp G1 (Kv x0 a2 c2 a3 c3 a4 c4) x0 (⟨a2,c2,a3,c3,a4,c4,rfl,w2,w3,w4,w5,hs2,w6,w7,w8,w9,w10,hs3,hs4⟩) [I n.now,Sl a1 n.way.length c1] n (⟨a1,c1,rfl,w1,(hs1.mono hl1)⟩) b1 hz1)) (Jb [0] [(17,Bo (n.way.any (fun x0=>Jfo x0 n)))] (Je (Jc (Jm (n.way.any (fun x0=>Jfo x0 n)) (fun h3=>?_) (fun h3=>?_)))))))))
 refine Jg [0] [(2,I 4)] (Jo (Ju (Jj (Jp [0] [I 4] (Jy hl1 (congrArg I (?_:(Qk n)=4).symm))))))
 · unfold Qk;(rw [if_neg (by omega),if_neg (by omega)];simp_all;done)
 refine Jq (JN (Jc (Jg [0] [(2,I 0)] (Jo (Jp [0] [I 0] (Jy hl1 (congrArg I (?_:(Qk n)=0).symm)))))))
 · unfold Qk;(rw [if_neg (by omega),if_neg (by omega)];simp_all;done)
theorem JjQ (G:J4) (k:Int) :Q7 107 #[I k] G (Bo (VL k)):=by
 refine JS Tryz.func107 9 [(0,I k)] rfl (fun w0 G0=>?_)
 refine Jg [0] [] (Jf (Jd (Jb [0,0,0] [(5,Bo (decide (k<1)))] (Kk (decide (k<1)) [5] [1,1,0] [0,0,0] (fun bb=>[(8,Bo (bb || (decide (k > 100))))]) (Jb [0] [(2,Bo ((decide (k<1)) || (decide (k > 100))))] (Je (Jc (Jo (Jp [0] [Bo ((decide (k<1)) || (decide (k > 100)))] (Jy (Jh _) (congrArg Bo (?_:(VL k)=((decide (k<1)) || (decide (k > 100)))).symm)))))))))))
 rfl
set_option maxRecDepth 20000 in
theorem YX (G:J4) (vs_n:Bv) (n:YM) (h_n:ENet.R G vs_n n) (vs_l:Bv) (l:JQ) (h_l:Kg.R G vs_l l) (a_fates:Ba) (c_fates:Nat) (fates:List Int) (h_fates:RS EI G a_fates c_fates fates) :YL 63 #[.agg vs_n.toArray,.agg vs_l.toArray,Sl a_fates fates.length c_fates] G [] (fun u G' L'=>∃ (a1:Ba) (c2:Nat),u=.tuple #[.agg #[I (((Kz n l fates).1).now),Sl a1 ((((Kz n l fates).1).way).length) c2],I ((Kz n l fates).2)]∧(rI (((Kz n l fates).1).now))∧(RS Kg G' a1 c2 (((Kz n l fates).1).way))∧L'=[]):=by
 obtain ⟨a1,c1,rfl,w1,hs1⟩:=h_n
 obtain ⟨a2,c2,a3,c3,a4,c4,rfl,_,_,_,_,hs2,_,_,_,_,_,hs3,hs4⟩:=h_l
 refine JS Tryz.func63 60 [(0,.agg #[I n.now,Sl a1 n.way.length c1]),(1,(Q9 l a2 c2 a3 c3 a4 c4)),(2,Sl a_fates fates.length c_fates)] rfl (fun w0 G0=>?_)
 refine Jf (Jd (Jv 3 #[I n.now,Sl a1 n.way.length c1] 65 (fun b1=>Jv 4 #[I l.to_,I l.from_,I l.since,I l.due,Sl a2 l.heads.length c2,I l.reply.head.epoch,U l.reply.head.root,U l.reply.head.prev,I l.reply.head.at_,Sr l.reply.proof.name,Sl a3 l.reply.proof.entries.length c3,Sl a4 l.reply.proof.sides.length c4] 51 (fun b2=>Jv 6 #[I 0,Sl none 0 0] 65 (fun b3=>Jb [0] [] (Je (Jc (Jf (Jd (Jb [6] [(13,.agg #[I n.now,Sl a1 n.way.length c1])] (Jl 14 (I (Qk n)) (JdY G [I n.now,Sl a1 n.way.length c1] n (⟨a1,c1,rfl,w1,hs1⟩)) (Jb [0] [(8,I (Qk n))] (Je (Jc (Jf (Jx (Jg [0,0,0] [(15,Bo (!decide (Qk n=0)))] (Jm (!decide (Qk n=0)) (fun h1=>?_) (fun h1=>?_)))))))))))))))))))
 refine Jg [0,0,3,0] [(7,I (Qk n))] (Jo (Ju (Jj ?_)))
 have hf1:Kz n l fates=((⟨0,[]⟩:YM),Qk n):=by
  unfold Kz Jcl;(simp_all;done)
 refine Jp [0,0] [.agg #[I 0,Sl none 0 0],I (Qk n)] (JB [] (Jh _) ?_)
 rw [hf1]
 try dsimp only
 exact ⟨none,0,rfl,J5,(JP Kg G),rfl⟩
 refine Jf (Jd (Jb [0] [(21,Sl a_fates fates.length c_fates)] (Jl 22 (Bo (fates.any (fun x0=>VL x0))) (JqC G a_fates c_fates fates h_fates 107 #[] (fun x0=>VL x0) (fun _ _=>by kernel_rfl) (fun x0 hx0=>JjQ G x0)) (Jb [0] [(20,Bo (fates.any (fun x0=>VL x0)))] (Je (Jc (Jm (fates.any (fun x0=>VL x0)) (fun h2=>?_) (fun h2=>?_))))))))
 refine Jg [0,3,0] [(7,I 4)] (Jo (Ju (Jj ?_)))
 have hf2:Kz n l fates=((⟨0,[]⟩:YM),4):=by
  unfold Kz Jcl;(simp_all;done)
 refine Jp [0,0] [.agg #[I 0,Sl none 0 0],I 4] (JB [] (Jh _) ?_)
 rw [hf2]
 try dsimp only
 exact ⟨none,0,rfl,J5,(JP Kg G),rfl⟩
 refine Jg [0,0,0,6,0,0,0,0] [(24,Bo (decide ((fates.length:Int) > Hb.wrap (60-(n.way.length:Int)))))] ?_
 have e1:Hb.wrap (60-(n.way.length:Int))=60-(n.way.length:Int):=Hp _ (by (have q_:=Q6 ‹_›;omega))
 refine Wa 24 (Bo (decide ((fates.length:Int) > 60-(n.way.length:Int)))) (show (Bo (decide ((fates.length:Int) > Hb.wrap (60-(n.way.length:Int)))):Value)=Bo (decide ((fates.length:Int) > 60-(n.way.length:Int))) by simp only [e1]) ?_
 clear e1
 refine Jm (decide ((fates.length:Int) > 60-(n.way.length:Int))) (fun h3=>?_) (fun h3=>?_)
 refine Jg [0,3,0] [(7,I 7)] (Jo (Ju (Jj ?_)))
 have hf3:Kz n l fates=((⟨0,[]⟩:YM),7):=by
  unfold Kz Jcl;(simp_all;done)
 refine Jp [0,0] [.agg #[I 0,Sl none 0 0],I 7] (JB [] (Jh _) ?_)
 rw [hf3]
 try dsimp only
 exact ⟨none,0,rfl,J5,(JP Kg G),rfl⟩
 refine Jq (JN (Jc ?_))
 refine Ym (σ:=Nat×Ba×Nat×Bg×J4) (fun q_=>(J4.le G q_.2.2.2.2)∧(J0 Kg q_.2.2.2.2 q_.2.1 q_.2.2.1 n.way q_.2.2.2.1)) (fun q_=>[(2,Sl a_fates fates.length c_fates),(3,Pt b1 0),(4,Pt b2 0),(6,Pt b3 0),(9,Pt q_.1 0)]) (fun q_=>q_.2.2.2.2) (fun q_=>[[Sg q_.1 0 [I n.now,Sl q_.2.1 n.way.length q_.2.2.1]],q_.2.2.2.1,[Sg b3 0 [I 0,Sl none 0 0]],[Sg b2 0 (Kv l a2 c2 a3 c3 a4 c4)],[Sg b1 0 [I n.now,Sl a1 n.way.length c1]]]) ?_ (fun q_ hs=>?_)
 refine Kt [4,6,7] (Wz [(0,Pt b1 0),(1,I n.now),(2,Pt b1 1),(3,Sl a1 n.way.length c1)] (JL [] [(0,0),(1,6),(2,0),(3,6)] [] [4,6] (Ha _) (Kb ?_ (Kb ?_ K4))))
 refine JA 4 [(36,Sl a1 n.way.length c1)] (fun X=>?_)
 refine JM 37 (JbQ G a1 c1 n.way hs1 (by (have q_:=Q6 ‹_›;omega))) (fun v G1 L1 hl1 hp=>?_)
 obtain ⟨a5,c5,r1,rfl,hr1,rfl⟩:=hp
 refine JC [(4,Sl a5 n.way.length c5),(5,.agg #[I n.now,Sl a5 n.way.length c5])] (JL [2,3] [(0,0),(1,8),(5,0)] [] [6] (Ha _) (Kb ?_ K4))
 refine JA 6 [] (fun X=>?_)
 refine Jv 9 #[I 0,Sl none 0 0] 65 (fun b4=>JC [(6,Pt b4 0)] (JL [2,3] [(0,0),(1,10),(5,0)] [] [7] (Ha _) (Kb ?_ K4)))
 refine JA 7 [(9,Pt b4 0),(38,.agg #[I n.now,Sl a5 n.way.length c5])] (fun X=>?_)
 exact KI 0 [[Sg b4 0 [I n.now,Sl a5 n.way.length c5]],r1,[Sg b3 0 [I 0,Sl none 0 0]],[Sg b2 0 (Kv l a2 c2 a3 c3 a4 c4)],[Sg b1 0 [I n.now,Sl a1 n.way.length c1]]] (J9 [] (Kq [0,1,2,3,5] [] [] [(2,Sl a_fates fates.length c_fates),(3,Pt b1 0),(4,Pt b2 0),(6,Pt b3 0),(9,Pt b4 0)] (Ha _) (Q3 (b4,a5,c5,r1,G1) ⟨hl1,hr1⟩)))
 refine JA 6 [] (fun X=>?_)
 refine Jv 9 #[I 0,Sl none 0 0] 65 (fun b5=>JC [(6,Pt b5 0)] (JL [] [(0,0),(1,8),(2,0),(3,8)] [] [4] (Ha _) (Kb ?_ K4)))
 refine JA 4 [(36,Sl a1 n.way.length c1)] (fun X=>?_)
 refine JM 37 (JbQ G a1 c1 n.way hs1 (by (have q_:=Q6 ‹_›;omega))) (fun v G2 L1 hl2 hp=>?_)
 obtain ⟨a6,c6,r2,rfl,hr2,rfl⟩:=hp
 refine JC [(4,Sl a6 n.way.length c6),(5,.agg #[I n.now,Sl a6 n.way.length c6])] (JL [2,3] [(0,0),(1,10),(5,0)] [] [7] (Ha _) (Kb ?_ K4))
 refine JA 7 [(9,Pt b5 0),(38,.agg #[I n.now,Sl a6 n.way.length c6])] (fun X=>?_)
 exact KI 1 [r2,[Sg b5 0 [I n.now,Sl a6 n.way.length c6]],[Sg b3 0 [I 0,Sl none 0 0]],[Sg b2 0 (Kv l a2 c2 a3 c3 a4 c4)],[Sg b1 0 [I n.now,Sl a1 n.way.length c1]]] (J9 [] (Kq [0,1,2,3,5] [] [] [(2,Sl a_fates fates.length c_fates),(3,Pt b1 0),(4,Pt b2 0),(6,Pt b3 0),(9,Pt b5 0)] (Ha _) (Jk 4 (Jk 4 (Jk 4 (Jk 3 (Jk 4 (Q3 (b5,a6,c6,r2,G2) ⟨hl2,hr2⟩))))))))
 obtain ⟨b4,a5,c5,r1,G1⟩:=q_
 obtain ⟨hle1,hj1⟩:=hs
 dsimp only at hle1 hj1
 dsimp only
 refine Jf (Jg [0,0,0] [(39,Sl a_fates fates.length c_fates),(40,I (fates.length:Int)),(41,I 0)] (Jx ?_))
 have hlm_h_fates:fates.length≤9223372036854775807:=Hg (h_fates).le (h_fates).max
 refine Qb (σ:=Nat×Ba×Nat×Bg×List JQ×J4) (fun q_=>(J4.le G1 q_.2.2.2.2.2)∧(q_.1≤fates.length)∧(J0 Kg q_.2.2.2.2.2 q_.2.1 q_.2.2.1 q_.2.2.2.2.1 q_.2.2.2.1)∧(q_.2.2.2.2.1=n.way++(fates.take q_.1).map fun k=>Jpn l (n.now+k))) (fun q_=>[(3,Pt b1 0),(4,Pt b2 0),(6,Pt b3 0),(9,Pt b4 0),(39,Sl a_fates fates.length c_fates),(40,I (fates.length:Int)),(41,I (q_.1:Int))]) (fun q_=>q_.2.2.2.2.2) (fun q_=>[[Sg b4 0 [I n.now,Sl q_.2.1 q_.2.2.2.2.1.length q_.2.2.1]],q_.2.2.2.1,[Sg b3 0 [I 0,Sl none 0 0]],[Sg b2 0 (Kv l a2 c2 a3 c3 a4 c4)],[Sg b1 0 [I n.now,Sl a1 n.way.length c1]]]) (fun q_=>fates.length-q_.1) (0,a5,c5,r1,n.way,G1) ⟨(Jh _),(by (try dsimp only);exact Hs _),hj1,(by (try dsimp only);simp)⟩ (fun q_ hs=>?_)
 obtain ⟨i,aw,cw,rw,xw,g⟩:=q_
 obtain ⟨hle,hi,hrw,hxw⟩:=hs
 dsimp only at hle hi hrw hxw
 dsimp only
 refine Jg [0] [(42,Bo (decide ((i:Int)<(fates.length:Int))))] (Jf (Jm (decide ((i:Int)<(fates.length:Int))) (fun h4=>?_) (fun h4=>?_)))
 refine Jq (Jc (Jf (Jx (Jf (Jd ?_)))))
 obtain ⟨b6,o1,rfl⟩:=RS.addr (h_fates.mono (Ja hle1 hle)) (k:=i) (by omega)
 obtain ⟨x1,hx1⟩:=QW (l:=fates) (k:=i) (by omega)
 obtain ⟨_,⟨rfl,_⟩,hc1⟩:=RS.get (h_fates.mono (Ja hle1 hle)) hx1
 refine JY (b:=b6) (off:=o1) (len:=fates.length) (cap:=c_fates) (ik:=.i64) 43 3 1 i J5 (JR 44 3 (cs:=[I x1]) 0 (I x1) hc1 (Jb [0] [(11,I x1)] (Je (Jc (Jf (Jd (Jb [8] [(45,(Q9 l a2 c2 a3 c3 a4 c4))] (JM 46 (Jfb g (Kv l a2 c2 a3 c3 a4 c4) l (⟨a2,c2,a3,c3,a4,c4,rfl,‹_›,‹_›,‹_›,‹_›,(hs2.mono (Ja hle1 hle)),‹_›,‹_›,‹_›,‹_›,‹_›,(hs3.mono (Ja hle1 hle)),(hs4.mono (Ja hle1 hle))⟩)) (fun v G3 L1 hl3 hp=>?_)))))))))
 obtain ⟨a7,c7,a8,c8,a9,c9,rfl,_,_,_,_,hs5,_,_,_,_,_,hs6,hs7,rfl⟩:=hp
 refine Jv 12 #[I 0,I 0,I 0,I 0,Sl none 0 0,I 0,U 0,U 0,I 0,Sr ([]),Sl none 0 0,Sl none 0 0] 51 (fun b7=>JX [3] [] [[Sg b7 0 (Kv l a7 c7 a8 c8 a9 c9)],[Sg b4 0 [I n.now,Sl aw xw.length cw]],rw,[Sg b3 0 [I 0,Sl none 0 0]],[Sg b2 0 (Kv l a2 c2 a3 c3 a4 c4)],[Sg b1 0 [I n.now,Sl a1 n.way.length c1]]] (Je (Jc (QF [0,12,0,0,0,3] [] [[Sg b7 0 (Kv (⟨l.to_,l.from_,l.since,(Hb.wrap (n.now+x1)),l.heads,l.reply⟩:JQ) a7 c7 a8 c8 a9 c9)],[Sg b4 0 [I n.now,Sl aw xw.length cw]],rw,[Sg b3 0 [I 0,Sl none 0 0]],[Sg b2 0 (Kv l a2 c2 a3 c3 a4 c4)],[Sg b1 0 [I n.now,Sl a1 n.way.length c1]]] ?_))))
 have e2:Hb.wrap (n.now+x1)=n.now+x1:=Hp _ (by (have q_:=Q6 ‹_›;have q1_:=Jmn ‹_› ‹_›;omega))
 refine Jc7 (L':=[[Sg b7 0 [I l.to_,I l.from_,I l.since,I (n.now+x1),Sl a7 l.heads.length c7,I l.reply.head.epoch,U l.reply.head.root,U l.reply.head.prev,I l.reply.head.at_,Sr l.reply.proof.name,Sl a8 l.reply.proof.entries.length c8,Sl a9 l.reply.proof.sides.length c9]],[Sg b4 0 [I n.now,Sl aw xw.length cw]],rw,[Sg b3 0 [I 0,Sl none 0 0]],[Sg b2 0 [I l.to_,I l.from_,I l.since,I l.due,Sl a2 l.heads.length c2,I l.reply.head.epoch,U l.reply.head.root,U l.reply.head.prev,I l.reply.head.at_,Sr l.reply.proof.name,Sl a3 l.reply.proof.entries.length c3,Sl a4 l.reply.proof.sides.length c4]],[Sg b1 0 [I n.now,Sl a1 n.way.length c1]]]) (by simp only [Kv,Q9,e2];first | done | rfl) ?_
 clear e2
 exact Jd (Jb [0,4,2] [(53,Sl aw xw.length cw),(54,(Q9 (⟨l.to_,l.from_,l.since,(n.now+x1),l.heads,l.reply⟩:JQ) a7 c7 a8 c8 a9 c9))] (Ki 55 1 #[I l.to_,I l.from_,I l.since,I (n.now+x1),Sl a7 l.heads.length c7,I l.reply.head.epoch,U l.reply.head.root,U l.reply.head.prev,I l.reply.head.at_,Sr l.reply.proof.name,Sl a8 l.reply.proof.entries.length c8,Sl a9 l.reply.proof.sides.length c9] 51 (fun b8=>Qr (b:=b8) (cs:=(Kv (⟨l.to_,l.from_,l.since,(n.now+x1),l.heads,l.reply⟩:JQ) a7 c7 a8 c8 a9 c9)) 56 51 3 0 (E:=Kg) (⟨l.to_,l.from_,l.since,n.now+x1,l.heads,l.reply⟩:JQ) (hrw.mono hl3) ⟨a7,c7,a8,c8,a9,c9,rfl,‹_›,‹_›,‹_›,(by (dsimp only;(have q_:=Q6 ‹_›;have q1_:=Jmn ‹_› ‹_›;omega))),hs5,‹_›,‹_›,‹_›,‹_›,‹_›,hs6,hs7⟩ (by have q_:=Q6 ‹_›;have q1_:=congrArg Ho hxw;(try simp only [Kg,Hd,He,Hi,Hn,Hm] at *);omega) (by have q_:=Q6 ‹_›;have q1_:=congrArg Ho hxw;(try simp only [Kg,Hd,He,Hi,Hn,Hm] at *);omega) (fun a10 c10 r3 hr3=>JX [0,7] [] [[Sg b8 0 (Kv (⟨l.to_,l.from_,l.since,(n.now+x1),l.heads,l.reply⟩:JQ) a7 c7 a8 c8 a9 c9)],[Sg b7 0 (Kv (⟨l.to_,l.from_,l.since,(n.now+x1),l.heads,l.reply⟩:JQ) a7 c7 a8 c8 a9 c9)],[Sg b4 0 [I n.now,Sl a10 ((xw++[(⟨l.to_,l.from_,l.since,n.now+x1,l.heads,l.reply⟩:JQ)]).length) c10]],r3,[Sg b3 0 [I 0,Sl none 0 0]],[Sg b2 0 (Kv l a2 c2 a3 c3 a4 c4)],[Sg b1 0 [I n.now,Sl a1 n.way.length c1]]] (Je (JN (Jc (Jd (Jb [0,0] [(41,I (Hb.wrap ((i:Int)+1)))] (Kp 41 ((i:Int)+1) J5 (Je (QA [[Sg b4 0 [I n.now,Sl a10 ((xw++[(⟨l.to_,l.from_,l.since,n.now+x1,l.heads,l.reply⟩:JQ)]).length) c10]],r3,[Sg b3 0 [I 0,Sl none 0 0]],[Sg b2 0 (Kv l a2 c2 a3 c3 a4 c4)],[Sg b1 0 [I n.now,Sl a1 n.way.length c1]]] (Qf (i+1,a10,c10,r3,xw++[(⟨l.to_,l.from_,l.since,n.now+x1,l.heads,l.reply⟩:JQ)],G3) ⟨(Ja hle hl3),J5,hr3,(by rw [hxw,HA];exact congrArg _ (Jpo (fun k=>Jpn l (n.now+k)) hx1))⟩ (by (try dsimp only);omega))))))))))))))
 refine KW (J1 (J8 (JT (Jc (QF [2,7,0] [(7,I 0)] [[Sg b4 0 [I n.now,Sl aw xw.length cw]],rw,[Sg b3 0 [I n.now,Sl aw xw.length cw]],[Sg b2 0 (Kv l a2 c2 a3 c3 a4 c4)],[Sg b1 0 [I n.now,Sl a1 n.way.length c1]]] (Jo (Wm (E:=Kg) 1 hrw (by have q_:=Q6 ‹_›;have q1_:=congrArg Ho hxw;(try simp only [Kg,Hd,He,Hi,Hn,Hm] at *);omega) (fun G4 hl4 hs8=>?_))))))))
 have hf4:Kz n l fates=((⟨n.now,xw⟩:YM),0):=by
  unfold Kz Jcl;(rw [if_neg (by omega),if_neg (by simp_all),if_neg (by omega),hxw,Hk (by omega)])
 refine Jp [2,0] [.agg #[I n.now,Sl aw xw.length cw],I 0] (JB [] (Ja (Ja hle1 hle) hl4) ?_)
 rw [hf4]
 try dsimp only
 exact ⟨aw,cw,rfl,‹_›,hs8,rfl⟩
theorem JjR (G:J4) (vs_n:Bv) (n:YM) (h_n:ENet.R G vs_n n) :YL 111 #[.agg vs_n.toArray] G [] (fun u G' L'=>∃ (a1:Ba) (c2:Nat) (a3:Ba) (c4:Nat),u=.tuple #[.agg #[I (((Kr n).1).now),Sl a1 ((((Kr n).1).way).length) c2],Sl a3 (((Kr n).2.1).length) c4,I ((Kr n).2.2)]∧(rI (((Kr n).1).now))∧(RS Kg G' a1 c2 (((Kr n).1).way))∧(RS Kg G' a3 c4 ((Kr n).2.1))∧L'=[]):=by
 obtain ⟨a1,c1,rfl,w1,hs1⟩:=h_n
 refine JS Tryz.func111 50 [(0,.agg #[I n.now,Sl a1 n.way.length c1])] rfl (fun w0 G0=>?_)
 refine Jf (Jd (Jv 1 #[I n.now,Sl a1 n.way.length c1] 65 (fun b1=>Jv 2 #[I 0,Sl none 0 0] 65 (fun b2=>Jb [0,0] [] (Je (Jc (Jf (Jf (Jd (Jb [4] [(10,.agg #[I n.now,Sl a1 n.way.length c1])] (Jl 11 (I (Qk n)) (JdY G [I n.now,Sl a1 n.way.length c1] n (⟨a1,c1,rfl,w1,hs1⟩)) (Jb [0] [(5,I (Qk n))] (Je (Jc (Jg [0,0] [(13,Bo (!decide (Qk n=0)))] (Jm (!decide (Qk n=0)) (fun h1=>?_) (fun h1=>?_)))))))))))))))))
 refine Jg [0,0,3,0,0] [(3,Sl none 0 0),(4,I (Qk n))] (Jo (Jj ?_))
 have hf1:Kr n=((⟨0,[]⟩:YM),[],Qk n):=by
  unfold Kr Jcl;(simp_all;done)
 refine Jp [0,0,0] [.agg #[I 0,Sl none 0 0],Sl none 0 0,I (Qk n)] (JB [] (Jh _) ?_)
 rw [hf1]
 try dsimp only
 exact ⟨none,0,none,0,rfl,J5,(JP Kg G),(JP Kg G),rfl⟩
 refine Jq (Jc (Jf (Jg [0,4,0] [(18,Bo (decide (n.now=1000000000)))] (Jm (decide (n.now=1000000000)) (fun h2=>?_) (fun h2=>?_)))))
 refine Jg [0,3,0,0] [(3,Sl none 0 0),(4,I 9)] (Jo (Jj ?_))
 have hf2:Kr n=((⟨0,[]⟩:YM),[],9):=by
  unfold Kr Jcl;(simp_all;done)
 refine Jp [0,0,0] [.agg #[I 0,Sl none 0 0],Sl none 0 0,I 9] (JB [] (Jh _) ?_)
 rw [hf2]
 try dsimp only
 exact ⟨none,0,none,0,rfl,J5,(JP Kg G),(JP Kg G),rfl⟩
 refine Jq (Jc (Jf (Jd (Jb [0,4,0,0] [(23,.agg #[I (Hb.wrap (n.now+1)),Sl none 0 0])] ?_))))
 have e1:Hb.wrap (n.now+1)=n.now+1:=Hp _ (by (have q_:=Q6 ‹_›;omega))
 refine KE 23 (.agg #[I (n.now+1),Sl none 0 0]) (show (.agg #[I (Hb.wrap (n.now+1)),Sl none 0 0]:Value)=.agg #[I (n.now+1),Sl none 0 0] by simp only [e1]) ?_
 clear e1
 refine Jv 6 #[I 0,Sl none 0 0] 65 (fun b3=>JX [3] [] [[Sg b3 0 [I (n.now+1),Sl none 0 0]],[Sg b2 0 [I 0,Sl none 0 0]],[Sg b1 0 [I n.now,Sl a1 n.way.length c1]]] (Je (Jc (Jg [0] [(7,Sl none 0 0)] (Jf (Jf (Jd (Jb [0,6] [(25,Sl a1 n.way.length c1)] (JM 26 (JbQ G a1 c1 n.way hs1 (by (have q_:=Q6 ‹_›;omega))) (fun v G1 L1 hl1 hp=>?_))))))))))
 obtain ⟨a2,c2,_,rfl,hr1,rfl⟩:=hp
 refine Jb [0,0] [(27,I (n.way.length:Int)),(28,I 0)] (Je (Jc (Jx (JlP (E:=Kg) 0 hr1 (by exact (hs1).fit) (fun G2 hl2 hs2=>Z4 (Z4 ?_))))))
 have hlm_hs2:n.way.length≤9223372036854775807:=Hg (hs2).le (hs2).max
 refine Qb (σ:=Nat×Ba×Nat×Bg×List JQ×Ba×Nat×Bg×List JQ×J4) (fun q_=>(J4.le G2 q_.2.2.2.2.2.2.2.2.2)∧(q_.1≤n.way.length)∧(J0 Kg q_.2.2.2.2.2.2.2.2.2 q_.2.1 q_.2.2.1 q_.2.2.2.2.1 q_.2.2.2.1)∧(q_.2.2.2.2.1=(n.way.take q_.1).filter fun l=>decide (l.due=n.now+1))∧(J0 Kg q_.2.2.2.2.2.2.2.2.2 q_.2.2.2.2.2.1 q_.2.2.2.2.2.2.1 q_.2.2.2.2.2.2.2.2.1 q_.2.2.2.2.2.2.2.1)∧(q_.2.2.2.2.2.2.2.2.1=(n.way.take q_.1).filter fun l=>!decide (l.due=n.now+1))) (fun q_=>[(2,Pt b2 0),(6,Pt b3 0),(7,Sl q_.2.1 q_.2.2.2.2.1.length q_.2.2.1),(26,Sl a2 n.way.length c2),(27,I (n.way.length:Int)),(28,I (q_.1:Int))]) (fun q_=>q_.2.2.2.2.2.2.2.2.2) (fun q_=>[q_.2.2.2.2.2.2.2.1,q_.2.2.2.1,[],[Sg b3 0 [I (n.now+1),Sl q_.2.2.2.2.2.1 q_.2.2.2.2.2.2.2.2.1.length q_.2.2.2.2.2.2.1]],[Sg b2 0 [I 0,Sl none 0 0]],[Sg b1 0 [I n.now,Sl a1 n.way.length c1]]]) (fun q_=>n.way.length-q_.1) (0,none,0,[],[],none,0,[],[],G2) ⟨(Jh _),(by (try dsimp only);exact Hs _),(J0.none Kg _),(by (try dsimp only);rfl),(J0.none Kg _),(by (try dsimp only);rfl)⟩ (fun q_ hs=>?_)
 obtain ⟨i,ac,cc,rc,xc,aw,cw,rw,xw,g⟩:=q_
 obtain ⟨hle,hi,hrc,hxc,hrw,hxw⟩:=hs
 dsimp only at hle hi hrc hxc hrw hxw
 dsimp only
 refine Jg [0] [(29,Bo (decide ((i:Int)<(n.way.length:Int))))] (Jf (Jm (decide ((i:Int)<(n.way.length:Int))) (fun h3=>?_) (fun h3=>?_)))
 refine Jq (Jc (Jf (Jx (Jf (Jd ?_)))))
 obtain ⟨b4,o1,rfl⟩:=RS.addr (hs2.mono hle) (k:=i) (by omega)
 obtain ⟨x1,hx1⟩:=QW (l:=n.way) (k:=i) (by omega)
 obtain ⟨_,⟨a3,c3,a4,c4,a5,c5,rfl,w2,w3,w4,w5,hs3,w6,w7,w8,w9,w10,hs4,hs5⟩,hc1⟩:=RS.get (hs2.mono hle) hx1
 refine JY (b:=b4) (off:=o1) (len:=n.way.length) (cap:=c2) (ik:=.i64) 30 51 12 i J5 (JR 31 51 (cs:=(Kv x1 a3 c3 a4 c4 a5 c5)) 0 (Q9 x1 a3 c3 a4 c4 a5 c5) hc1 (Jv 9 #[I 0,I 0,I 0,I 0,Sl none 0 0,I 0,U 0,U 0,I 0,Sr ([]),Sl none 0 0,Sl none 0 0] 51 (fun b5=>JX [3] [] [[Sg b5 0 (Kv x1 a3 c3 a4 c4 a5 c5)],rw,rc,[],[Sg b3 0 [I (n.now+1),Sl aw xw.length cw]],[Sg b2 0 [I 0,Sl none 0 0]],[Sg b1 0 [I n.now,Sl a1 n.way.length c1]]] (Je (Jc (Jg [0,2,0,10,0] [(36,Bo (decide (x1.due=n.now+1)))] (Jm (decide (x1.due=n.now+1)) (fun h4=>?_) (fun h4=>?_))))))))
 exact Jd (Jb [0,2] [(37,Sl ac xc.length cc),(38,(Q9 x1 a3 c3 a4 c4 a5 c5))] (Ki 39 1 #[I x1.to_,I x1.from_,I x1.since,I x1.due,Sl a3 x1.heads.length c3,I x1.reply.head.epoch,U x1.reply.head.root,U x1.reply.head.prev,I x1.reply.head.at_,Sr x1.reply.proof.name,Sl a4 x1.reply.proof.entries.length c4,Sl a5 x1.reply.proof.sides.length c5] 51 (fun b6=>Qr (b:=b6) (cs:=(Kv x1 a3 c3 a4 c4 a5 c5)) 40 51 3 0 (E:=Kg) x1 hrc ⟨a3,c3,a4,c4,a5,c5,rfl,w2,w3,w4,w5,hs3,w6,w7,w8,w9,w10,hs4,hs5⟩ (by have q_:=Q6 ‹_›;have q1_:=congrArg Ho hxc;have q2_:=congrArg Ho hxw;have q3_:=Wo (fun l:JQ=>decide (l.due=n.now+1)) n.way i;have q4_:=Wo (fun l:JQ=>!decide (l.due=n.now+1)) n.way i;(try simp only [Kg,Hd,He,Hi,Hn,Hm] at *);omega) (by have q_:=Q6 ‹_›;have q1_:=congrArg Ho hxc;have q2_:=congrArg Ho hxw;have q3_:=Wo (fun l:JQ=>decide (l.due=n.now+1)) n.way i;have q4_:=Wo (fun l:JQ=>!decide (l.due=n.now+1)) n.way i;(try simp only [Kg,Hd,He,Hi,Hn,Hm] at *);omega) (fun a6 c6 r2 hr2=>Jb [0] [(7,Sl a6 ((xc++[x1]).length) c6)] (Je (JN (Jc (Jd (Jb [0,0] [(28,I (Hb.wrap ((i:Int)+1)))] (Kp 28 ((i:Int)+1) J5 (Je (QA [rw,r2,[],[Sg b3 0 [I (n.now+1),Sl aw xw.length cw]],[Sg b2 0 [I 0,Sl none 0 0]],[Sg b1 0 [I n.now,Sl a1 n.way.length c1]]] (Qf (i+1,a6,c6,r2,xc++[x1],aw,cw,rw,xw,g) ⟨(Ja hle (Jh _)),J5,hr2,(by rw [hxc];exact Je9 hx1 (by simp_all)),hrw,(by rw [hxw];exact Jfa hx1 (by simp_all))⟩ (by (try dsimp only);omega))))))))))))))
 exact Jd (Jb [0,10,2] [(42,Sl aw xw.length cw),(43,(Q9 x1 a3 c3 a4 c4 a5 c5))] (Ki 44 1 #[I x1.to_,I x1.from_,I x1.since,I x1.due,Sl a3 x1.heads.length c3,I x1.reply.head.epoch,U x1.reply.head.root,U x1.reply.head.prev,I x1.reply.head.at_,Sr x1.reply.proof.name,Sl a4 x1.reply.proof.entries.length c4,Sl a5 x1.reply.proof.sides.length c5] 51 (fun b7=>Qr (b:=b7) (cs:=(Kv x1 a3 c3 a4 c4 a5 c5)) 45 51 2 0 (E:=Kg) x1 hrw ⟨a3,c3,a4,c4,a5,c5,rfl,w2,w3,w4,w5,hs3,w6,w7,w8,w9,w10,hs4,hs5⟩ (by have q_:=Q6 ‹_›;have q1_:=congrArg Ho hxc;have q2_:=congrArg Ho hxw;have q3_:=Wo (fun l:JQ=>decide (l.due=n.now+1)) n.way i;have q4_:=Wo (fun l:JQ=>!decide (l.due=n.now+1)) n.way i;(try simp only [Kg,Hd,He,Hi,Hn,Hm] at *);omega) (by have q_:=Q6 ‹_›;have q1_:=congrArg Ho hxc;have q2_:=congrArg Ho hxw;have q3_:=Wo (fun l:JQ=>decide (l.due=n.now+1)) n.way i;have q4_:=Wo (fun l:JQ=>!decide (l.due=n.now+1)) n.way i;(try simp only [Kg,Hd,He,Hi,Hn,Hm] at *);omega) (fun a7 c7 r3 hr3=>JX [0,13] [] [[Sg b7 0 (Kv x1 a3 c3 a4 c4 a5 c5)],[Sg b5 0 (Kv x1 a3 c3 a4 c4 a5 c5)],r3,rc,[],[Sg b3 0 [I (n.now+1),Sl a7 ((xw++[x1]).length) c7]],[Sg b2 0 [I 0,Sl none 0 0]],[Sg b1 0 [I n.now,Sl a1 n.way.length c1]]] (Je (JN (Jc (Jd (Jb [0,0] [(28,I (Hb.wrap ((i:Int)+1)))] (Kp 28 ((i:Int)+1) J5 (Je (QA [r3,rc,[],[Sg b3 0 [I (n.now+1),Sl a7 ((xw++[x1]).length) c7]],[Sg b2 0 [I 0,Sl none 0 0]],[Sg b1 0 [I n.now,Sl a1 n.way.length c1]]] (Qf (i+1,ac,cc,rc,xc,a7,c7,r3,xw++[x1],g) ⟨(Ja hle (Jh _)),J5,hrc,(by rw [hxc];exact Jfa hx1 (by simp_all)),hr3,(by rw [hxw];exact Je9 hx1 (by simp_all))⟩ (by (try dsimp only);omega))))))))))))))
 refine KW (J1 (J8 (JT (Jc (QF [8,0,11,0,0] [(3,Sl ac xc.length cc),(4,I 0)] [rw,rc,[],[Sg b3 0 [I (n.now+1),Sl aw xw.length cw]],[Sg b2 0 [I (n.now+1),Sl aw xw.length cw]],[Sg b1 0 [I n.now,Sl a1 n.way.length c1]]] (Jo (Wm (E:=Kg) 0 hrw (by have q_:=Q6 ‹_›;have q1_:=congrArg Ho hxc;have q2_:=congrArg Ho hxw;have q3_:=Wo (fun l:JQ=>decide (l.due=n.now+1)) n.way i;have q4_:=Wo (fun l:JQ=>!decide (l.due=n.now+1)) n.way i;(try simp only [Kg,Hd,He,Hi,Hn,Hm] at *);omega) (fun G3 hl3 hs6=>Wm (E:=Kg) 1 (hrc.mono hl3) (by have q_:=Q6 ‹_›;have q1_:=congrArg Ho hxc;have q2_:=congrArg Ho hxw;have q3_:=Wo (fun l:JQ=>decide (l.due=n.now+1)) n.way i;have q4_:=Wo (fun l:JQ=>!decide (l.due=n.now+1)) n.way i;(try simp only [Kg,Hd,He,Hi,Hn,Hm] at *);omega) (fun G4 hl4 hs7=>?_)))))))))
 have hf3:Kr n=((⟨n.now+1,xw⟩:YM),xc,0):=by
  unfold Kr Jcl;(rw [if_neg (by omega),if_neg (by omega),hxw,hxc,Hk (by omega)])
 refine Jp [4,0,0] [.agg #[I (n.now+1),Sl aw xw.length cw],Sl ac xc.length cc,I 0] (JB [] (Ja (Ja (Ja (Ja hl1 hl2) hle) hl3) hl4) ?_)
 rw [hf3]
 try dsimp only
 exact ⟨aw,cw,ac,cc,rfl,(by (have q_:=Q6 ‹_›;omega)),(hs6.mono hl4),hs7,rfl⟩
structure JK where
 town:Wb
 reach:Int
 fates:List (List Int)
 events:List ZC
deriving DecidableEq
def Zo (t:JK) (k:Int):Bool:=decide (k ≥ 0) && decide (k<t.town.owners.length)
abbrev Wg (t:JK) (kind who n a:Int):JK:=⟨t.town,t.reach,t.fates,t.events++[⟨kind,who,n,a⟩]⟩
def Jmo (t:JK):List Int:=if t.fates.length > 0 then t.fates[0]?.getD [] else [1]
def Wt (t:JK) (l:JQ):JK:=⟨⟨t.town.clerk,t.town.owners,t.town.polls,if (Kz t.town.net l (Jmo t)).2=0 then (Kz t.town.net l (Jmo t)).1 else t.town.net⟩,t.reach,t.fates.drop 1,t.events⟩
theorem Jpq {t:JK} (h:¬ 0<t.fates.length) (l:JQ):Wt t l=⟨⟨t.town.clerk,t.town.owners,t.town.polls,if (Kz t.town.net l [1]).2=0 then (Kz t.town.net l [1]).1 else t.town.net⟩,t.reach,t.fates,t.events⟩:=by
 have h0:t.fates=[]:=List.eq_nil_of_length_eq_zero (by omega)
 unfold Wt Jmo
 rw [h0];rfl
theorem Jpr {t:JK} (h:0<t.fates.length) {f:List Int} (hf:t.fates[0]? = some f) (l:JQ):Wt t l=⟨⟨t.town.clerk,t.town.owners,t.town.polls,if (Kz t.town.net l f).2=0 then (Kz t.town.net l f).1 else t.town.net⟩,t.reach,t.fates.drop 1,t.events⟩:=by
 unfold Wt Jmo
 rw [if_pos h,hf];rfl
def Jt (t:JK) (k:Int):Qh:=t.town.owners[k.toNat]?.getD VZ
def QC (t:JK) (k:Int):Wl:=t.town.polls[k.toNat]?.getD VT
theorem YY {t:JK} {n:Nat} (h:n<t.town.owners.length):t.town.owners[n]? = some (Jt t (n:Int)):=by unfold Jt;rw [Int.toNat_natCast,Hl h];rfl
theorem Jgr {t:JK} {n:Nat} (h:n<t.town.polls.length):t.town.polls[n]? = some (QC t (n:Int)):=by unfold QC;rw [Int.toNat_natCast,Hl h];rfl
def Wq (t:JK) (d:KV):JK :=
 if Zo t d.who=false then t
 else if ¬ (JJ (Jt t d.who) d.value).2.2=0∨Yq (JJ (Jt t d.who) d.value).1.key (JJ (Jt t d.who) d.value).2.1=false then t
 else if ¬ (Kx t.town.clerk (JJ (Jt t d.who) d.value).2.1).2.2=0 then t
 else ⟨⟨(Kx t.town.clerk (JJ (Jt t d.who) d.value).2.1).1,t.town.owners.set d.who.toNat (JJ (Jt t d.who) d.value).1,t.town.polls,t.town.net⟩,t.reach,t.fates,t.events++[⟨1,d.who,(Jt t d.who).wanted.length,(Kx t.town.clerk (JJ (Jt t d.who) d.value).2.1).2.1⟩]⟩
theorem tWant0 {t:JK} {d:KV} (h:Zo t d.who=false):Wq t d=t:=by unfold Wq;rw [if_pos h]
theorem tWant1 {t:JK} {d:KV} {k:Int} (hk:d.who=k) (h0:Zo t d.who=true) (h:¬ (JJ (Jt t k) d.value).2.2=0):Wq t d=t:=by
 subst hk;unfold Wq;rw [if_neg (by rw [h0];simp),if_pos (.inl h)]
theorem tWant2 {t:JK} {d:KV} {k:Int} (hk:d.who=k) (h0:Zo t d.who=true) (h:Yq (JJ (Jt t k) d.value).1.key (JJ (Jt t k) d.value).2.1=false):Wq t d=t:=by
 subst hk;unfold Wq;rw [if_neg (by rw [h0];simp),if_pos (.inr h)]
theorem tWant3 {t:JK} {d:KV} {k:Int} (hk:d.who=k) (h0:Zo t d.who=true) (h:¬ (Kx t.town.clerk (JJ (Jt t k) d.value).2.1).2.2=0):Wq t d=t:=by
 subst hk;unfold Wq;rw [if_neg (by rw [h0];simp)]
 split
 · rfl
 · rfl
theorem Jps {t:JK} {d:KV} {k:Int} {n:Nat} (hk:d.who=k) (hn:k=(n:Int)) (h0:Zo t d.who=true) (h1:(JJ (Jt t k) d.value).2.2=0) (h2:Yq (JJ (Jt t k) d.value).1.key (JJ (Jt t k) d.value).2.1=true) (h3:(Kx t.town.clerk (JJ (Jt t k) d.value).2.1).2.2=0) :
  Wq t d=Wg ⟨⟨(Kx t.town.clerk (JJ (Jt t k) d.value).2.1).1,t.town.owners.set n (JJ (Jt t k) d.value).1,t.town.polls,t.town.net⟩,t.reach,t.fates,t.events⟩ 1 k (Jt t k).wanted.length (Kx t.town.clerk (JJ (Jt t k) d.value).2.1).2.1:=by
 subst hk;unfold Wq
 rw [if_neg (by rw [h0];simp),if_neg (by rw [h2];simp [h1]),if_neg (by simpa using h3)]
 unfold Wg;rw [show d.who.toNat=n by omega]
def Yj (t:JK) (l:JQ):JK:=⟨⟨t.town.clerk,t.town.owners.set l.to_.toNat (JD (Jt t l.to_) l.heads l.reply).1,if (JD (Jt t l.to_) l.heads l.reply).2.1=0∨(JD (Jt t l.to_) l.heads l.reply).2.1=1 then t.town.polls.set l.to_.toNat (Wh (QC t l.to_) t.town.clerk.now).1 else t.town.polls,t.town.net⟩,t.reach,t.fates,t.events++[⟨2,l.to_,(JD (Jt t l.to_) l.heads l.reply).2.1,(JD (Jt t l.to_) l.heads l.reply).1.head.epoch⟩]⟩
def minI (a b:Int):Int:=if b<a then b else a
def maxI (a b:Int):Int:=if b > a then b else a
def W5 (t:JK):Int:=(t.town.clerk.heads.length:Int)-1
def WZ (t:JK) (l:JQ):Int:=maxI (minI l.since (W5 t)) 0
def Vx (t:JK) (l:JQ):Int:=minI (WZ t l+t.reach-1) (W5 t)
def Ql (t:JK) (l:JQ):JK:=if Zo t l.from_=false then t else Wt t ⟨l.from_,0,0,0,(ZR t.town.clerk (WZ t l) (Vx t l)).1,(JH t.town.clerk (Jt t l.from_).name (Vx t l)).1⟩
def Ja3 (t:JK) (k:Int):JK:=Wt ⟨⟨t.town.clerk,t.town.owners,t.town.polls.set k.toNat (KP (QC t k) t.town.clerk.now).1,t.town.net⟩,t.reach,t.fates,t.events⟩ ⟨-1,k,(Jt t k).head.epoch+1,0,[],JeC⟩
def Zv (t:JK) (k:Int):JK :=
 if ¬ (KP (QC t k) t.town.clerk.now).2=0 then t
 else if Jbr (KP (QC t k) t.town.clerk.now).1=true∧Jbr (QC t k)=false then Wg (Ja3 t k) 3 k 0 t.town.clerk.now else Ja3 t k
def Vs (t:JK):JK:=⟨⟨(KM t.town.clerk).1,t.town.owners,t.town.polls,(Kr t.town.net).1⟩,t.reach,t.fates,t.events⟩
def ZH (t:JK) (l:JQ):JK:=if l.to_<0 then Ql t l else Yj t l
def Zh (t:JK) (l:List JQ):JK:=l.foldl ZH t
def Jbs (t:JK) (n:Nat):JK:=(List.range n).foldl (fun t (k:Nat)=>Zv t (k:Int)) t
def WA (t:JK):JK:=if (KM t.town.clerk).1.now=t.town.clerk.now then t else Jbs (Zh (Vs t) (Kr t.town.net).2.1) (Zh (Vs t) (Kr t.town.net).2.1).town.owners.length
def JjS (l:JQ) (k:Int):JQ:=⟨k,l.from_,l.since,l.due,l.heads,l.reply⟩
def Jgs (t:JK) (d:KV):JK:=if Zo t d.who=false then t else ⟨⟨t.town.clerk,t.town.owners,t.town.polls,if (Kz t.town.net (JjS d.letter d.who) [1]).2=0 then (Kz t.town.net (JjS d.letter d.who) [1]).1 else t.town.net⟩,t.reach,t.fates,t.events⟩
def YB (t:JK) (d:KV):JK:=if d.kind=1 then Wq t d else if d.kind=2 then ⟨t.town,t.reach,t.fates++[d.fates],t.events⟩ else if d.kind=3 then Jgs t d else if d.kind=4 then WA t else t
structure Yx (t u:JK) (k:Nat):Prop where
 ev:∃ m,u.events=t.events++m∧m.length≤k
 own:u.town.owners.length=t.town.owners.length
 polls:u.town.polls.length=t.town.polls.length
 reach:u.reach=t.reach
theorem Yx.refl (t:JK) (k:Nat):Yx t t k:=⟨⟨[],by simp,by simp⟩,rfl,rfl,rfl⟩
theorem Yx.trans {t u v:JK} {j k:Nat} (h:Yx t u j) (h2:Yx u v k):Yx t v (j+k):=by
 obtain ⟨m,e,l⟩:=h.ev;obtain ⟨n,e2,l2⟩:=h2.ev
 exact ⟨⟨m++n,by rw [e2,e,HA],by simp;omega⟩,h2.own.trans h.own,h2.polls.trans h.polls,h2.reach.trans h.reach⟩
theorem Yx.mono {t u:JK} {j k:Nat} (h:Yx t u j) (hk:j≤k):Yx t u k:=by
 obtain ⟨m,e,l⟩:=h.ev
 exact ⟨⟨m,e,Hg l hk⟩,h.own,h.polls,h.reach⟩
theorem Yx.len {t u:JK} {k:Nat} (h:Yx t u k):u.events.length≤t.events.length+k∧t.events.length≤u.events.length:=by
 obtain ⟨m,e,l⟩:=h.ev;rw [e];simp;omega
theorem g_send (t:JK) (l:JQ):Yx t (Wt t l) 0:=⟨⟨[],by simp [Wt],by simp⟩,rfl,rfl,rfl⟩
theorem g_want (t:JK) (d:KV):Yx t (Wq t d) 1:=by
 unfold Wq
 split
 · exact Yx.refl t 1
 split
 · exact Yx.refl t 1
 split
 · exact Yx.refl t 1
 · exact ⟨⟨_,rfl,by simp⟩,by simp,rfl,rfl⟩
theorem Jpt (t:JK) (l:JQ):Yx t (Ql t l) 0:=by
 unfold Ql
 split
 · exact Yx.refl t 0
 · exact g_send t _
theorem g_see (t:JK) (l:JQ):Yx t (Yj t l) 1:=by
 refine ⟨⟨_,rfl,by simp⟩,by simp [Yj],?_,rfl⟩
 unfold Yj;simp only
 split <;> simp
theorem Jpu (t:JK) (k:Int):Yx t (Ja3 t k) 0:=⟨⟨[],by simp [Ja3,Wt],by simp⟩,rfl,by simp [Ja3,Wt],rfl⟩
theorem g_ask (t:JK) (k:Int):Yx t (Zv t k) 1:=by
 unfold Zv
 split
 · exact Yx.refl t 1
 split
 · refine (Jpu t k).trans (k:=1) ⟨⟨_,rfl,by simp⟩,rfl,rfl,rfl⟩
 · exact (Jpu t k).mono (by omega)
theorem JjT (t:JK) (l:JQ):Yx t (ZH t l) 1:=by
 unfold ZH
 split
 · exact (Jpt t l).mono (by omega)
 · exact g_see t l
theorem JeD:∀ (l:List JQ) (t:JK),Yx t (Zh t l) l.length
 | [],t=>Yx.refl t 0
 | x::l,t=>by
  have:=(JjT t x).trans (JeD l (ZH t x))
  exact this.mono (by simp;omega)
theorem Jhf (t:JK) (l:List JQ) (x:JQ):Zh t (l++[x])=ZH (Zh t l) x:=by simp [Zh,HB]
theorem JcZ {t:JK} {l:List JQ} {i:Nat} {x:JQ} (h:l[i]? = some x):ZH (Zh t (l.take i)) x=Zh t (l.take (i+1)):=by
 rw [Hj,h,← Jhf];rfl
theorem Vt (t:JK) (n:Nat):Zv (Jbs t n) (n:Int)=Jbs t (n+1):=by simp [Jbs,List.range_succ,HB]
theorem Jlk (t:JK):∀ n,Yx t (Jbs t n) n
 | 0=>Yx.refl t 0
 | n+1=>by rw [← Vt];exact (Jlk t n).trans (g_ask _ _)
theorem JjU (n:YM):(Kr n).2.1.length≤60:=by
 unfold Kr
 split
 · simp
 split
 · simp
 ·
  rename_i h1 h2
  have:=Q6 (Hc.1 h1)
  have h3:=HC (fun l:JQ=>decide (l.due=n.now+1)) n.way
  simp only;omega
theorem g_tick {t:JK} (h:t.town.owners.length≤4):Yx t (WA t) 64:=by
 unfold WA
 split
 · exact Yx.refl t 64
 ·
  have h1:Yx t (Vs t) 0:=⟨⟨[],by simp [Vs],by simp⟩,rfl,rfl,rfl⟩
  have h2:=h1.trans (JeD (Kr t.town.net).2.1 (Vs t))
  have h3:=h2.trans (Jlk (Zh (Vs t) (Kr t.town.net).2.1) (Zh (Vs t) (Kr t.town.net).2.1).town.owners.length)
  have h4:=JjU t.town.net
  exact h3.mono (by rw [h2.own];omega)
theorem g_say (t:JK) (d:KV):Yx t (Jgs t d) 0:=by
 unfold Jgs
 split
 · exact Yx.refl t 0
 · exact ⟨⟨[],by simp,by simp⟩,rfl,rfl,rfl⟩
theorem g_do {t:JK} (h:t.town.owners.length≤4) (d:KV):Yx t (YB t d) 64:=by
 unfold YB
 split
 · exact (g_want t d).mono (by omega)
 split
 · exact ⟨⟨[],by simp,by simp⟩,rfl,rfl,rfl⟩
 split
 · exact (g_say t d).mono (by omega)
 split
 · exact g_tick h
 · exact Yx.refl t 64
def WU (t:JK):Prop:=∀ l∈t.town.net.way,l.to_<t.town.owners.length
theorem Jfc {n:YM} {l x:JQ} {f:List Int} (hk:(Kz n l f).2=0) (h:x∈(Kz n l f).1.way):x∈n.way∨x.to_=l.to_:=by
 unfold Kz at hk h
 split at h
 · simp [Jcl] at h
 split at h
 · simp [Jcl] at h
 split at h
 · simp [Jcl] at h
 ·
  simp only [Hf,List.mem_map] at h
  rcases h with h | ⟨k,_,rfl⟩
  · exact .inl h
  · exact .inr rfl
theorem JjV {n:YM} {x:JQ} (h:x∈(Kr n).1.way):x∈n.way:=by
 unfold Kr at h
 split at h
 · simp [Jcl] at h
 split at h
 · simp [Jcl] at h
 · exact (HN.1 h).1
theorem Jgt {n:YM} {x:JQ} (h:x∈(Kr n).2.1):x∈n.way:=by
 unfold Kr at h
 split at h
 · simp at h
 split at h
 · simp at h
 · exact (HN.1 h).1
theorem Jpv {t:JK} {l:JQ} (h:WU t) (hl:l.to_<t.town.owners.length):WU (Wt t l):=by
 intro x hx
 unfold Wt at hx ⊢
 simp only at hx ⊢
 split at hx
 ·
  rename_i hk
  rcases Jfc hk hx with h2 | h2
  · exact h x h2
  · omega
 · exact h x hx
theorem V1 {t:JK} {k:Int}:Zo t k=true ↔ 0≤k∧k<t.town.owners.length:=by unfold Zo;simp
theorem w_want {t:JK} (h:WU t) (d:KV):WU (Wq t d):=by
 unfold Wq
 split
 · exact h
 split
 · exact h
 split
 · exact h
 · intro x hx;have:=h x hx;simpa using this
theorem Jpw {t:JK} (h:WU t) (l:JQ):WU (Ql t l):=by
 unfold Ql
 split
 · exact h
 ·
  rename_i h1
  exact Jpv h (V1.1 (by simpa using h1)).2
theorem w_see {t:JK} (h:WU t) (l:JQ):WU (Yj t l):=by
 intro x hx;have:=h x hx;simpa [Yj] using this
theorem Jpx {t:JK} (h:WU t) (k:Int):WU (Ja3 t k):=by
 unfold Ja3
 exact Jpv (t:=⟨⟨t.town.clerk,t.town.owners,t.town.polls.set k.toNat (KP (QC t k) t.town.clerk.now).1,t.town.net⟩,t.reach,t.fates,t.events⟩) h (by simp only;omega)
theorem w_ask {t:JK} (h:WU t) (k:Int):WU (Zv t k):=by
 unfold Zv
 split
 · exact h
 split
 · exact Jpx h k
 · exact Jpx h k
theorem Jpy {t:JK} (h:WU t) (l:JQ):WU (ZH t l):=by
 unfold ZH
 split
 · exact Jpw h l
 · exact w_see h l
theorem JeE:∀ (l:List JQ) {t:JK},WU t→WU (Zh t l)
 | [],_,h=>h
 | x::l,t,h=>JeE l (Jpy h x)
theorem Jll {t:JK} (h:WU t):∀ n,WU (Jbs t n)
 | 0=>h
 | n+1=>by rw [← Vt];exact w_ask (Jll h n) _
theorem Jmp {t:JK} (h:WU t):WU (Vs t):=fun x hx=>h x (JjV hx)
theorem w_tick {t:JK} (h:WU t):WU (WA t):=by
 unfold WA
 split
 · exact h
 · exact Jll (JeE _ (Jmp h)) _
theorem w_say {t:JK} (h:WU t) (d:KV):WU (Jgs t d):=by
 unfold Jgs
 split
 · exact h
 ·
  rename_i h1
  have h2:=(V1.1 (by simpa using h1:Zo t d.who=true)).2
  intro x hx
  simp only at hx ⊢
  split at hx
  ·
   rename_i hk
   rcases Jfc hk hx with h3 | h3
   · exact h x h3
   · rw [h3];exact h2
  · exact h x hx
theorem w_do {t:JK} (h:WU t) (d:KV):WU (YB t d):=by
 unfold YB
 split
 · exact w_want h d
 split
 · exact h
 split
 · exact w_say h d
 split
 · exact w_tick h
 · exact h
def Jav (t:JK) (l:List KV):JK:=l.foldl YB t
theorem JhJ {t:JK} {l:List KV} {i:Nat} {d:KV} (h:l[i]? = some d):YB (Jav t (l.take i)) d=Jav t (l.take (i+1)):=by
 unfold Jav;rw [Hj,h];simp [HB]
theorem Jpz:∀ (l:List KV) {t:JK},t.town.owners.length≤4→Yx t (Jav t l) (64*l.length)
 | [],t,_=>Yx.refl t 0
 | d::l,t,h=>by
  have h1:=g_do h d
  have h2:=Jpz l (t:=YB t d) (by rw [h1.own];exact h)
  exact (h1.trans h2).mono (by simp;omega)
def nmE:Bs→Bs→Int
 | _,[]=>0
 | p,n::l=>if KC n=false∨(p.any fun x=>decide (n=x))=true then 3 else nmE (p++[n]) l
def Yb (s:Ky) (h:JV):List Qh:=(s.names.zip s.keys).map fun x=>(Kh x.1 x.2 h).1
def Qm (s:Ky):Int:=if ¬ (Ks s.most s.batch s.every).2=0 then (Ks s.most s.batch s.every).2 else if s.names.length > 4 then 2 else if ¬ s.keys.length=s.names.length then 3 else if ¬ nmE [] s.names=0 then nmE [] s.names else if ¬ (Ws s.least s.top s.lost).2=0 then (Ws s.least s.top s.lost).2 else if s.reach<1∨s.reach > 40 then 4 else 0
def K0 (s:Ky):JK:=⟨⟨(Ks s.most s.batch s.every).1,Yb s (W6 (Ks s.most s.batch s.every).1.heads),HF (Yb s (W6 (Ks s.most s.batch s.every).1.heads)).length (Ws s.least s.top s.lost).1,⟨0,[]⟩⟩,s.reach,[],[]⟩
def Ja4 (s:Ky) (l:List KV):Int:=if ¬ Qm s=0 then Qm s else if l.length > 200 then 2 else 0
def Jmq:Wb:=⟨Yi,[],[],⟨0,[]⟩⟩
def Js (s:Ky) (l:List KV):Wb×List ZC×Int:=if ¬ Ja4 s l=0 then (Jmq,[],Ja4 s l) else ((Jav (K0 s) l).town,(Jav (K0 s) l).events,0)
theorem V2 {s:Ky} (h:Qm s=0):s.names.length≤4∧s.keys.length=s.names.length∧nmE [] s.names=0∧(Ks s.most s.batch s.every).2=0∧(Ws s.least s.top s.lost).2=0∧1≤s.reach∧s.reach≤40:=by
 unfold Qm at h
 split at h
 · contradiction
 split at h
 · cases h
 split at h
 · cases h
 split at h
 · contradiction
 split at h
 · contradiction
 split at h
 · cases h
 ·
  rename_i h1 h2 h3 h4 h5 h6
  exact ⟨by omega,Hc.1 h3,Hc.1 h4,Hc.1 h1,Hc.1 h5,by omega,by omega⟩
theorem JdZ {s:Ky} (h:Qm s=0) (x:JV):(Yb s x).length=s.names.length:=by
 have:=V2 h
 unfold Yb;rw [Hm,List.length_zip];omega
theorem JiF {s:Ky} {l:List KV} (h:(Js s l).2.2=0):Qm s=0∧l.length≤200∧Js s l=((Jav (K0 s) l).town,(Jav (K0 s) l).events,0):=by
 unfold Js at h ⊢
 split at h
 · contradiction
 ·
  rename_i h1
  rw [if_neg h1]
  have h2:=Hc.1 h1
  unfold Ja4 at h2
  split at h2
  · contradiction
  split at h2
  · cases h2
  · rename_i a b;exact ⟨Hc.1 a,by omega,rfl⟩
theorem JpA {s:Ky} {l:List KV} (h:¬ (Js s l).2.2=0):Js s l=(Jmq,[],Ja4 s l):=by
 unfold Js at h ⊢
 split
 · rfl
 · rename_i h1;rw [if_neg h1] at h;exact absurd rfl h
structure ZS (s:Ky) (t:JK):Prop where
 clerk:Za t.town.clerk
 net:Qk t.town.net=0
 now:t.town.net.now=t.town.clerk.now
 own:∀ (i:Nat) o,t.town.owners[i]? = some o→Kd o=0∧s.names[i]? = some o.name∧s.keys[i]? = some o.key
 poll:∀ (i:Nat) p,t.town.polls[i]? = some p→KN p=0
theorem Jmr {n:YM} (h:Qk n=0):∀ l∈n.way,n.now<l.due:=by
 unfold Qk at h
 split at h
 · cases h
 split at h
 · cases h
 split at h
 · cases h
 ·
  rename_i h3
  intro l hl
  have:¬ Jfo l n=true:=fun e=>h3 (Hv.2 ⟨l,hl,e⟩)
  unfold Jfo at this
  simp at this;omega
theorem Jlm {n:YM} (h1:0≤n.now) (h2:n.now≤1000000000) (h3:n.way.length≤60) (h4:∀ l∈n.way,n.now<l.due):Qk n=0:=by
 unfold Qk
 rw [if_neg (by omega),if_neg (by omega),if_neg]
 rw [Hv]
 rintro ⟨l,hl,e⟩
 have:=h4 l hl
 unfold Jfo at e
 simp at e;omega
theorem V6 {n:YM} {l:JQ} {f:List Int} (h:(Kz n l f).2=0):Qk (Kz n l f).1=0∧(Kz n l f).1.now=n.now:=by
 unfold Kz at h ⊢
 split at h
 · contradiction
 split at h
 · cases h
 split at h
 · cases h
 ·
  rename_i h1 h2 h3
  rw [if_neg h1,if_neg h2,if_neg h3]
  have hc:=Q6 (Hc.1 h1)
  have ha:=Jmr (Hc.1 h1)
  refine ⟨Jlm (by simp only;omega) (by simp only;omega) (by simp only [Hd,Hm];omega) (fun x hx=>?_),rfl⟩
  simp only [Hf,List.mem_map] at hx
  rcases hx with hx | ⟨k,hk,rfl⟩
  · exact ha x hx
  ·
   have:¬ VL k=true:=fun e=>h2 (Hv.2 ⟨k,hk,e⟩)
   unfold VL at this
   simp at this
   show n.now<n.now+k
   omega
theorem Jc0 {n:YM} (h:Qk n=0) (hn:¬ n.now=1000000000):Qk (Kr n).1=0∧(Kr n).1.now=n.now+1:=by
 have hc:=Q6 h
 have ha:=Jmr h
 unfold Kr
 rw [if_neg (by omega),if_neg hn]
 refine ⟨Jlm (by simp only;omega) (by simp only;omega) ?_ (fun x hx=>?_),rfl⟩
 ·
  have:=HC (fun l:JQ=>!decide (l.due=n.now+1)) n.way
  simp only;omega
 ·
  have hx':=HN.1 hx
  have h1:=ha x hx'.1
  have h2:¬ x.due=n.now+1:=by simpa using hx'.2
  simp only;omega
theorem JfG {α:Type} {l:List α} {k i:Nat} {v x:α} (h:(l.set k v)[i]? = some x):(k=i∧x=v∧k<l.length)∨(k ≠ i∧l[i]? = some x):=by
 by_cases e:k=i
 ·
  subst e
  have hl:=(Hq.1 h).1
  rw [Hx] at hl
  rw [HL hl] at h
  exact .inl ⟨rfl,(HO.inj h).symm,hl⟩
 · rw [List.getElem?_set_ne e] at h;exact .inr ⟨e,h⟩
theorem Jcm {t:JK} {k:Int} (h:k.toNat<t.town.owners.length):t.town.owners[k.toNat]? = some (Jt t k):=by unfold Jt;rw [Hl h];rfl
theorem Jln {t:JK} {k:Int} (h:k.toNat<t.town.polls.length):t.town.polls[k.toNat]? = some (QC t k):=by unfold QC;rw [Hl h];rfl
theorem JpB {s:Ky} {t:JK} (h:ZS s t) (l:JQ):ZS s (Wt t l):=by
 refine ⟨h.clerk,?_,?_,h.own,h.poll⟩ <;> (unfold Wt;simp only;split)
 · rename_i hk;exact (V6 hk).1
 · exact h.net
 · rename_i hk;rw [(V6 hk).2];exact h.now
 · exact h.now
theorem i_want {s:Ky} {t:JK} (h:ZS s t) (d:KV):ZS s (Wq t d):=by
 unfold Wq
 split
 · exact h
 rename_i h0
 split
 · exact h
 split
 · exact h
 ·
  rename_i h1 h2
  simp only [not_or,Hz] at h1
  have hw:=Hc.1 h1.1
  have ha:=Hc.1 h2
  have hd:=V1.1 (by simpa using h0:Zo t d.who=true)
  obtain ⟨w1,w2,w3,w4,w5⟩:=JdR hw
  have hnow:(Kx t.town.clerk (JJ (Jt t d.who) d.value).2.1).1.now=t.town.clerk.now:=by rw [(Jcj ha).2.2.2.2]
  refine ⟨Jgm ha,h.net,by simp only;rw [hnow];exact h.now,fun i o ho=>?_,h.poll⟩
  rcases JfG ho with ⟨rfl,rfl,_⟩ | ⟨_,ho⟩
  ·
   obtain ⟨q1,q2,q3⟩:=h.own _ _ (Jcm (k:=d.who) (by omega))
   refine ⟨w5.1,?_,?_⟩ <;> rw [w4]
   · exact q2
   · exact q3
  · exact h.own i o ho
theorem JnJ {o:Qh} {l:List JV} {r:QL} (h:Kd o=0):Kd (JD o l r).1=0∧(JD o l r).1.name=o.name∧(JD o l r).1.key=o.key∧(JD o l r).1.wanted=o.wanted:=by
 by_cases hv:(J2 o l r).1=0
 ·
  have e:JD o l r=(⟨o.name,o.key,r.head,o.wanted,(J2 o l r).2⟩,0,0):=by unfold JD;rw [if_neg (by omega),if_pos hv]
  have h1:(JD o l r).2.2=0:=by rw [e]
  have h2:(JD o l r).2.1=0:=by rw [e]
  exact ⟨(Jpa h1 h2).2.2.2.2.1,by rw [e],by rw [e],by rw [e]⟩
 ·
  have e:JD o l r=(o,(J2 o l r).1,0):=by unfold JD;rw [if_neg (by omega),if_neg hv]
  rw [e];exact ⟨h,rfl,rfl,rfl⟩
theorem Jfd {p:Wl} {now:Int} (h:KN p=0) (h1:0≤now) (h2:now≤1000000000):KN (Wh p now).1=0:=by
 have hp:=(ZK p).1 h
 have ha:KO p now=0:=(Jdj p now).2 ⟨hp,h1,h2⟩
 unfold Wh
 rw [if_neg (by omega)]
 simp only
 rw [ZK]
 unfold Vr at hp ⊢
 unfold Qa
 simp only
 (repeat' split) <;> omega
theorem i_see {s:Ky} {t:JK} (h:ZS s t) {l:JQ} (h0:0≤l.to_) (h1:l.to_<t.town.owners.length):ZS s (Yj t l):=by
 refine ⟨h.clerk,h.net,h.now,fun i o ho=>?_,fun i p hp=>?_⟩
 ·
  rcases JfG ho with ⟨rfl,rfl,_⟩ | ⟨_,ho⟩
  ·
   obtain ⟨q1,q2,q3⟩:=h.own _ _ (Jcm (k:=l.to_) (by omega))
   obtain ⟨k1,k2,k3,_⟩:=JnJ (l:=l.heads) (r:=l.reply) q1
   exact ⟨k1,by rw [k2];exact q2,by rw [k3];exact q3⟩
  · exact h.own i o ho
 ·
  unfold Yj at hp
  simp only at hp
  split at hp
  ·
   rcases JfG hp with ⟨rfl,rfl,hl⟩ | ⟨_,hp⟩
   · exact Jfd (h.poll _ _ (Jln hl)) h.clerk.now.1 h.clerk.now.2
   · exact h.poll i p hp
  · exact h.poll i p hp
theorem JpC {s:Ky} {t:JK} (h:ZS s t) (l:JQ):ZS s (Ql t l):=by
 unfold Ql
 split
 · exact h
 · exact JpB h _
theorem JpD {s:Ky} {t:JK} (h:ZS s t) {l:JQ} (h1:l.to_<t.town.owners.length):ZS s (ZH t l):=by
 unfold ZH
 split
 · exact JpC h l
 · exact i_see h (by omega) h1
theorem JeF {s:Ky}:∀ (l:List JQ) {t:JK},ZS s t→(∀ x∈l,x.to_<t.town.owners.length)→ZS s (Zh t l)
 | [],_,h,_=>h
 | x::l,t,h,hl=>JeF l (JpD h (hl x (by simp))) (fun y hy=>by rw [(JjT t x).own];exact hl y (by simp [hy]))
theorem i_sent {s:Ky} {t:JK} (h:ZS s t) {k:Int} (hk:(KP (QC t k) t.town.clerk.now).2=0):ZS s (Ja3 t k):=by
 unfold Ja3
 refine JpB (t:=⟨⟨t.town.clerk,t.town.owners,t.town.polls.set k.toNat (KP (QC t k) t.town.clerk.now).1,t.town.net⟩,t.reach,t.fates,t.events⟩) ⟨h.clerk,h.net,h.now,h.own,fun i p hp=>?_⟩ _
 rcases JfG hp with ⟨rfl,rfl,_⟩ | ⟨_,hp⟩
 · have:=Je8 hk;omega
 · exact h.poll i p hp
theorem i_ask {s:Ky} {t:JK} (h:ZS s t) (k:Int):ZS s (Zv t k):=by
 unfold Zv
 split
 · exact h
 rename_i h1
 have h2:=i_sent h (Hc.1 h1)
 split
 · exact ⟨h2.clerk,h2.net,h2.now,h2.own,h2.poll⟩
 · exact h2
theorem Jlo {s:Ky} {t:JK} (h:ZS s t):∀ n,ZS s (Jbs t n)
 | 0=>h
 | n+1=>by rw [← Vt];exact i_ask (Jlo h n) _
theorem i_tick {s:Ky} {t:JK} (h:ZS s t) (hw:WU t):ZS s (WA t):=by
 unfold WA
 split
 · exact h
 ·
  rename_i h1
  obtain ⟨t0,tk⟩:=JbO h.clerk
  have hn:Zm t.town.clerk=false∧(KM t.town.clerk).1.now=t.town.clerk.now+1:=by
   rcases JcV h.clerk with q | q
   · exact absurd q.1 h1
   · exact q
  have hne:¬ t.town.net.now=1000000000:=by
   rw [h.now]
   have:=hn.1;unfold Zm at this
   simp only [HD,decide_eq_false_iff_not] at this
   exact this.2
  obtain ⟨n1,n2⟩:=Jc0 h.net hne
  have hT:ZS s (Vs t):=⟨tk.ok,n1,by show (Kr t.town.net).1.now=(KM t.town.clerk).1.now;rw [n2,hn.2,h.now],h.own,h.poll⟩
  exact Jlo (JeF _ hT (fun x hx=>hw x (Jgt hx))) _
theorem i_do {s:Ky} {t:JK} (h:ZS s t) (hw:WU t) (d:KV):ZS s (YB t d):=by
 unfold YB
 split
 · exact i_want h d
 split
 · exact ⟨h.clerk,h.net,h.now,h.own,h.poll⟩
 split
 ·
  unfold Jgs
  split
  · exact h
  ·
   refine ⟨h.clerk,?_,?_,h.own,h.poll⟩ <;> (simp only;split)
   · rename_i hk;exact (V6 hk).1
   · exact h.net
   · rename_i hk;rw [(V6 hk).2];exact h.now
   · exact h.now
 split
 · exact i_tick h hw
 · exact h
theorem i_dos {s:Ky}:∀ (l:List KV) {t:JK},ZS s t→WU t→ZS s (Jav t l)
 | [],_,h,_=>h
 | d::l,_,h,hw=>i_dos l (i_do h hw d) (w_do hw d)
theorem JaV {m b e:Int} (h:(Ks m b e).2=0):Za (Ks m b e).1∧(Ks m b e).1.now=0∧(Ks m b e).1.books=[[]]∧(Ks m b e).1.queue.wait=[]∧(Ks m b e).1.heads.length=1:=by
 unfold Ks at h ⊢
 split at h
 · cases h
 ·
  rename_i h1
  rw [if_neg h1]
  simp only [not_or,Hz] at h1
  obtain ⟨a1,a2,a3⟩:=h1
  have b1:=V0.1 a1;have b2:=V0.1 a2;have b3:=V0.1 a3
  have hT:Wd []:=⟨by simp,by simp,by simp⟩
  have hroot:=JaO (q:=[]) hT (by simp) (by simp)
  have hb:=Jcg (KB [] []) []
  have hc:JO ⟨0,(JW [] []).1,0,0⟩=0:=by
   rw [hroot];unfold JO;simp only
   rw [if_neg (by omega),if_neg (by simp)]
  have hf:K1 (JW [] []).1 0=(⟨0,(JW [] []).1,0,0⟩,0):=by unfold K1;rw [if_neg (by omega)]
  rw [hf]
  refine ⟨⟨K6.2 ⟨by simp only;omega,by simp only;omega,by simp;omega,by simp⟩,b2,b3,⟨by simp,by simp⟩,⟨by simp,by simp,?_,?_⟩,rfl,rfl,by simp [Zg],?_,?_⟩,rfl,rfl,rfl,rfl⟩
  · intro x hx;simp at hx;rw [hx];exact hc
  · intro k x y hx hy;have:=(Hq.1 hy).1;simp at this
  ·
   intro k x hx
   have hk:k=0:=by have:=(Hq.1 hx).1;simp at this;exact this
   subst hk
   simp at hx
   subst hx
   exact ⟨by rw [hroot],by simp⟩
  · simp [Jas,WG,KR,QB,nn,dd]
theorem Jms:∀ (l p:Bs),nmE p l=0→(∀ n∈l,KC n=true)∧l.Nodup∧∀ n∈l,n ∉ p
 | [],_,_=>by simp
 | n::l,p,h=>by
  unfold nmE at h
  split at h
  · cases h
  ·
   rename_i h1
   simp only [not_or,Hz] at h1
   obtain ⟨q1,q2,q3⟩:=Jms l (p++[n]) h
   have hn:n ∉ p:=fun hp=>h1.2 (Hv.2 ⟨n,hp,by simp⟩)
   refine ⟨fun x hx=>?_,HM.2 ⟨fun hx=>(q3 n hx) (by simp),q2⟩,fun x hx=>?_⟩
   ·
    rcases Ht.1 hx with rfl | hx
    · exact h1.1
    · exact q1 x hx
   ·
    rcases Ht.1 hx with rfl | hx
    · exact hn
    · exact fun hp=>q3 x hx (by simp [hp])
theorem Jd0 {s:Ky} {h:JV} {i:Nat} {o:Qh} (hh:JO h=0) (hn:nmE [] s.names=0) (ho:(Yb s h)[i]? = some o):Kd o=0∧s.names[i]? = some o.name∧s.keys[i]? = some o.key∧o.head=h∧o.wanted=[]∧o.had=0:=by
 unfold Yb at ho
 rw [List.getElem?_map,Option.map_eq_some_iff] at ho
 obtain ⟨⟨n,k⟩,hz,rfl⟩:=ho
 rw [List.getElem?_zip_eq_some] at hz
 obtain ⟨z1,z2⟩:=hz
 have hp:=(Jms _ _ hn).1 n (Hr z1)
 have hc:Kd ⟨n,k,h,[],0⟩=0:=K8.2 ⟨hp,hh,by simp,by simp,by simp,by simp⟩
 have e:Kh n k h=(⟨n,k,h,[],0⟩,0):=by unfold Kh;rw [if_neg (by omega)]
 simp only [e]
 exact ⟨hc,z1,z2,by simp⟩
theorem Ja5 {s:Ky} (h:Qm s=0):ZS s (K0 s)∧WU (K0 s)∧(K0 s).town.owners.length=s.names.length∧(K0 s).town.polls.length=s.names.length:=by
 obtain ⟨b1,b2,b3,b4,b5,b6,b7⟩:=V2 h
 obtain ⟨c1,c2,c3,c4,c5⟩:=JaV b4
 have hf:JO (W6 (Ks s.most s.batch s.every).1.heads)=0:=c1.chain.ok _ (Hr c1.chain.first)
 refine ⟨⟨c1,?_,?_,?_,?_⟩,?_,JdZ h _,?_⟩
 · show Qk ⟨0,[]⟩=0;exact Jlm (by simp) (by simp) (by simp) (by simp)
 · show (0:Int)=(Ks s.most s.batch s.every).1.now;exact c2.symm
 ·
  intro i o ho
  obtain ⟨q1,q2,q3,_⟩:=Jd0 hf b3 ho
  exact ⟨q1,q2,q3⟩
 ·
  intro i p hp
  have:=Hr hp
  have:=(List.mem_replicate.1 this).2
  rw [this]
  obtain ⟨q1,q2⟩:=Jgq b5
  rw [q2];exact JbP q1
 · intro l hl;simp [K0] at hl
 · show (HF _ _).length=_;rw [List.length_replicate];exact JdZ h _
theorem Jbt {s:Ky} {l:List KV} (h:(Js s l).2.2=0):Ke (Js s l).1.clerk=0∧Qk (Js s l).1.net=0∧(Js s l).1.net.now=(Js s l).1.clerk.now∧(Js s l).1.owners.length=s.names.length∧(Js s l).1.polls.length=s.names.length∧s.keys.length=s.names.length ∧
  (∀ (i:Nat) o,(Js s l).1.owners[i]? = some o→Kd o=0∧s.names[i]? = some o.name∧s.keys[i]? = some o.key)∧∀ (i:Nat) p,(Js s l).1.polls[i]? = some p→KN p=0:=by
 obtain ⟨h1,h2,h3⟩:=JiF h
 obtain ⟨b1,b2,b3,b4⟩:=Ja5 h1
 have hi:=i_dos l b1 b2
 have hb:=V2 h1
 have hg:=Jpz l (t:=K0 s) (by rw [b3];exact hb.1)
 rw [h3]
 exact ⟨WM.2 hi.clerk,hi.net,hi.now,hg.own.trans b3,hg.polls.trans b4,hb.2.1,hi.own,hi.poll⟩
abbrev J7 (x:JK) (a0:Ba) (c0:Nat) (a1:Ba) (c1:Nat) (a2:Ba) (c2:Nat) (a3:Ba) (c3:Nat) (a4:Ba) (c4:Nat) (a5:Ba) (c5:Nat) (a6:Ba) (c6:Nat) (a7:Ba) (c7:Nat):Bv:=[I x.town.clerk.queue.most,Sl a0 x.town.clerk.queue.wait.length c0,I x.town.clerk.batch,I x.town.clerk.every,I x.town.clerk.now,Sl a1 x.town.clerk.heads.length c1,Sl a2 x.town.clerk.books.length c2,Sl a3 x.town.owners.length c3,Sl a4 x.town.polls.length c4,I x.town.net.now,Sl a5 x.town.net.way.length c5,I x.reach,Sl a6 x.fates.length c6,Sl a7 x.events.length c7]
abbrev vTownT (x:JK) (a0:Ba) (c0:Nat) (a1:Ba) (c1:Nat) (a2:Ba) (c2:Nat) (a3:Ba) (c3:Nat) (a4:Ba) (c4:Nat) (a5:Ba) (c5:Nat) (a6:Ba) (c6:Nat) (a7:Ba) (c7:Nat):Value:=.agg #[I x.town.clerk.queue.most,Sl a0 x.town.clerk.queue.wait.length c0,I x.town.clerk.batch,I x.town.clerk.every,I x.town.clerk.now,Sl a1 x.town.clerk.heads.length c1,Sl a2 x.town.clerk.books.length c2,Sl a3 x.town.owners.length c3,Sl a4 x.town.polls.length c4,I x.town.net.now,Sl a5 x.town.net.way.length c5,I x.reach,Sl a6 x.fates.length c6,Sl a7 x.events.length c7]
theorem Jcn (G:J4) (b:Nat) (t:JK) (a_1:Ba) (c_1:Nat) (a_5:Ba) (c_5:Nat) (a_6:Ba) (c_6:Nat) (a_7:Ba) (c_7:Nat) (a_8:Ba) (c_8:Nat) (a_10:Ba) (c_10:Nat) (a_12:Ba) (c_12:Nat) (a_13:Ba) (c_13:Nat) (r_7:Bg) (r_8:Bg) (r_12:Bg) (r_13:Bg) (h_0:rI t.town.clerk.queue.most) (h_1:RS Q4 G a_1 c_1 t.town.clerk.queue.wait) (h_2:rI t.town.clerk.batch) (h_3:rI t.town.clerk.every) (h_4:rI t.town.clerk.now) (h_5:RS KG G a_5 c_5 t.town.clerk.heads) (h_6:RS Qi G a_6 c_6 t.town.clerk.books) (h_7:J0 QG G a_7 c_7 t.town.owners r_7) (h_8:J0 Wp G a_8 c_8 t.town.polls r_8) (h_9:rI t.town.net.now) (h_10:RS Kg G a_10 c_10 t.town.net.way) (h_11:rI t.reach) (h_12:J0 VA G a_12 c_12 t.fates r_12) (h_13:J0 QR G a_13 c_13 t.events r_13) (k:Int) :JcQ 62 #[Pt b 0,I k] G [[Sg b 0 [I t.town.clerk.queue.most,Sl a_1 t.town.clerk.queue.wait.length c_1,I t.town.clerk.batch,I t.town.clerk.every,I t.town.clerk.now,Sl a_5 t.town.clerk.heads.length c_5,Sl a_6 t.town.clerk.books.length c_6,Sl a_7 t.town.owners.length c_7,Sl a_8 t.town.polls.length c_8,I t.town.net.now,Sl a_10 t.town.net.way.length c_10,I t.reach,Sl a_12 t.fates.length c_12,Sl a_13 t.events.length c_13]],r_7,r_8,r_12,r_13] (fun u G' L'=>∃ (a_z1:Ba) (c_z1:Nat) (a_z5:Ba) (c_z5:Nat) (a_z6:Ba) (c_z6:Nat) (a_z7:Ba) (c_z7:Nat) (a_z8:Ba) (c_z8:Nat) (a_z10:Ba) (c_z10:Nat) (a_z12:Ba) (c_z12:Nat) (a_z13:Ba) (c_z13:Nat) (r_z7:Bg) (r_z8:Bg) (r_z12:Bg) (r_z13:Bg),u=Bo (Zo t k)∧(rI t.town.clerk.queue.most)∧(RS Q4 G' a_z1 c_z1 t.town.clerk.queue.wait)∧(rI t.town.clerk.batch)∧(rI t.town.clerk.every)∧(rI t.town.clerk.now)∧(RS KG G' a_z5 c_z5 t.town.clerk.heads)∧(RS Qi G' a_z6 c_z6 t.town.clerk.books)∧(J0 QG G' a_z7 c_z7 t.town.owners r_z7)∧(J0 Wp G' a_z8 c_z8 t.town.polls r_z8)∧(rI t.town.net.now)∧(RS Kg G' a_z10 c_z10 t.town.net.way)∧(rI t.reach)∧(J0 VA G' a_z12 c_z12 t.fates r_z12)∧(J0 QR G' a_z13 c_z13 t.events r_z13)∧L'=[[Sg b 0 [I t.town.clerk.queue.most,Sl a_z1 t.town.clerk.queue.wait.length c_z1,I t.town.clerk.batch,I t.town.clerk.every,I t.town.clerk.now,Sl a_z5 t.town.clerk.heads.length c_z5,Sl a_z6 t.town.clerk.books.length c_z6,Sl a_z7 t.town.owners.length c_z7,Sl a_z8 t.town.polls.length c_z8,I t.town.net.now,Sl a_z10 t.town.net.way.length c_z10,I t.reach,Sl a_z12 t.fates.length c_z12,Sl a_z13 t.events.length c_z13]],r_z7,r_z8,r_z12,r_z13]):=by
 intro Lr
 refine JS Tryz.func62 17 [(0,Pt b 0),(1,I k)] rfl (fun w0 G0=>?_)
 show TC _ _ _ _ _ ([Sg b 0 (J7 t a_1 c_1 a_5 c_5 a_6 c_6 a_7 c_7 a_8 c_8 a_10 c_10 a_12 c_12 a_13 c_13)]::r_7::r_8::r_12::r_13::Lr)
 refine Jg [0] [] (Jf (Jd (Jb [0,0,0] [(7,Bo (decide (k ≥ 0)))] (Kk (decide (k ≥ 0)) [7] [0,0,0,0,0,2,0,0,0] [1,1,1,1,1,1,1,1,0] (fun bb=>[(16,Bo (bb && (decide (k<(t.town.owners.length:Int)))))]) (Jb [0] [(4,Bo ((decide (k ≥ 0)) && (decide (k<(t.town.owners.length:Int)))))] (Je (Jc (Jo (Jk 4 (Jk 4 (Jk 4 (Jk 4 (Jk 4 ?_)))))))))))))
 have hf1:(t,Zo t k)=(t,(decide (k ≥ 0)) && (decide (k<(t.town.owners.length:Int)))):=by
  rfl
 refine Jp [0] [Bo ((decide (k ≥ 0)) && (decide (k<(t.town.owners.length:Int))))] (KQ (Lr:=Lr) [[Sg b 0 (J7 t a_1 c_1 a_5 c_5 a_6 c_6 a_7 c_7 a_8 c_8 a_10 c_10 a_12 c_12 a_13 c_13)],r_7,r_8,r_12,r_13] (Jh _) ?_)
 try rw [hf1];try dsimp only
 exact ⟨a_1,c_1,a_5,c_5,a_6,c_6,a_7,c_7,a_8,c_8,a_10,c_10,a_12,c_12,a_13,c_13,r_7,r_8,r_12,r_13,rfl,h_0,h_1,h_2,h_3,h_4,h_5,h_6,h_7,h_8,h_9,h_10,h_11,h_12,h_13,rfl⟩
theorem JeG (G:J4) (b:Nat) (t:JK) (a_1:Ba) (c_1:Nat) (a_5:Ba) (c_5:Nat) (a_6:Ba) (c_6:Nat) (a_7:Ba) (c_7:Nat) (a_8:Ba) (c_8:Nat) (a_10:Ba) (c_10:Nat) (a_12:Ba) (c_12:Nat) (a_13:Ba) (c_13:Nat) (r_7:Bg) (r_8:Bg) (r_12:Bg) (r_13:Bg) (h_0:rI t.town.clerk.queue.most) (h_1:RS Q4 G a_1 c_1 t.town.clerk.queue.wait) (h_2:rI t.town.clerk.batch) (h_3:rI t.town.clerk.every) (h_4:rI t.town.clerk.now) (h_5:RS KG G a_5 c_5 t.town.clerk.heads) (h_6:RS Qi G a_6 c_6 t.town.clerk.books) (h_7:J0 QG G a_7 c_7 t.town.owners r_7) (h_8:J0 Wp G a_8 c_8 t.town.polls r_8) (h_9:rI t.town.net.now) (h_10:RS Kg G a_10 c_10 t.town.net.way) (h_11:rI t.reach) (h_12:J0 VA G a_12 c_12 t.fates r_12) (h_13:J0 QR G a_13 c_13 t.events r_13) (kind:Int) (hw_kind:rI kind) (who:Int) (hw_who:rI who) (n:Int) (hw_n:rI n) (at_:Int) (hw_at_:rI at_) (hev:t.events.length≤1000000):JcQ 104 #[Pt b 0,I kind,I who,I n,I at_] G [[Sg b 0 [I t.town.clerk.queue.most,Sl a_1 t.town.clerk.queue.wait.length c_1,I t.town.clerk.batch,I t.town.clerk.every,I t.town.clerk.now,Sl a_5 t.town.clerk.heads.length c_5,Sl a_6 t.town.clerk.books.length c_6,Sl a_7 t.town.owners.length c_7,Sl a_8 t.town.polls.length c_8,I t.town.net.now,Sl a_10 t.town.net.way.length c_10,I t.reach,Sl a_12 t.fates.length c_12,Sl a_13 t.events.length c_13]],r_7,r_8,r_12,r_13] (fun u G' L'=>∃ (a_z1:Ba) (c_z1:Nat) (a_z5:Ba) (c_z5:Nat) (a_z6:Ba) (c_z6:Nat) (a_z7:Ba) (c_z7:Nat) (a_z8:Ba) (c_z8:Nat) (a_z10:Ba) (c_z10:Nat) (a_z12:Ba) (c_z12:Nat) (a_z13:Ba) (c_z13:Nat) (r_z7:Bg) (r_z8:Bg) (r_z12:Bg) (r_z13:Bg),u=.tuple #[]∧(rI ((Wg t kind who n at_).town.clerk.queue.most))∧(RS Q4 G' a_z1 c_z1 ((Wg t kind who n at_).town.clerk.queue.wait))∧(rI ((Wg t kind who n at_).town.clerk.batch))∧(rI ((Wg t kind who n at_).town.clerk.every))∧(rI ((Wg t kind who n at_).town.clerk.now))∧(RS KG G' a_z5 c_z5 ((Wg t kind who n at_).town.clerk.heads))∧(RS Qi G' a_z6 c_z6 ((Wg t kind who n at_).town.clerk.books))∧(J0 QG G' a_z7 c_z7 ((Wg t kind who n at_).town.owners) r_z7)∧(J0 Wp G' a_z8 c_z8 ((Wg t kind who n at_).town.polls) r_z8)∧(rI ((Wg t kind who n at_).town.net.now))∧(RS Kg G' a_z10 c_z10 ((Wg t kind who n at_).town.net.way))∧(rI ((Wg t kind who n at_).reach))∧(J0 VA G' a_z12 c_z12 ((Wg t kind who n at_).fates) r_z12)∧(J0 QR G' a_z13 c_z13 ((Wg t kind who n at_).events) r_z13)∧L'=[[Sg b 0 [I ((Wg t kind who n at_).town.clerk.queue.most),Sl a_z1 (((Wg t kind who n at_).town.clerk.queue.wait).length) c_z1,I ((Wg t kind who n at_).town.clerk.batch),I ((Wg t kind who n at_).town.clerk.every),I ((Wg t kind who n at_).town.clerk.now),Sl a_z5 (((Wg t kind who n at_).town.clerk.heads).length) c_z5,Sl a_z6 (((Wg t kind who n at_).town.clerk.books).length) c_z6,Sl a_z7 (((Wg t kind who n at_).town.owners).length) c_z7,Sl a_z8 (((Wg t kind who n at_).town.polls).length) c_z8,I ((Wg t kind who n at_).town.net.now),Sl a_z10 (((Wg t kind who n at_).town.net.way).length) c_z10,I ((Wg t kind who n at_).reach),Sl a_z12 (((Wg t kind who n at_).fates).length) c_z12,Sl a_z13 (((Wg t kind who n at_).events).length) c_z13]],r_z7,r_z8,r_z12,r_z13]):=by
 intro Lr
 refine JS Tryz.func104 24 [(0,Pt b 0),(1,I kind),(2,I who),(3,I n),(4,I at_)] rfl (fun w0 G0=>?_)
 show TC _ _ _ _ _ ([Sg b 0 (J7 t a_1 c_1 a_5 c_5 a_6 c_6 a_7 c_7 a_8 c_8 a_10 c_10 a_12 c_12 a_13 c_13)]::r_7::r_8::r_12::r_13::Lr)
 refine Jd (Jb [0,0,0,0,2,0,0,0,0,0] [(10,Pt b 0),(14,Sl a_13 t.events.length c_13),(19,.agg #[I kind,I who,I n,I at_])] (Ki 20 1 #[I kind,I who,I n,I at_] 74 (fun b1=>Qr (b:=b1) (cs:=[I kind,I who,I n,I at_]) 21 74 5 0 (E:=QR) (⟨kind,who,n,at_⟩:ZC) h_13 ⟨rfl,hw_kind,hw_who,hw_n,hw_at_⟩ (by (try simp only [QR,Hd,He,Hi]);omega) (by (try simp only [QR,Hd,He,Hi]);omega) (fun a1 c1 r1 hr1=>JX [0,0,5] [] ([Sg b1 0 [I kind,I who,I n,I at_]]::[Sg b 0 (J7 (⟨t.town,t.reach,t.fates,(t.events++[(⟨kind,who,n,at_⟩:ZC)])⟩:JK) a_1 c_1 a_5 c_5 a_6 c_6 a_7 c_7 a_8 c_8 a_10 c_10 a_12 c_12 a1 c1)]::r_7::r_8::r_12::r1::Lr) (Je (Jk 5 (Jk 5 (Jk 5 (Jk 5 (Jk 5 ?_))))))))))
 have hf1:Wg t kind who n at_=(⟨t.town,t.reach,t.fates,t.events++[(⟨kind,who,n,at_⟩:ZC)]⟩:JK):=by
  rfl
 refine ZX [] [] (KQ (Lr:=Lr) [[Sg b 0 (J7 (⟨t.town,t.reach,t.fates,(t.events++[(⟨kind,who,n,at_⟩:ZC)])⟩:JK) a_1 c_1 a_5 c_5 a_6 c_6 a_7 c_7 a_8 c_8 a_10 c_10 a_12 c_12 a1 c1)],r_7,r_8,r_12,r1] (Jh _) ?_)
 rw [hf1];try dsimp only
 exact ⟨a_1,c_1,a_5,c_5,a_6,c_6,a_7,c_7,a_8,c_8,a_10,c_10,a_12,c_12,a1,c1,r_7,r_8,r_12,r1,rfl,h_0,h_1,h_2,h_3,h_4,h_5,h_6,h_7,h_8,h_9,h_10,h_11,h_12,hr1,rfl⟩
set_option maxRecDepth 20000 in
abbrev Wk (l:JQ) (t:JK):=Kz t.town.net l ([1])
abbrev Jgu (t:JK):=(⟨t.town,t.reach,(t.fates.drop 1),t.events⟩:JK)
theorem JhK (G:J4) (b:Nat) (t:JK) (a_1:Ba) (c_1:Nat) (a_5:Ba) (c_5:Nat) (a_6:Ba) (c_6:Nat) (a_7:Ba) (c_7:Nat) (a_8:Ba) (c_8:Nat) (a_10:Ba) (c_10:Nat) (a_12:Ba) (c_12:Nat) (a_13:Ba) (c_13:Nat) (r_7:Bg) (r_8:Bg) (r_12:Bg) (r_13:Bg) (h_0:rI t.town.clerk.queue.most) (h_1:RS Q4 G a_1 c_1 t.town.clerk.queue.wait) (h_2:rI t.town.clerk.batch) (h_3:rI t.town.clerk.every) (h_4:rI t.town.clerk.now) (h_5:RS KG G a_5 c_5 t.town.clerk.heads) (h_6:RS Qi G a_6 c_6 t.town.clerk.books) (h_7:J0 QG G a_7 c_7 t.town.owners r_7) (h_8:J0 Wp G a_8 c_8 t.town.polls r_8) (h_9:rI t.town.net.now) (h_10:RS Kg G a_10 c_10 t.town.net.way) (h_11:rI t.reach) (h_12:J0 VA G a_12 c_12 t.fates r_12) (h_13:J0 QR G a_13 c_13 t.events r_13) (vs_l:Bv) (l:JQ) (h_l:Kg.R G vs_l l) :JcQ 168 #[Pt b 0,.agg vs_l.toArray] G [[Sg b 0 [I t.town.clerk.queue.most,Sl a_1 t.town.clerk.queue.wait.length c_1,I t.town.clerk.batch,I t.town.clerk.every,I t.town.clerk.now,Sl a_5 t.town.clerk.heads.length c_5,Sl a_6 t.town.clerk.books.length c_6,Sl a_7 t.town.owners.length c_7,Sl a_8 t.town.polls.length c_8,I t.town.net.now,Sl a_10 t.town.net.way.length c_10,I t.reach,Sl a_12 t.fates.length c_12,Sl a_13 t.events.length c_13]],r_7,r_8,r_12,r_13] (fun u G' L'=>∃ (a_z1:Ba) (c_z1:Nat) (a_z5:Ba) (c_z5:Nat) (a_z6:Ba) (c_z6:Nat) (a_z7:Ba) (c_z7:Nat) (a_z8:Ba) (c_z8:Nat) (a_z10:Ba) (c_z10:Nat) (a_z12:Ba) (c_z12:Nat) (a_z13:Ba) (c_z13:Nat) (r_z7:Bg) (r_z8:Bg) (r_z12:Bg) (r_z13:Bg),u=.tuple #[]∧(rI ((Wt t l).town.clerk.queue.most))∧(RS Q4 G' a_z1 c_z1 ((Wt t l).town.clerk.queue.wait))∧(rI ((Wt t l).town.clerk.batch))∧(rI ((Wt t l).town.clerk.every))∧(rI ((Wt t l).town.clerk.now))∧(RS KG G' a_z5 c_z5 ((Wt t l).town.clerk.heads))∧(RS Qi G' a_z6 c_z6 ((Wt t l).town.clerk.books))∧(J0 QG G' a_z7 c_z7 ((Wt t l).town.owners) r_z7)∧(J0 Wp G' a_z8 c_z8 ((Wt t l).town.polls) r_z8)∧(rI ((Wt t l).town.net.now))∧(RS Kg G' a_z10 c_z10 ((Wt t l).town.net.way))∧(rI ((Wt t l).reach))∧(J0 VA G' a_z12 c_z12 ((Wt t l).fates) r_z12)∧(J0 QR G' a_z13 c_z13 ((Wt t l).events) r_z13)∧L'=[[Sg b 0 [I ((Wt t l).town.clerk.queue.most),Sl a_z1 (((Wt t l).town.clerk.queue.wait).length) c_z1,I ((Wt t l).town.clerk.batch),I ((Wt t l).town.clerk.every),I ((Wt t l).town.clerk.now),Sl a_z5 (((Wt t l).town.clerk.heads).length) c_z5,Sl a_z6 (((Wt t l).town.clerk.books).length) c_z6,Sl a_z7 (((Wt t l).town.owners).length) c_z7,Sl a_z8 (((Wt t l).town.polls).length) c_z8,I ((Wt t l).town.net.now),Sl a_z10 (((Wt t l).town.net.way).length) c_z10,I ((Wt t l).reach),Sl a_z12 (((Wt t l).fates).length) c_z12,Sl a_z13 (((Wt t l).events).length) c_z13]],r_z7,r_z8,r_z12,r_z13]):=by
 obtain ⟨a1,c1,a2,c2,a3,c3,rfl,w1,w2,w3,w4,hs1,w5,w6,w7,w8,w9,hs2,hs3⟩:=h_l
 intro Lr
 refine JS Tryz.func168 46 [(0,Pt b 0),(1,(Q9 l a1 c1 a2 c2 a3 c3))] rfl (fun w0 G0=>?_)
 show TC _ _ _ _ _ ([Sg b 0 (J7 t a_1 c_1 a_5 c_5 a_6 c_6 a_7 c_7 a_8 c_8 a_10 c_10 a_12 c_12 a_13 c_13)]::r_7::r_8::r_12::r_13::Lr)
 refine Jf (Jd (Jv 3 #[I l.to_,I l.from_,I l.since,I l.due,Sl a1 l.heads.length c1,I l.reply.head.epoch,U l.reply.head.root,U l.reply.head.prev,I l.reply.head.at_,Sr l.reply.proof.name,Sl a2 l.reply.proof.entries.length c2,Sl a3 l.reply.proof.sides.length c3] 51 (fun b1=>Je (Jc (Jf (Jd (Ki 7 1 #[I 1] 3 (fun b2=>Jb [0] [(4,Sl (At b2 0) 1 1)] (Je (Jc (Jf (Jg [0,0,0,6,0,0] [(13,Bo (decide ((t.fates.length:Int) > 0)))] (Jm (decide ((t.fates.length:Int) > 0)) (fun h1=>?_) (fun h1=>?_))))))))))))))
 obtain ⟨x1,hx1⟩:=QW (l:=t.fates) (k:=0) (by omega)
 obtain ⟨b3,o1,_,_,⟨a4,c4,rfl,hs4⟩,ha1,hre1,hc1⟩:=J0.ix h_12 hx1
 obtain ⟨r1,hr1,hsh1⟩:=J0.dropX h_12 1 (by omega)
 obtain ⟨a5,ea1⟩:∃ z_:Ba,z_=(if c_12=1 then a_12 else (a_12).map (·.add (1*1))):=⟨_,rfl⟩
 have hr1:J0 VA G a5 (c_12-1) (t.fates.drop 1) r1:=by rw [ea1];exact hr1
 refine Kt [15] (Wz [(0,Pt b 0),(1,Pt b 0),(2,Pt b 0),(3,Pt b 12),(4,Sl a_12 t.fates.length c_12),(5,Pt b3 (o1+0*1)),(6,Sl a4 x1.length c4),(7,Pt b 0),(8,Pt b 0),(9,Pt b 12),(10,Sl a_12 t.fates.length c_12),(11,Sl a5 ((t.fates.drop 1).length) (c_12-1)),(12,Sl a4 x1.length c4),(13,Pt b 0),(14,Pt b 12)] (JL [] [(0,0),(1,0),(2,0),(3,0),(4,6),(7,0),(8,0),(9,0),(10,6),(12,0),(13,0),(14,0)] [5,6,11] [15] (Kb ?_ (Kb ?_ (Kb ?_ K4))) (Kb ?_ K4)))
 refine Jr 5 19 (Pt b3 (o1+0*1)) [(18,Sl a_12 t.fates.length c_12)] (fun X=>?_)
 exact Qv (b:=b3) (off:=o1) (len:=t.fates.length) (cap:=c_12) (ik:=.i64) 19 39 1 0 ha1 J5 Jn
 refine Jr 6 20 (Sl a4 x1.length c4) [(19,Pt b3 (o1+0*1))] (fun X=>?_)
 exact W8 (off:=o1) (p:=0*1) (cs:=[Sl a4 x1.length c4]) 20 39 5 0 (Sl a4 x1.length c4) hre1 hc1 Jn
 refine Jr 11 25 (Sl a5 ((t.fates.drop 1).length) (c_12-1)) [(24,Sl a_12 t.fates.length c_12)] (fun X=>?_)
 exact WQ (a:=a_12) (len:=t.fates.length) (cap:=c_12) 25 1 (some (I 1)) none 1 t.fates.length (.inr ⟨_,rfl⟩) (.inl ⟨rfl,rfl⟩) J5 ea1 rfl (by rw [List.length_drop]) (by have q_:=h_12.lec;omega) Jn
 refine JA 15 [(25,Sl a5 ((t.fates.drop 1).length) (c_12-1)),(27,Pt b 12)] (fun X=>?_)
 refine KI 2 ([Sg b2 0 [I 1]]::[Sg b1 0 (Kv l a1 c1 a2 c2 a3 c3)]::[Sg b 0 (J7 (Jgu t) a_1 c_1 a_5 c_5 a_6 c_6 a_7 c_7 a_8 c_8 a_10 c_10 a5 (c_12-1) a_13 c_13)]::r_7::r_8::r_12::r_13::Lr) (J9 [] (Kq [0,1,2,3,4,5,6,7,8,9,10,11,12,13,14] [] [] [(0,Pt b 0),(3,Pt b1 0),(4,Sl a4 x1.length c4)] (Ha _) (tq_shr 5 hsh1 (Jc ?_))))
 refine Ym (σ:=Nat×Ba×Nat×J4) (fun q_=>(J4.le G q_.2.2.2)∧(rI (((Kz t.town.net l x1).1).now))∧(RS Kg q_.2.2.2 q_.2.1 q_.2.2.1 (((Kz t.town.net l x1).1).way))) (fun q_=>[(0,Pt b 0),(5,Pt q_.1 0),(6,I ((Kz t.town.net l x1).2))]) (fun q_=>q_.2.2.2) (fun q_=>([Sg q_.1 0 [I (((Kz t.town.net l x1).1).now),Sl q_.2.1 ((((Kz t.town.net l x1).1).way).length) q_.2.2.1]]::[Sg b2 0 [I 1]]::[Sg b1 0 (Kv l a1 c1 a2 c2 a3 c3)]::[Sg b 0 (J7 (Jgu t) a_1 c_1 a_5 c_5 a_6 c_6 a_7 c_7 a_8 c_8 a_10 c_10 a5 (c_12-1) a_13 c_13)]::r_7::r_8::r1::r_13::Lr)) ?_ (fun q_ hs=>?_)
 refine Kt [7,11,12] (Wz [(0,Pt b 0),(1,Pt b 0),(2,Pt b 0),(3,Pt b 9),(4,.agg #[I t.town.net.now,Sl a_10 t.town.net.way.length c_10]),(5,(Q9 l a1 c1 a2 c2 a3 c3)),(6,Sl a4 x1.length c4)] (JL [] [(0,0),(1,0),(2,0),(3,0),(4,6),(5,4),(6,0)] [] [7,11] (Ha _) (Kb ?_ (Kb ?_ K4))))
 refine JA 7 [(33,.agg #[I t.town.net.now,Sl a_10 t.town.net.way.length c_10]),(34,(Q9 l a1 c1 a2 c2 a3 c3)),(35,Sl a4 x1.length c4)] (fun X=>?_)
 refine JM 36 (YX G [I t.town.net.now,Sl a_10 t.town.net.way.length c_10] t.town.net (⟨a_10,c_10,rfl,h_9,h_10⟩) (Kv l a1 c1 a2 c2 a3 c3) l (⟨a1,c1,a2,c2,a3,c3,rfl,w1,w2,w3,w4,hs1,w5,w6,w7,w8,w9,hs2,hs3⟩) a4 c4 x1 hs4) (fun v G1 L1 hl1 hp=>?_)
 obtain ⟨a6,c5,rfl,w10,hs5,rfl⟩:=hp
 refine JC [(7,.tuple #[.agg #[I (((Kz t.town.net l x1).1).now),Sl a6 ((((Kz t.town.net l x1).1).way).length) c5],I ((Kz t.town.net l x1).2)]),(8,.tuple #[.agg #[I (((Kz t.town.net l x1).1).now),Sl a6 ((((Kz t.town.net l x1).1).way).length) c5],I ((Kz t.town.net l x1).2)]),(9,.agg #[I (((Kz t.town.net l x1).1).now),Sl a6 ((((Kz t.town.net l x1).1).way).length) c5]),(10,I ((Kz t.town.net l x1).2))] (JL [0,1,2,3,4,5,6] [(8,0),(9,0),(10,0)] [] [11] (Ha _) (Kb ?_ K4))
 refine JA 11 [] (fun X=>?_)
 refine Jv 5 #[I 0,Sl none 0 0] 65 (fun b4=>JC [(11,Pt b4 0)] (JL [0,1,2,3,4,5,6] [(8,0),(9,0),(10,0)] [] [12] (Ha _) (Kb ?_ K4)))
 refine JA 12 [(5,Pt b4 0),(37,.agg #[I (((Kz t.town.net l x1).1).now),Sl a6 ((((Kz t.town.net l x1).1).way).length) c5])] (fun X=>?_)
 exact KI 0 ([Sg b4 0 [I (((Kz t.town.net l x1).1).now),Sl a6 ((((Kz t.town.net l x1).1).way).length) c5]]::[Sg b2 0 [I 1]]::[Sg b1 0 (Kv l a1 c1 a2 c2 a3 c3)]::[Sg b 0 (J7 (Jgu t) a_1 c_1 a_5 c_5 a_6 c_6 a_7 c_7 a_8 c_8 a_10 c_10 a5 (c_12-1) a_13 c_13)]::r_7::r_8::r1::r_13::Lr) (J9 [(13,I ((Kz t.town.net l x1).2))] (Kq [0,1,2,3,4,5,6,8,9] [(10,0),(13,0)] [] [(0,Pt b 0),(5,Pt b4 0),(6,I ((Kz t.town.net l x1).2))] (Ha _) (Q3 (b4,a6,c5,G1) ⟨hl1,w10,hs5⟩)))
 refine JA 11 [] (fun X=>?_)
 refine Jv 5 #[I 0,Sl none 0 0] 65 (fun b5=>JC [(11,Pt b5 0)] (JL [] [(0,0),(1,0),(2,0),(3,0),(4,8),(5,6),(6,0)] [] [7] (Ha _) (Kb ?_ K4)))
 refine JA 7 [(33,.agg #[I t.town.net.now,Sl a_10 t.town.net.way.length c_10]),(34,(Q9 l a1 c1 a2 c2 a3 c3)),(35,Sl a4 x1.length c4)] (fun X=>?_)
 refine JM 36 (YX G [I t.town.net.now,Sl a_10 t.town.net.way.length c_10] t.town.net (⟨a_10,c_10,rfl,h_9,h_10⟩) (Kv l a1 c1 a2 c2 a3 c3) l (⟨a1,c1,a2,c2,a3,c3,rfl,w1,w2,w3,w4,hs1,w5,w6,w7,w8,w9,hs2,hs3⟩) a4 c4 x1 hs4) (fun v G2 L1 hl2 hp=>?_)
 obtain ⟨a7,c6,rfl,w11,hs6,rfl⟩:=hp
 refine JC [(7,.tuple #[.agg #[I (((Kz t.town.net l x1).1).now),Sl a7 ((((Kz t.town.net l x1).1).way).length) c6],I ((Kz t.town.net l x1).2)]),(8,.tuple #[.agg #[I (((Kz t.town.net l x1).1).now),Sl a7 ((((Kz t.town.net l x1).1).way).length) c6],I ((Kz t.town.net l x1).2)]),(9,.agg #[I (((Kz t.town.net l x1).1).now),Sl a7 ((((Kz t.town.net l x1).1).way).length) c6]),(10,I ((Kz t.town.net l x1).2))] (JL [0,1,2,3,4,5,6] [(8,0),(9,0),(10,0)] [] [12] (Ha _) (Kb ?_ K4))
 refine JA 12 [(5,Pt b5 0),(37,.agg #[I (((Kz t.town.net l x1).1).now),Sl a7 ((((Kz t.town.net l x1).1).way).length) c6])] (fun X=>?_)
 exact KI 0 ([Sg b5 0 [I (((Kz t.town.net l x1).1).now),Sl a7 ((((Kz t.town.net l x1).1).way).length) c6]]::[Sg b2 0 [I 1]]::[Sg b1 0 (Kv l a1 c1 a2 c2 a3 c3)]::[Sg b 0 (J7 (Jgu t) a_1 c_1 a_5 c_5 a_6 c_6 a_7 c_7 a_8 c_8 a_10 c_10 a5 (c_12-1) a_13 c_13)]::r_7::r_8::r1::r_13::Lr) (J9 [(13,I ((Kz t.town.net l x1).2))] (Kq [0,1,2,3,4,5,6,8,9] [(10,0),(13,0)] [] [(0,Pt b 0),(5,Pt b5 0),(6,I ((Kz t.town.net l x1).2))] (Ha _) (Q3 (b5,a7,c6,G2) ⟨hl2,w11,hs6⟩)))
 obtain ⟨b4,a6,c5,G1⟩:=q_
 obtain ⟨hle1,hj1,hj2⟩:=hs
 dsimp only at hle1 hj1 hj2
 dsimp only
 refine Jg [0,0] [(40,Bo (decide ((Kz t.town.net l x1).2=0)))] (Jm (decide ((Kz t.town.net l x1).2=0)) (fun h2=>?_) (fun h2=>?_))
 refine Jd (JX [0,2,0,0,0,9] [] ([Sg b4 0 [I (((Kz t.town.net l x1).1).now),Sl a6 ((((Kz t.town.net l x1).1).way).length) c5]]::[Sg b2 0 [I 1]]::[Sg b1 0 (Kv l a1 c1 a2 c2 a3 c3)]::[Sg b 0 (J7 (⟨(⟨t.town.clerk,t.town.owners,t.town.polls,(Kz t.town.net l x1).1⟩:Wb),t.reach,(t.fates.drop 1),t.events⟩:JK) a_1 c_1 a_5 c_5 a_6 c_6 a_7 c_7 a_8 c_8 a6 c5 a5 (c_12-1) a_13 c_13)]::r_7::r_8::r1::r_13::Lr) (Je (Jk 7 (Jk 7 (Jk 7 (Jk 7 (Jk 7 ?_)))))))
 have hf1:Wt t l=(⟨(⟨t.town.clerk,t.town.owners,t.town.polls,((Kz t.town.net l x1).1)⟩:Wb),t.reach,t.fates.drop 1,t.events⟩:JK):=by
  (rw [Jpr (by omega) ‹_›,if_pos ‹_›];done)
 refine ZX [] [] (KQ (Lr:=Lr) [[Sg b 0 (J7 (⟨(⟨t.town.clerk,t.town.owners,t.town.polls,(Kz t.town.net l x1).1⟩:Wb),t.reach,(t.fates.drop 1),t.events⟩:JK) a_1 c_1 a_5 c_5 a_6 c_6 a_7 c_7 a_8 c_8 a6 c5 a5 (c_12-1) a_13 c_13)],r_7,r_8,r1,r_13] hle1 ?_)
 rw [hf1];try dsimp only
 exact ⟨a_1,c_1,a_5,c_5,a_6,c_6,a_7,c_7,a_8,c_8,a6,c5,a5,(c_12-1),a_13,c_13,r_7,r_8,r1,r_13,rfl,h_0,(h_1.mono hle1),h_2,h_3,h_4,(h_5.mono hle1),(h_6.mono hle1),(h_7.mono hle1),(h_8.mono hle1),hj1,hj2,h_11,(hr1.mono hle1),(h_13.mono hle1),rfl⟩
 refine Jq (Jk 7 (Jk 7 (Jk 7 (Jk 7 (Jk 7 ?_)))))
 have hf2:Wt t l=(⟨t.town,t.reach,t.fates.drop 1,t.events⟩:JK):=by
  (rw [Jpr (by omega) ‹_›,if_neg ‹_›];done)
 refine ZX [] [] (KQ (Lr:=Lr) [[Sg b 0 (J7 (Jgu t) a_1 c_1 a_5 c_5 a_6 c_6 a_7 c_7 a_8 c_8 a_10 c_10 a5 (c_12-1) a_13 c_13)],r_7,r_8,r1,r_13] hle1 ?_)
 rw [hf2];try dsimp only
 exact ⟨a_1,c_1,a_5,c_5,a_6,c_6,a_7,c_7,a_8,c_8,a_10,c_10,a5,(c_12-1),a_13,c_13,r_7,r_8,r1,r_13,rfl,h_0,(h_1.mono hle1),h_2,h_3,h_4,(h_5.mono hle1),(h_6.mono hle1),(h_7.mono hle1),(h_8.mono hle1),h_9,(h_10.mono hle1),h_11,(hr1.mono hle1),(h_13.mono hle1),rfl⟩
 refine Jq (Jc ?_)
 refine Ym (σ:=Nat×Ba×Nat×J4) (fun q_=>(J4.le G q_.2.2.2)∧(rI (((Wk l t).1).now))∧(RS Kg q_.2.2.2 q_.2.1 q_.2.2.1 (((Wk l t).1).way))) (fun q_=>[(0,Pt b 0),(5,Pt q_.1 0),(6,I ((Wk l t).2))]) (fun q_=>q_.2.2.2) (fun q_=>([Sg q_.1 0 [I (((Wk l t).1).now),Sl q_.2.1 ((((Wk l t).1).way).length) q_.2.2.1]]::[]::[Sg b1 0 (Kv l a1 c1 a2 c2 a3 c3)]::[Sg b 0 (J7 t a_1 c_1 a_5 c_5 a_6 c_6 a_7 c_7 a_8 c_8 a_10 c_10 a_12 c_12 a_13 c_13)]::r_7::r_8::r_12::r_13::Lr)) ?_ (fun q_ hs=>?_)
 refine Kt [7,11,12] (Wz [(0,Pt b 0),(1,Pt b 0),(2,Pt b 0),(3,Pt b 9),(4,.agg #[I t.town.net.now,Sl a_10 t.town.net.way.length c_10]),(5,(Q9 l a1 c1 a2 c2 a3 c3)),(6,Sl (At b2 0) 1 1)] (JL [] [(0,0),(1,0),(2,0),(3,0),(4,6),(5,4),(6,0)] [] [7,11] (Ha _) (Kb ?_ (Kb ?_ K4))))
 refine JA 7 [(33,.agg #[I t.town.net.now,Sl a_10 t.town.net.way.length c_10]),(34,(Q9 l a1 c1 a2 c2 a3 c3)),(35,Sl (At b2 0) 1 1)] (fun X=>?_)
 refine Qu (b:=b2) (o:=0) (cs:=[I 1]) 0 (fun G3 hl3 hz1=>?_)
 have hs7:RS EI G3 (At b2 0) 1 [1]:=RS.lit [[I 1]] [1] ⟨⟨rfl,(by omega)⟩,trivial⟩ hz1 (Hh rfl) (Hh rfl)
 refine JM 36 (YX G3 [I t.town.net.now,Sl a_10 t.town.net.way.length c_10] t.town.net (⟨a_10,c_10,rfl,h_9,(h_10.mono hl3)⟩) (Kv l a1 c1 a2 c2 a3 c3) l (⟨a1,c1,a2,c2,a3,c3,rfl,w1,w2,w3,w4,(hs1.mono hl3),w5,w6,w7,w8,w9,(hs2.mono hl3),(hs3.mono hl3)⟩) (At b2 0) 1 ([1]) hs7) (fun v G4 L1 hl4 hp=>?_)
 obtain ⟨a8,c7,rfl,w12,hs8,rfl⟩:=hp
 refine JC [(7,.tuple #[.agg #[I (((Wk l t).1).now),Sl a8 ((((Wk l t).1).way).length) c7],I ((Wk l t).2)]),(8,.tuple #[.agg #[I (((Wk l t).1).now),Sl a8 ((((Wk l t).1).way).length) c7],I ((Wk l t).2)]),(9,.agg #[I (((Wk l t).1).now),Sl a8 ((((Wk l t).1).way).length) c7]),(10,I ((Wk l t).2))] (JL [0,1,2,3,4,5,6] [(8,0),(9,0),(10,0)] [] [11] (Ha _) (Kb ?_ K4))
 refine JA 11 [] (fun X=>?_)
 refine Jv 5 #[I 0,Sl none 0 0] 65 (fun b6=>JC [(11,Pt b6 0)] (JL [0,1,2,3,4,5,6] [(8,0),(9,0),(10,0)] [] [12] (Ha _) (Kb ?_ K4)))
 refine JA 12 [(5,Pt b6 0),(37,.agg #[I (((Wk l t).1).now),Sl a8 ((((Wk l t).1).way).length) c7])] (fun X=>?_)
 exact KI 0 ([Sg b6 0 [I (((Wk l t).1).now),Sl a8 ((((Wk l t).1).way).length) c7]]::[]::[Sg b1 0 (Kv l a1 c1 a2 c2 a3 c3)]::[Sg b 0 (J7 t a_1 c_1 a_5 c_5 a_6 c_6 a_7 c_7 a_8 c_8 a_10 c_10 a_12 c_12 a_13 c_13)]::r_7::r_8::r_12::r_13::Lr) (J9 [(13,I ((Wk l t).2))] (Kq [0,1,2,3,4,5,6,8,9] [(10,0),(13,0)] [] [(0,Pt b 0),(5,Pt b6 0),(6,I ((Wk l t).2))] (Ha _) (Q3 (b6,a8,c7,G4) ⟨(Ja hl3 hl4),w12,hs8⟩)))
 refine JA 11 [] (fun X=>?_)
 refine Jv 5 #[I 0,Sl none 0 0] 65 (fun b7=>JC [(11,Pt b7 0)] (JL [] [(0,0),(1,0),(2,0),(3,0),(4,8),(5,6),(6,0)] [] [7] (Ha _) (Kb ?_ K4)))
 refine JA 7 [(33,.agg #[I t.town.net.now,Sl a_10 t.town.net.way.length c_10]),(34,(Q9 l a1 c1 a2 c2 a3 c3)),(35,Sl (At b2 0) 1 1)] (fun X=>?_)
 refine Qu (b:=b2) (o:=0) (cs:=[I 1]) 1 (fun G5 hl5 hz2=>?_)
 have hs9:RS EI G5 (At b2 0) 1 [1]:=RS.lit [[I 1]] [1] ⟨⟨rfl,(by omega)⟩,trivial⟩ hz2 (Hh rfl) (Hh rfl)
 refine JM 36 (YX G5 [I t.town.net.now,Sl a_10 t.town.net.way.length c_10] t.town.net (⟨a_10,c_10,rfl,h_9,(h_10.mono hl5)⟩) (Kv l a1 c1 a2 c2 a3 c3) l (⟨a1,c1,a2,c2,a3,c3,rfl,w1,w2,w3,w4,(hs1.mono hl5),w5,w6,w7,w8,w9,(hs2.mono hl5),(hs3.mono hl5)⟩) (At b2 0) 1 ([1]) hs9) (fun v G6 L1 hl6 hp=>?_)
 obtain ⟨a9,c8,rfl,w13,hs10,rfl⟩:=hp
 refine JC [(7,.tuple #[.agg #[I (((Wk l t).1).now),Sl a9 ((((Wk l t).1).way).length) c8],I ((Wk l t).2)]),(8,.tuple #[.agg #[I (((Wk l t).1).now),Sl a9 ((((Wk l t).1).way).length) c8],I ((Wk l t).2)]),(9,.agg #[I (((Wk l t).1).now),Sl a9 ((((Wk l t).1).way).length) c8]),(10,I ((Wk l t).2))] (JL [0,1,2,3,4,5,6] [(8,0),(9,0),(10,0)] [] [12] (Ha _) (Kb ?_ K4))
 refine JA 12 [(5,Pt b7 0),(37,.agg #[I (((Wk l t).1).now),Sl a9 ((((Wk l t).1).way).length) c8])] (fun X=>?_)
 exact KI 0 ([Sg b7 0 [I (((Wk l t).1).now),Sl a9 ((((Wk l t).1).way).length) c8]]::[]::[Sg b1 0 (Kv l a1 c1 a2 c2 a3 c3)]::[Sg b 0 (J7 t a_1 c_1 a_5 c_5 a_6 c_6 a_7 c_7 a_8 c_8 a_10 c_10 a_12 c_12 a_13 c_13)]::r_7::r_8::r_12::r_13::Lr) (J9 [(13,I ((Wk l t).2))] (Kq [0,1,2,3,4,5,6,8,9] [(10,0),(13,0)] [] [(0,Pt b 0),(5,Pt b7 0),(6,I ((Wk l t).2))] (Ha _) (Q3 (b7,a9,c8,G6) ⟨(Ja hl5 hl6),w13,hs10⟩)))
 obtain ⟨b6,a8,c7,G4⟩:=q_
 obtain ⟨hle2,hj3,hj4⟩:=hs
 dsimp only at hle2 hj3 hj4
 dsimp only
 refine Jg [0,0] [(40,Bo (decide ((Wk l t).2=0)))] (Jm (decide ((Wk l t).2=0)) (fun h3=>?_) (fun h3=>?_))
 refine Jd (JX [0,2,0,0,0,9] [] ([Sg b6 0 [I (((Wk l t).1).now),Sl a8 ((((Wk l t).1).way).length) c7]]::[]::[Sg b1 0 (Kv l a1 c1 a2 c2 a3 c3)]::[Sg b 0 (J7 (⟨(⟨t.town.clerk,t.town.owners,t.town.polls,(Wk l t).1⟩:Wb),t.reach,t.fates,t.events⟩:JK) a_1 c_1 a_5 c_5 a_6 c_6 a_7 c_7 a_8 c_8 a8 c7 a_12 c_12 a_13 c_13)]::r_7::r_8::r_12::r_13::Lr) (Je (Jk 7 (Jk 7 (Jk 7 (Jk 7 (Jk 7 ?_)))))))
 have hf3:Wt t l=(⟨(⟨t.town.clerk,t.town.owners,t.town.polls,((Wk l t).1)⟩:Wb),t.reach,t.fates,t.events⟩:JK):=by
  (rw [Jpq (by omega),if_pos ‹_›];done)
 refine ZX [] [] (KQ (Lr:=Lr) [[Sg b 0 (J7 (⟨(⟨t.town.clerk,t.town.owners,t.town.polls,(Wk l t).1⟩:Wb),t.reach,t.fates,t.events⟩:JK) a_1 c_1 a_5 c_5 a_6 c_6 a_7 c_7 a_8 c_8 a8 c7 a_12 c_12 a_13 c_13)],r_7,r_8,r_12,r_13] hle2 ?_)
 rw [hf3];try dsimp only
 exact ⟨a_1,c_1,a_5,c_5,a_6,c_6,a_7,c_7,a_8,c_8,a8,c7,a_12,c_12,a_13,c_13,r_7,r_8,r_12,r_13,rfl,h_0,(h_1.mono hle2),h_2,h_3,h_4,(h_5.mono hle2),(h_6.mono hle2),(h_7.mono hle2),(h_8.mono hle2),hj3,hj4,h_11,(h_12.mono hle2),(h_13.mono hle2),rfl⟩
 refine Jq (Jk 7 (Jk 7 (Jk 7 (Jk 7 (Jk 7 ?_)))))
 have hf4:Wt t l=t:=by
  (rw [Jpq (by omega),if_neg ‹_›];done)
 refine ZX [] [] (KQ (Lr:=Lr) [[Sg b 0 (J7 t a_1 c_1 a_5 c_5 a_6 c_6 a_7 c_7 a_8 c_8 a_10 c_10 a_12 c_12 a_13 c_13)],r_7,r_8,r_12,r_13] hle2 ?_)
 rw [hf4];try dsimp only
 exact ⟨a_1,c_1,a_5,c_5,a_6,c_6,a_7,c_7,a_8,c_8,a_10,c_10,a_12,c_12,a_13,c_13,r_7,r_8,r_12,r_13,rfl,h_0,(h_1.mono hle2),h_2,h_3,h_4,(h_5.mono hle2),(h_6.mono hle2),(h_7.mono hle2),(h_8.mono hle2),h_9,(h_10.mono hle2),h_11,(h_12.mono hle2),(h_13.mono hle2),rfl⟩
set_option maxRecDepth 20000 in
abbrev Ko (d:KV) (kn1:Nat) (t:JK):=JJ (Jt t (kn1:Int)) d.value
abbrev Qz (d:KV) (kn1:Nat) (t:JK):=Kx t.town.clerk ((Ko d kn1 t).2.1)
abbrev YH (d:KV) (kn1:Nat):=(⟨d.kind,(kn1:Int),d.value,d.fates,d.letter⟩:KV)
abbrev ZD (d:KV) (kn1:Nat) (t:JK):=JkH (Ko d kn1 t).2.1
abbrev Jlp (d:KV) (kn1:Nat) (t:JK):=(⟨(⟨((Qz d kn1 t).1),t.town.owners.set kn1 ((Ko d kn1 t).1),t.town.polls,t.town.net⟩:Wb),t.reach,t.fates,t.events⟩:JK)
abbrev Vu (d:KV) (kn1:Nat) (t:JK):=Jjb (Ko d kn1 t).2.1
set_option maxHeartbeats 1600000 in
theorem JnK (G:J4) (b:Nat) (t:JK) (a_1:Ba) (c_1:Nat) (a_5:Ba) (c_5:Nat) (a_6:Ba) (c_6:Nat) (a_7:Ba) (c_7:Nat) (a_8:Ba) (c_8:Nat) (a_10:Ba) (c_10:Nat) (a_12:Ba) (c_12:Nat) (a_13:Ba) (c_13:Nat) (r_7:Bg) (r_8:Bg) (r_12:Bg) (r_13:Bg) (h_0:rI t.town.clerk.queue.most) (h_1:RS Q4 G a_1 c_1 t.town.clerk.queue.wait) (h_2:rI t.town.clerk.batch) (h_3:rI t.town.clerk.every) (h_4:rI t.town.clerk.now) (h_5:RS KG G a_5 c_5 t.town.clerk.heads) (h_6:RS Qi G a_6 c_6 t.town.clerk.books) (h_7:J0 QG G a_7 c_7 t.town.owners r_7) (h_8:J0 Wp G a_8 c_8 t.town.polls r_8) (h_9:rI t.town.net.now) (h_10:RS Kg G a_10 c_10 t.town.net.way) (h_11:rI t.reach) (h_12:J0 VA G a_12 c_12 t.fates r_12) (h_13:J0 QR G a_13 c_13 t.events r_13) (vs_d:Bv) (d:KV) (h_d:Wr.R G vs_d d) (hev:t.events.length≤1000000):JcQ 60 #[Pt b 0,.agg vs_d.toArray] G [[Sg b 0 [I t.town.clerk.queue.most,Sl a_1 t.town.clerk.queue.wait.length c_1,I t.town.clerk.batch,I t.town.clerk.every,I t.town.clerk.now,Sl a_5 t.town.clerk.heads.length c_5,Sl a_6 t.town.clerk.books.length c_6,Sl a_7 t.town.owners.length c_7,Sl a_8 t.town.polls.length c_8,I t.town.net.now,Sl a_10 t.town.net.way.length c_10,I t.reach,Sl a_12 t.fates.length c_12,Sl a_13 t.events.length c_13]],r_7,r_8,r_12,r_13] (fun u G' L'=>∃ (a_z1:Ba) (c_z1:Nat) (a_z5:Ba) (c_z5:Nat) (a_z6:Ba) (c_z6:Nat) (a_z7:Ba) (c_z7:Nat) (a_z8:Ba) (c_z8:Nat) (a_z10:Ba) (c_z10:Nat) (a_z12:Ba) (c_z12:Nat) (a_z13:Ba) (c_z13:Nat) (r_z7:Bg) (r_z8:Bg) (r_z12:Bg) (r_z13:Bg),u=.tuple #[]∧(rI ((Wq t d).town.clerk.queue.most))∧(RS Q4 G' a_z1 c_z1 ((Wq t d).town.clerk.queue.wait))∧(rI ((Wq t d).town.clerk.batch))∧(rI ((Wq t d).town.clerk.every))∧(rI ((Wq t d).town.clerk.now))∧(RS KG G' a_z5 c_z5 ((Wq t d).town.clerk.heads))∧(RS Qi G' a_z6 c_z6 ((Wq t d).town.clerk.books))∧(J0 QG G' a_z7 c_z7 ((Wq t d).town.owners) r_z7)∧(J0 Wp G' a_z8 c_z8 ((Wq t d).town.polls) r_z8)∧(rI ((Wq t d).town.net.now))∧(RS Kg G' a_z10 c_z10 ((Wq t d).town.net.way))∧(rI ((Wq t d).reach))∧(J0 VA G' a_z12 c_z12 ((Wq t d).fates) r_z12)∧(J0 QR G' a_z13 c_z13 ((Wq t d).events) r_z13)∧L'=[[Sg b 0 [I ((Wq t d).town.clerk.queue.most),Sl a_z1 (((Wq t d).town.clerk.queue.wait).length) c_z1,I ((Wq t d).town.clerk.batch),I ((Wq t d).town.clerk.every),I ((Wq t d).town.clerk.now),Sl a_z5 (((Wq t d).town.clerk.heads).length) c_z5,Sl a_z6 (((Wq t d).town.clerk.books).length) c_z6,Sl a_z7 (((Wq t d).town.owners).length) c_z7,Sl a_z8 (((Wq t d).town.polls).length) c_z8,I ((Wq t d).town.net.now),Sl a_z10 (((Wq t d).town.net.way).length) c_z10,I ((Wq t d).reach),Sl a_z12 (((Wq t d).fates).length) c_z12,Sl a_z13 (((Wq t d).events).length) c_z13]],r_z7,r_z8,r_z12,r_z13]):=by
 obtain ⟨a1,c1,a2,c2,a3,c3,a4,c4,rfl,_,_,w3,_,_,_,_,_,_,_,_,_,_,_,_,_⟩:=h_d
 intro Lr
 refine JS Tryz.func60 84 [(0,Pt b 0),(1,(JdC d a1 c1 a2 c2 a3 c3 a4 c4))] rfl (fun w0 G0=>?_)
 show TC _ _ _ _ _ ([Sg b 0 (J7 t a_1 c_1 a_5 c_5 a_6 c_6 a_7 c_7 a_8 c_8 a_10 c_10 a_12 c_12 a_13 c_13)]::r_7::r_8::r_12::r_13::Lr)
 refine Jf (Jd (Jv 3 #[I d.kind,I d.who,Sr d.value,Sl a1 d.fates.length c1,I d.letter.to_,I d.letter.from_,I d.letter.since,I d.letter.due,Sl a2 d.letter.heads.length c2,I d.letter.reply.head.epoch,U d.letter.reply.head.root,U d.letter.reply.head.prev,I d.letter.reply.head.at_,Sr d.letter.reply.proof.name,Sl a3 d.letter.reply.proof.entries.length c3,Sl a4 d.letter.reply.proof.sides.length c4] 53 (fun b1=>Je (Jc (Jf (Jf (Jd (Jb [0,0,2] [(10,Pt b 0),(12,I d.who)] (Jw 5 (Jw 5 (Jw 5 (Jw 5 (Jw 5 (Qq (Ls:=[[Sg b 0 (J7 t a_1 c_1 a_5 c_5 a_6 c_6 a_7 c_7 a_8 c_8 a_10 c_10 a_12 c_12 a_13 c_13)],r_7,r_8,r_12,r_13]) (Lr:=([Sg b1 0 (WY d a1 c1 a2 c2 a3 c3 a4 c4)]::Lr)) 13 (Jcn G b t a_1 c_1 a_5 c_5 a_6 c_6 a_7 c_7 a_8 c_8 a_10 c_10 a_12 c_12 a_13 c_13 r_7 r_8 r_12 r_13 h_0 h_1 h_2 h_3 h_4 h_5 h_6 h_7 h_8 h_9 h_10 h_11 h_12 h_13 d.who) (fun v G1 L1 hl1 hp=>?_)))))))))))))))
 obtain ⟨a5,c5,a6,c6,a7,c7,a8,c8,a9,c9,a10,c10,a11,c11,a12,c12,r1,r2,r3,r4,rfl,w13,hs5,w14,w15,w16,hs6,hs7,hr1,hr2,w17,hs8,w18,hr3,hr4,rfl⟩:=hp
 refine Jb [0] [(14,Bo (!(Zo t d.who)))] (Je (Jc (Jm (!(Zo t d.who)) (fun h1=>?_) (fun h1=>?_))))
 refine Jo (Jj (Jk 4 (Jk 4 (Jk 4 (Jk 4 (Jk 4 ?_))))))
 have hf1:Wq t d=t:=by
  exact tWant0 ‹_›
 refine Jp [] [] (KQ (Lr:=Lr) [[Sg b 0 (J7 t a5 c5 a6 c6 a7 c7 a8 c8 a9 c9 a10 c10 a11 c11 a12 c12)],r1,r2,r3,r4] hl1 ?_)
 rw [hf1];try dsimp only
 exact ⟨a5,c5,a6,c6,a7,c7,a8,c8,a9,c9,a10,c10,a11,c11,a12,c12,r1,r2,r3,r4,rfl,w13,hs5,w14,w15,w16,hs6,hs7,hr1,hr2,w17,hs8,w18,hr3,hr4,rfl⟩
 refine Jq (Jc ?_)
 have hown:=V1.1 (show Zo t d.who=true by assumption)
 obtain ⟨kn1,hkn1⟩:∃ k_:Nat,d.who=(k_:Int):=⟨(d.who).toNat,by omega⟩
 have e1:d.who=(kn1:Int):=hkn1
 refine Jc7 (L':=([Sg b 0 [I t.town.clerk.queue.most,Sl a5 t.town.clerk.queue.wait.length c5,I t.town.clerk.batch,I t.town.clerk.every,I t.town.clerk.now,Sl a6 t.town.clerk.heads.length c6,Sl a7 t.town.clerk.books.length c7,Sl a8 t.town.owners.length c8,Sl a9 t.town.polls.length c9,I t.town.net.now,Sl a10 t.town.net.way.length c10,I t.reach,Sl a11 t.fates.length c11,Sl a12 t.events.length c12]]::r1::r2::r3::r4::[Sg b1 0 [I d.kind,I (kn1:Int),Sr d.value,Sl a1 d.fates.length c1,I d.letter.to_,I d.letter.from_,I d.letter.since,I d.letter.due,Sl a2 d.letter.heads.length c2,I d.letter.reply.head.epoch,U d.letter.reply.head.root,U d.letter.reply.head.prev,I d.letter.reply.head.at_,Sr d.letter.reply.proof.name,Sl a3 d.letter.reply.proof.entries.length c3,Sl a4 d.letter.reply.proof.sides.length c4]]::Lr)) (by (simp only [Jjb,KX,WY,KT,J7,JkH,QH,JdC,KF,e1];first | done | rfl)) (Jf ?_)
 have hx1:(t.town.owners)[kn1]? = some (Jt t (kn1:Int)):=YY (by omega)
 obtain ⟨b2,o1,_,_,⟨a13,c13,rfl,w19,w20,w21,w22,w23,w24,hs9,w25⟩,ha1,hre1,hc1⟩:=J0.ix hr1 hx1
 refine Kt [] (Wz [(0,Pt b 0),(1,Pt b 0),(2,Pt b 0),(3,Pt b 7),(4,Sl a8 t.town.owners.length c8),(5,Pt b1 1),(6,I (kn1:Int)),(7,Pt b2 (o1+kn1*8)),(8,Pt b2 (o1+kn1*8+6)),(9,Sl a13 (((Jt t (kn1:Int)).wanted).length) c13),(10,I ((((Jt t (kn1:Int)).wanted).length:Nat):Int)),(11,I ((((Jt t (kn1:Int)).wanted).length:Nat):Int))] (Kq [] [(0,0),(1,0),(2,0),(3,0),(4,2),(5,0),(6,12),(8,0),(10,0),(11,0)] [7,9] [(0,Pt b 0),(3,Pt b1 0),(4,I ((((Jt t (kn1:Int)).wanted).length:Nat):Int))] (Kb ?_ (Kb ?_ K4)) ?_))
 refine Jr 7 22 (Pt b2 (o1+kn1*8)) [(19,Sl a8 t.town.owners.length c8),(21,I (kn1:Int))] (fun X=>?_)
 exact Qv (b:=b2) (off:=o1) (len:=t.town.owners.length) (cap:=c8) (ik:=.i64) 22 76 8 kn1 ha1 J5 Jn
 refine Jr 9 24 (Sl a13 (((Jt t (kn1:Int)).wanted).length) c13) [(23,Pt b2 (o1+kn1*8+6))] (fun X=>?_)
 exact W8 (off:=o1) (p:=kn1*8) (cs:=(KT (Jt t (kn1:Int)) a13 c13)) 24 22 1 6 (Sl a13 (((Jt t (kn1:Int)).wanted).length) c13) hre1 hc1 Jn
 refine Jc ?_
 refine Ym (σ:=Nat×Nat×Ba×Nat×J4) (fun q_=>(J4.le G1 q_.2.2.2.2)∧((((Ko d kn1 t).2.1).name).length≤140737488351232)∧((((Ko d kn1 t).2.1).value).length≤140737488351232)∧(rU (((Ko d kn1 t).2.1).n))∧(rU (((Ko d kn1 t).2.1).tag))∧((((Ko d kn1 t).1).name).length≤140737488351232)∧(rU (((Ko d kn1 t).1).key))∧(rI (((Ko d kn1 t).1).head.epoch))∧(rU (((Ko d kn1 t).1).head.root))∧(rU (((Ko d kn1 t).1).head.prev))∧(rI (((Ko d kn1 t).1).head.at_))∧(RS ES q_.2.2.2.2 q_.2.2.1 q_.2.2.2.1 (((Ko d kn1 t).1).wanted))∧(rI (((Ko d kn1 t).1).had))) (fun q_=>[(0,Pt b 0),(3,Pt b1 0),(4,I ((((Jt t (kn1:Int)).wanted).length:Nat):Int)),(5,Pt q_.1 0),(6,Pt q_.2.1 0),(7,I ((Ko d kn1 t).2.2))]) (fun q_=>q_.2.2.2.2) (fun q_=>([Sg q_.2.1 0 (Vu d kn1 t)]::[Sg q_.1 0 (KT (Ko d kn1 t).1 q_.2.2.1 q_.2.2.2.1)]::[Sg b 0 (J7 t a5 c5 a6 c6 a7 c7 a8 c8 a9 c9 a10 c10 a11 c11 a12 c12)]::r1::r2::r3::r4::[Sg b1 0 (WY (YH d kn1) a1 c1 a2 c2 a3 c3 a4 c4)]::Lr)) ?_ (fun q_ hs=>?_)
 refine Kt [11,16,17,18,19] (Wz [(0,Pt b 0),(1,Pt b 0),(2,Pt b 0),(3,Pt b 7),(4,Sl a8 t.town.owners.length c8),(5,Pt b1 1),(6,I (kn1:Int)),(7,Pt b2 (o1+kn1*8)),(8,(KF (Jt t (kn1:Int)) a13 c13)),(9,Pt b1 2),(10,Sr d.value)] (JL [] [(0,0),(1,0),(2,0),(3,0),(4,2),(5,0),(6,12),(9,0),(10,12)] [7,8] [11,16,17] (Kb ?_ (Kb ?_ K4)) (Kb ?_ (Kb ?_ (Kb ?_ K4)))))
 refine Jr 7 34 (Pt b2 (o1+kn1*8)) [(31,Sl a8 t.town.owners.length c8),(33,I (kn1:Int))] (fun X=>?_)
 exact Qv (b:=b2) (off:=o1) (len:=t.town.owners.length) (cap:=c8) (ik:=.i64) 34 76 8 kn1 ha1 J5 Jn
 refine Jr 8 35 (KF (Jt t (kn1:Int)) a13 c13) [(34,Pt b2 (o1+kn1*8))] (fun X=>?_)
 exact W8 (off:=o1) (p:=kn1*8) (cs:=(KT (Jt t (kn1:Int)) a13 c13)) 35 76 1 0 (KF (Jt t (kn1:Int)) a13 c13) hre1 hc1 Jn
 refine JA 11 [(35,(KF (Jt t (kn1:Int)) a13 c13)),(37,Sr d.value)] (fun X=>?_)
 refine JM 38 (Vi G1 (KT (Jt t (kn1:Int)) a13 c13) (Jt t (kn1:Int)) (⟨a13,c13,rfl,w19,w20,w21,w22,w23,w24,hs9,w25⟩) d.value w3) (fun v G2 L1 hl2 hp=>?_)
 obtain ⟨a14,c14,rfl,w26,w27,w28,w29,w30,w31,hs10,w32,w33,w34,w35,w36,rfl⟩:=hp
 refine JC [(11,.tuple #[(KF (Ko d kn1 t).1 a14 c14),(ZD d kn1 t),I ((Ko d kn1 t).2.2)]),(12,.tuple #[(KF (Ko d kn1 t).1 a14 c14),(ZD d kn1 t),I ((Ko d kn1 t).2.2)]),(13,(KF (Ko d kn1 t).1 a14 c14)),(14,(ZD d kn1 t)),(15,I ((Ko d kn1 t).2.2))] (JL [0,1,2,3,4,5,6,7,8,9,10] [(12,0),(13,0),(14,0),(15,0)] [] [16,17] (Ha _) (Kb ?_ (Kb ?_ K4)))
 refine JA 16 [] (fun X=>?_)
 refine Jv 5 #[Sr ([]),U 0,I 0,U 0,U 0,I 0,Sl none 0 0,I 0] 76 (fun b3=>JC [(16,Pt b3 0)] (JL [0,1,2,3,4,5,6,7,8,9,10] [(12,0),(13,0),(14,0),(15,0)] [] [17] (Ha _) (Kb ?_ K4)))
 refine JA 17 [] (fun X=>?_)
 refine Jv 6 #[Sr ([]),Sr ([]),U 0,U 0] 182 (fun b4=>JC [(17,Pt b4 0)] (JL [0,1,2,3,4,5,6,7,8,9,10] [(12,0),(13,0),(14,0),(15,0)] [] [18] (Ha _) (Kb ?_ K4)))
 refine JA 18 [(5,Pt b3 0),(39,(KF (Ko d kn1 t).1 a14 c14))] (fun X=>?_)
 refine KI 1 ([Sg b4 0 [Sr ([]),Sr ([]),U 0,U 0]]::[Sg b3 0 (KT (Ko d kn1 t).1 a14 c14)]::[Sg b 0 (J7 t a5 c5 a6 c6 a7 c7 a8 c8 a9 c9 a10 c10 a11 c11 a12 c12)]::r1::r2::r3::r4::[Sg b1 0 (WY (YH d kn1) a1 c1 a2 c2 a3 c3 a4 c4)]::Lr) (J9 [] (JL [0,1,2,3,4,5,6,7,8,9,10,12,13] [(14,0),(15,0)] [] [19] (Ha _) (Kb ?_ K4)))
 refine JA 19 [(6,Pt b4 0),(40,(ZD d kn1 t))] (fun X=>?_)
 exact KI 0 ([Sg b4 0 (Vu d kn1 t)]::[Sg b3 0 (KT (Ko d kn1 t).1 a14 c14)]::[Sg b 0 (J7 t a5 c5 a6 c6 a7 c7 a8 c8 a9 c9 a10 c10 a11 c11 a12 c12)]::r1::r2::r3::r4::[Sg b1 0 (WY (YH d kn1) a1 c1 a2 c2 a3 c3 a4 c4)]::Lr) (J9 [(20,I ((Ko d kn1 t).2.2))] (Kq [0,1,2,3,4,5,6,7,8,9,10,12,13,14] [(15,0),(20,0)] [] [(0,Pt b 0),(3,Pt b1 0),(4,I ((((Jt t (kn1:Int)).wanted).length:Nat):Int)),(5,Pt b3 0),(6,Pt b4 0),(7,I ((Ko d kn1 t).2.2))] (Ha _) (Q3 (b3,b4,a14,c14,G2) ⟨hl2,w33,w34,w35,w36,w26,w27,w28,w29,w30,w31,hs10,w32⟩)))
 refine JA 17 [] (fun X=>?_)
 refine Jv 6 #[Sr ([]),Sr ([]),U 0,U 0] 182 (fun b5=>JC [(17,Pt b5 0)] (JL [0,1,2,3,4,5,6,7,8,9,10] [(12,0),(13,0),(14,0),(15,0)] [] [16] (Ha _) (Kb ?_ K4)))
 refine JA 16 [] (fun X=>?_)
 refine Jv 5 #[Sr ([]),U 0,I 0,U 0,U 0,I 0,Sl none 0 0,I 0] 76 (fun b6=>JC [(16,Pt b6 0)] (JL [0,1,2,3,4,5,6,7,8,9,10] [(12,0),(13,0),(14,0),(15,0)] [] [18] (Ha _) (Kb ?_ K4)))
 refine JA 18 [(5,Pt b6 0),(39,(KF (Ko d kn1 t).1 a14 c14))] (fun X=>?_)
 refine KI 0 ([Sg b6 0 (KT (Ko d kn1 t).1 a14 c14)]::[Sg b5 0 [Sr ([]),Sr ([]),U 0,U 0]]::[Sg b 0 (J7 t a5 c5 a6 c6 a7 c7 a8 c8 a9 c9 a10 c10 a11 c11 a12 c12)]::r1::r2::r3::r4::[Sg b1 0 (WY (YH d kn1) a1 c1 a2 c2 a3 c3 a4 c4)]::Lr) (J9 [] (JL [0,1,2,3,4,5,6,7,8,9,10,12,13] [(14,0),(15,0)] [] [19] (Ha _) (Kb ?_ K4)))
 refine JA 19 [(6,Pt b5 0),(40,(ZD d kn1 t))] (fun X=>?_)
 refine KI 1 ([Sg b6 0 (KT (Ko d kn1 t).1 a14 c14)]::[Sg b5 0 (Vu d kn1 t)]::[Sg b 0 (J7 t a5 c5 a6 c6 a7 c7 a8 c8 a9 c9 a10 c10 a11 c11 a12 c12)]::r1::r2::r3::r4::[Sg b1 0 (WY (YH d kn1) a1 c1 a2 c2 a3 c3 a4 c4)]::Lr) (J9 [(20,I ((Ko d kn1 t).2.2))] (Kq [0,1,2,3,4,5,6,7,8,9,10,12,13,14] [(15,0),(20,0)] [] [(0,Pt b 0),(3,Pt b1 0),(4,I ((((Jt t (kn1:Int)).wanted).length:Nat):Int)),(5,Pt b6 0),(6,Pt b5 0),(7,I ((Ko d kn1 t).2.2))] (Ha _) (Jk 7 (Jk 7 (Jk 7 (Jk 7 (Jk 7 (Jk 7 (Jk 6 (Jk 7 ?_))))))))))
 exact Q3 (b6,b5,a14,c14,G2) ⟨hl2,w33,w34,w35,w36,w26,w27,w28,w29,w30,w31,hs10,w32⟩
 refine JA 16 [] (fun X=>?_)
 refine Jv 5 #[Sr ([]),U 0,I 0,U 0,U 0,I 0,Sl none 0 0,I 0] 76 (fun b7=>JC [(16,Pt b7 0)] (JL [] [(0,0),(1,0),(2,0),(3,0),(4,4),(5,0),(6,14),(9,0),(10,14)] [7,8] [11,17] (Kb ?_ (Kb ?_ K4)) (Kb ?_ (Kb ?_ K4))))
 refine Jr 7 34 (Pt b2 (o1+kn1*8)) [(31,Sl a8 t.town.owners.length c8),(33,I (kn1:Int))] (fun X=>?_)
 exact Qv (b:=b2) (off:=o1) (len:=t.town.owners.length) (cap:=c8) (ik:=.i64) 34 76 8 kn1 ha1 J5 Jn
 refine Jr 8 35 (KF (Jt t (kn1:Int)) a13 c13) [(34,Pt b2 (o1+kn1*8))] (fun X=>?_)
 exact W8 (off:=o1) (p:=kn1*8) (cs:=(KT (Jt t (kn1:Int)) a13 c13)) 35 76 2 0 (KF (Jt t (kn1:Int)) a13 c13) hre1 hc1 Jn
 refine JA 11 [(35,(KF (Jt t (kn1:Int)) a13 c13)),(37,Sr d.value)] (fun X=>?_)
 refine JM 38 (Vi G1 (KT (Jt t (kn1:Int)) a13 c13) (Jt t (kn1:Int)) (⟨a13,c13,rfl,w19,w20,w21,w22,w23,w24,hs9,w25⟩) d.value w3) (fun v G3 L1 hl3 hp=>?_)
 obtain ⟨a15,c15,rfl,w37,w38,w39,w40,w41,w42,hs11,w43,w44,w45,w46,w47,rfl⟩:=hp
 refine JC [(11,.tuple #[(KF (Ko d kn1 t).1 a15 c15),(ZD d kn1 t),I ((Ko d kn1 t).2.2)]),(12,.tuple #[(KF (Ko d kn1 t).1 a15 c15),(ZD d kn1 t),I ((Ko d kn1 t).2.2)]),(13,(KF (Ko d kn1 t).1 a15 c15)),(14,(ZD d kn1 t)),(15,I ((Ko d kn1 t).2.2))] (JL [0,1,2,3,4,5,6,7,8,9,10] [(12,0),(13,0),(14,0),(15,0)] [] [17] (Ha _) (Kb ?_ K4))
 refine JA 17 [] (fun X=>?_)
 refine Jv 6 #[Sr ([]),Sr ([]),U 0,U 0] 182 (fun b8=>JC [(17,Pt b8 0)] (JL [0,1,2,3,4,5,6,7,8,9,10] [(12,0),(13,0),(14,0),(15,0)] [] [18] (Ha _) (Kb ?_ K4)))
 refine JA 18 [(5,Pt b7 0),(39,(KF (Ko d kn1 t).1 a15 c15))] (fun X=>?_)
 refine KI 1 ([Sg b8 0 [Sr ([]),Sr ([]),U 0,U 0]]::[Sg b7 0 (KT (Ko d kn1 t).1 a15 c15)]::[Sg b 0 (J7 t a5 c5 a6 c6 a7 c7 a8 c8 a9 c9 a10 c10 a11 c11 a12 c12)]::r1::r2::r3::r4::[Sg b1 0 (WY (YH d kn1) a1 c1 a2 c2 a3 c3 a4 c4)]::Lr) (J9 [] (JL [0,1,2,3,4,5,6,7,8,9,10,12,13] [(14,0),(15,0)] [] [19] (Ha _) (Kb ?_ K4)))
 refine JA 19 [(6,Pt b8 0),(40,(ZD d kn1 t))] (fun X=>?_)
 exact KI 0 ([Sg b8 0 (Vu d kn1 t)]::[Sg b7 0 (KT (Ko d kn1 t).1 a15 c15)]::[Sg b 0 (J7 t a5 c5 a6 c6 a7 c7 a8 c8 a9 c9 a10 c10 a11 c11 a12 c12)]::r1::r2::r3::r4::[Sg b1 0 (WY (YH d kn1) a1 c1 a2 c2 a3 c3 a4 c4)]::Lr) (J9 [(20,I ((Ko d kn1 t).2.2))] (Kq [0,1,2,3,4,5,6,7,8,9,10,12,13,14] [(15,0),(20,0)] [] [(0,Pt b 0),(3,Pt b1 0),(4,I ((((Jt t (kn1:Int)).wanted).length:Nat):Int)),(5,Pt b7 0),(6,Pt b8 0),(7,I ((Ko d kn1 t).2.2))] (Ha _) (Q3 (b7,b8,a15,c15,G3) ⟨hl3,w44,w45,w46,w47,w37,w38,w39,w40,w41,w42,hs11,w43⟩)))
 refine JA 17 [] (fun X=>?_)
 refine Jv 6 #[Sr ([]),Sr ([]),U 0,U 0] 182 (fun b9=>JC [(17,Pt b9 0)] (JL [] [(0,0),(1,0),(2,0),(3,0),(4,6),(5,0),(6,16),(9,0),(10,16)] [7,8] [11] (Kb ?_ (Kb ?_ K4)) (Kb ?_ K4)))
 refine Jr 7 34 (Pt b2 (o1+kn1*8)) [(31,Sl a8 t.town.owners.length c8),(33,I (kn1:Int))] (fun X=>?_)
 exact Qv (b:=b2) (off:=o1) (len:=t.town.owners.length) (cap:=c8) (ik:=.i64) 34 76 8 kn1 ha1 J5 Jn
 refine Jr 8 35 (KF (Jt t (kn1:Int)) a13 c13) [(34,Pt b2 (o1+kn1*8))] (fun X=>?_)
 exact W8 (off:=o1) (p:=kn1*8) (cs:=(KT (Jt t (kn1:Int)) a13 c13)) 35 76 3 0 (KF (Jt t (kn1:Int)) a13 c13) hre1 hc1 Jn
 refine JA 11 [(35,(KF (Jt t (kn1:Int)) a13 c13)),(37,Sr d.value)] (fun X=>?_)
 refine JM 38 (Vi G1 (KT (Jt t (kn1:Int)) a13 c13) (Jt t (kn1:Int)) (⟨a13,c13,rfl,w19,w20,w21,w22,w23,w24,hs9,w25⟩) d.value w3) (fun v G4 L1 hl4 hp=>?_)
 obtain ⟨a16,c16,rfl,w48,w49,w50,w51,w52,w53,hs12,w54,w55,w56,w57,w58,rfl⟩:=hp
 refine JC [(11,.tuple #[(KF (Ko d kn1 t).1 a16 c16),(ZD d kn1 t),I ((Ko d kn1 t).2.2)]),(12,.tuple #[(KF (Ko d kn1 t).1 a16 c16),(ZD d kn1 t),I ((Ko d kn1 t).2.2)]),(13,(KF (Ko d kn1 t).1 a16 c16)),(14,(ZD d kn1 t)),(15,I ((Ko d kn1 t).2.2))] (JL [0,1,2,3,4,5,6,7,8,9,10] [(12,0),(13,0),(14,0),(15,0)] [] [18] (Ha _) (Kb ?_ K4))
 refine JA 18 [(5,Pt b7 0),(39,(KF (Ko d kn1 t).1 a16 c16))] (fun X=>?_)
 refine KI 1 ([Sg b9 0 [Sr ([]),Sr ([]),U 0,U 0]]::[Sg b7 0 (KT (Ko d kn1 t).1 a16 c16)]::[Sg b 0 (J7 t a5 c5 a6 c6 a7 c7 a8 c8 a9 c9 a10 c10 a11 c11 a12 c12)]::r1::r2::r3::r4::[Sg b1 0 (WY (YH d kn1) a1 c1 a2 c2 a3 c3 a4 c4)]::Lr) (J9 [] (JL [0,1,2,3,4,5,6,7,8,9,10,12,13] [(14,0),(15,0)] [] [19] (Ha _) (Kb ?_ K4)))
 refine JA 19 [(6,Pt b9 0),(40,(ZD d kn1 t))] (fun X=>?_)
 exact KI 0 ([Sg b9 0 (Vu d kn1 t)]::[Sg b7 0 (KT (Ko d kn1 t).1 a16 c16)]::[Sg b 0 (J7 t a5 c5 a6 c6 a7 c7 a8 c8 a9 c9 a10 c10 a11 c11 a12 c12)]::r1::r2::r3::r4::[Sg b1 0 (WY (YH d kn1) a1 c1 a2 c2 a3 c3 a4 c4)]::Lr) (J9 [(20,I ((Ko d kn1 t).2.2))] (Kq [0,1,2,3,4,5,6,7,8,9,10,12,13,14] [(15,0),(20,0)] [] [(0,Pt b 0),(3,Pt b1 0),(4,I ((((Jt t (kn1:Int)).wanted).length:Nat):Int)),(5,Pt b7 0),(6,Pt b9 0),(7,I ((Ko d kn1 t).2.2))] (Ha _) (Q3 (b7,b9,a16,c16,G4) ⟨hl4,w55,w56,w57,w58,w48,w49,w50,w51,w52,w53,hs12,w54⟩)))
 refine JA 17 [] (fun X=>?_)
 refine Jv 6 #[Sr ([]),Sr ([]),U 0,U 0] 182 (fun b10=>JC [(17,Pt b10 0)] (JL [] [(0,0),(1,0),(2,0),(3,0),(4,4),(5,0),(6,14),(9,0),(10,14)] [7,8] [11,16] (Kb ?_ (Kb ?_ K4)) (Kb ?_ (Kb ?_ K4))))
 refine Jr 7 34 (Pt b2 (o1+kn1*8)) [(31,Sl a8 t.town.owners.length c8),(33,I (kn1:Int))] (fun X=>?_)
 exact Qv (b:=b2) (off:=o1) (len:=t.town.owners.length) (cap:=c8) (ik:=.i64) 34 76 8 kn1 ha1 J5 Jn
 refine Jr 8 35 (KF (Jt t (kn1:Int)) a13 c13) [(34,Pt b2 (o1+kn1*8))] (fun X=>?_)
 exact W8 (off:=o1) (p:=kn1*8) (cs:=(KT (Jt t (kn1:Int)) a13 c13)) 35 76 2 0 (KF (Jt t (kn1:Int)) a13 c13) hre1 hc1 Jn
 refine JA 11 [(35,(KF (Jt t (kn1:Int)) a13 c13)),(37,Sr d.value)] (fun X=>?_)
 refine JM 38 (Vi G1 (KT (Jt t (kn1:Int)) a13 c13) (Jt t (kn1:Int)) (⟨a13,c13,rfl,w19,w20,w21,w22,w23,w24,hs9,w25⟩) d.value w3) (fun v G5 L1 hl5 hp=>?_)
 obtain ⟨a17,c17,rfl,w59,w60,w61,w62,w63,w64,hs13,w65,w66,w67,w68,w69,rfl⟩:=hp
 refine JC [(11,.tuple #[(KF (Ko d kn1 t).1 a17 c17),(ZD d kn1 t),I ((Ko d kn1 t).2.2)]),(12,.tuple #[(KF (Ko d kn1 t).1 a17 c17),(ZD d kn1 t),I ((Ko d kn1 t).2.2)]),(13,(KF (Ko d kn1 t).1 a17 c17)),(14,(ZD d kn1 t)),(15,I ((Ko d kn1 t).2.2))] (JL [0,1,2,3,4,5,6,7,8,9,10] [(12,0),(13,0),(14,0),(15,0)] [] [16] (Ha _) (Kb ?_ K4))
 refine JA 16 [] (fun X=>?_)
 refine Jv 5 #[Sr ([]),U 0,I 0,U 0,U 0,I 0,Sl none 0 0,I 0] 76 (fun b11=>JC [(16,Pt b11 0)] (JL [0,1,2,3,4,5,6,7,8,9,10] [(12,0),(13,0),(14,0),(15,0)] [] [18] (Ha _) (Kb ?_ K4)))
 refine JA 18 [(5,Pt b11 0),(39,(KF (Ko d kn1 t).1 a17 c17))] (fun X=>?_)
 refine KI 0 ([Sg b11 0 (KT (Ko d kn1 t).1 a17 c17)]::[Sg b10 0 [Sr ([]),Sr ([]),U 0,U 0]]::[Sg b 0 (J7 t a5 c5 a6 c6 a7 c7 a8 c8 a9 c9 a10 c10 a11 c11 a12 c12)]::r1::r2::r3::r4::[Sg b1 0 (WY (YH d kn1) a1 c1 a2 c2 a3 c3 a4 c4)]::Lr) (J9 [] (JL [0,1,2,3,4,5,6,7,8,9,10,12,13] [(14,0),(15,0)] [] [19] (Ha _) (Kb ?_ K4)))
 refine JA 19 [(6,Pt b10 0),(40,(ZD d kn1 t))] (fun X=>?_)
 refine KI 1 ([Sg b11 0 (KT (Ko d kn1 t).1 a17 c17)]::[Sg b10 0 (Vu d kn1 t)]::[Sg b 0 (J7 t a5 c5 a6 c6 a7 c7 a8 c8 a9 c9 a10 c10 a11 c11 a12 c12)]::r1::r2::r3::r4::[Sg b1 0 (WY (YH d kn1) a1 c1 a2 c2 a3 c3 a4 c4)]::Lr) (J9 [(20,I ((Ko d kn1 t).2.2))] (Kq [0,1,2,3,4,5,6,7,8,9,10,12,13,14] [(15,0),(20,0)] [] [(0,Pt b 0),(3,Pt b1 0),(4,I ((((Jt t (kn1:Int)).wanted).length:Nat):Int)),(5,Pt b11 0),(6,Pt b10 0),(7,I ((Ko d kn1 t).2.2))] (Ha _) (Jk 7 (Jk 7 (Jk 7 (Jk 7 (Jk 7 (Jk 7 (Jk 6 (Jk 7 ?_))))))))))
 exact Q3 (b11,b10,a17,c17,G5) ⟨hl5,w66,w67,w68,w69,w59,w60,w61,w62,w63,w64,hs13,w65⟩
 refine JA 16 [] (fun X=>?_)
 refine Jv 5 #[Sr ([]),U 0,I 0,U 0,U 0,I 0,Sl none 0 0,I 0] 76 (fun b12=>JC [(16,Pt b12 0)] (JL [] [(0,0),(1,0),(2,0),(3,0),(4,6),(5,0),(6,16),(9,0),(10,16)] [7,8] [11] (Kb ?_ (Kb ?_ K4)) (Kb ?_ K4)))
 refine Jr 7 34 (Pt b2 (o1+kn1*8)) [(31,Sl a8 t.town.owners.length c8),(33,I (kn1:Int))] (fun X=>?_)
 exact Qv (b:=b2) (off:=o1) (len:=t.town.owners.length) (cap:=c8) (ik:=.i64) 34 76 8 kn1 ha1 J5 Jn
 refine Jr 8 35 (KF (Jt t (kn1:Int)) a13 c13) [(34,Pt b2 (o1+kn1*8))] (fun X=>?_)
 exact W8 (off:=o1) (p:=kn1*8) (cs:=(KT (Jt t (kn1:Int)) a13 c13)) 35 76 3 0 (KF (Jt t (kn1:Int)) a13 c13) hre1 hc1 Jn
 refine JA 11 [(35,(KF (Jt t (kn1:Int)) a13 c13)),(37,Sr d.value)] (fun X=>?_)
 refine JM 38 (Vi G1 (KT (Jt t (kn1:Int)) a13 c13) (Jt t (kn1:Int)) (⟨a13,c13,rfl,w19,w20,w21,w22,w23,w24,hs9,w25⟩) d.value w3) (fun v G6 L1 hl6 hp=>?_)
 obtain ⟨a18,c18,rfl,w70,w71,w72,w73,w74,w75,hs14,w76,w77,w78,w79,w80,rfl⟩:=hp
 refine JC [(11,.tuple #[(KF (Ko d kn1 t).1 a18 c18),(ZD d kn1 t),I ((Ko d kn1 t).2.2)]),(12,.tuple #[(KF (Ko d kn1 t).1 a18 c18),(ZD d kn1 t),I ((Ko d kn1 t).2.2)]),(13,(KF (Ko d kn1 t).1 a18 c18)),(14,(ZD d kn1 t)),(15,I ((Ko d kn1 t).2.2))] (JL [0,1,2,3,4,5,6,7,8,9,10] [(12,0),(13,0),(14,0),(15,0)] [] [18] (Ha _) (Kb ?_ K4))
 refine JA 18 [(5,Pt b12 0),(39,(KF (Ko d kn1 t).1 a18 c18))] (fun X=>?_)
 refine KI 0 ([Sg b12 0 (KT (Ko d kn1 t).1 a18 c18)]::[Sg b10 0 [Sr ([]),Sr ([]),U 0,U 0]]::[Sg b 0 (J7 t a5 c5 a6 c6 a7 c7 a8 c8 a9 c9 a10 c10 a11 c11 a12 c12)]::r1::r2::r3::r4::[Sg b1 0 (WY (YH d kn1) a1 c1 a2 c2 a3 c3 a4 c4)]::Lr) (J9 [] (JL [0,1,2,3,4,5,6,7,8,9,10,12,13] [(14,0),(15,0)] [] [19] (Ha _) (Kb ?_ K4)))
 refine JA 19 [(6,Pt b10 0),(40,(ZD d kn1 t))] (fun X=>?_)
 refine KI 1 ([Sg b12 0 (KT (Ko d kn1 t).1 a18 c18)]::[Sg b10 0 (Vu d kn1 t)]::[Sg b 0 (J7 t a5 c5 a6 c6 a7 c7 a8 c8 a9 c9 a10 c10 a11 c11 a12 c12)]::r1::r2::r3::r4::[Sg b1 0 (WY (YH d kn1) a1 c1 a2 c2 a3 c3 a4 c4)]::Lr) (J9 [(20,I ((Ko d kn1 t).2.2))] (Kq [0,1,2,3,4,5,6,7,8,9,10,12,13,14] [(15,0),(20,0)] [] [(0,Pt b 0),(3,Pt b1 0),(4,I ((((Jt t (kn1:Int)).wanted).length:Nat):Int)),(5,Pt b12 0),(6,Pt b10 0),(7,I ((Ko d kn1 t).2.2))] (Ha _) (Jk 7 (Jk 7 (Jk 7 (Jk 7 (Jk 7 (Jk 7 (Jk 6 (Jk 7 ?_))))))))))
 exact Q3 (b12,b10,a18,c18,G6) ⟨hl6,w77,w78,w79,w80,w70,w71,w72,w73,w74,w75,hs14,w76⟩
 obtain ⟨b3,b4,a14,c14,G2⟩:=q_
 obtain ⟨hle1,hj1,hj2,hj3,hj4,hj5,hj6,hj7,hj8,hj9,hj10,hj11,hj12⟩:=hs
 dsimp only at hle1 hj1 hj2 hj3 hj4 hj5 hj6 hj7 hj8 hj9 hj10 hj11 hj12
 dsimp only
 refine Jf (Jf (Jd (Jb [0,0,0] [(44,Bo (!decide ((Ko d kn1 t).2.2=0)))] (QS [44] (!decide ((Ko d kn1 t).2.2=0)) (fun h2=>?_) (fun h2=>?_)))))
 refine Jb [1,1,1,1,1,0] [(50,Bo true)] (Je (Jc (JZ (Jo (Jj (Jk 6 (Jk 6 (Jk 6 (Jk 6 (Jk 6 ?_))))))))))
 have hf2:Wq t d=t:=by
  exact tWant1 ‹_› ‹_› ‹_›
 refine Jp [] [] (KQ (Lr:=Lr) [[Sg b 0 (J7 t a5 c5 a6 c6 a7 c7 a8 c8 a9 c9 a10 c10 a11 c11 a12 c12)],r1,r2,r3,r4] (Ja hl1 hle1) ?_)
 rw [hf2];try dsimp only
 exact ⟨a5,c5,a6,c6,a7,c7,a8,c8,a9,c9,a10,c10,a11,c11,a12,c12,r1,r2,r3,r4,rfl,w13,(hs5.mono hle1),w14,w15,w16,(hs6.mono hle1),(hs7.mono hle1),(hr1.mono hle1),(hr2.mono hle1),w17,(hs8.mono hle1),w18,(hr3.mono hle1),(hr4.mono hle1),rfl⟩
 refine Jb [0,4,2] [(46,U (((Ko d kn1 t).1).key)),(47,(ZD d kn1 t))] (Jl 48 (Bo (Yq (((Ko d kn1 t).1).key) ((Ko d kn1 t).2.1))) (Jiq G2 (((Ko d kn1 t).1).key) (Vu d kn1 t) ((Ko d kn1 t).2.1) (⟨rfl,hj1,hj2,hj3,hj4⟩)) (Jb [0,0] [(50,Bo (!(Yq (((Ko d kn1 t).1).key) ((Ko d kn1 t).2.1))))] (Je (Jc (Jm (!(Yq (((Ko d kn1 t).1).key) ((Ko d kn1 t).2.1))) (fun h3=>?_) (fun h3=>?_))))))
 refine Jo (Jj (Jk 6 (Jk 6 (Jk 6 (Jk 6 (Jk 6 ?_))))))
 have hf3:Wq t d=t:=by
  exact tWant2 ‹_› ‹_› ‹_›
 refine Jp [] [] (KQ (Lr:=Lr) [[Sg b 0 (J7 t a5 c5 a6 c6 a7 c7 a8 c8 a9 c9 a10 c10 a11 c11 a12 c12)],r1,r2,r3,r4] (Ja hl1 hle1) ?_)
 rw [hf3];try dsimp only
 exact ⟨a5,c5,a6,c6,a7,c7,a8,c8,a9,c9,a10,c10,a11,c11,a12,c12,r1,r2,r3,r4,rfl,w13,(hs5.mono hle1),w14,w15,w16,(hs6.mono hle1),(hs7.mono hle1),(hr1.mono hle1),(hr2.mono hle1),w17,(hs8.mono hle1),w18,(hr3.mono hle1),(hr4.mono hle1),rfl⟩
 refine Jq (Jc ?_)
 refine Ym (σ:=Nat×Ba×Nat×Ba×Nat×Ba×Nat×J4) (fun q_=>(J4.le G2 q_.2.2.2.2.2.2.2)∧(rI ((Qz d kn1 t).2.1))∧(rI (((Qz d kn1 t).1).queue.most))∧(RS Q4 q_.2.2.2.2.2.2.2 q_.2.1 q_.2.2.1 (((Qz d kn1 t).1).queue.wait))∧(rI (((Qz d kn1 t).1).batch))∧(rI (((Qz d kn1 t).1).every))∧(rI (((Qz d kn1 t).1).now))∧(RS KG q_.2.2.2.2.2.2.2 q_.2.2.2.1 q_.2.2.2.2.1 (((Qz d kn1 t).1).heads))∧(RS Qi q_.2.2.2.2.2.2.2 q_.2.2.2.2.2.1 q_.2.2.2.2.2.2.1 (((Qz d kn1 t).1).books))) (fun q_=>[(0,Pt b 0),(3,Pt b1 0),(4,I ((((Jt t (kn1:Int)).wanted).length:Nat):Int)),(5,Pt b3 0),(7,I ((Qz d kn1 t).2.2)),(8,Pt q_.1 0),(9,I ((Qz d kn1 t).2.1))]) (fun q_=>q_.2.2.2.2.2.2.2) (fun q_=>([Sg q_.1 0 (KX (Qz d kn1 t).1 q_.2.1 q_.2.2.1 q_.2.2.2.1 q_.2.2.2.2.1 q_.2.2.2.2.2.1 q_.2.2.2.2.2.2.1)]::[Sg b4 0 (Vu d kn1 t)]::[Sg b3 0 (KT (Ko d kn1 t).1 a14 c14)]::[Sg b 0 (J7 t a5 c5 a6 c6 a7 c7 a8 c8 a9 c9 a10 c10 a11 c11 a12 c12)]::r1::r2::r3::r4::[Sg b1 0 (WY (YH d kn1) a1 c1 a2 c2 a3 c3 a4 c4)]::Lr)) ?_ (fun q_ hs=>?_)
 refine Kt [6,11,12] (Wz [(0,Pt b 0),(1,Pt b 0),(2,Pt b 0),(3,Pt b 0),(4,(QH t.town.clerk a5 c5 a6 c6 a7 c7)),(5,(ZD d kn1 t))] (JL [] [(0,0),(1,0),(2,0),(3,0),(4,6),(5,2)] [] [6,11] (Ha _) (Kb ?_ (Kb ?_ K4))))
 refine JA 6 [(56,(QH t.town.clerk a5 c5 a6 c6 a7 c7)),(57,(ZD d kn1 t))] (fun X=>?_)
 refine JM 58 (JdW G2 (KX t.town.clerk a5 c5 a6 c6 a7 c7) t.town.clerk (⟨a5,c5,a6,c6,a7,c7,rfl,w13,(hs5.mono hle1),w14,w15,w16,(hs6.mono hle1),(hs7.mono hle1)⟩) (Vu d kn1 t) ((Ko d kn1 t).2.1) (⟨rfl,hj1,hj2,hj3,hj4⟩)) (fun v G7 L1 hl7 hp=>?_)
 obtain ⟨a19,c19,a20,c20,a21,c21,rfl,w81,hs15,w82,w83,w84,hs16,hs17,w85,rfl⟩:=hp
 refine JC [(6,.tuple #[(QH (Qz d kn1 t).1 a19 c19 a20 c20 a21 c21),I ((Qz d kn1 t).2.1),I ((Qz d kn1 t).2.2)]),(7,.tuple #[(QH (Qz d kn1 t).1 a19 c19 a20 c20 a21 c21),I ((Qz d kn1 t).2.1),I ((Qz d kn1 t).2.2)]),(8,(QH (Qz d kn1 t).1 a19 c19 a20 c20 a21 c21)),(9,I ((Qz d kn1 t).2.1)),(10,I ((Qz d kn1 t).2.2))] (JL [0,1,2,3,4,5] [(7,0),(8,0),(9,0),(10,0)] [] [11] (Ha _) (Kb ?_ K4))
 refine JA 11 [] (fun X=>?_)
 refine Jv 8 #[I 0,Sl none 0 0,I 0,I 0,I 0,Sl none 0 0,Sl none 0 0] 60 (fun b13=>JC [(11,Pt b13 0)] (JL [0,1,2,3,4,5] [(7,0),(8,0),(9,0),(10,0)] [] [12] (Ha _) (Kb ?_ K4)))
 refine JA 12 [(8,Pt b13 0),(59,(QH (Qz d kn1 t).1 a19 c19 a20 c20 a21 c21))] (fun X=>?_)
 exact KI 0 ([Sg b13 0 (KX (Qz d kn1 t).1 a19 c19 a20 c20 a21 c21)]::[Sg b4 0 (Vu d kn1 t)]::[Sg b3 0 (KT (Ko d kn1 t).1 a14 c14)]::[Sg b 0 (J7 t a5 c5 a6 c6 a7 c7 a8 c8 a9 c9 a10 c10 a11 c11 a12 c12)]::r1::r2::r3::r4::[Sg b1 0 (WY (YH d kn1) a1 c1 a2 c2 a3 c3 a4 c4)]::Lr) (J9 [(13,I ((Qz d kn1 t).2.1)),(14,I ((Qz d kn1 t).2.2))] (Kq [0,1,2,3,4,5,7,8] [(9,0),(10,0),(13,0),(14,0)] [] [(0,Pt b 0),(3,Pt b1 0),(4,I ((((Jt t (kn1:Int)).wanted).length:Nat):Int)),(5,Pt b3 0),(7,I ((Qz d kn1 t).2.2)),(8,Pt b13 0),(9,I ((Qz d kn1 t).2.1))] (Ha _) (Q3 (b13,a19,c19,a20,c20,a21,c21,G7) ⟨hl7,w85,w81,hs15,w82,w83,w84,hs16,hs17⟩)))
 refine JA 11 [] (fun X=>?_)
 refine Jv 8 #[I 0,Sl none 0 0,I 0,I 0,I 0,Sl none 0 0,Sl none 0 0] 60 (fun b14=>JC [(11,Pt b14 0)] (JL [] [(0,0),(1,0),(2,0),(3,0),(4,8),(5,4)] [] [6] (Ha _) (Kb ?_ K4)))
 refine JA 6 [(56,(QH t.town.clerk a5 c5 a6 c6 a7 c7)),(57,(ZD d kn1 t))] (fun X=>?_)
 refine JM 58 (JdW G2 (KX t.town.clerk a5 c5 a6 c6 a7 c7) t.town.clerk (⟨a5,c5,a6,c6,a7,c7,rfl,w13,(hs5.mono hle1),w14,w15,w16,(hs6.mono hle1),(hs7.mono hle1)⟩) (Vu d kn1 t) ((Ko d kn1 t).2.1) (⟨rfl,hj1,hj2,hj3,hj4⟩)) (fun v G8 L1 hl8 hp=>?_)
 obtain ⟨a22,c22,a23,c23,a24,c24,rfl,w86,hs18,w87,w88,w89,hs19,hs20,w90,rfl⟩:=hp
 refine JC [(6,.tuple #[(QH (Qz d kn1 t).1 a22 c22 a23 c23 a24 c24),I ((Qz d kn1 t).2.1),I ((Qz d kn1 t).2.2)]),(7,.tuple #[(QH (Qz d kn1 t).1 a22 c22 a23 c23 a24 c24),I ((Qz d kn1 t).2.1),I ((Qz d kn1 t).2.2)]),(8,(QH (Qz d kn1 t).1 a22 c22 a23 c23 a24 c24)),(9,I ((Qz d kn1 t).2.1)),(10,I ((Qz d kn1 t).2.2))] (JL [0,1,2,3,4,5] [(7,0),(8,0),(9,0),(10,0)] [] [12] (Ha _) (Kb ?_ K4))
 refine JA 12 [(8,Pt b14 0),(59,(QH (Qz d kn1 t).1 a22 c22 a23 c23 a24 c24))] (fun X=>?_)
 exact KI 0 ([Sg b14 0 (KX (Qz d kn1 t).1 a22 c22 a23 c23 a24 c24)]::[Sg b4 0 (Vu d kn1 t)]::[Sg b3 0 (KT (Ko d kn1 t).1 a14 c14)]::[Sg b 0 (J7 t a5 c5 a6 c6 a7 c7 a8 c8 a9 c9 a10 c10 a11 c11 a12 c12)]::r1::r2::r3::r4::[Sg b1 0 (WY (YH d kn1) a1 c1 a2 c2 a3 c3 a4 c4)]::Lr) (J9 [(13,I ((Qz d kn1 t).2.1)),(14,I ((Qz d kn1 t).2.2))] (Kq [0,1,2,3,4,5,7,8] [(9,0),(10,0),(13,0),(14,0)] [] [(0,Pt b 0),(3,Pt b1 0),(4,I ((((Jt t (kn1:Int)).wanted).length:Nat):Int)),(5,Pt b3 0),(7,I ((Qz d kn1 t).2.2)),(8,Pt b14 0),(9,I ((Qz d kn1 t).2.1))] (Ha _) (Q3 (b14,a22,c22,a23,c23,a24,c24,G8) ⟨hl8,w90,w86,hs18,w87,w88,w89,hs19,hs20⟩)))
 obtain ⟨b13,a19,c19,a20,c20,a21,c21,G7⟩:=q_
 obtain ⟨hle2,hj13,hj14,hj15,hj16,hj17,hj18,hj19,hj20⟩:=hs
 dsimp only at hle2 hj13 hj14 hj15 hj16 hj17 hj18 hj19 hj20
 dsimp only
 refine Jf (Jg [0,0] [(63,Bo (!decide ((Qz d kn1 t).2.2=0)))] (Jm (!decide ((Qz d kn1 t).2.2=0)) (fun h4=>?_) (fun h4=>?_)))
 refine Jo (Jj (Jk 7 (Jk 7 (Jk 7 (Jk 7 (Jk 7 ?_))))))
 have hf4:Wq t d=t:=by
  exact tWant3 ‹_› ‹_› ‹_›
 refine Jp [] [] (KQ (Lr:=Lr) [[Sg b 0 (J7 t a5 c5 a6 c6 a7 c7 a8 c8 a9 c9 a10 c10 a11 c11 a12 c12)],r1,r2,r3,r4] (Ja (Ja hl1 hle1) hle2) ?_)
 rw [hf4];try dsimp only
 exact ⟨a5,c5,a6,c6,a7,c7,a8,c8,a9,c9,a10,c10,a11,c11,a12,c12,r1,r2,r3,r4,rfl,w13,(hs5.mono (Ja hle1 hle2)),w14,w15,w16,(hs6.mono (Ja hle1 hle2)),(hs7.mono (Ja hle1 hle2)),(hr1.mono (Ja hle1 hle2)),(hr2.mono (Ja hle1 hle2)),w17,(hs8.mono (Ja hle1 hle2)),w18,(hr3.mono (Ja hle1 hle2)),(hr4.mono (Ja hle1 hle2)),rfl⟩
 refine Jq (Jc (Jf (Kt [11,15] (Wz [(0,Pt b 0),(1,Pt b 0),(2,Pt b 0),(3,Pt b 7),(4,Sl a8 t.town.owners.length c8),(5,Pt b1 1),(6,I (kn1:Int)),(7,Pt b 0),(8,(KF (Ko d kn1 t).1 a14 c14)),(9,(QH (Qz d kn1 t).1 a19 c19 a20 c20 a21 c21)),(10,Pt b2 (o1+kn1*8))] (JL [] [(0,0),(1,0),(2,0),(3,0),(4,8),(5,0),(6,18),(7,0),(8,6),(9,2)] [10] [11] (Kb ?_ K4) (Kb ?_ K4))))))
 refine Jr 10 74 (Pt b2 (o1+kn1*8)) [(68,Sl a8 t.town.owners.length c8),(70,I (kn1:Int))] (fun X=>?_)
 exact Qv (b:=b2) (off:=o1) (len:=t.town.owners.length) (cap:=c8) (ik:=.i64) 74 76 8 kn1 ha1 J5 Jn
 refine JA 11 [(72,(KF (Ko d kn1 t).1 a14 c14)),(74,Pt b2 (o1+kn1*8))] (fun X=>?_)
 refine YA (b:=b2) (off:=o1) 4 (hr1.mono (Ja hle1 hle2)) kn1 ((Ko d kn1 t).1) ha1 J5 (KF (Ko d kn1 t).1 a14 c14) (KT (Ko d kn1 t).1 a14 c14) ⟨a14,c14,rfl,hj5,hj6,hj7,hj8,hj9,hj10,(hj11.mono hle2),hj12⟩ (fun r5 hr5=>?_)
 have e2:t.town.owners.length=(t.town.owners.set kn1 ((Ko d kn1 t).1)).length:=(Hx ..).symm
 refine J9 [(12,Pt b 0),(13,Pt b 0),(14,Pt b 0)] (JL [0,1,2,3,4,5,6,8,10] [(7,0),(9,2),(12,0),(13,0),(14,0)] [] [15] (Ha _) (Kb ?_ K4))
 refine JA 15 [(73,(QH (Qz d kn1 t).1 a19 c19 a20 c20 a21 c21)),(77,Pt b 0)] (fun X=>?_)
 refine KI 3 ([Sg b13 0 (KX (Qz d kn1 t).1 a19 c19 a20 c20 a21 c21)]::[Sg b4 0 (Vu d kn1 t)]::[Sg b3 0 (KT (Ko d kn1 t).1 a14 c14)]::[Sg b 0 (J7 (⟨(⟨(Qz d kn1 t).1,t.town.owners,t.town.polls,t.town.net⟩:Wb),t.reach,t.fates,t.events⟩:JK) a19 c19 a20 c20 a21 c21 a8 c8 a9 c9 a10 c10 a11 c11 a12 c12)]::r5::r2::r3::r4::[Sg b1 0 (WY (YH d kn1) a1 c1 a2 c2 a3 c3 a4 c4)]::Lr) (J9 [] (Kq [0,1,2,3,4,5,6,7,8,9,10,12,13,14] [] [] [(0,Pt b 0),(3,Pt b1 0),(4,I ((((Jt t (kn1:Int)).wanted).length:Nat):Int)),(9,I ((Qz d kn1 t).2.1))] (Ha _) (JlI (fr':=[(0,Pt b 0),(3,Pt b1 0),(4,I ((((Jt t (kn1:Int)).wanted).length:Nat):Int)),(9,I ((Kx t.town.clerk ((JJ (Jt t (kn1:Int)) d.value).2.1)).2.1))]) (L':=([Sg b13 0 [I (((Kx t.town.clerk ((JJ (Jt t (kn1:Int)) d.value).2.1)).1).queue.most),Sl a19 ((((Kx t.town.clerk ((JJ (Jt t (kn1:Int)) d.value).2.1)).1).queue.wait).length) c19,I (((Kx t.town.clerk ((JJ (Jt t (kn1:Int)) d.value).2.1)).1).batch),I (((Kx t.town.clerk ((JJ (Jt t (kn1:Int)) d.value).2.1)).1).every),I (((Kx t.town.clerk ((JJ (Jt t (kn1:Int)) d.value).2.1)).1).now),Sl a20 ((((Kx t.town.clerk ((JJ (Jt t (kn1:Int)) d.value).2.1)).1).heads).length) c20,Sl a21 ((((Kx t.town.clerk ((JJ (Jt t (kn1:Int)) d.value).2.1)).1).books).length) c21]]::[Sg b4 0 [Sr (((JJ (Jt t (kn1:Int)) d.value).2.1).name),Sr (((JJ (Jt t (kn1:Int)) d.value).2.1).value),U (((JJ (Jt t (kn1:Int)) d.value).2.1).n),U (((JJ (Jt t (kn1:Int)) d.value).2.1).tag)]]::[Sg b3 0 [Sr (((JJ (Jt t (kn1:Int)) d.value).1).name),U (((JJ (Jt t (kn1:Int)) d.value).1).key),I (((JJ (Jt t (kn1:Int)) d.value).1).head.epoch),U (((JJ (Jt t (kn1:Int)) d.value).1).head.root),U (((JJ (Jt t (kn1:Int)) d.value).1).head.prev),I (((JJ (Jt t (kn1:Int)) d.value).1).head.at_),Sl a14 ((((JJ (Jt t (kn1:Int)) d.value).1).wanted).length) c14,I (((JJ (Jt t (kn1:Int)) d.value).1).had)]]::[Sg b 0 [I (((Kx t.town.clerk ((JJ (Jt t (kn1:Int)) d.value).2.1)).1).queue.most),Sl a19 ((((Kx t.town.clerk ((JJ (Jt t (kn1:Int)) d.value).2.1)).1).queue.wait).length) c19,I (((Kx t.town.clerk ((JJ (Jt t (kn1:Int)) d.value).2.1)).1).batch),I (((Kx t.town.clerk ((JJ (Jt t (kn1:Int)) d.value).2.1)).1).every),I (((Kx t.town.clerk ((JJ (Jt t (kn1:Int)) d.value).2.1)).1).now),Sl a20 ((((Kx t.town.clerk ((JJ (Jt t (kn1:Int)) d.value).2.1)).1).heads).length) c20,Sl a21 ((((Kx t.town.clerk ((JJ (Jt t (kn1:Int)) d.value).2.1)).1).books).length) c21,Sl a8 ((t.town.owners.set kn1 ((JJ (Jt t (kn1:Int)) d.value).1)).length) c8,Sl a9 t.town.polls.length c9,I t.town.net.now,Sl a10 t.town.net.way.length c10,I t.reach,Sl a11 t.fates.length c11,Sl a12 t.events.length c12]]::r5::r2::r3::r4::[Sg b1 0 [I d.kind,I (kn1:Int),Sr d.value,Sl a1 d.fates.length c1,I d.letter.to_,I d.letter.from_,I d.letter.since,I d.letter.due,Sl a2 d.letter.heads.length c2,I d.letter.reply.head.epoch,U d.letter.reply.head.root,U d.letter.reply.head.prev,I d.letter.reply.head.at_,Sr d.letter.reply.proof.name,Sl a3 d.letter.reply.proof.entries.length c3,Sl a4 d.letter.reply.proof.sides.length c4]]::Lr)) (by rfl) (by (simp only [Jjb,KX,WY,KT,J7,JkH,QH,JdC,KF,e2];first | done | rfl)) (Jc (Jd (Jb [0,0,18,0,0] [(78,Pt b 0),(80,I (kn1:Int)),(81,I ((((Jt t (kn1:Int)).wanted).length:Nat):Int)),(82,I ((Qz d kn1 t).2.1))] (Jw 7 (Jw 7 (Jw 7 (Jw 7 (Jw 7 ?_)))))))))))
 refine Qq (Ls:=[[Sg b 0 (J7 (⟨(⟨(Qz d kn1 t).1,(t.town.owners.set kn1 ((Ko d kn1 t).1)),t.town.polls,t.town.net⟩:Wb),t.reach,t.fates,t.events⟩:JK) a19 c19 a20 c20 a21 c21 a8 c8 a9 c9 a10 c10 a11 c11 a12 c12)],r5,r2,r3,r4]) (Lr:=([Sg b13 0 (KX (Qz d kn1 t).1 a19 c19 a20 c20 a21 c21)]::[Sg b4 0 (Vu d kn1 t)]::[Sg b3 0 (KT (Ko d kn1 t).1 a14 c14)]::[Sg b1 0 (WY (YH d kn1) a1 c1 a2 c2 a3 c3 a4 c4)]::Lr)) 83 (JeG G7 b (Jlp d kn1 t) a19 c19 a20 c20 a21 c21 a8 c8 a9 c9 a10 c10 a11 c11 a12 c12 r5 r2 r3 r4 hj14 hj15 hj16 hj17 hj18 hj19 hj20 hr5 (hr2.mono (Ja hle1 hle2)) w17 (hs8.mono (Ja hle1 hle2)) w18 (hr3.mono (Ja hle1 hle2)) (hr4.mono (Ja hle1 hle2)) 1 J5 (kn1:Int) J5 ((((Jt t (kn1:Int)).wanted).length:Nat):Int) (by have q_:=(show RS ES _ _ _ (Jt t (kn1:Int)).wanted by assumption).le;have p_:=(show RS ES _ _ _ (Jt t (kn1:Int)).wanted by assumption).max;omega) ((Qz d kn1 t).2.1) hj13 ‹_›) (fun v G9 L1 hl9 hp=>?_)
 obtain ⟨a25,c25,a26,c26,a27,c27,a28,c28,a29,c29,a30,c30,a31,c31,a32,c32,r6,r7,r8,r9,rfl,w91,hs21,w92,w93,w94,hs22,hs23,hr6,hr7,w95,hs24,w96,hr8,hr9,rfl⟩:=hp
 refine Je (Jk 4 (Jk 4 (Jk 4 (Jk 4 (Jk 4 ?_)))))
 have hf5:Wq t d=(Wg (Jlp d kn1 t) 1 (kn1:Int) ((((Jt t (kn1:Int)).wanted).length:Nat):Int) ((Qz d kn1 t).2.1)):=by
  exact Jps ‹_› rfl ‹_› ‹_› ‹_› ‹_›
 refine ZX [] [] (KQ (Lr:=Lr) [[Sg b 0 (J7 (Wg (Jlp d kn1 t) 1 (kn1:Int) ((((Jt t (kn1:Int)).wanted).length:Nat):Int) ((Qz d kn1 t).2.1)) a25 c25 a26 c26 a27 c27 a28 c28 a29 c29 a30 c30 a31 c31 a32 c32)],r6,r7,r8,r9] (Ja (Ja (Ja hl1 hle1) hle2) hl9) ?_)
 rw [hf5];try dsimp only
 exact ⟨a25,c25,a26,c26,a27,c27,a28,c28,a29,c29,a30,c30,a31,c31,a32,c32,r6,r7,r8,r9,rfl,w91,hs21,w92,w93,w94,hs22,hs23,hr6,hr7,w95,hs24,w96,hr8,hr9,rfl⟩
end Go.Proofs.YteaampgpgokjmaaGreatDoor
