import Derived.Test.YteaampgpgokjmaaGreatDoorTvE
import Derived.Stop.LaidErr
set_option linter.unusedVariables false
set_option linter.unusedSimpArgs false
namespace Go.Proofs.YteaampgpgokjmaaGreatDoor
open Go.Tx
open Go.Proofs
open _root_.List renaming forall_mem_nil → Ha, length_append → Hb, length_cons → Hd, length_nil → He, getElem?_eq_some_iff → Hf, mem_of_getElem? → Hg, length_drop → Hh, mem_singleton → Hi, getElem?_append_left → Hk, mem_of_mem_drop → Ho, mem_append → Hp, drop_append_of_le_length → Hr, getElem?_append_right → Hs, mem_nil_iff → Ht, length_take → Hu, take_of_length_le → Hv, getElem?_set_self → Hw, append_nil → Hx, length → Hy, getElem?_of_mem → Hz, mem_of_mem_take → HA, getElem?_set_ne → HB, mem_cons → HC
open _root_.Nat renaming le_of_ble_eq_true → Hc, le_trans → Hn
open _root_.Decidable renaming not_not → Hj
open IntKind renaming i64 → Hl
open _root_.Option renaming some → Hm
open _root_.Bool renaming eq_false_or_eq_true → Hq
theorem JaI {C:Cx} {Q:Exit→Act→World→Prop} {fr:List (Nat×Value)} {G:J4} {L:List (List Kh)} {ops:Array Oper} {rest:List Oper} {o:Oper} (d:Nat) {k:FuncId} {args:Array Value} {Ls Lr:List (List Kh)} {Post PP:Value→J4→List (List Kh)→Prop} (hk:JaY C.P k) (hT:TW C.P C.w0) (hc:YP C.P k args G Ls Post PP)
  (hp:∀ v G' L1,J4.le G G'→PP v G' L1→TQ C Q (.panic (Je9 v)) fr G' (L1++Lr))
  (h:∀ v G' L1,J4.le G G'→Post v G' L1→Kx C ops Q rest ((d,v)::fr) G' (L1++Lr)) (hL:L=Ls++Lr:=by rfl)
  (hx:JcP fr o=some (k,args,#[]):=by as_aux_lemma=>kernel_rfl)
  (hw:Qs ops fr o=some true:=by rfl) (hd:o.dst=some d:=by rfl) (hn:Nat.blt d C.n=true:=by rfl) (hsel:Zd o.op=false:=by rfl)
  (hcov:o.op.operands.toList.all (cov fr)=true:=by as_aux_lemma=>kernel_rfl):Kx C ops Q (o::rest) fr G L:=by
 refine QL (f:=k) (args:=args) d hT hc hp h hL hw hd hn hsel hcov ?_
 intro w
 unfold JcP at hx
 split at hx
 case h_2=>cases hx
 rename_i t as_ ty hop
 split at hx
 case h_2=>cases hx
 rename_i k' caps' hv
 cases hx
 simp [execOp,hop,resolve,hv,Deferred.ofValue,invoke]
 exact hk _ _
theorem W2 (s:List UInt8):(JJ s).length≤s.length+1:=by
 have h1:=Lib.splitB_all ⟨#[32]⟩ (by decide) 0 _ (B s) rfl
 have h2:=Lib.countB_le ⟨#[32]⟩ (by decide) (B s).size (B s) (Nat.le_refl _)
 have h3:=congrArg Hy (JbB s)
 rw [List.length_map,h1] at h3
 rw [Jg2] at h2
 omega
theorem JhP:∀ c,c<12→JaY Tryz.prog (VP c)
 | 0,_=>fun _ _=>by kernel_rfl
 | 1,_=>fun _ _=>by kernel_rfl
 | 2,_=>fun _ _=>by kernel_rfl
 | 3,_=>fun _ _=>by kernel_rfl
 | 4,_=>fun _ _=>by kernel_rfl
 | 5,_=>fun _ _=>by kernel_rfl
 | 6,_=>fun _ _=>by kernel_rfl
 | 7,_=>fun _ _=>by kernel_rfl
 | 8,_=>fun _ _=>by kernel_rfl
 | 9,_=>fun _ _=>by kernel_rfl
 | 10,_=>fun _ _=>by kernel_rfl
 | 11,_=>fun _ _=>by kernel_rfl
 | n+12,h=>by omega
theorem ev_len (s:Kv) (l:List K6):(Jr s l).2.1.length≤64*200:=by
 by_cases h:(Jr s l).2.2=0
 ·
  obtain ⟨h1,h2,h3⟩:=JeV h
  have hb:=VB h1
  obtain ⟨_,b2,b3,b4⟩:=JaG h1
  obtain ⟨m,e,hm⟩:=(Jn3 l (t:=Qw s) (by rw [b3];exact hb.1)).ev
  rw [h3]
  simp only
  rw [e]
  simp [Qw] at hm ⊢
  omega
 · rw [Jn4 h];simp
theorem Jls:∀ (l:List VR) (n:Nat) (m:List Int),EvI n m→EvI (n+2*l.length) (l.foldl JhO m)
 | [],n,m,h=>h
 | x::l,n,m,h=>by
  have h1:EvI (n+2) (JhO m x):=by
   unfold JhO
   split
   · exact (h.bump _).bump _
   · exact Jjj (h.bump _) (by omega)
  have:=Jls l (n+2) _ h1
  rw [Hd]
  exact Jjj this (by omega)
def JaQ (l:List (List UInt8)):Prop:=l.length≤10∧∀ x∈l,x.length≤21
theorem WE:JaQ []:=⟨by simp,by simp⟩
theorem JcG {l:List Int} (h:l.length≤10) (h2:∀ n∈l,-9223372036854775808≤n∧n<9223372036854775808):JaQ (l.map Lib.itoa):=⟨by simpa using h,fun x hx=>by obtain ⟨n,hn,rfl⟩:=List.mem_map.1 hx;exact JeY n (h2 n hn)⟩
theorem JfO (t:KS) (w:List (List UInt8)):JaQ (dNow t w).1:=by
 unfold dNow
 split
 · exact WE
 ·
  rename_i h
  have q:=Yf (JgQ (Hj.1 h)).1
  refine JcG (by simp) ?_
  intro n hn
  simp only [HC,Ht,or_false] at hn
  rcases hn with rfl | rfl | rfl <;> omega
theorem Jcn (t:KS) (w:List (List UInt8)):JaQ (Jdl t w).1:=by
 unfold Jdl
 split
 · exact WE
 ·
  have q:=Jls (Jr t.setup t.deeds).2.1 0 _ EvI.start
  have q2:=ev_len t.setup t.deeds
  refine JcG (by rw [evAll,q.1];omega) fun n hn=>?_
  have:=q.2 n hn
  omega
theorem Jex (t:KS) (w:List (List UInt8)):JaQ (Jji t w).1:=by
 unfold Jji
 split
 · exact WE
 ·
  split
  · exact WE
  ·
   rename_i h
   split
   ·
    rename_i o ho
    have q:=K5.1 ((JgQ (Hj.1 h)).2.2.2.2.2.2.1 _ _ ho).1
    have q2:=Ze q.2.1
    refine JcG (by simp) ?_
    intro n hn
    simp only [HC,Ht,or_false] at hn
    rcases hn with rfl | rfl <;> omega
   · exact WE
theorem Jey (t:KS) (w:List (List UInt8)):JaQ (Jjh t w).1:=by
 unfold Jjh
 split
 · exact WE
 ·
  split
  · exact WE
  ·
   refine ⟨by simp,fun x hx=>?_⟩
   rw [Hi.1 hx]
   have:=Jec (WW (Jr t.setup t.deeds).1.clerk.heads)
   exact JeY _ (by omega)
theorem Jjk (t:KS) (w:List (List UInt8)):JaQ (Zt t w).1∨∃ v,(Zt t w).1=[[43],v]:=by
 unfold Zt
 split
 · exact .inl WE
 split
 · exact .inl WE
 split
 · exact .inl WE
 split
 · exact .inl WE
 split
 · exact .inl ⟨by simp,by simp⟩
 · exact .inr ⟨_,rfl⟩
theorem JfP (t:KS) (w:List (List UInt8)):∀ c,JaQ (QH c t w).2.1∨∃ v,(QH c t w).2.1=[[43],v]
 | 0 | 1 | 2 | 3 | 4 | 5 | 6=>.inl WE
 | 7=>.inl (JfO t w)
 | 8=>Jjk t w
 | 9=>.inl (Jcn t w)
 | 10=>.inl (Jex t w)
 | 11=>.inl (Jey t w)
 | _+12=>.inl WE
theorem JhQ:∀ (l:List (List UInt8)),(∀ x∈l,x.length≤21)→Lib.lens l≤21*l.length
 | [],_=>by simp [Lib.lens]
 | x::l,h=>by
  have h1:=h x (List.mem_cons_self ..)
  have h2:=JhQ l fun y hy=>h y (List.mem_cons_of_mem _ hy)
  simp [Lib.lens] at h2 ⊢;omega
theorem JhR (c:Nat) (t:KS) (w:List (List UInt8)):(QH c t w).2.1.length≤10:=by
 rcases JfP t w c with h | ⟨v,h⟩
 · exact h.1
 · rw [h];simp
theorem Jb6 (c:Nat) (t:KS) (w:List (List UInt8)) (h:∀ x∈(QH c t w).2.1,x.length≤140737488351232):(Lib.join (([[111,107]]:List (List UInt8))++(QH c t w).2.1) [32]).length≤140737488355328:=by
 rw [List.singleton_append,Lib.join_length]
 rcases JfP t w c with hs | ⟨v,hv⟩
 ·
  have:=JhQ _ hs.2
  have h10:=hs.1
  simp [Lib.lens] at this ⊢
  omega
 ·
  have:=h v (by rw [hv];simp)
  rw [hv]
  simp [Lib.lens]
  omega
theorem Jdm {G:J4} {a:Option Addr} {c:Nat} {l:List (List UInt8)} (h:RS ES G a c l):∀ x∈l,x.length≤140737488351232:=fun x hx=>by
 obtain ⟨k,hk,rfl⟩:=List.mem_iff_getElem.1 hx
 obtain ⟨b,o,rfl⟩:=h.addr hk
 obtain ⟨cs,hc,_⟩:=h.get (List.getElem?_eq_getElem hk)
 exact hc.2
def okW:List UInt8:=[111,107]
def JaR (t:KS) (s:List UInt8):Int:=if KM (VQ (JJ s) 0)=12 then 1 else if 0≤Yt (KM (VQ (JJ s) 0))∧¬ ((JJ s).length:Int)-1=Yt (KM (VQ (JJ s) 0)) then 3 else (QH (KM (VQ (JJ s) 0)) t ((JJ s).drop 1)).2.2
theorem dErr12 {t:KS} {s x:List UInt8} (hx:(JJ s)[0]? = some x) (h:KM x=12):JaR t s=1:=by
 unfold JaR;rw [← Wt hx,if_pos h]
theorem dErr3 {t:KS} {s x:List UInt8} (hx:(JJ s)[0]? = some x) (h:KM x<12) (h1:0≤Yt (KM x)) (h2:¬ ((JJ s).length:Int)-1=Yt (KM x)):JaR t s=3:=by
 unfold JaR;rw [← Wt hx,if_neg (by omega),if_pos ⟨h1,h2⟩]
theorem JgV {t:KS} {s x:List UInt8} (hx:(JJ s)[0]? = some x) (h:KM x<12) (h1:¬ (0≤Yt (KM x)∧¬ ((JJ s).length:Int)-1=Yt (KM x))):JaR t s=(QH (KM x) t ((JJ s).drop 1)).2.2:=by
 unfold JaR;rw [← Wt hx,if_neg (by omega),if_neg h1]
abbrev sm (e:Int):Prop:=0≤e∧e≤99
theorem sm_if {p:Prop} [Decidable p] {a b:Int} (ha:sm a) (hb:sm b):sm (if p then a else b):=by split <;> assumption
theorem JcH {α:Type} {p:Prop} [Decidable p] {a b:α×Int} (ha:sm a.2) (hb:sm b.2):sm (if p then a else b).2:=by split <;> assumption
theorem sm_ifq {α β:Type} {p:Prop} [Decidable p] {a b:α×β×Int} (ha:sm a.2.2) (hb:sm b.2.2):sm (if p then a else b).2.2:=by split <;> assumption
theorem sm_ifr {α:Type} {p:Prop} [Decidable p] {a b:Int×α} (ha:sm a.1) (hb:sm b.1):sm (if p then a else b).1:=by split <;> assumption
theorem smG {e:Int} (h:sm e:=by repeat' first | assumption | refine sm_if ?_ ?_ | refine JcH ?_ ?_ | refine sm_ifq ?_ ?_ | refine sm_ifr ?_ ?_ | (dsimp only [sm];omega)):sm e:=h
theorem sm_tr (n v:List UInt8):sm (KE n v):=by unfold KE;exact smG
theorem Joq (l:List J2):∀ (r:List J2) (i:Nat),sm (Jan l i r)
 | [],_=>(by decide:sm 0)
 | x::r,i=>by have:=sm_tr x.name x.value;have:=Joq l r (i+1);unfold Jan;exact smG
theorem Jlt (l:List J2):sm (Kk l):=by have:=Joq l l 0;unfold Kk;exact smG
theorem sm_po (n:List UInt8):sm (KI n).2:=by unfold KI;exact smG
theorem Jor (h:JU):sm (JL h):=by unfold JL;exact smG
theorem sm_ta (l:List J2) (q:List UInt8):sm (JX l q).2:=by have:=Jlt l;unfold JX;exact smG
theorem sm_pr (p:Q6):sm (QM p):=by have:=Jlt p.entries;unfold QM;exact smG
theorem sm_ps (p:Q6):sm (Qd p).2:=by have:=sm_pr p;unfold Qd;exact smG
theorem sm_prt (p:Q6):sm (Wh p).2:=by have:=sm_ps p;unfold Wh;exact smG
theorem sm_ph (r:Int) (p:Q6):sm (W1 r p):=by have:=sm_prt p;unfold W1;exact smG
theorem sm_tf (l:List J2) (n:List UInt8):sm (JF l n).2.2:=by have:=Jlt l;unfold JF;exact smG
theorem sm_tg (l:List J2) (n:List UInt8):sm (KX l n).2.2:=by have:=sm_tf l n;unfold KX;exact smG
theorem sm_pt (r:Int) (p:Q6):sm (Wq r p).2.2:=by have:=sm_ph r p;have:=sm_tg p.entries p.name;unfold Wq;exact smG
theorem sm_st (r:Wa):sm (JG r).2.2:=by have:=Jor r.head;have:=sm_pt r.head.root r.proof;unfold JG;exact smG
theorem sm_pm (l:List J2) (n:List UInt8):sm (Qf l n).2:=by have:=Jlt l;have:=sm_po n;unfold Qf;exact smG
theorem sm_qr (a:W8):sm (Kw a):=by unfold Kw Qz;exact smG
theorem sm_ar:∀ l:List W8,sm (ZH l)
 | []=>(by decide:sm 0)
 | a::l=>by have:=sm_qr a;have:=sm_ar l;unfold ZH;exact smG
theorem sm_qc (q:QR):sm (Kj q):=by have:=sm_ar q.wait;unfold Kj;exact smG
theorem sm_he:∀ (l:List JU) (i:Nat),sm (Y4 l i).1
 | [],_=>(by decide:sm 0)
 | h::l,i=>by have:=Jor h;have:=sm_he l (i+1);unfold Y4;exact smG
theorem sm_cc (l:List JU):sm (Kd l).1:=by have:=sm_he l 0;unfold Kd;exact smG
theorem sm_be:∀ (bs:List (List J2)) (hs:List JU),sm (Ys hs bs)
 | [],hs=>by unfold Ys;exact (by decide:sm 0)
 | l::bs,hs=>by have:=sm_ta l [];have:=sm_be bs (hs.drop 1);unfold Ys;exact smG
theorem sm_cb (c:Kz):sm (Kc c):=by
 have:=sm_qc c.queue;have:=sm_cc c.heads;have:sm (QF c):=by
  have:=sm_be c.books c.heads;unfold QF;exact smG
 unfold Kc;exact smG
theorem sm_sl (c:Kz) (n:List UInt8) (e:Int):sm (JM c n e).2:=by
 have:sm (KC c e).2:=by have:=sm_cb c;unfold KC;exact smG
 have:=sm_pm (KC c e).1 n;unfold JM;exact smG
theorem sm_nm:∀ l p:List (List UInt8),sm (nmE p l)
 | [],p=>by unfold nmE;exact (by decide:sm 0)
 | n::l,p=>by have:=sm_nm l (p++[n]);unfold nmE;exact smG
theorem Jlu (s:Kv) (l:List K6):sm (Jr s l).2.2:=by
 have:sm (Jbv s l):=by
  have:sm (Qo s):=by
   have:sm (J3 s.most s.batch s.every).2:=by unfold J3;exact smG
   have:sm (KQ s.least s.top s.lost).2:=by unfold KQ;exact smG
   have:=sm_nm s.names []
   unfold Qo;exact smG
  unfold Jbv;exact smG
 unfold Jr;exact smG
theorem Jos (s:List UInt8):sm (Kl s).2:=by rcases Joh s with h | h <;> rw [h] <;> decide
theorem Jlv (l:List (List UInt8)):sm (Jdk l).2:=by unfold Jdk;exact smG
theorem Jkt (t:KS) (s:Kv):sm (Zx t s).2:=by have:=Jlu s [];unfold Zx;exact smG
theorem Jku (t:KS) (l:List K6):sm (ZR t l).2:=by unfold ZR;exact smG
theorem Jjl (t:KS) (w:List (List UInt8)) (f:List Int→Kv):sm (Jlp t w f).2:=by have:=Jlv w;have:=Jkt t (f (Jdk w).1);unfold Jlp;exact smG
theorem sm_run (c:Nat) (t:KS) (w:List (List UInt8)):sm (QH c t w).2.2:=by
 have hp:=Jlu t.setup t.deeds;have n0:=Jos (VQ w 0);have n1:=Jos (VQ w 1);have nn:=Jlv w
 unfold QH
 split <;> dsimp only
 · exact Jjl ..
 · exact Jjl ..
 · unfold Jkq;have:=Jkt t (Jol t.setup (Kl (VQ w 0)).1);exact smG
 · unfold Wo;refine JcH n1 (Jkt ..)
 · unfold Zl;exact JcH n0 (Jku ..)
 · unfold Joo;exact JcH nn (Jku ..)
 · unfold Zm;exact JcH n0 (Jku ..)
 · unfold dNow;exact smG
 · unfold Zt;have:=sm_sl (Jr t.setup t.deeds).1.clerk (VQ w 0) (Kl (VQ w 1)).1;have:=sm_st (JM (Jr t.setup t.deeds).1.clerk (VQ w 0) (Kl (VQ w 1)).1).1;exact smG
 · unfold Jdl;exact smG
 · unfold Jji;refine JcH n0 (JcH hp ?_);split <;> (dsimp only [sm];omega)
 ·
  unfold Jjh;have:sm (KY (WW (Jr t.setup t.deeds).1.clerk.heads)).2:=by rw [Yh];exact Jor _
  exact smG
 · decide
theorem Jbp (t:KS) (s:List UInt8):-9223372036854775808≤JaR t s∧JaR t s<9223372036854775808:=by
 have:sm (JaR t s):=by have:=sm_run (KM (VQ (JJ s) 0)) t ((JJ s).drop 1);unfold JaR;exact smG
 omega
def ZF (t:KS) (s:List UInt8):KS:=if ¬ JaR t s=0 then t else (QH (KM (VQ (JJ s) 0)) t ((JJ s).drop 1)).1
def Jaw (t:KS) (s:List UInt8):List UInt8:=if ¬ JaR t s=0 then [101,114,114,32]++Lib.itoa (JaR t s) else Lib.join (okW::(QH (KM (VQ (JJ s) 0)) t ((JJ s).drop 1)).2.1) [32]
set_option maxRecDepth 20000 in
theorem do_con (G:J4) (b:Nat) (t:KS) (a_0:Option Addr) (c_0:Nat) (a_1:Option Addr) (c_1:Nat) (a_9:Option Addr) (c_9:Nat) (r_9:List Kh) (h_0:RS ES G a_0 c_0 t.setup.names) (h_1:RS EU G a_1 c_1 t.setup.keys) (h_2:rI t.setup.most) (h_3:rI t.setup.batch) (h_4:rI t.setup.every) (h_5:rI t.setup.least) (h_6:rI t.setup.top) (h_7:rI t.setup.lost) (h_8:rI t.setup.reach) (h_9:J1 WO G a_9 c_9 t.deeds r_9) (ht:t.deeds.length≤200) (hn:t.setup.names.length≤1000) (hk:t.setup.keys.length≤1000) (s:List UInt8) (hls:s.length≤1048576) (hS:dS (KM (VQ (JJ s) 0))=true) (hsp:∀ x∈JJ s,x.length≤1048576):YP Tryz.prog 27 #[Pt b 0,Sr s] G [[Sg b 0 [Sl a_0 t.setup.names.length c_0,Sl a_1 t.setup.keys.length c_1,I t.setup.most,I t.setup.batch,I t.setup.every,I t.setup.least,I t.setup.top,I t.setup.lost,I t.setup.reach,Sl a_9 t.deeds.length c_9]],r_9] (fun u G' L'=>u=Sr (Jaw t s)∧Jks (ZF t s) G' b L') (fun _ _ _=>False):=by
 intro Lr
 refine Jpi Tryz.func27 35 [(0,Pt b 0),(1,Sr s)] rfl (fun w0 G0 hT=>?_)
 show TC _ _ _ _ _ ([Sg b 0 (KP t a_0 c_0 a_1 c_1 a_9 c_9)]::r_9::Lr)
 refine Jf (Jd (Jv 4 #[Sr ([])] 9 (fun b1=>Je (Jb (Jf (Jd (Jc [0] [(7,Fv 45 #[Pt b1 0])] (JjE { target:=.fn (.func 45) #[Pt b1 0],args:=#[] } (Je (Jb (Jf (Jd (Jc [0] [(8,Sr s)] (JI 9 (JlO G s J8) (fun v G1 L1 hl1 hp=>?_)))))))))))))))
 obtain ⟨a1,c1,_,rfl,hr1,rfl⟩:=hp
 refine Jc [0] [(5,Sl a1 ((JJ s).length) c1)] (Je (Jb (Jf (Jd (Jc [0] [(10,Sl a1 ((JJ s).length) c1)] (WL (E:=ES) 0 hr1 (by have q_:=W2 s;(try simp only [ES,Hb,Hd,He]);omega) (fun G2 hl2 hs1=>?_)))))))
 obtain ⟨b2,o1,rfl⟩:=RS.addr hs1 (k:=0) (by (have q_:=Y1 s;have q2_:=W2 s;omega))
 obtain ⟨x1,hx1⟩:=Wf (l:=JJ s) (k:=0) (by (have q_:=Y1 s;have q2_:=W2 s;omega))
 obtain ⟨_,⟨rfl,_⟩,hc1⟩:=RS.get hs1 hx1
 refine J5 (b:=b2) (off:=o1) (len:=(JJ s).length) (cap:=c1) (ik:=.i64) 11 9 1 0 (by (have q_:=Y1 s;have q2_:=W2 s;omega)) (JZ 12 9 (cs:=[Sr x1]) 0 (Sr x1) hc1 (QL (Ls:=[]) (Lr:=([]::[Sg b1 0 [Sr ([])]]::[Sg b 0 (KP t a_0 c_0 a_1 c_1 a_9 c_9)]::r_9::Lr)) 13 hT ((Jok G2 x1).frame) (fun v G3 L1 hl3 hp=>?_) (fun v G3 L1 hl3 hp=>?_)))
 obtain ⟨hc2,rfl,rfl⟩:=hp
 refine KO (Jk 1 ?_)
 have hq1:JaR t s=1:=by
  exact dErr12 hx1 hc2
 refine Jb4 ([Sg b1 0 [Sr ([101,114,114,32]++Lib.itoa 1)]]::([]::[Sg b 0 (KP t a_0 c_0 a_1 c_1 a_9 c_9)]::r_9::Lr)) [0] [Sr ([101,114,114,32]++Lib.itoa 1)] (fun _=>by kernel_rfl) (fun w hw=>Jb5 _ _ _ _ (by rw [← hq1];exact Jbp t s) _ _ _ w hT hw) (bpx (KT (Lr:=Lr) [[Sg b 0 (KP t a_0 c_0 a_1 c_1 a_9 c_9)],r_9] (Ja (Ja hl1 hl2) hl3) ⟨?_,?_⟩))
 rw [Jaw,hq1,if_pos (by decide)];rfl
 rw [ZF,hq1,if_pos (by decide)];exact ⟨a_0,c_0,a_1,c_1,a_9,c_9,r_9,h_0.mono (Ja (Ja hl1 hl2) hl3),h_1.mono (Ja (Ja hl1 hl2) hl3),h_2,h_3,h_4,h_5,h_6,h_7,h_8,h_9.mono (Ja (Ja hl1 hl2) hl3),rfl⟩
 obtain ⟨_,rfl,rfl⟩:=hp
 refine Jv 6 #[I 0,.nilFunc] 127 (fun b3=>JV [3] [] ([Sg b3 0 [I (Yt (KM x1)),Fv (VP (KM x1)) #[]]]::[]::[Sg b1 0 [Sr ([])]]::[Sg b 0 (KP t a_0 c_0 a_1 c_1 a_9 c_9)]::r_9::Lr) (Je (Jb (Jf (Jf (Jd (Jc [0,2,0,0] [(17,Bo (decide (Yt (KM x1) ≥ 0)))] (QY [17] (decide (Yt (KM x1) ≥ 0)) (fun h1=>?_) (fun h1=>?_)))))))))
 refine Jc [0,0,0,0,2,0,0] [(24,Bo (!decide (Hl.wrap (((JJ s).length:Int)-1)=Yt (KM x1))))] ?_
 have e1:Hl.wrap (((JJ s).length:Int)-1)=((JJ s).length:Int)-1:=IntWalk.i64_in _ (by (have q_:=Y1 s;have q2_:=W2 s;omega))
 refine KU 24 (Bo (!decide (((JJ s).length:Int)-1=Yt (KM x1)))) (show (Bo (!decide (Hl.wrap (((JJ s).length:Int)-1)=Yt (KM x1))):Value)=Bo (!decide (((JJ s).length:Int)-1=Yt (KM x1))) by simp only [e1]) ?_
 clear e1
 refine Je (Jb (Jl (!decide (((JJ s).length:Int)-1=Yt (KM x1))) (fun h2=>?_) (fun h2=>?_)))
 refine Jd (QL (Ls:=[]) (Lr:=([Sg b3 0 [I (Yt (KM x1)),Fv (VP (KM x1)) #[]]]::[]::[Sg b1 0 [Sr ([])]]::[Sg b 0 (KP t a_0 c_0 a_1 c_1 a_9 c_9)]::r_9::Lr)) 25 hT ((Z9 G3 3).frame) (fun v G4 L1 hl4 hp=>?_) (fun v G4 L1 hl4 hp=>?_))
 obtain ⟨_,rfl,rfl⟩:=hp
 refine KO (Jk 2 ?_)
 have hq2:JaR t s=3:=by
  exact dErr3 hx1 J8 J8 (by omega)
 refine Jb4 ([Sg b1 0 [Sr ([101,114,114,32]++Lib.itoa 3)]]::([Sg b3 0 [I (Yt (KM x1)),Fv (VP (KM x1)) #[]]]::[]::[Sg b 0 (KP t a_0 c_0 a_1 c_1 a_9 c_9)]::r_9::Lr)) [0] [Sr ([101,114,114,32]++Lib.itoa 3)] (fun _=>by kernel_rfl) (fun w hw=>Jb5 _ _ _ _ (by rw [← hq2];exact Jbp t s) _ _ _ w hT hw) (bpx (KT (Lr:=Lr) [[Sg b 0 (KP t a_0 c_0 a_1 c_1 a_9 c_9)],r_9] (Ja (Ja (Ja hl1 hl2) hl3) hl4) ⟨?_,?_⟩))
 rw [Jaw,hq2,if_pos (by decide)];rfl
 rw [ZF,hq2,if_pos (by decide)];exact ⟨a_0,c_0,a_1,c_1,a_9,c_9,r_9,h_0.mono (Ja (Ja (Ja hl1 hl2) hl3) hl4),h_1.mono (Ja (Ja (Ja hl1 hl2) hl3) hl4),h_2,h_3,h_4,h_5,h_6,h_7,h_8,h_9.mono (Ja (Ja (Ja hl1 hl2) hl3) hl4),rfl⟩
 obtain ⟨he1,rfl,rfl⟩:=hp
 exact absurd he1 (by decide)
 refine Jq (Jb ?_)
 refine Yv (σ:=(Option Addr)×Nat×(Option Addr)×Nat×(Option Addr)×Nat×(List Kh)×J4) (fun q_=>(J4.le G3 q_.2.2.2.2.2.2.2)∧(RS ES q_.2.2.2.2.2.2.2 q_.1 q_.2.1 (((QH (KM x1) t ((JJ s).drop 1)).1).setup.names))∧(RS EU q_.2.2.2.2.2.2.2 q_.2.2.1 q_.2.2.2.1 (((QH (KM x1) t ((JJ s).drop 1)).1).setup.keys))∧(rI (((QH (KM x1) t ((JJ s).drop 1)).1).setup.most))∧(rI (((QH (KM x1) t ((JJ s).drop 1)).1).setup.batch))∧(rI (((QH (KM x1) t ((JJ s).drop 1)).1).setup.every))∧(rI (((QH (KM x1) t ((JJ s).drop 1)).1).setup.least))∧(rI (((QH (KM x1) t ((JJ s).drop 1)).1).setup.top))∧(rI (((QH (KM x1) t ((JJ s).drop 1)).1).setup.lost))∧(rI (((QH (KM x1) t ((JJ s).drop 1)).1).setup.reach))∧(J1 WO q_.2.2.2.2.2.2.2 q_.2.2.2.2.1 q_.2.2.2.2.2.1 (((QH (KM x1) t ((JJ s).drop 1)).1).deeds) q_.2.2.2.2.2.2.1)∧((QH (KM x1) t ((JJ s).drop 1)).2.2=0)) (fun q_=>[(4,Pt b1 0)]) (fun q_=>q_.2.2.2.2.2.2.2) (fun q_=>([Sg b 0 (KP (QH (KM x1) t ((JJ s).drop 1)).1 q_.1 q_.2.1 q_.2.2.1 q_.2.2.2.1 q_.2.2.2.2.1 q_.2.2.2.2.2.1)]::q_.2.2.2.2.2.2.1::[]::[Sg b3 0 [I (Yt (KM x1)),Fv (VP (KM x1)) #[]]]::[]::[Sg b1 0 [Sr (Lib.join (([[111,107]]:List (List UInt8))++((QH (KM x1) t ((JJ s).drop 1)).2.1)) [32])]]::Lr)) ?_ (fun q_ hs=>?_)
 obtain ⟨a2,c2,ea1,ec1,en1,eh1,hs2⟩:=RS.reslXD (hs1.mono hl3) 1 (by omega)
 refine Kp [0,6,7,8,9] (Wl [(1,Pt b3 1),(2,Fv (VP (KM x1)) #[]),(3,Pt b 0),(4,Sl (At b2 o1) ((JJ s).length) c1),(5,Sl a2 (((JJ s).drop 1).length) c2)] (JK [] [(1,0),(2,2),(3,0),(4,0)] [5] [0,6] (Ki ?_ K8) (Ki ?_ (Ki ?_ K8))))
 refine Jt 5 31 (Sl a2 (((JJ s).drop 1).length) c2) [(30,Sl (At b2 o1) ((JJ s).length) c1)] (fun X=>?_)
 exact Wz (a:=At b2 o1) (len:=(JJ s).length) (cap:=c1) 31 1 (some (I 1)) none 1 ((JJ s).length) (.inr ⟨_,rfl⟩) (.inl ⟨rfl,rfl⟩) J8 ea1 ec1 en1 eh1 Jp
 refine JC 0 [] (fun X=>?_)
 refine Kt 26 1 #[Sr ([111,107])] 9 (fun b4=>JD [(0,Sl (At b4 0) 1 1)] (JK [] [(1,0),(2,4),(3,0),(4,0)] [5] [6] (Ki ?_ K8) (Ki ?_ K8)))
 refine Jt 5 31 (Sl a2 (((JJ s).drop 1).length) c2) [(30,Sl (At b2 o1) ((JJ s).length) c1)] (fun X=>?_)
 exact Wz (a:=At b2 o1) (len:=(JJ s).length) (cap:=c1) 31 1 (some (I 1)) none 1 ((JJ s).length) (.inr ⟨_,rfl⟩) (.inl ⟨rfl,rfl⟩) J8 ea1 ec1 en1 eh1 Jp
 refine JC 6 [(4,Pt b1 0),(28,Fv (VP (KM x1)) #[]),(29,Pt b 0),(31,Sl a2 (((JJ s).drop 1).length) c2)] (fun X=>?_)
 refine Jw 5 (Jw 5 ?_)
 have hB_:Jks t G3 b [[Sg b 0 (KP t a_0 c_0 a_1 c_1 a_9 c_9)],r_9]:=⟨a_0,c_0,a_1,c_1,a_9,c_9,r_9,h_0.mono (Ja (Ja hl1 hl2) hl3),h_1.mono (Ja (Ja hl1 hl2) hl3),h_2,h_3,h_4,h_5,h_6,h_7,h_8,h_9.mono (Ja (Ja hl1 hl2) hl3),rfl⟩
 refine JaI (Ls:=[[Sg b 0 (KP t a_0 c_0 a_1 c_1 a_9 c_9)],r_9]) (Lr:=([Sg b4 0 [Sr ([111,107])]]::[Sg b3 0 [I (Yt (KM x1)),Fv (VP (KM x1)) #[]]]::[]::[Sg b1 0 [Sr ([])]]::Lr)) 32 (JhP _ J8) hT (JeZ (KM x1) J8 (by rw [Wt hx1];exact hS) G3 b t _ hB_ ht hn hk a2 c2 ((JJ s).drop 1) hs2 (by intro hq_;rw [Hh];simp_all;omega) (by rw [Hh];have q2_:=W2 s;omega) (fun z_ hz_=>hsp z_ (Ho hz_))) (fun v G5 L1 hl5 hp=>?_) (fun v G5 L1 hl5 hp=>?_)
 obtain ⟨hne2,rfl,rfl⟩:=hp
 refine KO (KO (Jk 5 ?_))
 have hq3:JaR t s=(QH (KM x1) t ((JJ s).drop 1)).2.2:=by
  exact JgV hx1 J8 (by omega)
 refine Jb4 ([Sg b1 0 [Sr ([101,114,114,32]++Lib.itoa ((QH (KM x1) t ((JJ s).drop 1)).2.2))]]::([Sg b 0 (KP t a_0 c_0 a_1 c_1 a_9 c_9)]::r_9::[Sg b4 0 [Sr ([111,107])]]::[Sg b3 0 [I (Yt (KM x1)),Fv (VP (KM x1)) #[]]]::[]::Lr)) [0] [Sr ([101,114,114,32]++Lib.itoa ((QH (KM x1) t ((JJ s).drop 1)).2.2))] (fun _=>by kernel_rfl) (fun w hw=>Jb5 _ _ _ _ (by rw [← hq3];exact Jbp t s) _ _ _ w hT hw) (bpx (KT (Lr:=Lr) [[Sg b 0 (KP t a_0 c_0 a_1 c_1 a_9 c_9)],r_9] (Ja (Ja (Ja hl1 hl2) hl3) hl5) ⟨?_,?_⟩))
 rw [Jaw,hq3,if_pos hne2];rfl
 rw [ZF,hq3,if_pos hne2];exact ⟨a_0,c_0,a_1,c_1,a_9,c_9,r_9,h_0.mono (Ja (Ja (Ja hl1 hl2) hl3) hl5),h_1.mono (Ja (Ja (Ja hl1 hl2) hl3) hl5),h_2,h_3,h_4,h_5,h_6,h_7,h_8,h_9.mono (Ja (Ja (Ja hl1 hl2) hl3) hl5),rfl⟩
 obtain ⟨he3,a4,c4,rfl,hs4,hB1⟩:=hp
 have dn_:=JhR (KM x1) t ((JJ s).drop 1)
 obtain ⟨a5,c5,a6,c6,a7,c7,r2,hs5,hs6,w2,w3,w4,w5,w6,w7,w8,hr2,rfl⟩:=hB1
 refine JD [(6,Sl a4 ((QH (KM x1) t ((JJ s).drop 1)).2.1.length) c4)] (JK [1,2,3,4,5] [] [] [7] (Ha _) (Ki ?_ K8))
 refine JC 7 [(26,Sl (At b4 0) 1 1),(32,Sl a4 ((QH (KM x1) t ((JJ s).drop 1)).2.1.length) c4)] (fun X=>?_)
 refine JaZ 33 9 2 (E:=ES) (J1.of_lit (E:=ES) (G:=G5) (b:=b4) [[Sr ([111,107])]] [[111,107]] ⟨⟨rfl,(Hc rfl)⟩,trivial⟩ (by simp)) hs4 (by have:=hs4.fit;simp only [ES] at this;(try simp only [Hb,Hd,He]);omega) (by have:=hs4.fit;simp only [ES] at this;(try simp only [ES,Hb,Hd,He]);omega) (fun a8 c8 r3 hr3=>JD [(7,Sl a8 ((([[111,107]]:List (List UInt8))++((QH (KM x1) t ((JJ s).drop 1)).2.1)).length) c8)] (JK [1,2,3,4,5] [] [] [8] (Ha _) (Ki ?_ K8)))
 refine JC 8 [(33,Sl a8 ((([[111,107]]:List (List UInt8))++((QH (KM x1) t ((JJ s).drop 1)).2.1)).length) c8)] (fun X=>?_)
 refine WL (E:=ES) 2 hr3 (by have q_:=W2 s;(try simp only [ES,Hb,Hd,He]);omega) (fun G6 hl6 hs7=>?_)
 obtain ⟨b5,o2,rfl⟩:=RS.addr hs7 (k:=0) (by simp)
 refine Jm 34 (Sr (Lib.join (([[111,107]]:List (List UInt8))++((QH (KM x1) t ((JJ s).drop 1)).2.1)) [32])) (JcX G6 b5 o2 c8 (([[111,107]]:List (List UInt8))++((QH (KM x1) t ((JJ s).drop 1)).2.1)) [32] hs7 (by simp) (by simp only [Hb,Hd,He];omega) (Jb6 _ _ _ (Jdm hs4))) (JD [(8,Sr (Lib.join (([[111,107]]:List (List UInt8))++((QH (KM x1) t ((JJ s).drop 1)).2.1)) [32]))] (JK [1,2,3,4,5] [] [] [9] (Ha _) (Ki ?_ K8)))
 refine JC 9 [(4,Pt b1 0),(34,Sr (Lib.join (([[111,107]]:List (List UInt8))++((QH (KM x1) t ((JJ s).drop 1)).2.1)) [32]))] (fun X=>?_)
 exact KN 5 ([Sg b 0 (KP (QH (KM x1) t ((JJ s).drop 1)).1 a5 c5 a6 c6 a7 c7)]::r2::[]::[Sg b3 0 [I (Yt (KM x1)),Fv (VP (KM x1)) #[]]]::[]::[Sg b1 0 [Sr (Lib.join (([[111,107]]:List (List UInt8))++((QH (KM x1) t ((JJ s).drop 1)).2.1)) [32])]]::Lr) (Ka [] (Km [1,2,3,4,5] [] [] [(4,Pt b1 0)] (Ha _) (Wd (a5,c5,a6,c6,a7,c7,r2,G6) ⟨(Ja hl5 hl6),(hs5.mono hl6),(hs6.mono hl6),w2,w3,w4,w5,w6,w7,w8,(hr2.mono hl6),he3⟩)))
 refine JC 6 [(4,Pt b1 0),(28,Fv (VP (KM x1)) #[]),(29,Pt b 0),(31,Sl a2 (((JJ s).drop 1).length) c2)] (fun X=>?_)
 refine Jw 4 (Jw 4 ?_)
 have hB_:Jks t G3 b [[Sg b 0 (KP t a_0 c_0 a_1 c_1 a_9 c_9)],r_9]:=⟨a_0,c_0,a_1,c_1,a_9,c_9,r_9,h_0.mono (Ja (Ja hl1 hl2) hl3),h_1.mono (Ja (Ja hl1 hl2) hl3),h_2,h_3,h_4,h_5,h_6,h_7,h_8,h_9.mono (Ja (Ja hl1 hl2) hl3),rfl⟩
 refine JaI (Ls:=[[Sg b 0 (KP t a_0 c_0 a_1 c_1 a_9 c_9)],r_9]) (Lr:=([Sg b3 0 [I (Yt (KM x1)),Fv (VP (KM x1)) #[]]]::[]::[Sg b1 0 [Sr ([])]]::Lr)) 32 (JhP _ J8) hT (JeZ (KM x1) J8 (by rw [Wt hx1];exact hS) G3 b t _ hB_ ht hn hk a2 c2 ((JJ s).drop 1) hs2 (by intro hq_;rw [Hh];simp_all;omega) (by rw [Hh];have q2_:=W2 s;omega) (fun z_ hz_=>hsp z_ (Ho hz_))) (fun v G7 L1 hl7 hp=>?_) (fun v G7 L1 hl7 hp=>?_)
 obtain ⟨hne3,rfl,rfl⟩:=hp
 refine KO (KO (Jk 4 ?_))
 have hq4:JaR t s=(QH (KM x1) t ((JJ s).drop 1)).2.2:=by
  exact JgV hx1 J8 (by omega)
 refine Jb4 ([Sg b1 0 [Sr ([101,114,114,32]++Lib.itoa ((QH (KM x1) t ((JJ s).drop 1)).2.2))]]::([Sg b 0 (KP t a_0 c_0 a_1 c_1 a_9 c_9)]::r_9::[Sg b3 0 [I (Yt (KM x1)),Fv (VP (KM x1)) #[]]]::[]::Lr)) [0] [Sr ([101,114,114,32]++Lib.itoa ((QH (KM x1) t ((JJ s).drop 1)).2.2))] (fun _=>by kernel_rfl) (fun w hw=>Jb5 _ _ _ _ (by rw [← hq4];exact Jbp t s) _ _ _ w hT hw) (bpx (KT (Lr:=Lr) [[Sg b 0 (KP t a_0 c_0 a_1 c_1 a_9 c_9)],r_9] (Ja (Ja (Ja hl1 hl2) hl3) hl7) ⟨?_,?_⟩))
 rw [Jaw,hq4,if_pos hne3];rfl
 rw [ZF,hq4,if_pos hne3];exact ⟨a_0,c_0,a_1,c_1,a_9,c_9,r_9,h_0.mono (Ja (Ja (Ja hl1 hl2) hl3) hl7),h_1.mono (Ja (Ja (Ja hl1 hl2) hl3) hl7),h_2,h_3,h_4,h_5,h_6,h_7,h_8,h_9.mono (Ja (Ja (Ja hl1 hl2) hl3) hl7),rfl⟩
 obtain ⟨he4,a9,c9,rfl,hs8,hB2⟩:=hp
 have dn_:=JhR (KM x1) t ((JJ s).drop 1)
 obtain ⟨a10,c10,a11,c11,a12,c12,r4,hs9,hs10,w9,w10,w11,w12,w13,w14,w15,hr4,rfl⟩:=hB2
 refine JD [(6,Sl a9 ((QH (KM x1) t ((JJ s).drop 1)).2.1.length) c9)] (JK [1,2,3,4,5] [] [] [0] (Ha _) (Ki ?_ K8))
 refine JC 0 [] (fun X=>?_)
 refine Kt 26 1 #[Sr ([111,107])] 9 (fun b6=>JD [(0,Sl (At b6 0) 1 1)] (JK [1,2,3,4,5] [] [] [7] (Ha _) (Ki ?_ K8)))
 refine JC 7 [(26,Sl (At b6 0) 1 1),(32,Sl a9 ((QH (KM x1) t ((JJ s).drop 1)).2.1.length) c9)] (fun X=>?_)
 refine JaZ 33 9 0 (E:=ES) (J1.of_lit (E:=ES) (G:=G7) (b:=b6) [[Sr ([111,107])]] [[111,107]] ⟨⟨rfl,(Hc rfl)⟩,trivial⟩ (by simp)) hs8 (by have:=hs8.fit;simp only [ES] at this;(try simp only [Hb,Hd,He]);omega) (by have:=hs8.fit;simp only [ES] at this;(try simp only [ES,Hb,Hd,He]);omega) (fun a13 c13 r5 hr5=>JD [(7,Sl a13 ((([[111,107]]:List (List UInt8))++((QH (KM x1) t ((JJ s).drop 1)).2.1)).length) c13)] (JK [1,2,3,4,5] [] [] [8] (Ha _) (Ki ?_ K8)))
 refine JC 8 [(33,Sl a13 ((([[111,107]]:List (List UInt8))++((QH (KM x1) t ((JJ s).drop 1)).2.1)).length) c13)] (fun X=>?_)
 refine WL (E:=ES) 0 hr5 (by have q_:=W2 s;(try simp only [ES,Hb,Hd,He]);omega) (fun G8 hl8 hs11=>?_)
 obtain ⟨b7,o3,rfl⟩:=RS.addr hs11 (k:=0) (by simp)
 refine Jm 34 (Sr (Lib.join (([[111,107]]:List (List UInt8))++((QH (KM x1) t ((JJ s).drop 1)).2.1)) [32])) (JcX G8 b7 o3 c13 (([[111,107]]:List (List UInt8))++((QH (KM x1) t ((JJ s).drop 1)).2.1)) [32] hs11 (by simp) (by simp only [Hb,Hd,He];omega) (Jb6 _ _ _ (Jdm hs8))) (JD [(8,Sr (Lib.join (([[111,107]]:List (List UInt8))++((QH (KM x1) t ((JJ s).drop 1)).2.1)) [32]))] (JK [1,2,3,4,5] [] [] [9] (Ha _) (Ki ?_ K8)))
 refine JC 9 [(4,Pt b1 0),(34,Sr (Lib.join (([[111,107]]:List (List UInt8))++((QH (KM x1) t ((JJ s).drop 1)).2.1)) [32]))] (fun X=>?_)
 exact KN 5 ([]::[Sg b 0 (KP (QH (KM x1) t ((JJ s).drop 1)).1 a10 c10 a11 c11 a12 c12)]::r4::[Sg b3 0 [I (Yt (KM x1)),Fv (VP (KM x1)) #[]]]::[]::[Sg b1 0 [Sr (Lib.join (([[111,107]]:List (List UInt8))++((QH (KM x1) t ((JJ s).drop 1)).2.1)) [32])]]::Lr) (Ka [] (Km [1,2,3,4,5] [] [] [(4,Pt b1 0)] (Ha _) (Jk 5 (Jk 5 (Jk 5 (Jk 3 (Jk 5 (Jk 5 (Wd (a10,c10,a11,c11,a12,c12,r4,G8) ⟨(Ja hl7 hl8),(hs9.mono hl8),(hs10.mono hl8),w9,w10,w11,w12,w13,w14,w15,(hr4.mono hl8),he4⟩)))))))))
 obtain ⟨a5,c5,a6,c6,a7,c7,r2,G6⟩:=q_
 obtain ⟨hle1,hj1,hj2,hj3,hj4,hj5,hj6,hj7,hj8,hj9,hj10,he2⟩:=hs
 dsimp only at hle1 hj1 hj2 hj3 hj4 hj5 hj6 hj7 hj8 hj9 hj10 he2
 dsimp only
 refine Jn (Jk 1 (Jk 1 (Jk 5 ?_)))
 have hq5:JaR t s=0:=(JgV hx1 (by omega) (by omega)).trans he2
 refine Jlq [0] [Sr (Lib.join (([[111,107]]:List (List UInt8))++((QH (KM x1) t ((JJ s).drop 1)).2.1)) [32])] (fun _=>by kernel_rfl) (fun w hw=>Jlr _ b1 _ _ _ w hw) (bpx (KT (Lr:=Lr) [[Sg b 0 (KP (QH (KM x1) t ((JJ s).drop 1)).1 a5 c5 a6 c6 a7 c7)],r2] (Ja (Ja (Ja hl1 hl2) hl3) hle1) ⟨?_,?_⟩))
 rw [Jaw,hq5,if_neg (by simp),Wt hx1];rfl
 rw [ZF,hq5,if_neg (by simp),← Wt hx1];exact ⟨a5,c5,a6,c6,a7,c7,r2,hj1,hj2,hj3,hj4,hj5,hj6,hj7,hj8,hj9,hj10,rfl⟩
 refine Jc [1,1,1,1,1,1,0] [(24,Bo false)] (Je (Jb (Qq (Jq (Jb ?_)))))
 refine Yv (σ:=(Option Addr)×Nat×(Option Addr)×Nat×(Option Addr)×Nat×(List Kh)×J4) (fun q_=>(J4.le G3 q_.2.2.2.2.2.2.2)∧(RS ES q_.2.2.2.2.2.2.2 q_.1 q_.2.1 (((QH (KM x1) t ((JJ s).drop 1)).1).setup.names))∧(RS EU q_.2.2.2.2.2.2.2 q_.2.2.1 q_.2.2.2.1 (((QH (KM x1) t ((JJ s).drop 1)).1).setup.keys))∧(rI (((QH (KM x1) t ((JJ s).drop 1)).1).setup.most))∧(rI (((QH (KM x1) t ((JJ s).drop 1)).1).setup.batch))∧(rI (((QH (KM x1) t ((JJ s).drop 1)).1).setup.every))∧(rI (((QH (KM x1) t ((JJ s).drop 1)).1).setup.least))∧(rI (((QH (KM x1) t ((JJ s).drop 1)).1).setup.top))∧(rI (((QH (KM x1) t ((JJ s).drop 1)).1).setup.lost))∧(rI (((QH (KM x1) t ((JJ s).drop 1)).1).setup.reach))∧(J1 WO q_.2.2.2.2.2.2.2 q_.2.2.2.2.1 q_.2.2.2.2.2.1 (((QH (KM x1) t ((JJ s).drop 1)).1).deeds) q_.2.2.2.2.2.2.1)∧((QH (KM x1) t ((JJ s).drop 1)).2.2=0)) (fun q_=>[(4,Pt b1 0)]) (fun q_=>q_.2.2.2.2.2.2.2) (fun q_=>([Sg b 0 (KP (QH (KM x1) t ((JJ s).drop 1)).1 q_.1 q_.2.1 q_.2.2.1 q_.2.2.2.1 q_.2.2.2.2.1 q_.2.2.2.2.2.1)]::q_.2.2.2.2.2.2.1::[]::[Sg b3 0 [I (Yt (KM x1)),Fv (VP (KM x1)) #[]]]::[]::[Sg b1 0 [Sr (Lib.join (([[111,107]]:List (List UInt8))++((QH (KM x1) t ((JJ s).drop 1)).2.1)) [32])]]::Lr)) ?_ (fun q_ hs=>?_)
 obtain ⟨a14,c14,ea3,ec3,en3,eh3,hs12⟩:=RS.reslXD (hs1.mono hl3) 1 (by (have q_:=Y1 s;have q2_:=W2 s;omega))
 refine Kp [0,6,7,8,9] (Wl [(1,Pt b3 1),(2,Fv (VP (KM x1)) #[]),(3,Pt b 0),(4,Sl (At b2 o1) ((JJ s).length) c1),(5,Sl a14 (((JJ s).drop 1).length) c14)] (JK [] [(1,0),(2,2),(3,0),(4,0)] [5] [0,6] (Ki ?_ K8) (Ki ?_ (Ki ?_ K8))))
 refine Jt 5 31 (Sl a14 (((JJ s).drop 1).length) c14) [(30,Sl (At b2 o1) ((JJ s).length) c1)] (fun X=>?_)
 exact Wz (a:=At b2 o1) (len:=(JJ s).length) (cap:=c1) 31 1 (some (I 1)) none 1 ((JJ s).length) (.inr ⟨_,rfl⟩) (.inl ⟨rfl,rfl⟩) (by (have q_:=Y1 s;have q2_:=W2 s;omega)) ea3 ec3 en3 eh3 Jp
 refine JC 0 [] (fun X=>?_)
 refine Kt 26 1 #[Sr ([111,107])] 9 (fun b8=>JD [(0,Sl (At b8 0) 1 1)] (JK [] [(1,0),(2,4),(3,0),(4,0)] [5] [6] (Ki ?_ K8) (Ki ?_ K8)))
 refine Jt 5 31 (Sl a14 (((JJ s).drop 1).length) c14) [(30,Sl (At b2 o1) ((JJ s).length) c1)] (fun X=>?_)
 exact Wz (a:=At b2 o1) (len:=(JJ s).length) (cap:=c1) 31 1 (some (I 1)) none 1 ((JJ s).length) (.inr ⟨_,rfl⟩) (.inl ⟨rfl,rfl⟩) (by (have q_:=Y1 s;have q2_:=W2 s;omega)) ea3 ec3 en3 eh3 Jp
 refine JC 6 [(4,Pt b1 0),(28,Fv (VP (KM x1)) #[]),(29,Pt b 0),(31,Sl a14 (((JJ s).drop 1).length) c14)] (fun X=>?_)
 refine Jw 5 (Jw 5 ?_)
 have hB_:Jks t G3 b [[Sg b 0 (KP t a_0 c_0 a_1 c_1 a_9 c_9)],r_9]:=⟨a_0,c_0,a_1,c_1,a_9,c_9,r_9,h_0.mono (Ja (Ja hl1 hl2) hl3),h_1.mono (Ja (Ja hl1 hl2) hl3),h_2,h_3,h_4,h_5,h_6,h_7,h_8,h_9.mono (Ja (Ja hl1 hl2) hl3),rfl⟩
 refine JaI (Ls:=[[Sg b 0 (KP t a_0 c_0 a_1 c_1 a_9 c_9)],r_9]) (Lr:=([Sg b8 0 [Sr ([111,107])]]::[Sg b3 0 [I (Yt (KM x1)),Fv (VP (KM x1)) #[]]]::[]::[Sg b1 0 [Sr ([])]]::Lr)) 32 (JhP _ J8) hT (JeZ (KM x1) J8 (by rw [Wt hx1];exact hS) G3 b t _ hB_ ht hn hk a14 c14 ((JJ s).drop 1) hs12 (by intro hq_;rw [Hh];simp_all;omega) (by rw [Hh];have q2_:=W2 s;omega) (fun z_ hz_=>hsp z_ (Ho hz_))) (fun v G9 L1 hl9 hp=>?_) (fun v G9 L1 hl9 hp=>?_)
 obtain ⟨hne4,rfl,rfl⟩:=hp
 refine KO (KO (Jk 5 ?_))
 have hq6:JaR t s=(QH (KM x1) t ((JJ s).drop 1)).2.2:=by
  exact JgV hx1 J8 (by omega)
 refine Jb4 ([Sg b1 0 [Sr ([101,114,114,32]++Lib.itoa ((QH (KM x1) t ((JJ s).drop 1)).2.2))]]::([Sg b 0 (KP t a_0 c_0 a_1 c_1 a_9 c_9)]::r_9::[Sg b8 0 [Sr ([111,107])]]::[Sg b3 0 [I (Yt (KM x1)),Fv (VP (KM x1)) #[]]]::[]::Lr)) [0] [Sr ([101,114,114,32]++Lib.itoa ((QH (KM x1) t ((JJ s).drop 1)).2.2))] (fun _=>by kernel_rfl) (fun w hw=>Jb5 _ _ _ _ (by rw [← hq6];exact Jbp t s) _ _ _ w hT hw) (bpx (KT (Lr:=Lr) [[Sg b 0 (KP t a_0 c_0 a_1 c_1 a_9 c_9)],r_9] (Ja (Ja (Ja hl1 hl2) hl3) hl9) ⟨?_,?_⟩))
 rw [Jaw,hq6,if_pos hne4];rfl
 rw [ZF,hq6,if_pos hne4];exact ⟨a_0,c_0,a_1,c_1,a_9,c_9,r_9,h_0.mono (Ja (Ja (Ja hl1 hl2) hl3) hl9),h_1.mono (Ja (Ja (Ja hl1 hl2) hl3) hl9),h_2,h_3,h_4,h_5,h_6,h_7,h_8,h_9.mono (Ja (Ja (Ja hl1 hl2) hl3) hl9),rfl⟩
 obtain ⟨he6,a16,c16,rfl,hs14,hB3⟩:=hp
 have dn_:=JhR (KM x1) t ((JJ s).drop 1)
 obtain ⟨a17,c17,a18,c18,a19,c19,r6,hs15,hs16,w16,w17,w18,w19,w20,w21,w22,hr6,rfl⟩:=hB3
 refine JD [(6,Sl a16 ((QH (KM x1) t ((JJ s).drop 1)).2.1.length) c16)] (JK [1,2,3,4,5] [] [] [7] (Ha _) (Ki ?_ K8))
 refine JC 7 [(26,Sl (At b8 0) 1 1),(32,Sl a16 ((QH (KM x1) t ((JJ s).drop 1)).2.1.length) c16)] (fun X=>?_)
 refine JaZ 33 9 2 (E:=ES) (J1.of_lit (E:=ES) (G:=G9) (b:=b8) [[Sr ([111,107])]] [[111,107]] ⟨⟨rfl,(Hc rfl)⟩,trivial⟩ (by simp)) hs14 (by have:=hs14.fit;simp only [ES] at this;(try simp only [Hb,Hd,He]);omega) (by have:=hs14.fit;simp only [ES] at this;(try simp only [ES,Hb,Hd,He]);omega) (fun a20 c20 r7 hr7=>JD [(7,Sl a20 ((([[111,107]]:List (List UInt8))++((QH (KM x1) t ((JJ s).drop 1)).2.1)).length) c20)] (JK [1,2,3,4,5] [] [] [8] (Ha _) (Ki ?_ K8)))
 refine JC 8 [(33,Sl a20 ((([[111,107]]:List (List UInt8))++((QH (KM x1) t ((JJ s).drop 1)).2.1)).length) c20)] (fun X=>?_)
 refine WL (E:=ES) 2 hr7 (by have q_:=W2 s;(try simp only [ES,Hb,Hd,He]);omega) (fun G10 hl10 hs17=>?_)
 obtain ⟨b9,o4,rfl⟩:=RS.addr hs17 (k:=0) (by simp)
 refine Jm 34 (Sr (Lib.join (([[111,107]]:List (List UInt8))++((QH (KM x1) t ((JJ s).drop 1)).2.1)) [32])) (JcX G10 b9 o4 c20 (([[111,107]]:List (List UInt8))++((QH (KM x1) t ((JJ s).drop 1)).2.1)) [32] hs17 (by simp) (by simp only [Hb,Hd,He];omega) (Jb6 _ _ _ (Jdm hs14))) (JD [(8,Sr (Lib.join (([[111,107]]:List (List UInt8))++((QH (KM x1) t ((JJ s).drop 1)).2.1)) [32]))] (JK [1,2,3,4,5] [] [] [9] (Ha _) (Ki ?_ K8)))
 refine JC 9 [(4,Pt b1 0),(34,Sr (Lib.join (([[111,107]]:List (List UInt8))++((QH (KM x1) t ((JJ s).drop 1)).2.1)) [32]))] (fun X=>?_)
 exact KN 5 ([Sg b 0 (KP (QH (KM x1) t ((JJ s).drop 1)).1 a17 c17 a18 c18 a19 c19)]::r6::[]::[Sg b3 0 [I (Yt (KM x1)),Fv (VP (KM x1)) #[]]]::[]::[Sg b1 0 [Sr (Lib.join (([[111,107]]:List (List UInt8))++((QH (KM x1) t ((JJ s).drop 1)).2.1)) [32])]]::Lr) (Ka [] (Km [1,2,3,4,5] [] [] [(4,Pt b1 0)] (Ha _) (Wd (a17,c17,a18,c18,a19,c19,r6,G10) ⟨(Ja hl9 hl10),(hs15.mono hl10),(hs16.mono hl10),w16,w17,w18,w19,w20,w21,w22,(hr6.mono hl10),he6⟩)))
 refine JC 6 [(4,Pt b1 0),(28,Fv (VP (KM x1)) #[]),(29,Pt b 0),(31,Sl a14 (((JJ s).drop 1).length) c14)] (fun X=>?_)
 refine Jw 4 (Jw 4 ?_)
 have hB_:Jks t G3 b [[Sg b 0 (KP t a_0 c_0 a_1 c_1 a_9 c_9)],r_9]:=⟨a_0,c_0,a_1,c_1,a_9,c_9,r_9,h_0.mono (Ja (Ja hl1 hl2) hl3),h_1.mono (Ja (Ja hl1 hl2) hl3),h_2,h_3,h_4,h_5,h_6,h_7,h_8,h_9.mono (Ja (Ja hl1 hl2) hl3),rfl⟩
 refine JaI (Ls:=[[Sg b 0 (KP t a_0 c_0 a_1 c_1 a_9 c_9)],r_9]) (Lr:=([Sg b3 0 [I (Yt (KM x1)),Fv (VP (KM x1)) #[]]]::[]::[Sg b1 0 [Sr ([])]]::Lr)) 32 (JhP _ J8) hT (JeZ (KM x1) J8 (by rw [Wt hx1];exact hS) G3 b t _ hB_ ht hn hk a14 c14 ((JJ s).drop 1) hs12 (by intro hq_;rw [Hh];simp_all;omega) (by rw [Hh];have q2_:=W2 s;omega) (fun z_ hz_=>hsp z_ (Ho hz_))) (fun v G11 L1 hl11 hp=>?_) (fun v G11 L1 hl11 hp=>?_)
 obtain ⟨hne5,rfl,rfl⟩:=hp
 refine KO (KO (Jk 4 ?_))
 have hq7:JaR t s=(QH (KM x1) t ((JJ s).drop 1)).2.2:=by
  exact JgV hx1 J8 (by omega)
 refine Jb4 ([Sg b1 0 [Sr ([101,114,114,32]++Lib.itoa ((QH (KM x1) t ((JJ s).drop 1)).2.2))]]::([Sg b 0 (KP t a_0 c_0 a_1 c_1 a_9 c_9)]::r_9::[Sg b3 0 [I (Yt (KM x1)),Fv (VP (KM x1)) #[]]]::[]::Lr)) [0] [Sr ([101,114,114,32]++Lib.itoa ((QH (KM x1) t ((JJ s).drop 1)).2.2))] (fun _=>by kernel_rfl) (fun w hw=>Jb5 _ _ _ _ (by rw [← hq7];exact Jbp t s) _ _ _ w hT hw) (bpx (KT (Lr:=Lr) [[Sg b 0 (KP t a_0 c_0 a_1 c_1 a_9 c_9)],r_9] (Ja (Ja (Ja hl1 hl2) hl3) hl11) ⟨?_,?_⟩))
 rw [Jaw,hq7,if_pos hne5];rfl
 rw [ZF,hq7,if_pos hne5];exact ⟨a_0,c_0,a_1,c_1,a_9,c_9,r_9,h_0.mono (Ja (Ja (Ja hl1 hl2) hl3) hl11),h_1.mono (Ja (Ja (Ja hl1 hl2) hl3) hl11),h_2,h_3,h_4,h_5,h_6,h_7,h_8,h_9.mono (Ja (Ja (Ja hl1 hl2) hl3) hl11),rfl⟩
 obtain ⟨he7,a21,c21,rfl,hs18,hB4⟩:=hp
 have dn_:=JhR (KM x1) t ((JJ s).drop 1)
 obtain ⟨a22,c22,a23,c23,a24,c24,r8,hs19,hs20,w23,w24,w25,w26,w27,w28,w29,hr8,rfl⟩:=hB4
 refine JD [(6,Sl a21 ((QH (KM x1) t ((JJ s).drop 1)).2.1.length) c21)] (JK [1,2,3,4,5] [] [] [0] (Ha _) (Ki ?_ K8))
 refine JC 0 [] (fun X=>?_)
 refine Kt 26 1 #[Sr ([111,107])] 9 (fun b10=>JD [(0,Sl (At b10 0) 1 1)] (JK [1,2,3,4,5] [] [] [7] (Ha _) (Ki ?_ K8)))
 refine JC 7 [(26,Sl (At b10 0) 1 1),(32,Sl a21 ((QH (KM x1) t ((JJ s).drop 1)).2.1.length) c21)] (fun X=>?_)
 refine JaZ 33 9 0 (E:=ES) (J1.of_lit (E:=ES) (G:=G11) (b:=b10) [[Sr ([111,107])]] [[111,107]] ⟨⟨rfl,(Hc rfl)⟩,trivial⟩ (by simp)) hs18 (by have:=hs18.fit;simp only [ES] at this;(try simp only [Hb,Hd,He]);omega) (by have:=hs18.fit;simp only [ES] at this;(try simp only [ES,Hb,Hd,He]);omega) (fun a25 c25 r9 hr9=>JD [(7,Sl a25 ((([[111,107]]:List (List UInt8))++((QH (KM x1) t ((JJ s).drop 1)).2.1)).length) c25)] (JK [1,2,3,4,5] [] [] [8] (Ha _) (Ki ?_ K8)))
 refine JC 8 [(33,Sl a25 ((([[111,107]]:List (List UInt8))++((QH (KM x1) t ((JJ s).drop 1)).2.1)).length) c25)] (fun X=>?_)
 refine WL (E:=ES) 0 hr9 (by have q_:=W2 s;(try simp only [ES,Hb,Hd,He]);omega) (fun G12 hl12 hs21=>?_)
 obtain ⟨b11,o5,rfl⟩:=RS.addr hs21 (k:=0) (by simp)
 refine Jm 34 (Sr (Lib.join (([[111,107]]:List (List UInt8))++((QH (KM x1) t ((JJ s).drop 1)).2.1)) [32])) (JcX G12 b11 o5 c25 (([[111,107]]:List (List UInt8))++((QH (KM x1) t ((JJ s).drop 1)).2.1)) [32] hs21 (by simp) (by simp only [Hb,Hd,He];omega) (Jb6 _ _ _ (Jdm hs18))) (JD [(8,Sr (Lib.join (([[111,107]]:List (List UInt8))++((QH (KM x1) t ((JJ s).drop 1)).2.1)) [32]))] (JK [1,2,3,4,5] [] [] [9] (Ha _) (Ki ?_ K8)))
 refine JC 9 [(4,Pt b1 0),(34,Sr (Lib.join (([[111,107]]:List (List UInt8))++((QH (KM x1) t ((JJ s).drop 1)).2.1)) [32]))] (fun X=>?_)
 exact KN 5 ([]::[Sg b 0 (KP (QH (KM x1) t ((JJ s).drop 1)).1 a22 c22 a23 c23 a24 c24)]::r8::[Sg b3 0 [I (Yt (KM x1)),Fv (VP (KM x1)) #[]]]::[]::[Sg b1 0 [Sr (Lib.join (([[111,107]]:List (List UInt8))++((QH (KM x1) t ((JJ s).drop 1)).2.1)) [32])]]::Lr) (Ka [] (Km [1,2,3,4,5] [] [] [(4,Pt b1 0)] (Ha _) (Jk 5 (Jk 5 (Jk 5 (Jk 3 (Jk 5 (Jk 5 (Wd (a22,c22,a23,c23,a24,c24,r8,G12) ⟨(Ja hl11 hl12),(hs19.mono hl12),(hs20.mono hl12),w23,w24,w25,w26,w27,w28,w29,(hr8.mono hl12),he7⟩)))))))))
 obtain ⟨a17,c17,a18,c18,a19,c19,r6,G10⟩:=q_
 obtain ⟨hle2,hj11,hj12,hj13,hj14,hj15,hj16,hj17,hj18,hj19,hj20,he5⟩:=hs
 dsimp only at hle2 hj11 hj12 hj13 hj14 hj15 hj16 hj17 hj18 hj19 hj20 he5
 dsimp only
 refine Jn (Jk 1 (Jk 1 (Jk 5 ?_)))
 have hq8:JaR t s=0:=(JgV hx1 (by omega) (by omega)).trans he5
 refine Jlq [0] [Sr (Lib.join (([[111,107]]:List (List UInt8))++((QH (KM x1) t ((JJ s).drop 1)).2.1)) [32])] (fun _=>by kernel_rfl) (fun w hw=>Jlr _ b1 _ _ _ w hw) (bpx (KT (Lr:=Lr) [[Sg b 0 (KP (QH (KM x1) t ((JJ s).drop 1)).1 a17 c17 a18 c18 a19 c19)],r6] (Ja (Ja (Ja hl1 hl2) hl3) hle2) ⟨?_,?_⟩))
 rw [Jaw,hq8,if_neg (by simp),Wt hx1];rfl
 rw [ZF,hq8,if_neg (by simp),← Wt hx1];exact ⟨a17,c17,a18,c18,a19,c19,r6,hj11,hj12,hj13,hj14,hj15,hj16,hj17,hj18,hj19,hj20,rfl⟩
theorem Jjm (l:List J2) (n:List UInt8):(KX l n).1.length≤20:=by
 unfold KX
 split
 · simp
 ·
  rename_i h
  have hc:Kk l=0:=by
   unfold JF at h
   split at h
   · exact absurd rfl h
   · rename_i h1;exact Hj.1 h1
  have ho:=K3.1 hc
  cases e:l[(JF l n).1.toNat]? with
  | none=>simp
  | some x =>
   have h3:=ho.ok x (Hg e)
   have h4:x.value.length≤20:=by
    unfold KE at h3
    split at h3
    · cases h3
    ·
     split at h3
     · cases h3
     · omega
   simpa using h4
theorem Jgl (r:Wa):(JG r).1.length≤20:=by
 unfold JG Wq
 split
 · simp
 split
 · simp
 · exact Jjm _ _
theorem Jkv (c:Nat) (t:KS) (w:List (List UInt8)):JaQ (QH c t w).2.1:=by
 by_cases hc:c=8
 ·
  subst hc
  show JaQ (Zt t w).1
  unfold Zt
  split
  · exact WE
  split
  · exact WE
  split
  · exact WE
  split
  · exact WE
  split
  · exact ⟨by simp,by simp⟩
  ·
   refine ⟨by simp,fun x hx=>?_⟩
   simp only [HC,Ht,or_false] at hx
   rcases hx with rfl | rfl
   · simp
   · exact Hn (Jgl _) (by decide)
 ·
  match c,hc with
  | 0,_ | 1,_ | 2,_ | 3,_ | 4,_ | 5,_ | 6,_=>exact WE
  | 7,_=>exact JfO t w
  | 8,h=>exact absurd rfl h
  | 9,_=>exact Jcn t w
  | 10,_=>exact Jex t w
  | 11,_=>exact Jey t w
  | _+12,_=>exact WE
theorem Jot (t:KS) (s:List UInt8):(Jaw t s).length≤1000:=by
 unfold Jaw
 split
 · have:=JeY _ (Jbp t s);simp;omega
 ·
  rw [Lib.join_length]
  have h:=Jkv (KM (VQ (JJ s) 0)) t ((JJ s).drop 1)
  have:=JhQ _ h.2
  have:=h.1
  simp [Lib.lens,okW] at *
  omega
theorem JmD (t:KS) (s:List UInt8):(Jaw t s).length≤140737488351232:=Hn (Jot t s) (by decide)
theorem Jjn (s:List UInt8) (h:s.length≤1048576):∀ x∈JJ s,x.length≤1048576:=fun _ hx=>Hn (Jfg hx) h
def JcI (t:KS):Prop:=t.deeds.length≤200∧t.setup.names.length≤1000∧t.setup.keys.length≤1000
theorem Jdn {t:KS} (s:Kv) (h:JcI t):JcI (Zx t s).1:=by
 unfold Zx
 split
 · exact h
 split
 · exact h
 ·
  rename_i h2
  have:=VB (JeV (Hj.1 h2)).1
  exact ⟨h.1,by simp only;omega,by simp only;omega⟩
theorem JfQ {t:KS} (l:List K6) (h:JcI t):JcI (ZR t l).1:=by
 unfold ZR
 split
 · exact h
 · exact ⟨by simp only [Hb];omega,h.2⟩
theorem JcJ {α:Type} {p:Prop} [Decidable p] {a b:KS×α} (ha:JcI a.1) (hb:JcI b.1):JcI (if p then a else b).1:=by split <;> assumption
theorem Jou (c:Nat) {t:KS} (w:List (List UInt8)) (h:JcI t):JcI (QH c t w).1:=by
 unfold QH
 split <;> dsimp only
 · exact JcJ h (Jdn _ h)
 · exact JcJ h (Jdn _ h)
 · exact JcJ h (Jdn _ h)
 · exact JcJ h (Jdn _ h)
 · exact JcJ h (JfQ _ h)
 · exact JcJ h (JfQ _ h)
 · exact JcJ h (JfQ _ h)
 all_goals exact h
theorem Jov {t:KS} (s:List UInt8) (h:JcI t):JcI (ZF t s):=by
 unfold ZF
 split
 · exact h
 · exact Jou _ _ h
def Jjo (t:KS) (l:List (List UInt8)):KS:=l.foldl ZF t
def Jdo:KS→List (List UInt8)→List (List UInt8)
 | _,[]=>[]
 | t,s::l=>Jaw t s::Jdo (ZF t s) l
theorem Jjp:∀ (l:List (List UInt8)) {t:KS},JcI t→JcI (Jjo t l)
 | [],_,h=>h
 | s::l,_,h=>Jjp l (Jov s h)
theorem JgW:∀ (l m:List (List UInt8)) (t:KS),Jdo t (l++m)=Jdo t l++Jdo (Jjo t l) m
 | [],_,_=>rfl
 | s::l,m,t=>congrArg (Jaw t s::·) (JgW l m (ZF t s))
theorem Jb7:∀ (l:List (List UInt8)) (t:KS),(Jdo t l).length=l.length
 | [],_=>rfl
 | s::l,t=>congrArg (·+1) (Jb7 l (ZF t s))
theorem JmE {t:KS} {l:List (List UInt8)} {i:Nat} {x:List UInt8} (hx:l[i]? = some x):ZF (Jjo t (l.take i)) x=Jjo t (l.take (i+1)):=by
 rw [List.take_add_one,hx];simp [Jjo]
theorem Jkw {t:KS} {l:List (List UInt8)} {i:Nat} {x:List UInt8} (hx:l[i]? = some x):Jdo t (l.take i)++[Jaw (Jjo t (l.take i)) x]=Jdo t (l.take (i+1)):=by
 rw [List.take_add_one,hx,JgW];rfl
def Jjq:KS:=⟨⟨[],[],10,3,5,2,8,3,10⟩,[]⟩
theorem JmF:JcI Jjq:=⟨by decide,by decide,by decide⟩
def WV (l:List (List UInt8)):List (List UInt8)×Int:=if l.length > 100 then ([],2) else (Jdo Jjq l,0)
theorem do_c (G:J4) (b:Nat) (t:KS) (a_0:Option Addr) (c_0:Nat) (a_1:Option Addr) (c_1:Nat) (a_9:Option Addr) (c_9:Nat) (r_9:List Kh) (h_0:RS ES G a_0 c_0 t.setup.names) (h_1:RS EU G a_1 c_1 t.setup.keys) (h_2:-9223372036854775808≤t.setup.most∧t.setup.most<9223372036854775808) (h_3:-9223372036854775808≤t.setup.batch∧t.setup.batch<9223372036854775808) (h_4:-9223372036854775808≤t.setup.every∧t.setup.every<9223372036854775808) (h_5:-9223372036854775808≤t.setup.least∧t.setup.least<9223372036854775808) (h_6:-9223372036854775808≤t.setup.top∧t.setup.top<9223372036854775808) (h_7:-9223372036854775808≤t.setup.lost∧t.setup.lost<9223372036854775808) (h_8:-9223372036854775808≤t.setup.reach∧t.setup.reach<9223372036854775808) (h_9:J1 WO G a_9 c_9 t.deeds r_9) (s:List UInt8) (hI:JcI t) (hls:s.length≤1048576) (hS:dS (KM (VQ (JJ s) 0))=true):YP Tryz.prog 27 #[Pt b 0,Sr s] G [[Sg b 0 [Sl a_0 t.setup.names.length c_0,Sl a_1 t.setup.keys.length c_1,I t.setup.most,I t.setup.batch,I t.setup.every,I t.setup.least,I t.setup.top,I t.setup.lost,I t.setup.reach,Sl a_9 t.deeds.length c_9]],r_9] (fun u G' L'=>((0:Int)=0)∧∃ (az1:Option Addr) (cz2:Nat) (az3:Option Addr) (cz4:Nat) (az5:Option Addr) (cz6:Nat) (rz7:List Kh),u=Sr (Jaw t s)∧((Jaw t s).length≤140737488351232)∧(RS ES G' az1 cz2 ((ZF t s).setup.names))∧(RS EU G' az3 cz4 ((ZF t s).setup.keys))∧(-9223372036854775808≤((ZF t s).setup.most)∧((ZF t s).setup.most)<9223372036854775808)∧(-9223372036854775808≤((ZF t s).setup.batch)∧((ZF t s).setup.batch)<9223372036854775808)∧(-9223372036854775808≤((ZF t s).setup.every)∧((ZF t s).setup.every)<9223372036854775808)∧(-9223372036854775808≤((ZF t s).setup.least)∧((ZF t s).setup.least)<9223372036854775808)∧(-9223372036854775808≤((ZF t s).setup.top)∧((ZF t s).setup.top)<9223372036854775808)∧(-9223372036854775808≤((ZF t s).setup.lost)∧((ZF t s).setup.lost)<9223372036854775808)∧(-9223372036854775808≤((ZF t s).setup.reach)∧((ZF t s).setup.reach)<9223372036854775808)∧(J1 WO G' az5 cz6 ((ZF t s).deeds) rz7)∧L'=[[Sg b 0 [Sl az1 (((ZF t s).setup.names).length) cz2,Sl az3 (((ZF t s).setup.keys).length) cz4,I ((ZF t s).setup.most),I ((ZF t s).setup.batch),I ((ZF t s).setup.every),I ((ZF t s).setup.least),I ((ZF t s).setup.top),I ((ZF t s).setup.lost),I ((ZF t s).setup.reach),Sl az5 (((ZF t s).deeds).length) cz6]],rz7]) (fun _ _ _=>False):=by
 exact YP.mono (do_con G b t a_0 c_0 a_1 c_1 a_9 c_9 r_9 h_0 h_1 h_2 h_3 h_4 h_5 h_6 h_7 h_8 h_9 hI.1 hI.2.1 hI.2.2 s hls hS (Jjn s hls)) (fun u G' L' hle ⟨hu,a_0z,c_0z,a_1z,c_1z,a_9z,c_9z,r_9z,q_0,q_1,q_2,q_3,q_4,q_5,q_6,q_7,q_8,q_9,hL⟩=>⟨rfl,a_0z,c_0z,a_1z,c_1z,a_9z,c_9z,r_9z,hu,JmD t s,q_0,q_1,q_2,q_3,q_4,q_5,q_6,q_7,q_8,q_9,hL⟩) (fun _ _ _ h=>h)
theorem Jow (G:J4)  (a_l:Option Addr) (c_l:Nat) (l:List (List UInt8)) (h_l:RS ES G a_l c_l l) (hs:∀ s∈l,s.length≤1048576) (hS:∀ s∈l,dS (KM (VQ (JJ s) 0))=true):JaJ Tryz.prog 9 #[Sl a_l l.length c_l] G [] (fun u G' L'=>((0:Int)=0)∧∃ (az1:Option Addr) (cz2:Nat),u=.tuple #[Sl az1 (((WV l).1).length) cz2,I ((WV l).2)]∧(RS ES G' az1 cz2 ((WV l).1))∧L'=[]) (fun _ _ _=>False):=by
 refine YM Tryz.func9 28 [(0,Sl a_l l.length c_l)] rfl (fun w0 G0 hT=>Jg [0,0] [] (Jf (Jg [0,0,0] [(10,Bo (decide ((l.length:Int) > 100)))] (Jl (decide ((l.length:Int) > 100)) (fun h1=>?_) (fun h1=>?_)))))
 refine Jg [0,0] [(2,Sl none 0 0),(3,I 2)] (Jn (Jj ?_))
 have hf1:(0:Int)=0∧WV l=([],2):=by
  first | (unfold WV;rw [if_pos (by omega)];exact ⟨rfl,rfl⟩) | (unfold WV;rw [if_neg (by omega)];have q_:=Hv (i:=i) (l:=l) (by omega);rw [q_] at hxx;exact ⟨rfl,by rw [hxx]⟩)
 refine Jo [0,0] [Sl none 0 0,I 2] (bpx (JA [] (Jh _) ?_))
 rw [hf1.2]
 try dsimp only
 exact ⟨hf1.1,none,0,rfl,(JP ES G),rfl⟩
 refine Jq (Jb (Jf (Jd (Jc [0,0] [(12,.agg #[Sl none 0 0,Sl none 0 0,I 10,I 3,I 5,I 2,I 8,I 3,I 10,Sl none 0 0])] (Jv 13 #[Sl none 0 0,Sl none 0 0,I 10,I 3,I 5,I 2,I 8,I 3,I 10,Sl none 0 0] 91 (fun b1=>Jc [0] [(4,Pt b1 0)] (Je (Jb (Jg [0] [(5,Sl none 0 0)] (Jf (Jg [0,0,0] [(14,Sl a_l l.length c_l),(15,I (l.length:Int)),(16,I 0)] (Jy (Yk (Yk ?_))))))))))))))
 have hlm_h_l:l.length≤9223372036854775807:=Hn (h_l).le (h_l).max
 refine Qh (σ:=Nat×Option Addr×Nat×List Kh×List (List UInt8)×KS×Option Addr×Nat×Option Addr×Nat×Option Addr×Nat×List Kh×J4) (fun q_=>(J4.le G q_.2.2.2.2.2.2.2.2.2.2.2.2.2)∧(q_.1≤l.length)∧(J1 ES q_.2.2.2.2.2.2.2.2.2.2.2.2.2 q_.2.1 q_.2.2.1 q_.2.2.2.2.1 q_.2.2.2.1)∧(q_.2.2.2.2.1=Jdo Jjq (l.take q_.1))∧(RS ES q_.2.2.2.2.2.2.2.2.2.2.2.2.2 q_.2.2.2.2.2.2.1 q_.2.2.2.2.2.2.2.1 q_.2.2.2.2.2.1.setup.names)∧(RS EU q_.2.2.2.2.2.2.2.2.2.2.2.2.2 q_.2.2.2.2.2.2.2.2.1 q_.2.2.2.2.2.2.2.2.2.1 q_.2.2.2.2.2.1.setup.keys)∧(J1 WO q_.2.2.2.2.2.2.2.2.2.2.2.2.2 q_.2.2.2.2.2.2.2.2.2.2.1 q_.2.2.2.2.2.2.2.2.2.2.2.1 q_.2.2.2.2.2.1.deeds q_.2.2.2.2.2.2.2.2.2.2.2.2.1)∧(rI q_.2.2.2.2.2.1.setup.most)∧(rI q_.2.2.2.2.2.1.setup.batch)∧(rI q_.2.2.2.2.2.1.setup.every)∧(rI q_.2.2.2.2.2.1.setup.least)∧(rI q_.2.2.2.2.2.1.setup.top)∧(rI q_.2.2.2.2.2.1.setup.lost)∧(rI q_.2.2.2.2.2.1.setup.reach)∧(q_.2.2.2.2.2.1=Jjo Jjq (l.take q_.1))) (fun q_=>[(4,Pt b1 0),(5,Sl q_.2.1 q_.2.2.2.2.1.length q_.2.2.1),(14,Sl a_l l.length c_l),(15,I (l.length:Int)),(16,I (q_.1:Int))]) (fun q_=>q_.2.2.2.2.2.2.2.2.2.2.2.2.2) (fun q_=>[q_.2.2.2.2.2.2.2.2.2.2.2.2.1,q_.2.2.2.1,[Sg b1 0 (KP q_.2.2.2.2.2.1 q_.2.2.2.2.2.2.1 q_.2.2.2.2.2.2.2.1 q_.2.2.2.2.2.2.2.2.1 q_.2.2.2.2.2.2.2.2.2.1 q_.2.2.2.2.2.2.2.2.2.2.1 q_.2.2.2.2.2.2.2.2.2.2.2.1)]]) (fun q_=>l.length-q_.1) (0,none,0,[],[],(⟨(⟨[],[],10,3,5,2,8,3,10⟩:Kv),([]:List K6)⟩:KS),none,0,none,0,none,0,[],G) ⟨(Jh _),(by (try dsimp only);first | exact Nat.zero_le _ | omega | simp),(J1.none ES _),rfl,(JP ES G),(JP EU G),(J1.none WO _),(by (try dsimp only);first | assumption | omega | (simp;done) | (simp;omega)),(by (try dsimp only);first | assumption | omega | (simp;done) | (simp;omega)),(by (try dsimp only);first | assumption | omega | (simp;done) | (simp;omega)),(by (try dsimp only);first | assumption | omega | (simp;done) | (simp;omega)),(by (try dsimp only);first | assumption | omega | (simp;done) | (simp;omega)),(by (try dsimp only);first | assumption | omega | (simp;done) | (simp;omega)),(by (try dsimp only);first | assumption | omega | (simp;done) | (simp;omega)),(by (try dsimp only);first | rfl | simp [Jjo,Jjq])⟩ (fun q_ hs=>?_)
 obtain ⟨i,ax,cx,rx,xx,dt,adt0,cdt0,adt1,cdt1,adt2,cdt2,rdt9,g⟩:=q_
 obtain ⟨hle,hi,hrx,hxx,hdt0,hdt1,hdt9,hdt2,hdt3,hdt4,hdt5,hdt6,hdt7,hdt8,hD⟩:=hs
 dsimp only at hle hi hrx hxx hdt0 hdt1 hdt9 hdt2 hdt3 hdt4 hdt5 hdt6 hdt7 hdt8 hD
 dsimp only
 refine Jg [0] [(17,Bo (decide ((i:Int)<(l.length:Int))))] (Jf (Jl (decide ((i:Int)<(l.length:Int))) (fun h2=>?_) (fun h2=>?_)))
 refine Jq (Jb (Jf (Jy (Jf (Jd ?_)))))
 obtain ⟨b2,o1,rfl⟩:=RS.addr (h_l.mono hle) (k:=i) (by omega)
 obtain ⟨x1,hx1⟩:=Wf (l:=l) (k:=i) (by omega)
 obtain ⟨_,⟨rfl,_⟩,hc1⟩:=RS.get (h_l.mono hle) hx1
 refine J5 (b:=b2) (off:=o1) (len:=l.length) (cap:=c_l) (ik:=.i64) 18 9 1 i J8 (JZ 19 9 (cs:=[Sr x1]) 0 (Sr x1) hc1 (Jc [0] [(7,Sr x1)] (Je (Jb (Jd (Jc [0,0,0] [(20,Sl ax xx.length cx),(21,Pt b1 0),(22,Sr x1)] (Jw 0 (Jw 2 (Jaf (Ls:=[[Sg b1 0 (KP dt adt0 cdt0 adt1 cdt1 adt2 cdt2)],rdt9]) (Lr:=[rx]) 23 hT (do_c g b1 dt adt0 cdt0 adt1 cdt1 adt2 cdt2 rdt9 hdt0 hdt1 hdt2 hdt3 hdt4 hdt5 hdt6 hdt7 hdt8 hdt9 x1 (hD ▸ Jjp (l.take i) JmF) (hs _ (Hg hx1)) (hS _ (Hg hx1))) (fun v G1 L1 hl1 hp=>?_))))))))))
 obtain ⟨_,a1,c1,a2,c2,a3,c3,r1,rfl,w2,hs1,hs2,_,_,_,_,_,_,_,hr1,rfl⟩:=hp
 refine Kt 24 1 #[Sr (Jaw dt x1)] 9 (fun b3=>Qy (b:=b3) (cs:=[Sr (Jaw dt x1)]) 25 9 3 0 (E:=ES) (Jaw dt x1) (hrx.mono hl1) ⟨rfl,w2⟩ (by have q_:=congrArg Hy hxx;simp only [Jb7,Hu] at q_;(try simp only [ES]);omega) (by have q_:=congrArg Hy hxx;simp only [Jb7,Hu] at q_;(try simp only [ES]);omega) (fun a4 c4 r2 hr2=>Jc [0] [(5,Sl a4 ((xx++[Jaw dt x1]).length) c4)] (Je (JN (Jb (Jd (Jc [0,0] [(16,I (Hl.wrap ((i:Int)+1)))] (Kr 16 ((i:Int)+1) J8 (Je (Jk 1 (Jk 3 (Jk 3 ?_))))))))))))
 exact Qr [r1,r2,[Sg b1 0 (KP (ZF dt x1) a1 c1 a2 c2 a3 c3)]] (Qi (i+1,a4,c4,r2,xx++[Jaw dt x1],(ZF dt x1),a1,c1,a2,c2,a3,c3,r1,G1) ⟨(Ja hle hl1),J8,hr2,(by (try dsimp only);rw [hxx,hD,Jkw hx1]),hs1,hs2,hr1,(by first | assumption | omega | (simp;done) | (simp;omega)),(by first | assumption | omega | (simp;done) | (simp;omega)),(by first | assumption | omega | (simp;done) | (simp;omega)),(by first | assumption | omega | (simp;done) | (simp;omega)),(by first | assumption | omega | (simp;done) | (simp;omega)),(by first | assumption | omega | (simp;done) | (simp;omega)),(by first | assumption | omega | (simp;done) | (simp;omega)),(by (try dsimp only);rw [hD,JmE hx1])⟩ (by (try dsimp only);omega))
 refine KW (JY (J9 (JT (Jb (Jg [0,0,0] [(2,Sl ax xx.length cx),(3,I 0)] (Jn (Wp (E:=ES) 1 hrx (by have q_:=congrArg Hy hxx;simp only [Jb7,Hu] at q_;(try simp only [ES]);omega) (fun G2 hl2 hs3=>?_))))))))
 have hf2:(0:Int)=0∧WV l=(xx,0):=by
  first | (unfold WV;rw [if_pos (by omega)];exact ⟨rfl,rfl⟩) | (unfold WV;rw [if_neg (by omega)];have q_:=Hv (i:=i) (l:=l) (by omega);rw [q_] at hxx;exact ⟨rfl,by rw [hxx]⟩)
 refine Jo [0,0] [Sl ax xx.length cx,I 0] (bpx (JA [] (Ja hle hl2) ?_))
 rw [hf2.2]
 try dsimp only
 exact ⟨hf2.1,ax,cx,rfl,hs3,rfl⟩
theorem JfR {S:List UInt8→Prop} {nm:List UInt8}:∀ (l:List W8) (b:List J2) (v:List UInt8),W3 b→(∀ a∈l,Kw a=0)→nn (KR b++Qv l)≤24→(⟨nm,v⟩:J2)∈b→S v→(∀ a∈l,a.name=nm→S a.value)→∃ w,S w∧(⟨nm,w⟩:J2)∈Jav b l
 | [],_,v,_,_,_,hv,hs,_=>⟨v,hs,hv⟩
 | a::l,b,v,h,hr,hn,hv,hs,hl=>by
  obtain ⟨h1,h2,h3,h4⟩:=JiR h hr hn
  by_cases e:a.name=nm
  · exact JfR l _ a.value h2 h3 h4 (((Y2 h1).2.2.2 _).2 (.inl (by rw [e]))) (hl a (by simp) e) (fun x hx=>hl x (by simp [hx]))
  · exact JfR l _ v h2 h3 h4 (((Y2 h1).2.2.2 _).2 (.inr ⟨hv,fun q=>e q.symm⟩)) hs (fun x hx=>hl x (by simp [hx]))
theorem Jez {S:List UInt8→Prop} {nm:List UInt8}:∀ (l:List W8) (b:List J2) (p:Nat) (a:W8),W3 b→(∀ a∈l,Kw a=0)→nn (KR b++Qv l)≤24→l[p]? = some a→a.name=nm→(∀ q x,p≤q→l[q]? = some x→x.name=nm→S x.value)→∃ w,S w∧(⟨nm,w⟩:J2)∈Jav b l
 | [],_,p,a,_,_,_,hp,_,_=>by simp at hp
 | y::l,b,p,a,h,hr,hn,hp,he,hs=>by
  obtain ⟨h1,h2,h3,h4⟩:=JiR h hr hn
  cases p with
  | zero =>
   simp only [List.getElem?_cons_zero,Hm.injEq] at hp
   subst hp
   refine JfR l _ y.value h2 h3 h4 (((Y2 h1).2.2.2 _).2 (.inl (by rw [he]))) (hs 0 y (by omega) (by simp) he) (fun x hx e=>?_)
   obtain ⟨k,hk⟩:=Hz hx
   exact hs (k+1) x (by omega) (by simpa using hk) e
  | succ p=>exact Jez l _ p a h2 h3 h4 (by simpa using hp) he (fun q x hq hx=>hs (q+1) x (by omega) (by simpa using hx))
def Je0 (x:Kz) (nm:List UInt8) (S:List UInt8→Prop) (due:Int):Prop:=∃ (k:Nat) (b:List J2) (h:JU) (v:List UInt8),x.books[k]? = some b∧x.heads[k]? = some h∧KX b nm=(v,true,0)∧S v∧h.at_≤due
def JcK (x:Kz) (nm:List UInt8) (S:List UInt8→Prop) (due:Int):Prop :=
 (∃ (p:Nat) (a:W8),x.queue.wait[p]? = some a∧a.name=nm∧(∀ q b,p≤q→x.queue.wait[q]? = some b→b.name=nm→S b.value)∧due=x.now-x.now % x.every+((p:Int) / x.batch+1)*x.every)∨Je0 x nm S due
theorem Jlw {x:Kz} {a:W8} {nm:List UInt8} {S S':List UInt8→Prop} {due:Int} (h:JcK x nm S due) (hk:(Ko x a).2.2=0) (hS:∀ v,S v→S' v) (ha:a.name=nm→S' a.value):JcK (Ko x a).1 nm S' due:=by
 obtain ⟨ok,hq,_,_,e⟩:=JaD hk
 obtain ⟨q1,q2,q3,q4⟩:=Jaz hq
 have hx:(Ko x a).1=⟨⟨x.queue.most,x.queue.wait++[a]⟩,x.batch,x.every,x.now,x.heads,x.books⟩:=by rw [e,q4]
 rw [hx]
 rcases h with ⟨p,b,h1,h2,h3,h4⟩ | ⟨k,b,hd,v,k1,k2,k3,k4,k5⟩
 ·
  have hp:=(Hf.1 h1).1
  refine .inl ⟨p,b,by simp only;rw [Hk hp];exact h1,h2,fun q z hq hz hzn=>?_,h4⟩
  simp only at hz
  by_cases hl:q<x.queue.wait.length
  · rw [Hk hl] at hz;exact hS _ (h3 q z hq hz hzn)
  ·
   rw [Hs (by omega)] at hz
   have:=Hg hz
   simp only [Hi] at this
   subst this
   exact ha hzn
 · exact .inr ⟨k,b,hd,v,k1,k2,k3,hS _ k4,k5⟩
theorem JmG {c:Kz} {a:W8} {S:List UInt8→Prop} (h:(Ko c a).2.2=0) (hs:S a.value):JcK (Ko c a).1 a.name S (Ko c a).2.1:=by
 obtain ⟨ok,hq,_,_,e⟩:=JaD h
 obtain ⟨q1,q2,q3,q4⟩:=Jaz hq
 have hw:KZ (c.queue.wait.length:Int) c.batch c.every=(((c.queue.wait.length:Int) / c.batch+1)*c.every,0):=by
  have hb:=ok.batch;have he:=ok.every
  have:(KZ (c.queue.wait.length:Int) c.batch c.every).2=0:=by
   unfold KZ;rw [if_neg (by have:=(K2.1 q1);omega)]
  exact (Jho this).2.2.2.2.2.2
 have hd:(Ko c a).2.1=c.now-c.now % c.every+((c.queue.wait.length:Int) / c.batch+1)*c.every:=by
  rw [e,q4];simp only;rw [hw,JeU ok.now.1]
 have hx:(Ko c a).1=⟨⟨c.queue.most,c.queue.wait++[a]⟩,c.batch,c.every,c.now,c.heads,c.books⟩:=by rw [e,q4]
 refine .inl ⟨c.queue.wait.length,a,by rw [hx];simp,rfl,fun q b hq hb' _=>?_,by rw [hd,hx]⟩
 rw [hx] at hb'
 simp only at hb'
 have hl:=(Hf.1 hb').1
 simp only [Hb,Hd,He] at hl
 rw [Hs (by omega)] at hb'
 have:=Hg hb'
 simp only [Hi] at this
 subst this;exact hs
theorem Jox {x:Kz} {nm:List UInt8} {S:List UInt8→Prop} {due:Int} (ok:W6 x) (h:JcK x nm S due) (hk:¬ (KD x).1.now=x.now):JcK (KD x).1 nm S due:=by
 obtain ⟨t0,t1⟩:=Jbl ok
 obtain ⟨hc,hn⟩:Zg x=false∧(KD x).1.now=x.now+1:=by
  rcases JaN ok with h1 | h1
  · exact absurd h1.1 hk
  · exact h1
 have he:=ok.every;have hbt:=ok.batch;have hnow:=ok.now
 obtain ⟨m',hm'⟩:=t1.books
 obtain ⟨mh,hmh⟩:=t1.heads
 rcases h with ⟨p,a,h1,ha,h2,h3⟩ | ⟨k,b,hd,v,k2,k3,k4,k6,k5⟩
 ·
  have hms:=JnR (n:=x.now) he.1
  have m1:=Int.emod_nonneg x.now (show x.every ≠ 0 by omega)
  have m2:=Int.emod_lt_of_pos x.now (show 0<x.every by omega)
  have hp:=(Hf.1 h1).1
  by_cases hz:(x.now+1).tmod x.every=0
  ·
   have hz':(x.now+1) % x.every=0:=by rw [← JeU (by omega)];exact hz
   have hr:x.now % x.every+1=x.every:=by
    rw [hz'] at hms
    split at hms
    · assumption
    · omega
   obtain ⟨u1,u2⟩:=JaM ok
   have hx:(KD x).1=⟨⟨x.queue.most,x.queue.wait.drop (QC x.batch x.queue.wait)⟩,x.batch,x.every,x.now+1,(Qu x.heads (JX (ZA x) []).1 (x.now+1)).1,x.books++[ZA x]⟩:=by
    unfold KD
    rw [if_neg (by rw [Zj.2 ok];simp),if_neg (by rw [hc];simp),if_neg (by omega),u2]
   by_cases hpn:p<QC x.batch x.queue.wait
   ·
    right
    have hpb:(p:Int)<x.batch:=by
     have:(QC x.batch x.queue.wait:Int)≤x.batch:=by (unfold QC;split <;> omega)
     omega
    have hdue:due=x.now+1:=by
     rw [h3,Int.ediv_eq_zero_of_lt (by omega) hpb];omega
    obtain ⟨b1,b2⟩:=Jel ok
    have hq:=(K2.1 ok.queue).2.2.2
    have hin:∃ w,S w∧(⟨nm,w⟩:J2)∈ZA x:=by
     unfold ZA;rw [u2]
     refine Jez _ _ p a (ok.book ok.last) (fun y hy=>hq y (HA hy)) (Hn (JaC fun y hy=>?_) ok.names) (by simp only;rw [List.getElem?_take,if_pos hpn];exact h1) ha (fun q y hqp hy=>?_)
     ·
      unfold V2
      rcases Hp.1 hy with q | q
      · simp [q]
      ·
       obtain ⟨z,hz,rfl⟩:=WQ.1 q
       have:z.name∈Qv x.queue.wait:=WQ.2 ⟨z,HA hz,rfl⟩
       simp [this]
     ·
      simp only at hy
      rw [List.getElem?_take] at hy
      split at hy
      · exact h2 q y hqp hy
      · cases hy
    obtain ⟨w,hw,hin⟩:=hin
    have hpath:KJ nm=true:=ha ▸ (JiM (JdV (hq a (Hg h1)))).2.2
    have hget:=Jfn b1 hin hpath
    have hroot:=Jcz (q:=[]) b1 (by simp) (by simp)
    have hrb:(JX (ZA x) []).1<2305843009213693951:=by rw [hroot];exact (JbI _ _).2
    obtain ⟨g1,g2,g3⟩:=JiQ ok hc hrb
    have hnx:=(VL g3).2.2.2.1
    refine ⟨x.books.length,ZA x,(Jz (WW x.heads) (JX (ZA x) []).1 (x.now+1)).1,w,by rw [hx];simp,?_,hget,hw,?_⟩
    · rw [hx,g2,ok.len];simp
    · rw [hnx];simp only;omega
   ·
    left
    have hmin:QC x.batch x.queue.wait=x.batch.toNat:=by
     unfold QC at hpn ⊢
     split at hpn
     · omega
     · rename_i hh;rw [if_neg hh]
    have hpb:x.batch.toNat≤p:=by omega
    refine ⟨p-x.batch.toNat,a,?_,ha,?_,?_⟩
    · rw [hx];simp only;rw [hmin,List.getElem?_drop,show x.batch.toNat+(p-x.batch.toNat)=p by omega];exact h1
    ·
     intro q z hq hzz
     rw [hx] at hzz
     simp only at hzz
     rw [hmin,List.getElem?_drop] at hzz
     exact h2 _ z (by omega) hzz
    ·
     rw [hx];simp only
     rw [hz',h3]
     have hd:(((p-x.batch.toNat:Nat):Int)) / x.batch=(p:Int) / x.batch-1:=by
      have:(p:Int)=((p-x.batch.toNat:Nat):Int)+1*x.batch:=by omega
      rw [this,Int.add_mul_ediv_right _ _ (by omega)];omega
     rw [hd,show (p:Int) / x.batch-1+1=(p:Int) / x.batch by omega,Int.add_mul];omega
  ·
   left
   have hx:(KD x).1=⟨x.queue,x.batch,x.every,x.now+1,x.heads,x.books⟩:=by
    unfold KD
    rw [if_neg (by rw [Zj.2 ok];simp),if_neg (by rw [hc];simp),if_pos hz]
   have hr:(x.now+1) % x.every=x.now % x.every+1:=by
    rw [hms]
    split
    · rename_i hh;rw [JeU (by omega),hms,if_pos hh] at hz;exact absurd rfl hz
    · rfl
   exact ⟨p,a,by rw [hx];exact h1,ha,by rw [hx];exact h2,by rw [hx];simp only;rw [hr,h3];omega⟩
 ·
  right
  exact ⟨k,b,hd,v,by rw [hm',Hk (Hf.1 k2).1];exact k2,by rw [hmh,Hk (Hf.1 k3).1];exact k3,k4,k6,k5⟩
theorem Jpj {x:Kz} {nm:List UInt8} {S:List UInt8→Prop} {due:Int} (ok:W6 x) (h:JcK x nm S due) (hn:due≤x.now):Je0 x nm S due:=by
 rcases h with ⟨p,a,h1,_,h2,h3⟩ | h1
 ·
  exfalso
  have he:=ok.every;have hb:=ok.batch
  have m2:=Int.emod_lt_of_pos x.now (show 0<x.every by omega)
  have d0:0≤(p:Int) / x.batch:=Int.ediv_nonneg (by omega) (by omega)
  have p1:x.every≤((p:Int) / x.batch+1)*x.every:=by
   have:=Int.mul_le_mul_of_nonneg_right (show (1:Int)≤(p:Int) / x.batch+1 by omega) (show 0≤x.every by omega);omega
  omega
 · exact h1
def VC (t:JH):Prop:=∀ e∈t.events,e.kind=1→∃ (i m:Nat) (o:K9),e.who=(i:Int)∧e.n=(m:Int)∧t.town.owners[i]? = some o∧m<o.wanted.length∧JcK t.town.clerk o.name (fun v=>v∈o.wanted.drop m) e.at_
theorem Jjr {t u:JH} (h:VC t) (hc:u.town.clerk=t.town.clerk) (he:∀ e∈u.events,e.kind=1→e∈t.events)
  (ho:∀ (i:Nat) o,t.town.owners[i]? = some o→∃ o',u.town.owners[i]? = some o'∧o'.name=o.name∧o'.wanted=o.wanted):VC u:=fun e hm hk=>by
 obtain ⟨i,m,o,h1,h2,h3,h4,h5⟩:=h e (he e hm hk) hk
 obtain ⟨o',q1,q2,q3⟩:=ho i o h3
 exact ⟨i,m,o',h1,h2,q1,by rw [q3];exact h4,by rw [hc,q2,q3];exact h5⟩
theorem Jdp {t u:JH} (h:VC t) (hc:u.town.clerk=t.town.clerk) (he:∀ e∈u.events,e.kind=1→e∈t.events) (ho:u.town.owners=t.town.owners):VC u :=
 Jjr h hc he (fun i o q=>⟨o,by rw [ho];exact q,rfl,rfl⟩)
theorem d_send {t:JH} (h:VC t) (l:JQ):VC (Wi t l):=Jdp h rfl (fun _ q _=>q) rfl
theorem d_want {s:Kv} {t:JH} (h:VC t) (hI:Za s t) (hd:s.names.Nodup) (d:K6):VC (Wc t d):=by
 unfold Wc
 split
 · exact h
 rename_i h0
 split
 · exact h
 split
 · exact h
 ·
  rename_i h1 h2
  simp only [not_or,Bool.not_eq_false] at h1
  have hw:=Hj.1 h1.1
  have ha:=Hj.1 h2
  have hb:=VA.1 (by simpa using h0:W4 t d.who=true)
  have hg:=JaF (t:=t) (k:=d.who) (by omega)
  generalize hoo:Ju t d.who=ow at *
  have e1:=(Jc9 hw).2.2.2.1
  generalize hq:JO ow d.value=qq at *
  subst e1
  simp only at ha ⊢
  have hset:(t.town.owners.set d.who.toNat (⟨ow.name,ow.key,ow.head,ow.wanted++[d.value],ow.had⟩:K9))[d.who.toNat]? = some ⟨ow.name,ow.key,ow.head,ow.wanted++[d.value],ow.had⟩:=Hw (by omega)
  intro e hm hk
  simp only [Hp,Hi] at hm
  rcases hm with hm | rfl
  ·
   obtain ⟨i,m,o,q1,q2,q3,q4,q5⟩:=h e hm hk
   by_cases hi:d.who.toNat=i
   ·
    subst hi
    rw [hg] at q3
    obtain rfl:=Hm.inj q3
    refine ⟨_,m,_,q1,q2,hset,by simp only [Hb];omega,Jlw q5 ha (fun v hv=>?_) (fun _=>?_)⟩
    · simp only;rw [Hr (by omega)];exact Hp.2 (.inl hv)
    · simp only;rw [Hr (by omega)];simp
   ·
    refine ⟨i,m,o,q1,q2,by simp only;rw [HB hi];exact q3,q4,Jlw q5 ha (fun v hv=>hv) (fun hn=>?_)⟩
    simp only at hn
    have n1:=(hI.own _ _ hg).2.1
    have n2:=(hI.own _ _ q3).2.1
    rw [hn] at n1
    obtain ⟨l1,r1⟩:=Hf.1 n1
    obtain ⟨l2,r2⟩:=Hf.1 n2
    exact absurd ((List.getElem_inj hd).1 (r1.trans r2.symm)) hi
  · exact ⟨d.who.toNat,ow.wanted.length,_,by simp only;omega,rfl,hset,by simp,JmG (S:=fun v=>v∈(ow.wanted++[d.value]).drop ow.wanted.length) ha (by simp)⟩
theorem d_see {s:Kv} {t:JH} (h:VC t) (hI:Za s t) {l:JQ} (h0:0≤l.to_) (h1:l.to_<t.town.owners.length):VC (ZE t l):=by
 refine Jjr h rfl (fun e q hk=>?_) (fun i o ho=>?_)
 ·
  unfold ZE at q
  simp only [Hp,Hi] at q
  rcases q with q | rfl
  · exact q
  · cases hk
 ·
  have hg:=JaF (t:=t) (k:=l.to_) (by omega)
  by_cases hi:l.to_.toNat=i
  ·
   subst hi
   rw [hg] at ho
   obtain rfl:=Hm.inj ho
   obtain ⟨_,k2,_,k4⟩:=JgP (l:=l.heads) (r:=l.reply) (hI.own _ _ hg).1
   exact ⟨_,Hw (by omega),k2,k4⟩
  · exact ⟨o,by unfold ZE;simp only;rw [HB hi];exact ho,rfl,rfl⟩
theorem Joy {t:JH} (h:VC t) (l:JQ):VC (Qn t l):=by
 unfold Qn
 split
 · exact h
 · exact d_send h _
theorem Joz {s:Kv} {t:JH} (h:VC t) (hI:Za s t) {l:JQ} (h1:l.to_<t.town.owners.length):VC (Z1 t l):=by
 unfold Z1
 split
 · exact Joy h l
 · exact d_see h hI (by omega) h1
theorem JgX {s:Kv}:∀ (l:List JQ) {t:JH},VC t→Za s t→(∀ x∈l,x.to_<t.town.owners.length)→VC (W9 t l)
 | [],_,h,_,_=>h
 | x::l,t,h,hI,hl=>JgX l (Joz h hI (hl x (by simp))) (Ji0 hI (hl x (by simp))) (fun y hy=>by rw [(JfG t x).own];exact hl y (by simp [hy]))
theorem d_ask {t:JH} (h:VC t) (k:Int):VC (Zs t k):=by
 have hs:VC (JaE t k):=Jdp h rfl (fun _ q _=>q) rfl
 unfold Zs
 split
 · exact h
 split
 ·
  refine Jdp hs rfl (fun e q hk=>?_) rfl
  simp only [Hp,Hi] at q
  rcases q with q | rfl
  · exact q
  · cases hk
 · exact hs
theorem JoA {t:JH} (h:VC t):∀ n,VC (Jbu t n)
 | 0=>h
 | n+1=>by rw [← Vz];exact d_ask (JoA h n) _
theorem d_tick {s:Kv} {t:JH} (h:VC t) (hI:Za s t) (hw:WC t):VC (Wu t):=by
 unfold Wu
 split
 · exact h
 ·
  rename_i h1
  refine JoA (JgX _ (fun e hm hk=>?_) (Jlh hI h1) (fun x hx=>hw x (Jdi hx))) _
  obtain ⟨i,m,o,q1,q2,q3,q4,q5⟩:=h e hm hk
  exact ⟨i,m,o,q1,q2,q3,q4,Jox hI.clerk q5 h1⟩
theorem d_do {s:Kv} {t:JH} (h:VC t) (hI:Za s t) (hw:WC t) (hd:s.names.Nodup) (d:K6):VC (YJ t d):=by
 unfold YJ
 split
 · exact d_want h hI hd d
 split
 · exact Jdp h rfl (fun _ q _=>q) rfl
 split
 ·
  unfold JfF
  split
  · exact h
  · exact Jdp h rfl (fun _ q _=>q) rfl
 split
 · exact d_tick h hI hw
 · exact h
theorem d_dos {s:Kv} (hd:s.names.Nodup):∀ (l:List K6) {t:JH},VC t→Za s t→WC t→VC (JaP t l)
 | [],_,h,_,_=>h
 | d::l,_,h,hI,hw=>d_dos hd l (d_do h hI hw hd d) (i_do hI hw d) (w_do hw d)
theorem Jkx {s:Kv} {l:List K6} (h:(Jr s l).2.2=0) {e:VR} (he:e∈(Jr s l).2.1) (hk:e.kind=1) (ha:e.at_≤(Jr s l).1.clerk.now) :
  ∃ (i m:Nat) (o:K9),e.who=(i:Int)∧e.n=(m:Int)∧(Jr s l).1.owners[i]? = some o∧m<o.wanted.length∧(∀ b∈(Jr s l).1.clerk.books,(KX b o.name).2.2=0)∧(Jr s l).1.clerk.books.length=(Jr s l).1.clerk.heads.length∧Je0 (Jr s l).1.clerk o.name (fun v=>v∈o.wanted.drop m) e.at_:=by
 obtain ⟨h1,h2,h3⟩:=JeV h
 obtain ⟨b1,b2,b3,b4⟩:=JaG h1
 have hi:=Jn7 l b1 b2
 have hd:=d_dos ((JhH _ _ (VB h1).2.2.1).2.1) l (t:=Qw s) (fun e he=>by simp [Qw] at he) b1 b2
 rw [h3] at he ha ⊢
 obtain ⟨i,m,o,q1,q2,q3,q4,q5⟩:=hd e he hk
 refine ⟨i,m,o,q1,q2,q3,q4,fun b hb=>?_,hi.clerk.len,Jpj hi.clerk q5 ha⟩
 obtain ⟨kb,hb⟩:=Hz hb
 have hT:=hi.clerk.book hb
 have hp:=(K5.1 (hi.own i o q3).1).1
 by_cases hx:∃ x∈b,x.name=o.name
 ·
  obtain ⟨x,hx,e⟩:=hx
  have:=Jfn hT hx (by rw [e];exact hp)
  rw [← e,this]
 · rw [JjV hT hp (fun y hy e=>hx ⟨y,hy,e⟩)]
theorem Jjs:WV [[111,119,110,101,114,32,97,32,55],[119,97,110,116,32,48,32,120],[116,105,99,107,32,53],[108,111,111,107,32,97,32,49]]=([[111,107],[111,107],[111,107],[111,107,32,43,32,120]],0):=by decide +kernel
def DHit (c:Kz) (nm:List UInt8) (w:List (List UInt8)) (due:Int) (k:Nat):Prop:=∃ b h v,c.books[k]? = some b∧c.heads[k]? = some h∧KX b nm=(v,true,0)∧v∈w∧h.at_≤due
theorem Jd3 {c:Kz} {nm:List UInt8} {w:List (List UInt8)} {due:Int} {k:Nat} {b:List J2} {h:JU} {had r:Bool} (H:had=false→∀ j,j<k→¬ DHit c nm w due j) (hb:c.books[k]? = some b) (hh:c.heads[k]? = some h)
  (hr:r=false→had=false∧(h.at_≤due→(KX b nm).2.1=true→(w.any fun x=>decide ((KX b nm).1=x))=false)):r=false→∀ j,j<k+1→¬ DHit c nm w due j:=fun e j hj=>by
 obtain ⟨q1,q2⟩:=hr e
 by_cases hjk:j=k
 ·
  subst hjk
  rintro ⟨b',h',v,p1,p2,p3,p4,p5⟩
  obtain rfl:=Hm.inj (hb.symm.trans p1)
  obtain rfl:=Hm.inj (hh.symm.trans p2)
  have:=List.any_eq_false.1 (q2 p5 (by rw [p3])) v p4
  rw [p3] at this;simp at this
 · exact H q1 j (by omega)
theorem JoB {c:Kz} {nm:List UInt8} {w:List (List UInt8)} {due:Int} {k:Nat} {had:Bool} (H:had=false→∀ j,j<k→¬ DHit c nm w due j) (hk:c.heads.length≤k) (hd:Je0 c nm (fun v=>v∈w) due) (e:had=false):False:=by
 obtain ⟨j,b,h,v,p1,p2,p3,p4,p5⟩:=hd
 exact H e j (Nat.lt_of_lt_of_le (Hf.1 p2).1 hk) ⟨b,h,v,p1,p2,p3,p4,p5⟩
theorem JgY (G:J4)   :JaJ Tryz.prog 15 #[] G [] (fun u G' L'=>((0:Int)=0)∧u=Bo true∧L'=[]) (fun _ _ _=>False):=by
 refine YM Tryz.func15 15 [] rfl (fun w0 G0 hT=>Jg [0] [] (Jf (Jd (Kt 4 4 #[Sr ([111,119,110,101,114,32,97,32,55]),Sr ([119,97,110,116,32,48,32,120]),Sr ([116,105,99,107,32,53]),Sr ([108,111,111,107,32,97,32,49])] 9 (fun b1=>QZ (b:=b1) (o:=0) (cs:=[Sr ([111,119,110,101,114,32,97,32,55]),Sr ([119,97,110,116,32,48,32,120]),Sr ([116,105,99,107,32,53]),Sr ([108,111,111,107,32,97,32,49])]) 0 (fun G1 hl1 hz1=>?_))))))
 have hs1:RS ES G1 (At b1 0) 4 [[111,119,110,101,114,32,97,32,55],[119,97,110,116,32,48,32,120],[116,105,99,107,32,53],[108,111,111,107,32,97,32,49]]:=RS.lit [[Sr ([111,119,110,101,114,32,97,32,55])],[Sr ([119,97,110,116,32,48,32,120])],[Sr ([116,105,99,107,32,53])],[Sr ([108,111,111,107,32,97,32,49])]] [[111,119,110,101,114,32,97,32,55],[119,97,110,116,32,48,32,120],[116,105,99,107,32,53],[108,111,111,107,32,97,32,49]] ⟨⟨rfl,(Hc rfl)⟩,⟨⟨rfl,(Hc rfl)⟩,⟨⟨rfl,(Hc rfl)⟩,⟨⟨rfl,(Hc rfl)⟩,trivial⟩⟩⟩⟩ hz1 (Hc rfl) (Hc rfl)
 refine Jaf (Ls:=[]) (Lr:=[[]]) 5 hT ((Jow G1 (At b1 0) 4 ([[111,119,110,101,114,32,97,32,55],[119,97,110,116,32,48,32,120],[116,105,99,107,32,53],[108,111,111,107,32,97,32,49]]) hs1 (by simp) (by decide +kernel)).frame) (fun v G2 L1 hl2 hp=>?_)
 obtain ⟨_,a1,c1,rfl,hs2,rfl⟩:=hp
 refine Jc [0,0,0,0,0] [(1,Sl a1 (((WV ([[111,119,110,101,114,32,97,32,55],[119,97,110,116,32,48,32,120],[116,105,99,107,32,53],[108,111,111,107,32,97,32,49]])).1).length) c1),(2,I ((WV ([[111,119,110,101,114,32,97,32,55],[119,97,110,116,32,48,32,120],[116,105,99,107,32,53],[108,111,111,107,32,97,32,49]])).2))] (Je (Jb (Jf (Jd (Jc [0,0,0] [(10,Bo (decide ((WV ([[111,119,110,101,114,32,97,32,55],[119,97,110,116,32,48,32,120],[116,105,99,107,32,53],[108,111,111,107,32,97,32,49]])).2=0)))] (QY [10] (decide ((WV ([[111,119,110,101,114,32,97,32,55],[119,97,110,116,32,48,32,120],[116,105,99,107,32,53],[108,111,111,107,32,97,32,49]])).2=0)) (fun h1=>?_) (fun h1=>?_)))))))
 refine Jc [0] [(11,Sl a1 (((WV ([[111,119,110,101,114,32,97,32,55],[119,97,110,116,32,48,32,120],[116,105,99,107,32,53],[108,111,111,107,32,97,32,49]])).1).length) c1)] (Kt 12 4 #[Sr ([111,107]),Sr ([111,107]),Sr ([111,107]),Sr ([111,107,32,43,32,120])] 9 (fun b2=>QZ (b:=b2) (o:=0) (cs:=[Sr ([111,107]),Sr ([111,107]),Sr ([111,107]),Sr ([111,107,32,43,32,120])]) 0 (fun G3 hl3 hz2=>?_)))
 have hs3:RS ES G3 (At b2 0) 4 [[111,107],[111,107],[111,107],[111,107,32,43,32,120]]:=RS.lit [[Sr ([111,107])],[Sr ([111,107])],[Sr ([111,107])],[Sr ([111,107,32,43,32,120])]] [[111,107],[111,107],[111,107],[111,107,32,43,32,120]] ⟨⟨rfl,(Hc rfl)⟩,⟨⟨rfl,(Hc rfl)⟩,⟨⟨rfl,(Hc rfl)⟩,⟨⟨rfl,(Hc rfl)⟩,trivial⟩⟩⟩⟩ hz2 (Hc rfl) (Hc rfl)
 refine Jm 13 (Bo (decide ((WV ([[111,119,110,101,114,32,97,32,55],[119,97,110,116,32,48,32,120],[116,105,99,107,32,53],[108,111,111,107,32,97,32,49]])).1=[[111,107],[111,107],[111,107],[111,107,32,43,32,120]]))) (seq_ES G3 a1 c1 ((WV ([[111,119,110,101,114,32,97,32,55],[119,97,110,116,32,48,32,120],[116,105,99,107,32,53],[108,111,111,107,32,97,32,49]])).1) (hs2.mono hl3) (At b2 0) 4 ([[111,107],[111,107],[111,107],[111,107,32,43,32,120]]) hs3) (Jc [0,0] [(0,Bo (decide ((WV ([[111,119,110,101,114,32,97,32,55],[119,97,110,116,32,48,32,120],[116,105,99,107,32,53],[108,111,111,107,32,97,32,49]])).1=[[111,107],[111,107],[111,107],[111,107,32,43,32,120]])))] (Je (Jb (Jn ?_))))
 have hf1:(0:Int)=0∧(decide ((WV ([[111,119,110,101,114,32,97,32,55],[119,97,110,116,32,48,32,120],[116,105,99,107,32,53],[108,111,111,107,32,97,32,49]])).1=[[111,107],[111,107],[111,107],[111,107,32,43,32,120]]))=true:=by
  exact ⟨rfl,by rw [Jjs];rfl⟩
 refine Jo [0] [Bo (decide ((WV ([[111,119,110,101,114,32,97,32,55],[119,97,110,116,32,48,32,120],[116,105,99,107,32,53],[108,111,111,107,32,97,32,49]])).1=[[111,107],[111,107],[111,107],[111,107,32,43,32,120]]))] (bpx (JA [] (Ja (Ja hl1 hl2) hl3) ?_))
 rw [hf1.2]
 try dsimp only
 exact ⟨hf1.1,rfl,rfl⟩
 refine Jc [1,1,1,0,0] [(0,Bo false)] (Je (Jb (Jn ?_)))
 have hf2:(0:Int)=0∧false=true:=by
  exact absurd (by rw [Jjs]) h1
 refine Jo [0] [Bo false] (bpx (JA [] (Ja hl1 hl2) ?_))
 rw [hf2.2]
 try dsimp only
 exact ⟨hf2.1,rfl,rfl⟩
set_option maxRecDepth 20000 in
theorem Jky (G:J4)  (vs_s:List Value) (s:Kv) (h_s:JdF.R G vs_s s) (a_l:Option Addr) (c_l:Nat) (l:List K6) (h_l:RS WO G a_l c_l l) (hf_l:l.length*208≤140737488351232):JaJ Tryz.prog 6 #[.agg vs_s.toArray,Sl a_l l.length c_l] G [] (fun u G' L'=>((0:Int)=0)∧u=Bo true∧L'=[]) (fun _ _ _=>False):=by
 obtain ⟨a1,c1,a2,c2,rfl,hs1,hs2,w1,w2,w3,w4,w5,w6,w7⟩:=h_s
 refine YM Tryz.func6 131 [(0,(Yz s a1 c1 a2 c2)),(1,Sl a_l l.length c_l)] rfl (fun w0 G0 hT=>Jf (Jd (Jv 2 #[Sl a1 s.names.length c1,Sl a2 s.keys.length c2,I s.most,I s.batch,I s.every,I s.least,I s.top,I s.lost,I s.reach] 72 (fun b1=>Jc [0] [] (Je (Jb (Jf (Jd (Jc [2,0] [(19,(Yz s a1 c1 a2 c2)),(20,Sl a_l l.length c_l)] (JI 21 (Jmu G (QJ s a1 c1 a2 c2) s (⟨a1,c1,a2,c2,rfl,hs1,hs2,w1,w2,w3,w4,w5,w6,w7⟩) a_l c_l l h_l) (fun v G1 L1 hl1 hp=>?_)))))))))))
 obtain ⟨a3,c3,a4,c4,a5,c5,a6,c6,a7,c7,a8,c8,a9,c9,rfl,_,_,_,_,_,hs4,hs5,hs6,_,_,_,hs9,rfl⟩:=hp
 refine Jc [0,0,0,0] [(22,(Y8 (Jr s l).1 a3 c3 a4 c4 a5 c5 a6 c6 a7 c7 a8 c8)),(23,Sl a9 (((Jr s l).2.1).length) c9),(24,I ((Jr s l).2.2))] (Jv 5 #[I 0,Sl none 0 0,I 0,I 0,I 0,Sl none 0 0,Sl none 0 0,Sl none 0 0,Sl none 0 0,I 0,Sl none 0 0] 67 (fun b2=>JV [3,0,0] [(6,Sl a9 (((Jr s l).2.1).length) c9),(7,I ((Jr s l).2.2))] [[Sg b2 0 (Zq (Jr s l).1 a3 c3 a4 c4 a5 c5 a6 c6 a7 c7 a8 c8)],[Sg b1 0 (QJ s a1 c1 a2 c2)]] (Je (Jb (Jf (Jf (Jd (Jaf (Ls:=[]) (Lr:=[[Sg b2 0 (Zq (Jr s l).1 a3 c3 a4 c4 a5 c5 a6 c6 a7 c7 a8 c8)],[Sg b1 0 (QJ s a1 c1 a2 c2)]]) 25 hT ((JgY G1).frame) (fun v G2 L1 hl2 hp=>?_)))))))))
 obtain ⟨_,rfl,rfl⟩:=hp
 refine Jc [0,0,0,0,0] [(30,Bo (!decide ((Jr s l).2.2=0)))] (Je (Jb (Jl (!decide ((Jr s l).2.2=0)) (fun h1=>?_) (fun h1=>?_))))
 refine Jf (Jd (Jaf (Ls:=[]) (Lr:=[[Sg b2 0 (Zq (Jr s l).1 a3 c3 a4 c4 a5 c5 a6 c6 a7 c7 a8 c8)],[Sg b1 0 (QJ s a1 c1 a2 c2)]]) 31 hT ((JgY G2).frame) (fun v G3 L1 hl3 hp=>?_)))
 obtain ⟨_,rfl,rfl⟩:=hp
 refine Jc [0] [(4,Bo true)] (Je (Jb (Jn (Jj ?_))))
 have hf1:(0:Int)=0∧true=true:=by
  exact ⟨rfl,rfl⟩
 refine Jo [0] [Bo true] (bpx (JA [] (Ja (Ja hl1 hl2) hl3) ?_))
 rw [hf1.2]
 try dsimp only
 exact ⟨hf1.1,rfl,rfl⟩
 refine Jq (Jb (Jf (Jd (Jc [0,2] [(33,(Qt (Jr s l).1.clerk a3 c3 a4 c4 a5 c5))] (Jv 8 #[I 0,Sl none 0 0,I 0,I 0,I 0,Sl none 0 0,Sl none 0 0] 60 (fun b3=>JV [3] [] [[Sg b3 0 (KB (Jr s l).1.clerk a3 c3 a4 c4 a5 c5)],[Sg b2 0 (Zq (Jr s l).1 a3 c3 a4 c4 a5 c5 a6 c6 a7 c7 a8 c8)],[Sg b1 0 (QJ s a1 c1 a2 c2)]] (Je (Jb (Jf (Jg [0,0,0] [(34,Sl a9 (((Jr s l).2.1).length) c9),(35,I (((Jr s l).2.1).length:Int)),(36,I 0)] (Jy ?_)))))))))))
 have hlm_hs9:((Jr s l).2.1).length≤9223372036854775807:=Hn (hs9).le (hs9).max
 refine Qh (σ:=Nat×J4) (fun q_=>(J4.le G2 q_.2)∧(q_.1≤((Jr s l).2.1).length)) (fun q_=>[(5,Pt b2 0),(8,Pt b3 0),(34,Sl a9 (((Jr s l).2.1).length) c9),(35,I (((Jr s l).2.1).length:Int)),(36,I (q_.1:Int))]) (fun q_=>q_.2) (fun q_=>[[Sg b3 0 (KB (Jr s l).1.clerk a3 c3 a4 c4 a5 c5)],[Sg b2 0 (Zq (Jr s l).1 a3 c3 a4 c4 a5 c5 a6 c6 a7 c7 a8 c8)],[Sg b1 0 (QJ s a1 c1 a2 c2)]]) (fun q_=>((Jr s l).2.1).length-q_.1) (0,G2) ⟨(Jh _),(by (try dsimp only);exact Nat.zero_le _)⟩ (fun q_ hs=>?_)
 obtain ⟨i,g⟩:=q_
 obtain ⟨hle,hi⟩:=hs
 dsimp only at hle hi
 dsimp only
 refine Jg [0] [(37,Bo (decide ((i:Int)<(((Jr s l).2.1).length:Int))))] (Jf (Jl (decide ((i:Int)<(((Jr s l).2.1).length:Int))) (fun h2=>?_) (fun h2=>?_)))
 refine Jq (Jb (Jf (Jy (Jf (Jd ?_)))))
 obtain ⟨b4,o1,rfl⟩:=RS.addr (hs9.mono (Ja hl2 hle)) (k:=i) (by omega)
 obtain ⟨x1,hx1⟩:=Wf (l:=(Jr s l).2.1) (k:=i) (by omega)
 obtain ⟨_,⟨rfl,_,_,_,_⟩,hc1⟩:=RS.get (hs9.mono (Ja hl2 hle)) hx1
 refine J5 (b:=b4) (off:=o1) (len:=((Jr s l).2.1).length) (cap:=c9) (ik:=.i64) 38 74 4 i J8 (JZ 39 74 (cs:=[I x1.kind,I x1.who,I x1.n,I x1.at_]) 0 (.agg #[I x1.kind,I x1.who,I x1.n,I x1.at_]) hc1 (Jv 10 #[I 0,I 0,I 0,I 0] 74 (fun b5=>JV [3] [] [[Sg b5 0 [I x1.kind,I x1.who,I x1.n,I x1.at_]],[Sg b3 0 (KB (Jr s l).1.clerk a3 c3 a4 c4 a5 c5)],[Sg b2 0 (Zq (Jr s l).1 a3 c3 a4 c4 a5 c5 a6 c6 a7 c7 a8 c8)],[Sg b1 0 (QJ s a1 c1 a2 c2)]] (Je (Jb (Jf (Jf (Jd (Jc [0,2,0,0] [(43,Bo (!decide (x1.kind=1)))] (Ks (!decide (x1.kind=1)) [43] [1,1,1,1,1,0] [0,2,0,4,0,0] (fun bb=>[(49,Bo (bb || (decide (x1.at_ > ((Jr s l).1).clerk.now))))]) (Je (Jb (Jl ((!decide (x1.kind=1)) || (decide (x1.at_ > ((Jr s l).1).clerk.now))) (fun h3=>?_) (fun h3=>?_))))))))))))))
 exact KW (JY (JT (Jb (Jd (Jc [0,0] [(36,I (Hl.wrap ((i:Int)+1)))] (Kr 36 ((i:Int)+1) J8 (Je (Qr [[Sg b3 0 (KB (Jr s l).1.clerk a3 c3 a4 c4 a5 c5)],[Sg b2 0 (Zq (Jr s l).1 a3 c3 a4 c4 a5 c5 a6 c6 a7 c7 a8 c8)],[Sg b1 0 (QJ s a1 c1 a2 c2)]] (Qi (i+1,g) ⟨(Ja hle (Jh _)),J8⟩ (by (try dsimp only);omega))))))))))
 refine Jq (Jb (Jf ?_))
 obtain ⟨n1_,n2_,o_,d1_,d2_,d3_,d4_,d5_,d8_,d6_⟩:=Jkx ‹_› (Hg hx1) J8 (by omega)
 have d7_:=(Hf.1 d3_).1
 have e1:x1.who=(n1_:Int):=d1_
 refine Ja5 (L':=[[Sg b5 0 [I x1.kind,I (n1_:Int),I x1.n,I x1.at_]],[Sg b3 0 [I (((Jr s l).1).clerk.queue.most),Sl a3 ((((Jr s l).1).clerk.queue.wait).length) c3,I (((Jr s l).1).clerk.batch),I (((Jr s l).1).clerk.every),I (((Jr s l).1).clerk.now),Sl a4 ((((Jr s l).1).clerk.heads).length) c4,Sl a5 ((((Jr s l).1).clerk.books).length) c5]],[Sg b2 0 [I (((Jr s l).1).clerk.queue.most),Sl a3 ((((Jr s l).1).clerk.queue.wait).length) c3,I (((Jr s l).1).clerk.batch),I (((Jr s l).1).clerk.every),I (((Jr s l).1).clerk.now),Sl a4 ((((Jr s l).1).clerk.heads).length) c4,Sl a5 ((((Jr s l).1).clerk.books).length) c5,Sl a6 ((((Jr s l).1).owners).length) c6,Sl a7 ((((Jr s l).1).polls).length) c7,I (((Jr s l).1).net.now),Sl a8 ((((Jr s l).1).net.way).length) c8]],[Sg b1 0 [Sl a1 s.names.length c1,Sl a2 s.keys.length c2,I s.most,I s.batch,I s.every,I s.least,I s.top,I s.lost,I s.reach]]]) (by (simp only [KB,KH,QJ,Zq,Qt,Ky,Yz,Y8,e1];first | done | rfl)) ?_
 have e2:x1.n=(n2_:Int):=d2_
 refine Ja5 (L':=[[Sg b5 0 [I x1.kind,I (n1_:Int),I (n2_:Int),I x1.at_]],[Sg b3 0 [I (((Jr s l).1).clerk.queue.most),Sl a3 ((((Jr s l).1).clerk.queue.wait).length) c3,I (((Jr s l).1).clerk.batch),I (((Jr s l).1).clerk.every),I (((Jr s l).1).clerk.now),Sl a4 ((((Jr s l).1).clerk.heads).length) c4,Sl a5 ((((Jr s l).1).clerk.books).length) c5]],[Sg b2 0 [I (((Jr s l).1).clerk.queue.most),Sl a3 ((((Jr s l).1).clerk.queue.wait).length) c3,I (((Jr s l).1).clerk.batch),I (((Jr s l).1).clerk.every),I (((Jr s l).1).clerk.now),Sl a4 ((((Jr s l).1).clerk.heads).length) c4,Sl a5 ((((Jr s l).1).clerk.books).length) c5,Sl a6 ((((Jr s l).1).owners).length) c6,Sl a7 ((((Jr s l).1).polls).length) c7,I (((Jr s l).1).net.now),Sl a8 ((((Jr s l).1).net.way).length) c8]],[Sg b1 0 [Sl a1 s.names.length c1,Sl a2 s.keys.length c2,I s.most,I s.batch,I s.every,I s.least,I s.top,I s.lost,I s.reach]]]) (by (simp only [KB,KH,QJ,Zq,Qt,Ky,Yz,Y8,e2];first | done | rfl)) (Jf ?_)
 rcases Hq (decide ((n1_:Int)<0)) with h4 | h4
 have h4d:=h4
 try simp only [BB] at h4d
 refine Kp [] (Wl [(0,Pt b5 1),(1,I (n1_:Int)),(2,Bo true),(3,Bo true),(4,undef),(5,undef),(6,undef),(7,undef),(8,undef),(9,undef),(10,Bo true),(11,Bo true),(12,undef),(13,undef),(14,undef),(15,Bo true),(16,Bo true),(17,undef),(18,undef),(19,undef),(20,undef),(21,undef),(22,undef),(23,undef),(24,undef),(25,undef),(26,undef),(27,undef),(28,Bo true)] (Km [] [(0,0),(1,2),(3,0),(4,1),(5,1),(6,1),(7,1),(8,1),(9,1),(10,0),(11,0),(12,1),(13,1),(14,1),(15,0),(16,0),(17,1),(18,1),(19,1),(20,1),(21,1),(22,1),(23,1),(24,1),(25,1),(26,1),(27,1),(28,0)] [2] [(5,Pt b2 0),(8,Pt b3 0),(10,Pt b5 0),(34,Sl (At b4 o1) (((Jr s l).2.1).length) c9),(35,I (((Jr s l).2.1).length:Int)),(36,I (i:Int)),(78,Bo true)] (Ki ?_ K8) ?_))
 refine Jt 2 52 (Bo true) [(51,I (n1_:Int))] (fun X=>?_)
 exact KV 52 (Bo (decide ((n1_:Int)<0))) (Bo true) (by rw [h4]) Jp
 refine Jb (JW (Jg [0] [(4,Bo false)] (Jn (Jj (Js (Jj (Qj (Js (Jj ?_)))))))))
 have hf2:(0:Int)=0∧false=true:=by
  (exfalso;omega)
 refine Jo [0] [Bo false] (bpx (JA [] (Ja (Ja hl1 hl2) hle) ?_))
 rw [hf2.2]
 try dsimp only
 exact ⟨hf2.1,rfl,rfl⟩
 have h4d:=h4
 try simp only [BB] at h4d
 rcases Hq (decide ((n1_:Int) ≥ ((((Jr s l).1).owners).length:Int))) with h5 | h5
 have h5d:=h5
 try simp only [BB] at h5d
 refine Kp [] (Wl [(0,Pt b5 1),(1,I (n1_:Int)),(2,Bo false),(3,Bo false),(4,Pt b5 1),(5,I (n1_:Int)),(6,Pt b2 7),(7,Sl a6 ((((Jr s l).1).owners).length) c6),(8,I ((((Jr s l).1).owners).length:Int)),(9,Bo true),(10,Bo true),(11,Bo true),(12,undef),(13,undef),(14,undef),(15,Bo true),(16,Bo true),(17,undef),(18,undef),(19,undef),(20,undef),(21,undef),(22,undef),(23,undef),(24,undef),(25,undef),(26,undef),(27,undef),(28,Bo true)] (Km [] [(0,0),(1,2),(3,0),(4,0),(5,2),(6,0),(7,6),(8,0),(10,0),(11,0),(12,1),(13,1),(14,1),(15,0),(16,0),(17,1),(18,1),(19,1),(20,1),(21,1),(22,1),(23,1),(24,1),(25,1),(26,1),(27,1),(28,0)] [2,9] [(5,Pt b2 0),(8,Pt b3 0),(10,Pt b5 0),(34,Sl (At b4 o1) (((Jr s l).2.1).length) c9),(35,I (((Jr s l).2.1).length:Int)),(36,I (i:Int)),(78,Bo true)] (Ki ?_ (Ki ?_ K8)) ?_))
 refine Jt 2 52 (Bo false) [(51,I (n1_:Int))] (fun X=>?_)
 exact KV 52 (Bo (decide ((n1_:Int)<0))) (Bo false) (by rw [h4]) Jp
 refine Jt 9 59 (Bo true) [(53,Bo false),(55,I (n1_:Int)),(58,I ((((Jr s l).1).owners).length:Int))] (fun X=>?_)
 exact KV 59 (Bo (decide ((n1_:Int) ≥ ((((Jr s l).1).owners).length:Int)))) (Bo true) (by rw [h5]) Jp
 refine Jb (JW (Jg [0] [(4,Bo false)] (Jn (Jj (Js (Jj (Qj (Js (Jj ?_)))))))))
 have hf3:(0:Int)=0∧false=true:=by
  (exfalso;omega)
 refine Jo [0] [Bo false] (bpx (JA [] (Ja (Ja hl1 hl2) hle) ?_))
 rw [hf3.2]
 try dsimp only
 exact ⟨hf3.1,rfl,rfl⟩
 have h5d:=h5
 try simp only [BB] at h5d
 rcases Hq (decide ((n2_:Int)<0)) with h6 | h6
 have h6d:=h6
 try simp only [BB] at h6d
 refine Kp [] (Wl [(0,Pt b5 1),(1,I (n1_:Int)),(2,Bo false),(3,Bo false),(4,Pt b5 1),(5,I (n1_:Int)),(6,Pt b2 7),(7,Sl a6 ((((Jr s l).1).owners).length) c6),(8,I ((((Jr s l).1).owners).length:Int)),(9,Bo false),(10,Bo false),(11,Bo false),(12,Pt b5 2),(13,I (n2_:Int)),(14,Bo true),(15,Bo true),(16,Bo true),(17,undef),(18,undef),(19,undef),(20,undef),(21,undef),(22,undef),(23,undef),(24,undef),(25,undef),(26,undef),(27,undef),(28,Bo true)] (Km [] [(0,0),(1,2),(3,0),(4,0),(5,2),(6,0),(7,6),(8,0),(10,0),(11,0),(12,0),(13,2),(15,0),(16,0),(17,1),(18,1),(19,1),(20,1),(21,1),(22,1),(23,1),(24,1),(25,1),(26,1),(27,1),(28,0)] [2,9,14] [(5,Pt b2 0),(8,Pt b3 0),(10,Pt b5 0),(34,Sl (At b4 o1) (((Jr s l).2.1).length) c9),(35,I (((Jr s l).2.1).length:Int)),(36,I (i:Int)),(78,Bo true)] (Ki ?_ (Ki ?_ (Ki ?_ K8))) ?_))
 refine Jt 2 52 (Bo false) [(51,I (n1_:Int))] (fun X=>?_)
 exact KV 52 (Bo (decide ((n1_:Int)<0))) (Bo false) (by rw [h4]) Jp
 refine Jt 9 59 (Bo false) [(53,Bo false),(55,I (n1_:Int)),(58,I ((((Jr s l).1).owners).length:Int))] (fun X=>?_)
 exact KV 59 (Bo (decide ((n1_:Int) ≥ ((((Jr s l).1).owners).length:Int)))) (Bo false) (by rw [h5]) Jp
 refine Jt 14 64 (Bo true) [(61,Bo false),(63,I (n2_:Int))] (fun X=>?_)
 exact KV 64 (Bo (decide ((n2_:Int)<0))) (Bo true) (by rw [h6]) Jp
 refine Jb (JW (Jg [0] [(4,Bo false)] (Jn (Jj (Js (Jj (Qj (Js (Jj ?_)))))))))
 have hf4:(0:Int)=0∧false=true:=by
  (exfalso;omega)
 refine Jo [0] [Bo false] (bpx (JA [] (Ja (Ja hl1 hl2) hle) ?_))
 rw [hf4.2]
 try dsimp only
 exact ⟨hf4.1,rfl,rfl⟩
 have h6d:=h6
 try simp only [BB] at h6d
 obtain ⟨b6,o2,rfl⟩:=RS.addr (hs6.mono (Ja hl2 hle)) (k:=n1_) (by omega)
 obtain ⟨x2,hx2⟩:=Wf (l:=((Jr s l).1).owners) (k:=n1_) (by omega)
 obtain ⟨_,⟨a10,c10,rfl,w17,_,_,_,_,_,hs10,_⟩,hc2⟩:=RS.get (hs6.mono (Ja hl2 hle)) hx2
 refine Kp [] (Wl [(0,Pt b5 1),(1,I (n1_:Int)),(2,Bo false),(3,Bo false),(4,Pt b5 1),(5,I (n1_:Int)),(6,Pt b2 7),(7,Sl (At b6 o2) ((((Jr s l).1).owners).length) c6),(8,I ((((Jr s l).1).owners).length:Int)),(9,Bo false),(10,Bo false),(11,Bo false),(12,Pt b5 2),(13,I (n2_:Int)),(14,Bo false),(15,Bo false),(16,Bo false),(17,Pt b5 2),(18,I (n2_:Int)),(19,Pt b2 7),(20,Sl (At b6 o2) ((((Jr s l).1).owners).length) c6),(21,Pt b5 1),(22,I (n1_:Int)),(23,Pt b6 (o2+n1_*8)),(24,Pt b6 (o2+n1_*8+6)),(25,Sl a10 x2.wanted.length c10),(26,I (x2.wanted.length:Int)),(27,Bo (decide ((n2_:Int) ≥ (x2.wanted.length:Int)))),(28,Bo (decide ((n2_:Int) ≥ (x2.wanted.length:Int))))] (Km [] [(0,0),(1,2),(3,0),(4,0),(5,2),(6,0),(7,6),(8,0),(10,0),(11,0),(12,0),(13,2),(15,0),(16,0),(17,0),(18,2),(19,0),(20,6),(21,0),(22,2),(24,0),(26,0),(27,0),(28,0)] [2,9,14,23,25] [(5,Pt b2 0),(8,Pt b3 0),(10,Pt b5 0),(34,Sl (At b4 o1) (((Jr s l).2.1).length) c9),(35,I (((Jr s l).2.1).length:Int)),(36,I (i:Int)),(78,Bo (decide ((n2_:Int) ≥ (x2.wanted.length:Int))))] (Ki ?_ (Ki ?_ (Ki ?_ (Ki ?_ (Ki ?_ K8))))) ?_))
 refine Jt 2 52 (Bo false) [(51,I (n1_:Int))] (fun X=>?_)
 exact KV 52 (Bo (decide ((n1_:Int)<0))) (Bo false) (by rw [h4]) Jp
 refine Jt 9 59 (Bo false) [(53,Bo false),(55,I (n1_:Int)),(58,I ((((Jr s l).1).owners).length:Int))] (fun X=>?_)
 exact KV 59 (Bo (decide ((n1_:Int) ≥ ((((Jr s l).1).owners).length:Int)))) (Bo false) (by rw [h5]) Jp
 refine Jt 14 64 (Bo false) [(61,Bo false),(63,I (n2_:Int))] (fun X=>?_)
 exact KV 64 (Bo (decide ((n2_:Int)<0))) (Bo false) (by rw [h6]) Jp
 refine Jt 23 73 (Pt b6 (o2+n1_*8)) [(66,Bo false),(70,Sl (At b6 o2) ((((Jr s l).1).owners).length) c6),(72,I (n1_:Int))] (fun X=>?_)
 exact J5 (b:=b6) (off:=o2) (len:=(((Jr s l).1).owners).length) (cap:=c6) (ik:=.i64) 73 76 8 n1_ J8 Jp
 refine Jt 25 75 (Sl a10 x2.wanted.length c10) [(66,Bo false),(74,Pt b6 (o2+n1_*8+6))] (fun X=>?_)
 exact JZ 75 22 (cs:=(KH x2 a10 c10)) 6 (Sl a10 x2.wanted.length c10) hc2 Jp
 refine Jb (Jl (decide ((n2_:Int) ≥ (x2.wanted.length:Int))) (fun h7=>?_) (fun h7=>?_))
 refine Jg [0] [(4,Bo false)] (Jn (Jj (Js (Jj (Qj (Js (Jj ?_)))))))
 have hf5:(0:Int)=0∧false=true:=by
  (exfalso;obtain rfl:=Hm.inj (hx2.symm.trans d3_);omega)
 refine Jo [0] [Bo false] (bpx (JA [] (Ja (Ja hl1 hl2) hle) ?_))
 rw [hf5.2]
 try dsimp only
 exact ⟨hf5.1,rfl,rfl⟩
 refine Jq (Jb ?_)
 obtain rfl:=Hm.inj (hx2.symm.trans d3_)
 refine Jf (Jd (Jc [0,6,0,2] [(80,Sl (At b6 o2) ((((Jr s l).1).owners).length) c6),(82,I (n1_:Int))] (J5 (b:=b6) (off:=o2) (len:=(((Jr s l).1).owners).length) (cap:=c6) (ik:=.i64) 83 76 8 n1_ J8 (JZ 84 76 (cs:=(KH x2 a10 c10)) 0 (Ky x2 a10 c10) hc2 (Jv 11 #[Sr ([]),U 0,I 0,U 0,U 0,I 0,Sl none 0 0,I 0] 76 (fun b7=>JV [3] [] [[Sg b7 0 (KH x2 a10 c10)],[Sg b5 0 [I x1.kind,I (n1_:Int),I (n2_:Int),I x1.at_]],[Sg b3 0 (KB (Jr s l).1.clerk a3 c3 a4 c4 a5 c5)],[Sg b2 0 (Zq (Jr s l).1 a3 c3 a4 c4 a5 c5 (At b6 o2) c6 a7 c7 a8 c8)],[Sg b1 0 (QJ s a1 c1 a2 c2)]] (Je (Jb (Jg [0] [(12,Bo false)] (Jf (Jg [0,6,0,0] [(86,Sl a4 ((((Jr s l).1).clerk.heads).length) c4),(87,I ((((Jr s l).1).clerk.heads).length:Int)),(88,I 0)] (Jy ?_))))))))))))
 have hlm_hs9:((Jr s l).2.1).length≤9223372036854775807:=Hn (hs9).le (hs9).max
 have hlm_hs4:(((Jr s l).1).clerk.heads).length≤9223372036854775807:=Hn (hs4).le (hs4).max
 refine Qh (σ:=Nat×Bool×J4) (fun q_=>(J4.le g q_.2.2)∧(q_.1≤(((Jr s l).1).clerk.heads).length)∧(q_.2.1=false→∀ j,j<q_.1→¬ DHit ((Jr s l).1.clerk) x2.name (x2.wanted.drop n2_) x1.at_ j)) (fun q_=>[(5,Pt b2 0),(8,Pt b3 0),(10,Pt b5 0),(11,Pt b7 0),(12,Bo q_.2.1),(34,Sl (At b4 o1) (((Jr s l).2.1).length) c9),(35,I (((Jr s l).2.1).length:Int)),(36,I (i:Int)),(86,Sl a4 ((((Jr s l).1).clerk.heads).length) c4),(87,I ((((Jr s l).1).clerk.heads).length:Int)),(88,I (q_.1:Int))]) (fun q_=>q_.2.2) (fun q_=>[[Sg b7 0 (KH x2 a10 c10)],[Sg b5 0 [I x1.kind,I (n1_:Int),I (n2_:Int),I x1.at_]],[Sg b3 0 (KB (Jr s l).1.clerk a3 c3 a4 c4 a5 c5)],[Sg b2 0 (Zq (Jr s l).1 a3 c3 a4 c4 a5 c5 (At b6 o2) c6 a7 c7 a8 c8)],[Sg b1 0 (QJ s a1 c1 a2 c2)]]) (fun q_=>(((Jr s l).1).clerk.heads).length-q_.1) (0,false,g) ⟨(Jh _),(by (try dsimp only);exact Nat.zero_le _),(fun _ j hj=>absurd hj J8)⟩ (fun q_ hs=>?_)
 obtain ⟨k,had,g1_⟩:=q_
 obtain ⟨hle1_,hi,hH⟩:=hs
 dsimp only at hle1_ hi hH
 dsimp only
 refine Jg [0] [(89,Bo (decide ((k:Int)<((((Jr s l).1).clerk.heads).length:Int))))] (Jf (Jl (decide ((k:Int)<((((Jr s l).1).clerk.heads).length:Int))) (fun h8=>?_) (fun h8=>?_)))
 refine Jq (Jb (Jf (Jy (Jf (Jd (Jc [0] [(90,I (k:Int))] ?_))))))
 obtain ⟨b8,o3,rfl⟩:=RS.addr (hs4.mono (Ja (Ja hl2 hle) hle1_)) (k:=k) (by omega)
 obtain ⟨x3,hx3⟩:=Wf (l:=((Jr s l).1).clerk.heads) (k:=k) (by omega)
 obtain ⟨_,⟨rfl,_,_,_,_⟩,hc3⟩:=RS.get (hs4.mono (Ja (Ja hl2 hle) hle1_)) hx3
 refine J5 (b:=b8) (off:=o3) (len:=(((Jr s l).1).clerk.heads).length) (cap:=c4) (ik:=.i64) 91 43 4 k J8 (JZ 92 43 (cs:=[I x3.epoch,U x3.root,U x3.prev,I x3.at_]) 0 (.agg #[I x3.epoch,U x3.root,U x3.prev,I x3.at_]) hc3 (Jv 14 #[I 0,U 0,U 0,I 0] 43 (fun b9=>JV [0,3] [(13,I (k:Int))] [[Sg b9 0 [I x3.epoch,U x3.root,U x3.prev,I x3.at_]],[Sg b7 0 (KH x2 a10 c10)],[Sg b5 0 [I x1.kind,I (n1_:Int),I (n2_:Int),I x1.at_]],[Sg b3 0 (KB (Jr s l).1.clerk a3 c3 (At b8 o3) c4 a5 c5)],[Sg b2 0 (Zq (Jr s l).1 a3 c3 (At b8 o3) c4 a5 c5 (At b6 o2) c6 a7 c7 a8 c8)],[Sg b1 0 (QJ s a1 c1 a2 c2)]] (Je (Jb (Jf ?_))))))
 obtain ⟨b10,o4,rfl⟩:=RS.addr (hs5.mono (Ja (Ja hl2 hle) hle1_)) (k:=k) (by omega)
 obtain ⟨x4,hx4⟩:=Wf (l:=((Jr s l).1).clerk.books) (k:=k) (by omega)
 obtain ⟨_,⟨a11,c11,rfl,hs11⟩,hc4⟩:=RS.get (hs5.mono (Ja (Ja hl2 hle) hle1_)) hx4
 refine Kp [7] (Wl [(0,Pt b3 6),(1,Sl (At b10 o4) ((((Jr s l).1).clerk.books).length) c5),(2,I (k:Int)),(3,Pt b10 (o4+k*1)),(4,Sl a11 x4.length c11),(5,Pt b7 0),(6,Sr x2.name)] (JK [] [(0,0),(1,8),(2,0),(5,0),(6,4)] [3,4] [7] (Ki ?_ (Ki ?_ K8)) (Ki ?_ K8)))
 refine Jt 3 97 (Pt b10 (o4+k*1)) [(95,Sl (At b10 o4) ((((Jr s l).1).clerk.books).length) c5),(96,I (k:Int))] (fun X=>?_)
 exact J5 (b:=b10) (off:=o4) (len:=(((Jr s l).1).clerk.books).length) (cap:=c5) (ik:=.i64) 97 44 1 k J8 Jp
 refine Jt 4 98 (Sl a11 x4.length c11) [(97,Pt b10 (o4+k*1))] (fun X=>?_)
 exact JZ 98 44 (cs:=[Sl a11 x4.length c11]) 0 (Sl a11 x4.length c11) hc4 Jp
 refine JC 7 [(98,Sl a11 x4.length c11),(100,Sr x2.name)] (fun X=>?_)
 refine JI 101 (Jef g1_ a11 c11 x4 hs11 x2.name w17) (fun v G4 L1 hl4 hp=>?_)
 obtain ⟨rfl,_,rfl⟩:=hp
 refine JD [(7,.tuple #[Sr ((KX x4 x2.name).1),Bo ((KX x4 x2.name).2.1),I ((KX x4 x2.name).2.2)]),(8,.tuple #[Sr ((KX x4 x2.name).1),Bo ((KX x4 x2.name).2.1),I ((KX x4 x2.name).2.2)]),(9,Sr ((KX x4 x2.name).1)),(10,Bo ((KX x4 x2.name).2.1)),(11,I ((KX x4 x2.name).2.2)),(12,Sr ((KX x4 x2.name).1)),(13,Bo ((KX x4 x2.name).2.1)),(14,I ((KX x4 x2.name).2.2))] (Km [0,1,2,3,4,5,6] [(8,0),(9,0),(10,0),(11,0),(12,0),(13,0),(14,0)] [] [(5,Pt b2 0),(8,Pt b3 0),(10,Pt b5 0),(11,Pt b7 0),(12,Bo had),(14,Pt b9 0),(15,Sr ((KX x4 x2.name).1)),(16,Bo ((KX x4 x2.name).2.1)),(17,I ((KX x4 x2.name).2.2)),(34,Sl (At b4 o1) (((Jr s l).2.1).length) c9),(35,I (((Jr s l).2.1).length:Int)),(36,I (i:Int)),(86,Sl (At b8 o3) ((((Jr s l).1).clerk.heads).length) c4),(87,I ((((Jr s l).1).clerk.heads).length:Int)),(88,I (k:Int))] (Ha _) (Jb (Jf (Jg [0,0] [(106,Bo (!decide ((KX x4 x2.name).2.2=0)))] (Jl (!decide ((KX x4 x2.name).2.2=0)) (fun h9=>?_) (fun h9=>?_))))))
 refine Jg [0] [(4,Bo false)] (Jn (Jj (Js (Jj (Qj (Js (Jj (Js (Jj (Qj (Js (Jj ?_))))))))))))
 have hf6:(0:Int)=0∧false=true:=by
  (exfalso;exact absurd (d5_ _ (Hg hx4)) ‹_›)
 refine Jo [0] [Bo false] (bpx (JA [] (Ja (Ja (Ja (Ja hl1 hl2) hle) hle1_) hl4) ?_))
 rw [hf6.2]
 try dsimp only
 exact ⟨hf6.1,rfl,rfl⟩
 refine Jq (Jb (Jd (Jc [0,0] [(108,Bo had)] (QY [12,108] had (fun h10=>?_) (fun h10=>?_)))))
 exact Jc [1,1,1,1,1,1,1,1,1,1,1,1,1,1,1,1,1,0,0] [(12,Bo true)] (Je (JN (Jb (Jd (Jc [0,0] [(88,I (Hl.wrap ((k:Int)+1)))] (Kr 88 ((k:Int)+1) J8 (Je (Qr [[Sg b7 0 (KH x2 a10 c10)],[Sg b5 0 [I x1.kind,I (n1_:Int),I (n2_:Int),I x1.at_]],[Sg b3 0 (KB (Jr s l).1.clerk a3 c3 (At b8 o3) c4 (At b10 o4) c5)],[Sg b2 0 (Zq (Jr s l).1 a3 c3 (At b8 o3) c4 (At b10 o4) c5 (At b6 o2) c6 a7 c7 a8 c8)],[Sg b1 0 (QJ s a1 c1 a2 c2)]] (Qi (k+1,true,G4) ⟨(Ja hle1_ hl4),J8,(by (try dsimp only);refine Jd3 hH hx4 hx3 ?_;intro q_;simp_all;done)⟩ (by (try dsimp only);omega))))))))))
 refine Jc [0,2,0,6,0,0] [(114,Bo (decide (x3.at_≤x1.at_)))] (Ks (decide (x3.at_≤x1.at_)) [114] [0,0] [1,0] (fun bb=>[(116,Bo (bb && ((KX x4 x2.name).2.1)))]) (Jc [0] [(117,Bo ((decide (x3.at_≤x1.at_)) && ((KX x4 x2.name).2.1)))] (QY [117] ((decide (x3.at_≤x1.at_)) && ((KX x4 x2.name).2.1)) (fun h11=>?_) (fun h11=>?_))))
 refine Jc [0,4,0,6] [(119,Sl a10 x2.wanted.length c10),(121,I (n2_:Int))] ?_
 obtain ⟨a12,c12,ea1,ec1,en1,eh1,hs12⟩:=RS.reslXD (hs10.mono (Ja hle1_ hl4)) n2_ (by omega)
 exact Wz (a:=a10) (len:=x2.wanted.length) (cap:=c10) 122 1 (some (I (n2_:Int))) none n2_ x2.wanted.length (.inr ⟨_,rfl⟩) (.inl ⟨rfl,rfl⟩) J8 ea1 ec1 en1 eh1 (Jc [0] [(123,Sr ((KX x4 x2.name).1))] (Jm 124 (Bo ((x2.wanted.drop n2_).any (fun x=>decide ((KX x4 x2.name).1=x)))) (JkX G4 a12 c12 (x2.wanted.drop n2_) hs12 ((KX x4 x2.name).1)) (Jc [0,0,0] [(12,Bo ((x2.wanted.drop n2_).any (fun x=>decide ((KX x4 x2.name).1=x))))] (Je (JN (Jb (Jd (Jc [0,0] [(88,I (Hl.wrap ((k:Int)+1)))] (Kr 88 ((k:Int)+1) J8 (Je (Qr [[Sg b7 0 (KH x2 a10 c10)],[Sg b5 0 [I x1.kind,I (n1_:Int),I (n2_:Int),I x1.at_]],[Sg b3 0 (KB (Jr s l).1.clerk a3 c3 (At b8 o3) c4 (At b10 o4) c5)],[Sg b2 0 (Zq (Jr s l).1 a3 c3 (At b8 o3) c4 (At b10 o4) c5 (At b6 o2) c6 a7 c7 a8 c8)],[Sg b1 0 (QJ s a1 c1 a2 c2)]] (Qi (k+1,(x2.wanted.drop n2_).any (fun x=>decide ((KX x4 x2.name).1=x)),G4) ⟨(Ja hle1_ hl4),J8,(by (try dsimp only);refine Jd3 hH hx4 hx3 ?_;intro q_;simp_all;done)⟩ (by (try dsimp only);omega)))))))))))))
 exact Jc [1,1,1,1,1,1,1,0,0,0] [(12,Bo false)] (Je (JN (Jb (Jd (Jc [0,0] [(88,I (Hl.wrap ((k:Int)+1)))] (Kr 88 ((k:Int)+1) J8 (Je (Qr [[Sg b7 0 (KH x2 a10 c10)],[Sg b5 0 [I x1.kind,I (n1_:Int),I (n2_:Int),I x1.at_]],[Sg b3 0 (KB (Jr s l).1.clerk a3 c3 (At b8 o3) c4 (At b10 o4) c5)],[Sg b2 0 (Zq (Jr s l).1 a3 c3 (At b8 o3) c4 (At b10 o4) c5 (At b6 o2) c6 a7 c7 a8 c8)],[Sg b1 0 (QJ s a1 c1 a2 c2)]] (Qi (k+1,false,G4) ⟨(Ja hle1_ hl4),J8,(by (try dsimp only);refine Jd3 hH hx4 hx3 ?_;intro q_;simp_all;done)⟩ (by (try dsimp only);omega))))))))))
 refine KW (JY (J9 (JT (Jb (Jg [0,0] [(129,Bo (!had))] (Jl (!had) (fun h12=>?_) (fun h12=>?_)))))))
 refine Jg [0] [(4,Bo false)] (Jn (Js (Jj (Qj (Js (Jj ?_))))))
 have hf7:(0:Int)=0∧false=true:=by
  (exfalso;exact JoB hH (by omega) d6_ ‹_›)
 refine Jo [0] [Bo false] (bpx (JA [] (Ja (Ja (Ja hl1 hl2) hle) hle1_) ?_))
 rw [hf7.2]
 try dsimp only
 exact ⟨hf7.1,rfl,rfl⟩
 exact Jq (JN (Jb (Jd (Jc [0,0] [(36,I (Hl.wrap ((i:Int)+1)))] (Kr 36 ((i:Int)+1) J8 (Je (Qr [[Sg b3 0 (KB (Jr s l).1.clerk a3 c3 a4 c4 a5 c5)],[Sg b2 0 (Zq (Jr s l).1 a3 c3 a4 c4 a5 c5 (At b6 o2) c6 a7 c7 a8 c8)],[Sg b1 0 (QJ s a1 c1 a2 c2)]] (Qi (i+1,g1_) ⟨(Ja hle hle1_),J8⟩ (by (try dsimp only);omega)))))))))
 refine KW (JY (J9 (JT (Jb (Jg [0] [(4,Bo true)] (Jn ?_))))))
 have hf8:(0:Int)=0∧true=true:=by
  exact ⟨rfl,rfl⟩
 refine Jo [0] [Bo true] (bpx (JA [] (Ja (Ja hl1 hl2) hle) ?_))
 rw [hf8.2]
 try dsimp only
 exact ⟨hf8.1,rfl,rfl⟩
open Go.ChangeShapes Go.WideShapes Go.ChangeAt Go.RowKit
theorem Jco {P:Program} {W:World} {n nm:String} {d:DataW Unit} {r:List (String×DataW Unit)} {g:Nat} {ti:TypeId} {ms:Array (String×TypeId)} (h:laidMet P ((n,.iface nm d)::r) W)
  (hg:P.globalNamed n=some g) (ht:(P.globals[g]?).map (·.type)=some ti) (hi:P.underlying ti=some (.interface ms)):Jh7 P W n:=by
 obtain ⟨ps,⟨g0,t0,cs0,f0,p0,q0,hg0,ht0,hv0,hd0,_,e0⟩,_,_⟩:=h
 obtain rfl:=Hm.inj (hg.symm.trans hg0)
 obtain rfl:=Hm.inj (ht.symm.trans ht0)
 obtain ⟨f1,u,v,hc,hn,h1⟩:=iface_of_trod hi hd0
 refine ⟨g,.iface u v,hg,?_,.inr ⟨u,v,rfl⟩⟩
 have:=World.var?_cell hg0 hv0 0
 rw [← Array.getElem?_toList,hc] at this
 simpa using this
section
variable {P:Program} {G:J4}
theorem Jkz {P:Program} {f:FuncId} {args:Array Value} {W:World} (hT:TW P W) (hc:JaJ P f args (Jbr W) [] (fun u _ _=>u=Bo true) (fun _ _ _=>False)) :
  Calls P f args W fun e W'=>e=.returned (.bool true)∧Below W.heap.size W W':=by
 refine (hc W (Jbr W) W hT (St.start fun b o v h=>h)).mono ?_
 rintro e W' ⟨v,G',L',hS,_,⟨rfl,rfl⟩ | ⟨_,h⟩⟩
 · exact ⟨rfl,hS.below⟩
 · exact h.elim
theorem Jgm {H:Type} {enc:TypeId×Value→H} {f:Func} {k:FuncId} {s:ChangeSpec} {t:TypeId} {fresh handsOn again:Bool} (N:Nat) (hlo:laidOutB P=true)
  (hr:Jh9 P f.params.toList=true) (hv:s.vars=[])
  (ho:∀ ds:List (DataW H),ds.length=f.params.toList.length→s.fn H ds={ results:=[.lit (.bool true)],args:=ds }) (ht:f.resultTypes=#[t]) (hu:P.underlying t=some .bool)
  (W:World) (base:Nat) (args:Array Value) (ds gs:List (DataW H)) (before:List MemPlace)
  (hval:∀ (j:Nat) t v,f.params[j]? = some t→args[j]? = some v→Value.okWide P W .any base t v)
  (hW:DataW.Whole enc P f.params.toList s.vars false W args.toList ds gs before)
  (hcon:∀ n,n≤N→RdA P (Jbr W) f.params.toList args.toList n→Calls P k args W fun e W'=>e=.returned (.bool true)∧Below W.heap.size W W')
  (hN:Rows.uptoBulkAll (ds++gs)≤N)
  (hsz:(DataW.weightsEach P (f.params.toList++s.plain.varTypes P) (ds++gs)).all (·≤reachBytes)=true) :
  Calls P k args W fun e W'=>∃ v,e=.returned v∧s.post enc P f false fresh handsOn again W args v W':=by
 have hW':=hW
 obtain ⟨p,q,hA,hV,rfl,hfz,hnd⟩:=hW
 rw [hv] at hV
 obtain ⟨rfl,rfl⟩:=trodVars_none hV
 have hvt:s.plain.varTypes P=[]:=by simp [DataSpec.varTypes,ChangeSpec.plain,hv]
 rw [hvt,Hx,Hx] at hsz
 rw [Hx] at hN
 have hlen:∀ (ts:List TypeId) (vs:List Value) (ds:List (DataW H)) (ps:List MemPlace),DataW.TrodAll enc P W 0 (fun _=>true) true ts vs ds ps→ds.length=ts.length:=by
  intro ts
  induction ts with
  | nil=>intro vs ds ps h;have:=(trodAll_nil h).2.1;subst this;rfl
  | cons t ts ih =>
   intro vs ds ps h
   obtain ⟨v,vs',d,ds',p,q,rfl,rfl,rfl,h1,h2⟩:=trodAll_cons h
   simp [ih _ _ _ h2]
 have hR:=Jm9 (base:=base) _ _ _ _ hA (Jna hval) (all_le hsz)
 refine (hcon _ hN hR).mono ?_
 rintro e W' ⟨rfl,hb⟩
 exact ⟨_,rfl,Jm7 hlo hr hv hW' (ho ds (hlen _ _ _ _ hA)) ht hu hb⟩
end
end Go.Proofs.YteaampgpgokjmaaGreatDoor
