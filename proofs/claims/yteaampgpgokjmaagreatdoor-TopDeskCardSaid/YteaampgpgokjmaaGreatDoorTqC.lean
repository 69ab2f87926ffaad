import Derived.Test.YteaampgpgokjmaaGreatDoorTqB
import Derived.Maps.Own
import Derived.CallsIn
import Derived.Shelf.SlIter.Collect
set_option linter.unusedVariables false
set_option linter.unusedSimpArgs false
namespace Go.Proofs.YteaampgpgokjmaaGreatDoor
open Go.Tx
open IntKind renaming i64 → Ha, i32 → H3
open _root_.Nat renaming le_of_ble_eq_true → Hb, le_trans → Ho, zero_le → Hz, min_eq_left → HG, le_refl → HS, zero_add → HX, min_def → H1, min → H5
open _root_.List renaming length_append → Hc, length_cons → Hd, getElem?_eq_some_iff → He, length_nil → Hf, length_take → Hg, forall_mem_nil → Hi, getElem?_eq_getElem → Hk, mem_of_getElem? → Hl, drop_eq_getElem_cons → Hm, length → Hn, take_add_one → Hp, dropWhile_cons → Hs, take_of_length_le → Ht, mem_singleton → Hu, length_set → Hv, getElem?_of_mem → Hx, length_drop → Hy, mem_append → HA, drop_eq_nil_of_le → HB, mem_of_mem_take → HC, any_eq_true → HD, mem_cons → HE, getElem?_append_left → HF, mem_cons_self → HH, getElem?_set → HI, mem_of_mem_drop → HK, eq_nil_of_length_eq_zero → HL, drop_drop → HN, getElem?_drop → HP, filter_append → HQ, getElem?_append_right → HR, pairwise_iff_getElem → HU, mem_reverse → HV, not_mem_nil → HW, dropWhile_sublist → HY, take_append_drop → H0, length_filter_le → H2, mem_cons_of_mem → H4
open IntWalk renaming i64_in → Hh
open _root_.Decidable renaming not_not → Hj
open _root_.Option renaming some → Hq
open _root_.Bool renaming eq_false_or_eq_true → Hr, eq_iff_iff → Hw, and_assoc → HO, or_eq_true → HZ
open _root_.UInt8 renaming ofNat → HJ
open _root_.Int renaming toNat_of_nonneg → HM, toNat_natCast → HT
def Jap (l:List J3) (i:Nat) (x:J3):List J3:=l.take i++[x]++l.drop i
theorem JaM {l:List J3} {i:Nat} {x:J3} (h:i≤l.length):(Jap l i x).length=l.length+1:=by unfold Jap;simp;omega
theorem JoX {l:List J3} {i:Nat} {x:J3} (h:i=l.length):l++[x]=Jap l i x:=by subst h;simp [Jap]
theorem one2 {a b:Value} (ha:a.oneCell'=true) (hb:b.oneCell'=true):∀ u∈[a,b],u.oneCell'=true:=by
 intro u hu
 rcases HE.1 hu with rfl | hu
 · exact ha
 · rw [Hu.1 hu];exact hb
def Zt (l:List J3) (name value:Bb):Int:=if (JG l name).2.2 ≠ 0 then (JG l name).2.2 else if KK name value ≠ 0 then KK name value else if (JG l name).2.1=false∧(l.length:Int)=24 then 7 else 0
def Qj (l:List J3) (name value:Bb):List J3×Int:=if Zt l name value ≠ 0 then ([],Zt l name value) else (if (JG l name).2.1=true then l.set (JG l name).1.toNat ⟨name,value⟩ else (Jap l (JG l name).1.toNat ⟨[],[]⟩).set (JG l name).1.toNat ⟨name,value⟩,0)
theorem JoY {l:List J3} {i:Nat} {x y:J3} (h:i≤l.length):(Jap l i x).set i y=Jap l i y:=by
 unfold Jap
 rw [List.append_assoc,List.set_append_right _ _ (by rw [Hg];omega),Hg,HG h,Nat.sub_self]
 simp
theorem JoZ {l:List J3} {i:Nat} {x:J3} (h:i≤l.length) (p:Nat):(Jap l i x)[p]? = if p<i then l[p]? else if p=i then some x else l[p-1]?:=by
 unfold Jap
 rw [List.append_assoc]
 by_cases h1:p<i
 · rw [if_pos h1,HF (by rw [Hg];omega),List.getElem?_take,if_pos h1]
 ·
  rw [if_neg h1,HR (by rw [Hg];omega),Hg,HG h]
  by_cases h2:p=i
  · rw [if_pos h2,h2,Nat.sub_self];rfl
  ·
   rw [if_neg h2]
   obtain ⟨m,hm⟩:∃ m,p-i=m+1:=⟨p-i-1,by omega⟩
   rw [hm]
   show (l.drop i)[m]? = _
   rw [HP];congr 1;omega
theorem JeY {l:List J3} {name:Bb} (h:(JG l name).2.2=0):Wd l∧KC name=true∧JG l name=((bsF l name Q2).1,(bsF l name Q2).2,0):=by
 unfold JG at h ⊢
 split at h
 · contradiction
 split at h
 · cases h
 ·
  rename_i h1 h2
  rw [if_neg h1,if_neg h2]
  exact ⟨KS.1 (Hj.1 h1),by simpa using h2,rfl⟩
theorem Zu {l:List J3} {name:Bb} (h:(JG l name).2.2=0):0≤(JG l name).1∧(JG l name).1≤l.length∧l.length≤24:=by
 obtain ⟨h1,_,h3⟩:=JeY h
 have:=JoW (fun x=>Q2 x name) l
 have:=h1.len
 rw [h3];unfold bsF;simp only;omega
theorem Jnf {l:List J3} {name value:Bb} (h:(Qj l name value).2=0):(JG l name).2.2=0∧KK name value=0∧((JG l name).2.1=true∨l.length<24):=by
 have h1:Zt l name value=0:=by
  unfold Qj at h;split at h
  · contradiction
  · rename_i h1;exact Hj.1 h1
 unfold Zt at h1
 by_cases e1:(JG l name).2.2=0
 ·
  rw [if_neg (by omega)] at h1
  by_cases e2:KK name value=0
  ·
   rw [if_neg (by omega)] at h1
   refine ⟨e1,e2,?_⟩
   by_cases e3:(JG l name).2.1=false∧(l.length:Int)=24
   · rw [if_pos e3] at h1;cases h1
   ·
    cases hb:(JG l name).2.1 with
    | true=>exact .inl rfl
    | false =>
     refine .inr ?_
     have:=(Zu e1).2.2
     have:¬ (l.length:Int)=24:=fun hc=>e3 ⟨hb,hc⟩
     omega
  · rw [if_pos e2] at h1;exact absurd h1 e2
 · rw [if_pos e1] at h1;exact absurd h1 e1
theorem Jju {l:List J3} {name value:Bb} (h:¬ (Qj l name value).2=0):(Qj l name value).1=[]:=by
 revert h;unfold Qj;split <;> simp
theorem VW {l:List J3} {name value:Bb} (h:(Qj l name value).2=0):Wd l∧KC name=true∧Wd (Qj l name value).1∧(∀ y,y∈(Qj l name value).1 ↔ y=⟨name,value⟩∨(y∈l∧y.name ≠ name)):=by
 obtain ⟨e1,e2,e3⟩:=Jnf h
 obtain ⟨hok,hp,hf⟩:=JeY e1
 have hs:=Jf4 hok name
 have hbd:=JoW (fun x=>Q2 x name) l
 have hi:(JG l name).1.toNat=bsI (fun x=>Q2 x name) l:=by rw [hf];unfold bsF;simp
 have hE:Zt l name value=0:=by
  unfold Qj at h;split at h
  · contradiction
  · rename_i h1;exact Hj.1 h1
 have hval:Qj l name value=(if (JG l name).2.1=true then l.set (JG l name).1.toNat ⟨name,value⟩ else (Jap l (JG l name).1.toNat ⟨[],[]⟩).set (JG l name).1.toNat ⟨name,value⟩,0):=by
  unfold Qj;rw [if_neg (by omega)]
 rw [hval,hi]
 generalize hk:bsI (fun x=>Q2 x name) l=k at *
 refine ⟨hok,hp,?_⟩
 cases hb:(JG l name).2.1 with
 | true =>
  rw [if_pos rfl]
  have hb2:(bsF l name Q2).2=true:=by rw [hf] at hb;exact hb
  obtain ⟨x,hx,hxn⟩:=JkS hb2
  rw [hk] at hx
  have hkl:=(He.1 hx).1
  have huni:∀ p y,l[p]? = some y→y.name=name→p=k:=by
   intro p y hy hyn
   rcases Nat.lt_trichotomy p k with hc | hc | hc
   · have:=hok.ord p k y x hc hy hx;rw [hyn,← hxn,Z1.2 rfl] at this;omega
   · exact hc
   · have:=hok.ord k p x y hc hx hy;rw [hyn,hxn,Z1.2 rfl] at this;omega
  refine ⟨⟨by rw [Hv];exact hok.len,fun y hy=>?_,fun p q y z hpq hy hz=>?_⟩,fun y=>?_⟩
  ·
   rcases List.mem_or_eq_of_mem_set hy with hy | rfl
   · exact hok.ok y hy
   · exact e2
  ·
   rw [HI] at hy hz
   have gy:∃ y',l[p]? = some y'∧y'.name=y.name:=by
    split at hy
    ·
     rename_i e;subst e
     (try rw [if_pos hkl] at hy)
     exact ⟨x,hx,by rw [← Hq.inj hy];exact hxn⟩
    · exact ⟨y,hy,rfl⟩
   have gz:∃ z',l[q]? = some z'∧z'.name=z.name:=by
    split at hz
    ·
     rename_i e;subst e
     (try rw [if_pos hkl] at hz)
     exact ⟨x,hx,by rw [← Hq.inj hz];exact hxn⟩
    · exact ⟨z,hz,rfl⟩
   obtain ⟨y',gy1,gy2⟩:=gy
   obtain ⟨z',gz1,gz2⟩:=gz
   rw [← gy2,← gz2];exact hok.ord p q y' z' hpq gy1 gz1
  ·
   constructor
   ·
    intro hy
    obtain ⟨p,hp2⟩:=Hx hy
    rw [HI] at hp2
    split at hp2
    · rename_i e;subst e;(try rw [if_pos hkl] at hp2);exact .inl (Hq.inj hp2).symm
    ·
     rename_i e
     exact .inr ⟨Hl hp2,fun hc=>e (huni p y hp2 hc).symm⟩
   ·
    rintro (rfl | ⟨hy,hne⟩)
    · exact Hl (i:=k) (by rw [HI,if_pos rfl,if_pos hkl])
    ·
     obtain ⟨p,hp2⟩:=Hx hy
     exact Hl (i:=p) (by rw [HI,if_neg (fun e=>hne (by subst e;rw [hx] at hp2;rw [← Hq.inj hp2];exact hxn))];exact hp2)
 | false =>
  rw [if_neg (by simp),JoY hbd]
  have hb3:(bsF l name Q2).2=false:=by rw [hf] at hb;exact hb
  have hb2:¬ (bsF l name Q2).2=true:=by rw [hb3];simp
  have hno:∀ y∈l,y.name ≠ name:=fun y hy hc=>hb2 ((Jit hok name).2 ⟨y,hy,hc⟩)
  have hlt:∀ p y,p<k→l[p]? = some y→Ys y.name name<0:=hs.1
  have hgt:∀ p y,k≤p→l[p]? = some y→Ys name y.name<0:=by
   intro p y hp2 hy
   have h1:=hs.2 p y hp2 hy
   have h2:Ys y.name name ≠ 0:=fun hc=>hno y (Hl hy) (Z1.1 hc)
   exact JqF.1 (by omega)
  have hl24:l.length<24:=by rcases e3 with e3 | e3;rw [e3] at hb;cases hb;exact e3
  refine ⟨⟨by rw [JaM hbd];omega,fun y hy=>?_,fun p q y z hpq hy hz=>?_⟩,fun y=>?_⟩
  ·
   unfold Jap at hy
   simp only [HA,Hu] at hy
   rcases hy with (hy | rfl) | hy
   · exact hok.ok y (HC hy)
   · exact e2
   · exact hok.ok y (HK hy)
  ·
   rw [JoZ hbd] at hy hz
   by_cases p1:p<k
   ·
    rw [if_pos p1] at hy
    by_cases q1:q<k
    · rw [if_pos q1] at hz;exact hok.ord p q y z hpq hy hz
    ·
     rw [if_neg q1] at hz
     by_cases q2:q=k
     · rw [if_pos q2] at hz;rw [← Hq.inj hz];exact hlt p y p1 hy
     · rw [if_neg q2] at hz;exact hok.ord p (q-1) y z (by omega) hy hz
   ·
    rw [if_neg p1] at hy
    rw [if_neg (by omega),if_neg (by omega)] at hz
    by_cases p2:p=k
    · rw [if_pos p2] at hy;rw [← Hq.inj hy];exact hgt (q-1) z (by omega) hz
    · rw [if_neg p2] at hy;exact hok.ord (p-1) (q-1) y z (by omega) hy hz
  ·
   unfold Jap
   simp only [HA,Hu]
   constructor
   ·
    rintro ((hy | rfl) | hy)
    · exact .inr ⟨HC hy,hno y (HC hy)⟩
    · exact .inl rfl
    · exact .inr ⟨HK hy,hno y (HK hy)⟩
   ·
    rintro (rfl | ⟨hy,_⟩)
    · exact .inl (.inr rfl)
    ·
     rw [← H0 k l] at hy
     rcases HA.1 hy with hy | hy
     · exact .inl (.inl hy)
     · exact .inr hy
theorem JbE {l:List J3} (h:Wd l) {x:J3} (hx:x∈l) (hp:KC x.name=true):Wx l x.name=(x.value,true,0):=by
 have hb:(bsF l x.name Q2).2=true:=(Jit h x.name).2 ⟨x,hx,rfl⟩
 have hf:JG l x.name=((bsF l x.name Q2).1,true,0):=by
  unfold JG;rw [if_neg (by have:=KS.2 h;omega),if_neg (by rw [hp];simp),hb]
 obtain ⟨y,hy,hyn⟩:=JkS hb
 have hyx:y=x:=by
  obtain ⟨p,hp2⟩:=Hx hx
  have:=(He.1 hy).1
  rcases Nat.lt_trichotomy p (bsI (fun z=>Q2 z x.name) l) with hc | hc | hc
  · have:=h.ord _ _ x y hc hp2 hy;rw [hyn,Z1.2 rfl] at this;omega
  · rw [← hc,hp2] at hy;exact (Hq.inj hy).symm
  · have:=h.ord _ _ y x hc hy hp2;rw [hyn,Z1.2 rfl] at this;omega
 unfold Wx
 rw [hf,if_neg (by simp)]
 unfold bsF
 simp only [HT]
 rw [hy,hyx];rfl
theorem Jde {l:List J3} (h:Wd l) {m:Bb} (hp:KC m=true) (hn:∀ y∈l,y.name ≠ m):Wx l m=([],false,0):=by
 have hb:(bsF l m Q2).2=false:=by
  cases hb:(bsF l m Q2).2 with
  | false=>rfl
  | true=>obtain ⟨y,hy,e⟩:=(Jit h m).1 hb;exact absurd e (hn y hy)
 have hf:JG l m=((bsF l m Q2).1,false,0):=by
  unfold JG;rw [if_neg (by have:=KS.2 h;omega),if_neg (by rw [hp];simp),hb]
 unfold Wx;rw [hf,if_pos rfl]
theorem JeZ {l:List J3} (h:Wd l) {m:Bb} (hp:KC m=false):Wx l m=([],false,3):=by
 have hf:JG l m=(0,false,3):=by
  unfold JG;rw [if_neg (by have:=KS.2 h;omega),if_pos hp]
 unfold Wx;rw [hf,if_pos rfl]
theorem JkU {l l':List J3} (h:Wd l) (h':Wd l') {m:Bb} (hm:∀ y,y.name=m→(y∈l ↔ y∈l')):Wx l m=Wx l' m:=by
 cases hp:KC m with
 | false=>rw [JeZ h hp,JeZ h' hp]
 | true =>
  by_cases hx:∃ x∈l,x.name=m
  ·
   obtain ⟨x,hx,rfl⟩:=hx
   rw [JbE h hx hp,JbE h' ((hm x rfl).1 hx) hp]
  · rw [Jde h hp (fun y hy e=>hx ⟨y,hy,e⟩),Jde h' hp (fun y hy e=>hx ⟨y,(hm y e).2 hy,e⟩)]
theorem Jjv (l:List J3) (name value:Bb):(Qj l name value).1.length≤24:=by
 by_cases h:(Qj l name value).2=0
 · exact (VW h).2.2.1.len
 · rw [Jju h];simp
theorem Jng {l:List J3} {name value:Bb} (h:¬ (JG l name).2.2=0):Qj l name value=([],(JG l name).2.2):=by
 have:Zt l name value=(JG l name).2.2:=by unfold Zt;rw [if_pos h]
 unfold Qj;rw [if_pos (by omega),this]
theorem Jnh {l:List J3} {name value:Bb} (h0:(JG l name).2.2=0) (h:¬ KK name value=0):Qj l name value=([],KK name value):=by
 have:Zt l name value=KK name value:=by unfold Zt;rw [if_neg (by omega),if_pos h]
 unfold Qj;rw [if_pos (by omega),this]
theorem Jni {l:List J3} {name value:Bb} (h0:(JG l name).2.2=0) (h1:KK name value=0) (h:(JG l name).2.1=false∧(l.length:Int)=24):Qj l name value=([],7):=by
 have:Zt l name value=7:=by unfold Zt;rw [if_neg (by omega),if_neg (by omega),if_pos h]
 unfold Qj;rw [if_pos (by omega),this]
theorem Jnj {l:List J3} {name value:Bb} {k:Nat} (h0:(JG l name).2.2=0) (h1:KK name value=0) (h:(JG l name).2.1=true) (hk:(JG l name).1=(k:Int)):Qj l name value=(l.set k ⟨name,value⟩,0):=by
 have:Zt l name value=0:=by unfold Zt;rw [if_neg (by omega),if_neg (by omega),if_neg (by rw [h];simp)]
 unfold Qj;rw [if_neg (by omega),if_pos h,hk,HT]
theorem Jnk {l:List J3} {name value:Bb} {k:Nat} (h0:(JG l name).2.2=0) (h1:KK name value=0) (h:(JG l name).2.1=false) (h2:(JG l name).2.1=false→¬ (l.length:Int)=24) (hk:(JG l name).1=(k:Int)):Qj l name value=((Jap l k ⟨[],[]⟩).set k ⟨name,value⟩,0):=by
 have:Zt l name value=0:=by unfold Zt;rw [if_neg (by omega),if_neg (by omega),if_neg (fun hc=>h2 hc.1 hc.2)]
 unfold Qj;rw [if_neg (by omega),if_neg (by rw [h];simp),hk,HT]
set_option maxRecDepth 4000 in
theorem JhD (G:J4) (a:Ba) (c:Nat) (l:List J3) (r:Bg) (hr:J0 QJ G a c l r) (bv:Nat) (x:J3) (hx0:(x.name).length≤140737488351232) (hx1:(x.value).length≤140737488351232) (i:Nat) (hi:i≤l.length) (hsm:l.length≤1000):Jh4 Tryz.prog 212 #[Sl a l.length c,I (i:Int),Sl (At bv 0) 1 1] G [r,[Vy 111 bv 0 [Sr x.name,Sr x.value]]] (fun u G' L'=>∃ a' c' r',u=Sl a' (Jap l i x).length c'∧J0 QJ G' a' c' (Jap l i x) r'∧L'=[r']):=by
 intro Lr
 have hlc:=J0.lec hr
 have hcm:=J0.mx hr
 refine JS Tryz.func212 95 [(0,Sl a l.length c),(1,I (i:Int)),(2,Sl (At bv 0) 1 1)] rfl (fun w0 G0=>?_)
 show TC _ _ _ _ _ (r::[Vy 111 bv 0 [Sr x.name,Sr x.value]]::Lr)
 refine Jg [0] [] (Jf (Jd (Jb [0,0] [(10,Sl a l.length c),(11,I (i:Int))] (Jop (a:=a) (len:=l.length) (cap:=c) 12 2 (some (I (i:Int))) none i l.length (.inr ⟨_,rfl⟩) (.inl ⟨rfl,rfl⟩) hi hlc (fun a9=>Je (Jc (Jg [0,0,0] [(7,I (1:Int))] (Jf (Jg [0,0] [(16,Bo (decide ((1:Int)=0)))] (Jm (decide ((1:Int)=0)) (fun h1=>?_) (fun h1=>?_)))))))))))
 exfalso;omega
 refine Jq (Jc (Jg [0,0,0] [(8,I (l.length:Int))] (Jf (Jg [0,0,0] [(22,Bo (decide ((i:Int)=(l.length:Int))))] (Jm (decide ((i:Int)=(l.length:Int))) (fun h2=>?_) (fun h2=>?_))))))
 refine Jeh 1 (Jf (Jd (Jb [0,0] [(23,Sl a l.length c),(24,Sl (At bv 0) 1 1)] (Qr (b:=bv) (cs:=[Sr x.name,Sr x.value]) 25 111 0 1 (E:=QJ) x hr ⟨rfl,‹_›,‹_›⟩ J5 (by simp only [QJ];omega) (fun a1 c1 r1 hr1=>Jb [0] [(6,Sl a1 ((l++[x]).length) c1)] (Je (Jc (Jo (Jj ?_)))))))))
 have e_:l++[x]=Jap l i x:=JoX (by omega)
 have en_:(l++[x]).length=(Jap l i x).length:=by (rw [JaM hi];(try simp only [Hc,Hd,Hf]) <;> omega)
 exact Jp [0] [Sl a1 ((l++[x]).length) c1] (KQ (Lr:=Lr) [r1] (Jh _) (⟨_,_,_,congrArg (fun n=>Sl a1 n c1) en_,(by rw [← e_];exact hr1),rfl⟩))
 refine Jq (Jc (Jf ?_))
 obtain ⟨b,off,css,spare,rfl,rfl,hc1,hc2,hc3,hsp,_,hmax,hone⟩:=J0.opened hr (by omega)
 refine Jg [0,0,0,0,0,0] [(31,Bo (decide (Ha.wrap ((l.length:Int)+(1:Int)) > (c:Int))))] ?_
 have e1:Ha.wrap ((l.length:Int)+(1:Int))=(l.length:Int)+(1:Int):=Hh _ (by omega)
 refine Wa 31 (Bo (decide ((l.length:Int)+(1:Int) > (c:Int)))) (show (Bo (decide (Ha.wrap ((l.length:Int)+(1:Int)) > (c:Int))):Value)=Bo (decide ((l.length:Int)+(1:Int) > (c:Int))) by simp only [e1]) ?_
 clear e1
 refine Jm (decide ((l.length:Int)+(1:Int) > (c:Int))) (fun h3=>?_) (fun h3=>?_)
 refine Jeh 1 (Jf (Jd (Jb [0,0] [(32,Sl (At b off) l.length c),(33,I (i:Int))] (Jcw (b:=b) (off:=off) (len:=l.length) (cap:=c) 34 2 (some (I (i:Int))) i (.inr ⟨_,rfl⟩) J5 (Jb [0,0,0,0,0] [(39,I (Ha.wrap ((Ha.wrap ((l.length:Int)+(1:Int)))-(i:Int))))] ?_)))))
 have e2:Ha.wrap ((l.length:Int)+(1:Int))=(l.length:Int)+(1:Int):=Hh _ (by omega)
 have e3:Ha.wrap (((l.length:Int)+(1:Int))-(i:Int))=((l.length+1-i:Nat):Int):=(Hh _ (by omega)).trans (show ((l.length:Int)+(1:Int))-(i:Int)=((l.length+1-i:Nat):Int) by omega)
 refine KE 39 (I ((l.length+1-i:Nat):Int)) (show (I (Ha.wrap ((Ha.wrap ((l.length:Int)+(1:Int)))-(i:Int))):Value)=I ((l.length+1-i:Nat):Int) by simp only [e2,e3]) ?_
 clear e3 e2
 refine Jkz (b:=b) (off:=off) (cap:=c) (F:=(css.flatten++spare)) 40 0 111 2 32 (l.length+1-i) i J5 J5 J5 (by rw [Hc,QU hc3,hc1];simp only [QJ];omega) J5 (fun b9 c9 zs hz1 hz2 hz3=>Jb [0] [(9,Sl (At b9 0) (i+(l.length+1-i)) c9)] (Je (Jc (Jf (Jd (Jb [0,0] [(41,Sl (At b9 0) (i+(l.length+1-i)) c9),(42,I (i:Int))] (VF (b:=b9) (off:=0) (len:=(i+(l.length+1-i))) (cap:=c9) 43 2 (some (I (i:Int))) none i (i+(l.length+1-i)) (.inr ⟨_,rfl⟩) (.inl ⟨rfl,rfl⟩) J5 J5 J5 (Jb [0] [(44,Sl (At bv 0) 1 1)] (V9 (b:=b9) (off:=0) (p:=(i*2)) (nd:=(i+(l.length+1-i)-i)) (cd:=(c9-i)) (bs:=bv) (os:=0) (ns:=1) (cs:=1) (F:=((css.flatten++spare).take (i*2)++zs)) 45 0 2 [Sr x.name,Sr x.value] (by rw [show H5 1 (i+(l.length+1-i)-i)=1 from by simp only [H1];split <;> omega];rfl) (by rw [hz3];simp only [Hd,Hf];omega) (one2 rfl rfl) (.inr ⟨2,0,[Sr x.name,Sr x.value],0,rfl,rfl,fun j v hv=>by rw [HX];exact hv⟩) (Je (Jc (Jf ?_))))))))))))
 have e4:Ha.wrap ((i:Int)+(1:Int))=((i+1:Nat):Int):=(Hh _ (by omega)).trans (show (i:Int)+(1:Int)=((i+1:Nat):Int) by omega)
 refine Kt [8] (Wz [(0,Sl (At b9 0) (i+(l.length+1-i)) c9),(1,I (i:Int)),(2,I (1:Int)),(3,I ((i+1:Nat):Int)),(4,Sl (At b9 (0+(i+1)*2)) ((i+(l.length+1-i))-(i+1)) (c9-(i+1))),(5,Sl (At b off) l.length c),(6,I (i:Int)),(7,Sl (At b (off+i*2)) (l.length-i) (c-i))] (JL [] [(0,0),(1,0),(2,0),(5,0),(6,0)] [3,4,7] [8] (Kb ?_ (Kb ?_ (Kb ?_ K4))) (Kb ?_ K4)))
 refine Jr 3 49 (I ((i+1:Nat):Int)) [(47,I (i:Int)),(48,I (1:Int))] (fun X=>?_)
 exact Qc 49 (I (Ha.wrap ((i:Int)+(1:Int)))) (I ((i+1:Nat):Int)) (by simp only [e4]) Jn
 refine Jr 4 50 (Sl (At b9 (0+(i+1)*2)) ((i+(l.length+1-i))-(i+1)) (c9-(i+1))) [(46,Sl (At b9 0) (i+(l.length+1-i)) c9),(49,I ((i+1:Nat):Int))] (fun X=>?_)
 exact VF (b:=b9) (off:=0) (len:=(i+(l.length+1-i))) (cap:=c9) 50 2 (some (I ((i+1:Nat):Int))) none (i+1) (i+(l.length+1-i)) (.inr ⟨_,rfl⟩) (.inl ⟨rfl,rfl⟩) J5 J5 J5 Jn
 refine Jr 7 53 (Sl (At b (off+i*2)) (l.length-i) (c-i)) [(51,Sl (At b off) l.length c),(52,I (i:Int))] (fun X=>?_)
 exact VF (b:=b) (off:=off) (len:=l.length) (cap:=c) 53 2 (some (I (i:Int))) none i l.length (.inr ⟨_,rfl⟩) (.inl ⟨rfl,rfl⟩) J5 J5 J5 Jn
 refine JA 8 [(50,Sl (At b9 (0+(i+1)*2)) ((i+(l.length+1-i))-(i+1)) (c9-(i+1))),(53,Sl (At b (off+i*2)) (l.length-i) (c-i))] (fun X=>?_)
 refine V9 (b:=b9) (off:=0) (p:=((i+1)*2)) (nd:=(i+(l.length+1-i)-(i+1))) (cd:=(c9-(i+1))) (bs:=b) (os:=(off+i*2)) (ns:=(l.length-i)) (cs:=(c-i)) (F:=(QV ((css.flatten++spare).take (i*2)++zs) (i*2) [Sr x.name,Sr x.value])) 54 0 2 (css.drop i).flatten (by rw [Z5 hc3,hc1,show H5 (l.length-i) (i+(l.length+1-i)-(i+1))=l.length-i from by simp only [H1];split <;> omega];rfl) (by rw [Yc (by rw [hz3];simp only [Hd,Hf];omega),hz3,Z5 hc3,hc1];simp only [QJ];omega) (JlT i hone) (.inr ⟨1,off,(css.flatten++spare),i*2,rfl,rfl,JlV (sz:=2) hc3 J5⟩) (JC [(8,I ((H5 (l.length-i) (i+(l.length+1-i)-(i+1)):Nat):Int))] (Kq [0,1,2,3,4,5,6,7] [] [] [(9,Sl (At b9 0) (i+(l.length+1-i)) c9)] (Hi _) (Jc (Jg [0,0] [(6,Sl (At b9 0) (i+(l.length+1-i)) c9)] (Jo (Jj ?_))))))
 have en_:i+(l.length+1-i)=(Jap l i x).length:=by (rw [JaM hi];(try simp only [Hc,Hd,Hf]) <;> omega)
 exact Jp [0] [Sl (At b9 0) (i+(l.length+1-i)) c9] (KQ (Lr:=Lr) [[Sg b9 0 (QV (QV ((css.flatten++spare).take (i*2)++zs) (i*2) [Sr x.name,Sr x.value]) ((i+1)*2) (css.drop i).flatten)]] (Jh _) (⟨_,_,_,congrArg (fun n=>Sl (At b9 0) n c9) en_,(J0.insG (spare:=spare) i hi hc1 hc2 ⟨rfl,hx0,hx1⟩ hz3 J5 hz2),rfl⟩))
 refine Jq (Jc (Jf (Jd (Jb [0,0,0,0] [(56,Sl (At b off) l.length c),(59,I (Ha.wrap ((l.length:Int)+(1:Int))))] ?_))))
 have e5:Ha.wrap ((l.length:Int)+(1:Int))=((l.length+1:Nat):Int):=(Hh _ (by omega)).trans (show (l.length:Int)+(1:Int)=((l.length+1:Nat):Int) by omega)
 refine KE 59 (I ((l.length+1:Nat):Int)) (congrArg I e5) ?_
 clear e5
 refine Jcw (b:=b) (off:=off) (len:=l.length) (cap:=c) 60 2 (some (I ((l.length+1:Nat):Int))) (l.length+1) (.inr ⟨_,rfl⟩) J5 (Jb [0] [(0,Sl (At b off) (l.length+1) c)] (Je (Jc (Jf (Jf (Jd (Jb [0,0,0,0,0] [(61,Sl (At bv 0) 1 1),(62,Sl (At b off) (l.length+1) c),(65,I (Ha.wrap ((i:Int)+(1:Int))))] ?_)))))))
 have e6:Ha.wrap ((i:Int)+(1:Int))=((i+1:Nat):Int):=(Hh _ (by omega)).trans (show (i:Int)+(1:Int)=((i+1:Nat):Int) by omega)
 refine KE 65 (I ((i+1:Nat):Int)) (congrArg I e6) ?_
 clear e6
 refine VF (b:=b) (off:=off) (len:=(l.length+1)) (cap:=c) 66 2 (some (I ((i+1:Nat):Int))) none (i+1) (l.length+1) (.inr ⟨_,rfl⟩) (.inl ⟨rfl,rfl⟩) J5 J5 J5 ?_
 refine JmY (f:=249) (args:=#[Sl (At bv 0) 1 1,Sl (At b (off+(i+1)*2)) ((l.length+1)-(i+1)) (c-(i+1))]) 67 (Bo false) (fun w hw=>?_) ?_
 rw [run_callFunc_extern (e:=Extern.SlicesOverlaps.overlaps #[44,44] #[4]) Tryz.func249 (by kernel_rfl) (by kernel_rfl) (by kernel_rfl) (by kernel_rfl),JmZ hw (i:=1) (j:=0) rfl (by simp) rfl (by rw [Hc,QU hc3,hc1,hsp];simp only [QJ];omega) (by decide) 44 4 111 2 (by kernel_rfl) (fun w=>by kernel_rfl)]
 rfl
 refine Jb [0] [(68,Bo true)] (Je (Jc (JZ (Jeh 1 (Jf ?_)))))
 have e7:Ha.wrap ((i:Int)+(1:Int))=((i+1:Nat):Int):=(Hh _ (by omega)).trans (show (i:Int)+(1:Int)=((i+1:Nat):Int) by omega)
 refine Kt [8] (Wz [(0,Sl (At b off) (l.length+1) c),(1,I (i:Int)),(2,I (1:Int)),(3,I ((i+1:Nat):Int)),(4,Sl (At b (off+(i+1)*2)) ((l.length+1)-(i+1)) (c-(i+1))),(5,Sl (At b off) (l.length+1) c),(6,I (i:Int)),(7,Sl (At b (off+i*2)) ((l.length+1)-i) (c-i))] (JL [] [(0,0),(1,0),(2,0),(5,0),(6,0)] [3,4,7] [8] (Kb ?_ (Kb ?_ (Kb ?_ K4))) (Kb ?_ K4)))
 refine Jr 3 72 (I ((i+1:Nat):Int)) [(70,I (i:Int)),(71,I (1:Int))] (fun X=>?_)
 exact Qc 72 (I (Ha.wrap ((i:Int)+(1:Int)))) (I ((i+1:Nat):Int)) (by simp only [e7]) Jn
 refine Jr 4 73 (Sl (At b (off+(i+1)*2)) ((l.length+1)-(i+1)) (c-(i+1))) [(69,Sl (At b off) (l.length+1) c),(72,I ((i+1:Nat):Int))] (fun X=>?_)
 exact VF (b:=b) (off:=off) (len:=(l.length+1)) (cap:=c) 73 2 (some (I ((i+1:Nat):Int))) none (i+1) (l.length+1) (.inr ⟨_,rfl⟩) (.inl ⟨rfl,rfl⟩) J5 J5 J5 Jn
 refine Jr 7 76 (Sl (At b (off+i*2)) ((l.length+1)-i) (c-i)) [(74,Sl (At b off) (l.length+1) c),(75,I (i:Int))] (fun X=>?_)
 exact VF (b:=b) (off:=off) (len:=(l.length+1)) (cap:=c) 76 2 (some (I (i:Int))) none i (l.length+1) (.inr ⟨_,rfl⟩) (.inl ⟨rfl,rfl⟩) J5 J5 J5 Jn
 refine JA 8 [(73,Sl (At b (off+(i+1)*2)) ((l.length+1)-(i+1)) (c-(i+1))),(76,Sl (At b (off+i*2)) ((l.length+1)-i) (c-i))] (fun X=>?_)
 refine V9 (b:=b) (off:=off) (p:=((i+1)*2)) (nd:=(l.length+1-(i+1))) (cd:=(c-(i+1))) (bs:=b) (os:=(off+i*2)) (ns:=(l.length+1-i)) (cs:=(c-i)) (F:=(css.flatten++spare)) 77 0 2 (css.drop i).flatten (by rw [Z5 hc3,hc1,show H5 (l.length+1-i) (l.length+1-(i+1))=l.length-i from by simp only [H1];split <;> omega];rfl) (by rw [Hc,QU hc3,hc1,hsp];simp only [QJ];rw [Z5 hc3,hc1];simp only [QJ];omega) (JlT i hone) (.inr ⟨0,off,(css.flatten++spare),i*2,rfl,rfl,JlV (sz:=2) hc3 J5⟩) (JC [(8,I ((H5 (l.length+1-i) (l.length+1-(i+1)):Nat):Int))] (Kq [0,1,2,3,4,5,6,7] [] [] [(0,Sl (At b off) (l.length+1) c),(1,I (i:Int)),(2,Sl (At bv 0) 1 1)] (Hi _) (Jc (Jf (Jd (Jb [0,0] [(78,Sl (At b off) (l.length+1) c),(79,I (i:Int))] (VF (b:=b) (off:=off) (len:=(l.length+1)) (cap:=c) 80 2 (some (I (i:Int))) none i (l.length+1) (.inr ⟨_,rfl⟩) (.inl ⟨rfl,rfl⟩) J5 J5 J5 (Jb [0] [(81,Sl (At bv 0) 1 1)] (V9 (b:=b) (off:=off) (p:=(i*2)) (nd:=(l.length+1-i)) (cd:=(c-i)) (bs:=bv) (os:=0) (ns:=1) (cs:=1) (F:=(QV (css.flatten++spare) ((i+1)*2) (css.drop i).flatten)) 82 0 2 [Sr x.name,Sr x.value] (by rw [show H5 1 (l.length+1-i)=1 from by simp only [H1];split <;> omega];rfl) (by rw [Yc (by rw [Hc,QU hc3,hc1,hsp];simp only [QJ];rw [Z5 hc3,hc1];simp only [QJ];omega)];rw [Hc,QU hc3,hc1,hsp];simp only [QJ];simp only [Hd,Hf];omega) (one2 rfl rfl) (.inr ⟨1,0,[Sr x.name,Sr x.value],0,rfl,rfl,fun j v hv=>by rw [HX];exact hv⟩) (Je (Jc (Jg [0,0] [(6,Sl (At b off) (l.length+1) c)] (Jo (Jj ?_))))))))))))))
 have en_:l.length+1=(Jap l i x).length:=by (rw [JaM hi];done)
 exact Jp [0] [Sl (At b off) (l.length+1) c] (KQ (Lr:=Lr) [[Sg b off (QV (QV (css.flatten++spare) ((i+1)*2) (css.drop i).flatten) (i*2) [Sr x.name,Sr x.value])]] (Jh _) (⟨_,_,_,congrArg (fun n=>Sl (At b off) n c) en_,(J0.insP i hi hc1 hc2 ⟨rfl,hx0,hx1⟩ hsp J5 hcm),rfl⟩))
set_option maxRecDepth 20000 in
abbrev JdK (kn1:Nat) (l:List J3):=Jap l kn1 (⟨[],[]⟩:J3)
abbrev JdL (kn3:Nat) (l:List J3):=Jap l kn3 (⟨[],[]⟩:J3)
theorem Jjw (G:J4) (a_l:Ba) (c_l:Nat) (l:List J3) (h_l:RS QJ G a_l c_l l) (name:Bb) (hw_name:(name).length≤140737488351232) (value:Bb) (hw_value:(value).length≤140737488351232) :YL 165 #[Sl a_l l.length c_l,Sr name,Sr value] G [] (fun u G' L'=>∃ (a1:Ba) (c2:Nat) (r3:Bg),u=.tuple #[Sl a1 (((Qj l name value).1).length) c2,I ((Qj l name value).2)]∧(J0 QJ G' a1 c2 ((Qj l name value).1) r3)∧L'=[r3]):=by
 refine JS Tryz.func165 52 [(0,Sl a_l l.length c_l),(1,Sr name),(2,Sr value)] rfl (fun w0 G0=>?_)
 refine Jg [0,0] [] (Jf (Jd (Jb [0,0] [(13,Sl a_l l.length c_l),(14,Sr name)] (Jl 15 (.tuple #[I ((JG l name).1),Bo ((JG l name).2.1),I ((JG l name).2.2)]) (JdJ G a_l c_l l h_l name hw_name) (Jb [0,0,0,0,0,0,0] [(8,I ((JG l name).1)),(9,Bo ((JG l name).2.1)),(10,I ((JG l name).2.2))] (Je (Jc (Jf (Jg [0,0] [(20,Bo (decide ((JG l name).2.2=0)))] (Jm (decide ((JG l name).2.2=0)) (fun h1=>?_) (fun h1=>?_)))))))))))
 refine Jd (Jb [0,0] [(21,Sr name),(22,Sr value)] (Jl 23 (I (KK name value)) (JcS G name value) (Jb [0] [(10,I (KK name value))] (Je (Jc (Jf (Jx (Jg [0,0,0] [(24,Bo (!decide (KK name value=0)))] (Jm (!decide (KK name value=0)) (fun h2=>?_) (fun h2=>?_))))))))))
 refine Jg [0,0,0] [(6,Sl none 0 0),(7,I (KK name value))] (Jo (Ju (Jj (ZN (Jk 0 ?_)))))
 have hf1:Qj l name value=([],KK name value):=by
  exact Jnh ‹_› ‹_›
 refine Jp [0,0] [Sl none 0 0,I (KK name value)] (JB [[]] (Jh _) ?_)
 rw [hf1]
 try dsimp only
 exact ⟨none,0,([]),rfl,(J0.none QJ _),rfl⟩
 refine Jf (Jd (Jb [0,0,0] [(31,Bo (!((JG l name).2.1)))] (Kk (!((JG l name).2.1)) [31] [0,0,0,0] [1,1,1,0] (fun bb=>[(35,Bo (bb && (decide ((l.length:Int)=24))))]) (Jb [0] [(28,Bo ((!((JG l name).2.1)) && (decide ((l.length:Int)=24))))] (Je (Jc (Jm ((!((JG l name).2.1)) && (decide ((l.length:Int)=24))) (fun h3=>?_) (fun h3=>?_))))))))
 refine Jg [0,0] [(6,Sl none 0 0),(7,I 7)] (Jo (Ju (Jj (ZN (Jk 0 ?_)))))
 have hf2:Qj l name value=([],7):=by
  exact Jni ‹_› ‹_› ‹_›
 refine Jp [0,0] [Sl none 0 0,I 7] (JB [[]] (Jh _) ?_)
 rw [hf2]
 try dsimp only
 exact ⟨none,0,([]),rfl,(J0.none QJ _),rfl⟩
 refine Jq (JN (Jc (Jf (Jd (Jb [0] [(36,Sl a_l l.length c_l)] (JM 37 (YO G a_l c_l l h_l) (fun v G1 L1 hl1 hp=>?_)))))))
 obtain ⟨a1,c1,r1,rfl,hr1,rfl⟩:=hp
 refine Jb [0] [(11,Sl a1 l.length c1)] (Je (Jc (Jf (Jg [0,0] [(39,Bo (!((JG l name).2.1)))] (Jm (!((JG l name).2.1)) (fun h4=>?_) (fun h4=>?_))))))
 refine Jd (Jb [0,0,0] [(40,Sl a1 l.length c1),(41,I ((JG l name).1)),(42,.agg #[Sr ([]),Sr ([])])] (Jhv 43 1 #[Sr ([]),Sr ([])] 111 (fun b1=>?_)))
 obtain ⟨kn1,hkn1⟩:∃ k_:Nat,(JG l name).1=(k_:Int):=⟨((JG l name).1).toNat,by (have q_:=Zu (l:=l) (name:=name) ‹_›;omega)⟩
 have e1:(JG l name).1=(kn1:Int):=hkn1
 refine KE 8 (I (kn1:Int)) (congrArg I e1) (KE 41 (I (kn1:Int)) (congrArg I e1) (Jw 0 (Jw 1 (Qq (Ls:=[r1,[Vy 111 b1 0 [Sr ([]),Sr ([])]]]) (Lr:=[]) 44 (JhD G1 a1 c1 l r1 hr1 b1 (⟨[],[]⟩:J3) (Hb rfl) (Hb rfl) kn1 (by (have q_:=Zu (l:=l) (name:=name) ‹_›;omega)) (by (have q_:=Zu (l:=l) (name:=name) ‹_›;omega))) (fun v G2 L1 hl2 hp=>?_)))))
 obtain ⟨a2,c2,_,rfl,hr2,rfl⟩:=hp
 refine Jb [0] [(11,Sl a2 ((JdK kn1 l).length) c2)] (Je (Jc (Jf (Jd (Jb [0,0,0,0,0] [(45,Sl a2 ((JdK kn1 l).length) c2),(46,I (kn1:Int)),(49,.agg #[Sr name,Sr value])] ?_)))))
 obtain ⟨_,hx1⟩:=QW (l:=Jap l kn1 (⟨[],[]⟩:J3)) (k:=kn1) (by (have q_:=Zu (l:=l) (name:=name) ‹_›;(rw [JaM (by omega)];omega)))
 obtain ⟨b2,o1,_,_,⟨rfl,_,_⟩,ha1,_,_⟩:=J0.ix hr2 hx1
 refine Qv (b:=b2) (off:=o1) (len:=(JdK kn1 l).length) (cap:=c2) (ik:=.i64) 50 111 2 kn1 ha1 (by (have q_:=Zu (l:=l) (name:=name) ‹_›;(rw [JaM (by omega)];omega))) (YA (b:=b2) (off:=o1) 0 hr2 kn1 (⟨name,value⟩:J3) ha1 (by (have q_:=Zu (l:=l) (name:=name) ‹_›;(rw [JaM (by omega)];omega))) (.agg #[Sr name,Sr value]) [Sr name,Sr value] ⟨rfl,hw_name,hw_value⟩ (fun r3 hr3=>?_))
 have e2:(JdK kn1 l).length=((JdK kn1 l).set kn1 (⟨name,value⟩:J3)).length:=(Hv ..).symm
 refine KE 11 (Sl a2 (((JdK kn1 l).set kn1 (⟨name,value⟩:J3)).length) c2) (congrArg (Sl a2 · c2) e2) (Je (Jc (Jg [0,0,0] [(6,Sl a2 (((JdK kn1 l).set kn1 (⟨name,value⟩:J3)).length) c2),(7,I 0)] (Jo (Jk 0 ?_)))))
 have hf3:Qj l name value=((JdK kn1 l).set kn1 (⟨name,value⟩:J3),0):=by
  exact Jnk ‹_› ‹_› ‹_› ‹_› ‹_›
 refine Jp [0,0] [Sl a2 (((JdK kn1 l).set kn1 (⟨name,value⟩:J3)).length) c2,I 0] (JB [r3] (Ja hl1 hl2) ?_)
 rw [hf3]
 try dsimp only
 exact ⟨a2,c2,r3,rfl,hr3,rfl⟩
 refine Jq (Jc (Jf (Jd (Jb [0,0,0,0,0] [(45,Sl a1 l.length c1),(46,I ((JG l name).1)),(49,.agg #[Sr name,Sr value])] ?_))))
 obtain ⟨kn2,hkn2⟩:∃ k_:Nat,(JG l name).1=(k_:Int):=⟨((JG l name).1).toNat,by (have q_:=Zu (l:=l) (name:=name) ‹_›;omega)⟩
 have e3:(JG l name).1=(kn2:Int):=hkn2
 refine KE 46 (I (kn2:Int)) (congrArg I e3) ?_
 obtain ⟨_,hx2⟩:=QW (l:=l) (k:=kn2) (by (have q_:=Zu (l:=l) (name:=name) ‹_›;(have q1_:=YS (l:=l) (name:=name) ‹_›;omega)))
 obtain ⟨b3,o2,_,_,⟨rfl,_,_⟩,ha2,_,_⟩:=J0.ix hr1 hx2
 refine Qv (b:=b3) (off:=o2) (len:=l.length) (cap:=c1) (ik:=.i64) 50 111 2 kn2 ha2 (by (have q_:=Zu (l:=l) (name:=name) ‹_›;(have q1_:=YS (l:=l) (name:=name) ‹_›;omega))) (YA (b:=b3) (off:=o2) 0 hr1 kn2 (⟨name,value⟩:J3) ha2 (by (have q_:=Zu (l:=l) (name:=name) ‹_›;(have q1_:=YS (l:=l) (name:=name) ‹_›;omega))) (.agg #[Sr name,Sr value]) [Sr name,Sr value] ⟨rfl,hw_name,hw_value⟩ (fun r4 hr4=>?_))
 have e4:l.length=(l.set kn2 (⟨name,value⟩:J3)).length:=(Hv ..).symm
 refine KE 11 (Sl a1 ((l.set kn2 (⟨name,value⟩:J3)).length) c1) (congrArg (Sl a1 · c1) e4) (Je (Jc (Jg [0,0,0] [(6,Sl a1 ((l.set kn2 (⟨name,value⟩:J3)).length) c1),(7,I 0)] (Jo (Jk 0 ?_)))))
 have hf4:Qj l name value=(l.set kn2 (⟨name,value⟩:J3),0):=by
  exact Jnj ‹_› ‹_› ‹_› ‹_›
 refine Jp [0,0] [Sl a1 ((l.set kn2 (⟨name,value⟩:J3)).length) c1,I 0] (JB [r4] hl1 ?_)
 rw [hf4]
 try dsimp only
 exact ⟨a1,c1,r4,rfl,hr4,rfl⟩
 refine Jq (Jc (Jf (Jx (Jg [0,0,0] [(24,Bo (!decide ((JG l name).2.2=0)))] (Jm (!decide ((JG l name).2.2=0)) (fun h5=>?_) (fun h5=>?_))))))
 refine Jg [0,0,0] [(6,Sl none 0 0),(7,I ((JG l name).2.2))] (Jo (Ju (Jj (ZN (Jk 0 ?_)))))
 have hf5:Qj l name value=([],(JG l name).2.2):=by
  exact Jng ‹_›
 refine Jp [0,0] [Sl none 0 0,I ((JG l name).2.2)] (JB [[]] (Jh _) ?_)
 rw [hf5]
 try dsimp only
 exact ⟨none,0,([]),rfl,(J0.none QJ _),rfl⟩
 refine Jf (Jd (Jb [0,0,0] [(31,Bo (!((JG l name).2.1)))] (Kk (!((JG l name).2.1)) [31] [0,0,0,0] [1,1,1,0] (fun bb=>[(35,Bo (bb && (decide ((l.length:Int)=24))))]) (Jb [0] [(28,Bo ((!((JG l name).2.1)) && (decide ((l.length:Int)=24))))] (Je (Jc (Jm ((!((JG l name).2.1)) && (decide ((l.length:Int)=24))) (fun h6=>?_) (fun h6=>?_))))))))
 refine Jg [0,0] [(6,Sl none 0 0),(7,I 7)] (Jo (Ju (Jj (ZN (Jk 0 ?_)))))
 have hf6:Qj l name value=([],7):=by
  (exfalso;omega)
 refine Jp [0,0] [Sl none 0 0,I 7] (JB [[]] (Jh _) ?_)
 rw [hf6]
 try dsimp only
 exact ⟨none,0,([]),rfl,(J0.none QJ _),rfl⟩
 refine Jq (JN (Jc (Jf (Jd (Jb [0] [(36,Sl a_l l.length c_l)] (JM 37 (YO G a_l c_l l h_l) (fun v G3 L1 hl3 hp=>?_)))))))
 obtain ⟨a3,c3,r5,rfl,hr5,rfl⟩:=hp
 refine Jb [0] [(11,Sl a3 l.length c3)] (Je (Jc (Jf (Jg [0,0] [(39,Bo (!((JG l name).2.1)))] (Jm (!((JG l name).2.1)) (fun h7=>?_) (fun h7=>?_))))))
 refine Jd (Jb [0,0,0] [(40,Sl a3 l.length c3),(41,I ((JG l name).1)),(42,.agg #[Sr ([]),Sr ([])])] (Jhv 43 1 #[Sr ([]),Sr ([])] 111 (fun b4=>?_)))
 obtain ⟨kn3,hkn3⟩:∃ k_:Nat,(JG l name).1=(k_:Int):=⟨((JG l name).1).toNat,by omega⟩
 have e5:(JG l name).1=(kn3:Int):=hkn3
 refine KE 8 (I (kn3:Int)) (congrArg I e5) (KE 41 (I (kn3:Int)) (congrArg I e5) (Jw 0 (Jw 1 (Qq (Ls:=[r5,[Vy 111 b4 0 [Sr ([]),Sr ([])]]]) (Lr:=[]) 44 (JhD G3 a3 c3 l r5 hr5 b4 (⟨[],[]⟩:J3) (Hb rfl) (Hb rfl) kn3 J5 J5) (fun v G4 L1 hl4 hp=>?_)))))
 obtain ⟨a4,c4,_,rfl,hr6,rfl⟩:=hp
 refine Jb [0] [(11,Sl a4 ((JdL kn3 l).length) c4)] (Je (Jc (Jf (Jd (Jb [0,0,0,0,0] [(45,Sl a4 ((JdL kn3 l).length) c4),(46,I (kn3:Int)),(49,.agg #[Sr name,Sr value])] ?_)))))
 obtain ⟨_,hx3⟩:=QW (l:=Jap l kn3 (⟨[],[]⟩:J3)) (k:=kn3) (by omega)
 obtain ⟨b5,o3,_,_,⟨rfl,_,_⟩,ha3,_,_⟩:=J0.ix hr6 hx3
 refine Qv (b:=b5) (off:=o3) (len:=(JdL kn3 l).length) (cap:=c4) (ik:=.i64) 50 111 2 kn3 ha3 J5 (YA (b:=b5) (off:=o3) 0 hr6 kn3 (⟨name,value⟩:J3) ha3 J5 (.agg #[Sr name,Sr value]) [Sr name,Sr value] ⟨rfl,hw_name,hw_value⟩ (fun r7 hr7=>?_))
 have e6:(JdL kn3 l).length=((JdL kn3 l).set kn3 (⟨name,value⟩:J3)).length:=(Hv ..).symm
 refine KE 11 (Sl a4 (((JdL kn3 l).set kn3 (⟨name,value⟩:J3)).length) c4) (congrArg (Sl a4 · c4) e6) (Je (Jc (Jg [0,0,0] [(6,Sl a4 (((JdL kn3 l).set kn3 (⟨name,value⟩:J3)).length) c4),(7,I 0)] (Jo (Jk 0 ?_)))))
 have hf7:Qj l name value=((JdL kn3 l).set kn3 (⟨name,value⟩:J3),0):=by
  (exfalso;omega)
 refine Jp [0,0] [Sl a4 (((JdL kn3 l).set kn3 (⟨name,value⟩:J3)).length) c4,I 0] (JB [r7] (Ja hl3 hl4) ?_)
 rw [hf7]
 try dsimp only
 exact ⟨a4,c4,r7,rfl,hr7,rfl⟩
 refine Jq (Jc (Jf (Jd (Jb [0,0,0,0,0] [(45,Sl a3 l.length c3),(46,I ((JG l name).1)),(49,.agg #[Sr name,Sr value])] ?_))))
 obtain ⟨kn4,hkn4⟩:∃ k_:Nat,(JG l name).1=(k_:Int):=⟨((JG l name).1).toNat,by omega⟩
 have e7:(JG l name).1=(kn4:Int):=hkn4
 refine KE 46 (I (kn4:Int)) (congrArg I e7) ?_
 obtain ⟨_,hx4⟩:=QW (l:=l) (k:=kn4) (by omega)
 obtain ⟨b6,o4,_,_,⟨rfl,_,_⟩,ha4,_,_⟩:=J0.ix hr5 hx4
 refine Qv (b:=b6) (off:=o4) (len:=l.length) (cap:=c3) (ik:=.i64) 50 111 2 kn4 ha4 J5 (YA (b:=b6) (off:=o4) 0 hr5 kn4 (⟨name,value⟩:J3) ha4 J5 (.agg #[Sr name,Sr value]) [Sr name,Sr value] ⟨rfl,hw_name,hw_value⟩ (fun r8 hr8=>?_))
 have e8:l.length=(l.set kn4 (⟨name,value⟩:J3)).length:=(Hv ..).symm
 refine KE 11 (Sl a3 ((l.set kn4 (⟨name,value⟩:J3)).length) c3) (congrArg (Sl a3 · c3) e8) (Je (Jc (Jg [0,0,0] [(6,Sl a3 ((l.set kn4 (⟨name,value⟩:J3)).length) c3),(7,I 0)] (Jo (Jk 0 ?_)))))
 have hf8:Qj l name value=(l.set kn4 (⟨name,value⟩:J3),0):=by
  (exfalso;omega)
 refine Jp [0,0] [Sl a3 ((l.set kn4 (⟨name,value⟩:J3)).length) c3,I 0] (JB [r8] hl3 ?_)
 rw [hf8]
 try dsimp only
 exact ⟨a3,c3,r8,rfl,hr8,rfl⟩
def isB (b:UInt8):Bool:=b == 48 || b == 49
def YF (c:Int):Bool:=decide (c=48) || decide (c=49)
theorem Ja1 (b:UInt8):YF (b.toNat:Int)=isB b:=by
 have e1:((b.toNat:Int)=48) ↔ b=48:=⟨fun h=>UInt8.toNat_inj.1 (by have q:b.toNat=48:=(by omega);simpa using q),fun h=>by subst h;rfl⟩
 have e2:((b.toNat:Int)=49) ↔ b=49:=⟨fun h=>UInt8.toNat_inj.1 (by have q:b.toNat=49:=(by omega);simpa using q),fun h=>by subst h;rfl⟩
 unfold YF isB;rw [Hw];simp [e1,e2]
def Jae (s:Bb):Bb:=s.dropWhile isB
def YT (s:Bb):Bb:=(s.reverse.dropWhile isB).reverse
def Jbo (s:Bb):Bb:=Jae (YT s)
theorem JkV {s:Bb} {y:UInt8} (h:s[0]? = some y) (hb:isB y=true):Jae s=Jae (s.drop 1):=by
 cases s with
 | nil=>cases h
 | cons x r=>simp at h;subst h;simp [Jae,Hs,hb]
theorem Jnl {s:Bb} {y:UInt8} (h:s[0]? = some y) (hb:isB y=false):Jae s=s:=by
 cases s with
 | nil=>cases h
 | cons x r=>simp at h;subst h;simp [Jae,Hs,hb]
theorem Jl9 {s:Bb} {y:UInt8} (h:s[s.length-1]? = some y):s=s.take (s.length-1)++[y]:=by
 obtain ⟨hl,e⟩:=He.1 h
 have:=H0 (s.length-1) s
 rw [Hm hl,e,HB (by omega)] at this
 exact this.symm
theorem JkW {s:Bb} {y:UInt8} (h:s[s.length-1]? = some y) (hb:isB y=true):YT s=YT (s.take (s.length-1)):=by
 have e:=Jl9 h
 generalize hr:s.take (s.length-1)=r at *
 rw [e];unfold YT;rw [List.reverse_append];simp [Hs,hb]
theorem Jnm {s:Bb} {y:UInt8} (h:s[s.length-1]? = some y) (hb:isB y=false):YT s=s:=by
 have e:=Jl9 h
 generalize hr:s.take (s.length-1)=r at *
 rw [e];unfold YT;rw [List.reverse_append];simp [Hs,hb]
theorem Jo0 {s:Bb} (h:((s.length:Nat):Int)≤0):s=[]:=HL (by omega)
theorem Jnn {s:Bb} (h:((s.length:Nat):Int)≤0):Jae s=s:=by rw [Jo0 h];rfl
theorem Jno {s:Bb} (h:((s.length:Nat):Int)≤0):YT s=s:=by rw [Jo0 h];rfl
theorem Ja7 {p:UInt8→Bool}:∀ {s:Bb},s.dropWhile p=[] ↔ ∀ b∈s,p b=true
 | []=>by simp
 | x::r=>by
  rw [Hs]
  split
  · rename_i h;rw [Ja7];simp [h]
  · rename_i h;simp [h]
theorem Jcb {p:UInt8→Bool}:∀ {s:Bb} {x:UInt8},(s.dropWhile p).head? = some x→p x=false
 | [],_,h=>by cases h
 | y::r,x,h=>by
  rw [Hs] at h
  split at h
  · exact Jcb h
  · rename_i hy;simp at h;subst h;simpa using hy
theorem JhE {s:Bb}:Jbo s=[] ↔ ∀ b∈s,isB b=true:=by
 unfold Jbo Jae
 rw [Ja7]
 constructor
 ·
  intro h
  by_cases e:s.reverse.dropWhile isB=[]
  · rw [Ja7] at e;simpa using e
  ·
   exfalso
   obtain ⟨x,hx⟩:∃ x,(s.reverse.dropWhile isB).head? = some x:=by
    cases hh:s.reverse.dropWhile isB with
    | nil=>exact absurd hh e
    | cons x r=>exact ⟨x,rfl⟩
   have h1:=Jcb hx
   have h2:x∈YT s:=by unfold YT;rw [HV];exact List.mem_of_mem_head? hx
   rw [h x h2] at h1;cases h1
 ·
  intro h b hb
  unfold YT at hb
  rw [HV] at hb
  exact h b (HV.1 ((HY _).subset hb))
theorem Jnp (s:Bb):(YT s).length≤s.length:=by
 unfold YT;rw [List.length_reverse];have:=(HY (p:=isB) (l:=s.reverse)).length_le;rw [List.length_reverse] at this;exact this
def Jeq:Bv:=(List.range 256).map fun (j:Nat)=>Bo (YF (j:Int))
theorem Jo1 {k:Nat} (hk:k<256):Jeq[k]? = some (Bo (YF (k:Int))):=by
 unfold Jeq;simp [hk]
theorem asc_at {G:J4} {b k:Nat} {cs:Bv} (hz:∀ j v,cs[j]? = some v→G b (0+j)=some v) (hc:cs=Jeq) (hk:k<256):∀ j v,[Bo (YF (k:Int))][j]? = some v→G b (0+k*1+j)=some v:=by
 intro j v hv
 cases j with
 | zero =>
  simp at hv;subst hv hc
  have:=hz k _ (Jo1 hk)
  rw [Nat.mul_one,Nat.add_zero];exact this
 | succ j=>simp at hv
set_option maxRecDepth 4000 in
theorem JkX (G:J4):VB Tryz.prog 236 #[Sr [48,49]] G [] (fun u G' L'=>u=.tuple #[.agg Jeq.toArray,Bo true]):=by
 refine JS Tryz.func236 21 [(0,Sr ([48,49]))] rfl (fun w0 G0=>?_)
 refine Jf (Jd (Jv 2 #[Bo false,Bo false,Bo false,Bo false,Bo false,Bo false,Bo false,Bo false,Bo false,Bo false,Bo false,Bo false,Bo false,Bo false,Bo false,Bo false,Bo false,Bo false,Bo false,Bo false,Bo false,Bo false,Bo false,Bo false,Bo false,Bo false,Bo false,Bo false,Bo false,Bo false,Bo false,Bo false,Bo false,Bo false,Bo false,Bo false,Bo false,Bo false,Bo false,Bo false,Bo false,Bo false,Bo false,Bo false,Bo false,Bo false,Bo false,Bo false,Bo false,Bo false,Bo false,Bo false,Bo false,Bo false,Bo false,Bo false,Bo false,Bo false,Bo false,Bo false,Bo false,Bo false,Bo false,Bo false,Bo false,Bo false,Bo false,Bo false,Bo false,Bo false,Bo false,Bo false,Bo false,Bo false,Bo false,Bo false,Bo false,Bo false,Bo false,Bo false,Bo false,Bo false,Bo false,Bo false,Bo false,Bo false,Bo false,Bo false,Bo false,Bo false,Bo false,Bo false,Bo false,Bo false,Bo false,Bo false,Bo false,Bo false,Bo false,Bo false,Bo false,Bo false,Bo false,Bo false,Bo false,Bo false,Bo false,Bo false,Bo false,Bo false,Bo false,Bo false,Bo false,Bo false,Bo false,Bo false,Bo false,Bo false,Bo false,Bo false,Bo false,Bo false,Bo false,Bo false,Bo false,Bo false,Bo false,Bo false,Bo false,Bo false,Bo false,Bo false,Bo false,Bo false,Bo false,Bo false,Bo false,Bo false,Bo false,Bo false,Bo false,Bo false,Bo false,Bo false,Bo false,Bo false,Bo false,Bo false,Bo false,Bo false,Bo false,Bo false,Bo false,Bo false,Bo false,Bo false,Bo false,Bo false,Bo false,Bo false,Bo false,Bo false,Bo false,Bo false,Bo false,Bo false,Bo false,Bo false,Bo false,Bo false,Bo false,Bo false,Bo false,Bo false,Bo false,Bo false,Bo false,Bo false,Bo false,Bo false,Bo false,Bo false,Bo false,Bo false,Bo false,Bo false,Bo false,Bo false,Bo false,Bo false,Bo false,Bo false,Bo false,Bo false,Bo false,Bo false,Bo false,Bo false,Bo false,Bo false,Bo false,Bo false,Bo false,Bo false,Bo false,Bo false,Bo false,Bo false,Bo false,Bo false,Bo false,Bo false,Bo false,Bo false,Bo false,Bo false,Bo false,Bo false,Bo false,Bo false,Bo false,Bo false,Bo false,Bo false,Bo false,Bo false,Bo false,Bo false,Bo false,Bo false,Bo false,Bo false,Bo false,Bo false,Bo false,Bo false,Bo false,Bo false,Bo false,Bo false,Bo false,Bo false,Bo false,Bo false,Bo false,Bo false,Bo false,Bo false,Bo false,Bo false,Bo false,Bo false,Bo false,Bo false,Bo false,Bo false] 316 (fun b1=>Jb [0] [] (Je (Jc (Jf (Jg [0] [(4,I 0)] (Jx (Jeb 3 (WE (Jf (Jg [0,0,0,0] [(9,Bo true)] (JZ (Jq (Jc (Jf (Jx (Jg [0,0,0,0] [(5,Y 48)] (Jf ?_)))))))))))))))))))
 refine Jg [0,0] [(16,Bo false)] (Qt (Jq (Jc (Jd (JX [0,0,3] [] [[Sg b1 0 [Bo false,Bo false,Bo false,Bo false,Bo false,Bo false,Bo false,Bo false,Bo false,Bo false,Bo false,Bo false,Bo false,Bo false,Bo false,Bo false,Bo false,Bo false,Bo false,Bo false,Bo false,Bo false,Bo false,Bo false,Bo false,Bo false,Bo false,Bo false,Bo false,Bo false,Bo false,Bo false,Bo false,Bo false,Bo false,Bo false,Bo false,Bo false,Bo false,Bo false,Bo false,Bo false,Bo false,Bo false,Bo false,Bo false,Bo false,Bo false,Bo true,Bo false,Bo false,Bo false,Bo false,Bo false,Bo false,Bo false,Bo false,Bo false,Bo false,Bo false,Bo false,Bo false,Bo false,Bo false,Bo false,Bo false,Bo false,Bo false,Bo false,Bo false,Bo false,Bo false,Bo false,Bo false,Bo false,Bo false,Bo false,Bo false,Bo false,Bo false,Bo false,Bo false,Bo false,Bo false,Bo false,Bo false,Bo false,Bo false,Bo false,Bo false,Bo false,Bo false,Bo false,Bo false,Bo false,Bo false,Bo false,Bo false,Bo false,Bo false,Bo false,Bo false,Bo false,Bo false,Bo false,Bo false,Bo false,Bo false,Bo false,Bo false,Bo false,Bo false,Bo false,Bo false,Bo false,Bo false,Bo false,Bo false,Bo false,Bo false,Bo false,Bo false,Bo false,Bo false,Bo false,Bo false,Bo false,Bo false,Bo false,Bo false,Bo false,Bo false,Bo false,Bo false,Bo false,Bo false,Bo false,Bo false,Bo false,Bo false,Bo false,Bo false,Bo false,Bo false,Bo false,Bo false,Bo false,Bo false,Bo false,Bo false,Bo false,Bo false,Bo false,Bo false,Bo false,Bo false,Bo false,Bo false,Bo false,Bo false,Bo false,Bo false,Bo false,Bo false,Bo false,Bo false,Bo false,Bo false,Bo false,Bo false,Bo false,Bo false,Bo false,Bo false,Bo false,Bo false,Bo false,Bo false,Bo false,Bo false,Bo false,Bo false,Bo false,Bo false,Bo false,Bo false,Bo false,Bo false,Bo false,Bo false,Bo false,Bo false,Bo false,Bo false,Bo false,Bo false,Bo false,Bo false,Bo false,Bo false,Bo false,Bo false,Bo false,Bo false,Bo false,Bo false,Bo false,Bo false,Bo false,Bo false,Bo false,Bo false,Bo false,Bo false,Bo false,Bo false,Bo false,Bo false,Bo false,Bo false,Bo false,Bo false,Bo false,Bo false,Bo false,Bo false,Bo false,Bo false,Bo false,Bo false,Bo false,Bo false,Bo false,Bo false,Bo false,Bo false,Bo false,Bo false,Bo false,Bo false,Bo false,Bo false,Bo false,Bo false,Bo false,Bo false,Bo false,Bo false,Bo false,Bo false,Bo false,Bo false,Bo false,Bo false,Bo false,Bo false]]] (Je (JN (Jc (Jd (Jb [0,0,0] [(4,I 1)] (Je (WX (WE (Jf (Jg [0,0,0,0] [(9,Bo true)] (JZ (Jq (Jc (Jf (Jx ?_))))))))))))))))))))
 refine Jg [0,0,0,0] [(5,Y 49)] (Jf (Jg [0,0] [(16,Bo false)] (Qt (Jq (Jc (Jd (JX [0,0,3] [] [[Sg b1 0 Jeq]] (Je (JN (Jc (Jd (Jb [0,0,0] [(4,I 2)] (Je (WX (WE (Jf (Jg [0,0,0,0] [(9,Bo false)] (Qt ?_))))))))))))))))))
 refine KW (J1 (J1 (JT (Jc (Jg [2,3,0] [(3,Bo true)] (Jo (Jp [0,0] [.agg Jeq.toArray,Bo true] (Jy (Jh _) ?_))))))))
 rfl
theorem Jf5 (G:J4) (b_as:Nat) (hz_as:∀ j v,(Jeq:Bv)[j]? = some v→G b_as (0+j)=some v) (c:Int) (hw_c:0≤c∧c<256) :Q7 260 #[Pt b_as 0,Y c] G (Bo (YF c)):=by
 refine JS Tryz.func260 10 [(0,Pt b_as 0),(1,Y c)] rfl (fun w0 G0=>?_)
 refine Jg [0] [] (Jf (Jd (Jb [0,0,0] [(6,Y c),(7,Pt b_as 0)] ?_)))
 obtain ⟨kn1,hkn1⟩:∃ k_:Nat,c=(k_:Int):=⟨(c).toNat,by omega⟩
 have e1:c=(kn1:Int):=hkn1
 refine KE 6 (Y (kn1:Int)) (congrArg Y e1) (JmR (b:=b_as) (off:=0) (ik:=.u8) 8 4 1 256 kn1 J5 (JR (o':=0+kn1*1) 9 4 (cs:=[Bo (YF (kn1:Int))]) 0 (Bo (YF (kn1:Int))) (asc_at hz_as rfl J5) (Jb [0] [(4,Bo (YF (kn1:Int)))] (Je (Jc (Jo (Jp [0] [Bo (YF (kn1:Int))] (Jy (Jh _) (congrArg Bo (?_:(YF c)=(YF (kn1:Int))).symm)))))))))
 rw [hkn1]
theorem Jnq (G:J4) (s:Bb) (hw_s:(s).length≤140737488351232) (b_as:Nat) (hz_as:∀ j v,(Jeq:Bv)[j]? = some v→G b_as (0+j)=some v) :Q7 237 #[Sr s,Pt b_as 0] G (Sr (Jae s)):=by
 refine JS Tryz.func237 16 [(0,Sr s),(1,Pt b_as 0)] rfl (fun w0 G0=>?_)
 refine Jg [0] [] (Jf (Jx ?_))
 refine Qb (σ:=Bb) (fun q_=>(q_.length≤140737488351232)∧(Jae s=Jae q_)) (fun q_=>[(0,Sr q_),(1,Pt b_as 0)]) (fun q_=>G) (fun q_=>[]) (fun q_=>q_.length) s ⟨hw_s,rfl⟩ (fun q_ hs=>?_)
 revert hs;revert q_;intro t hs
 obtain ⟨ht,hn⟩:=hs
 dsimp only
 refine Jf (Jg [0,0,0] [(7,Bo (decide (((t).length:Int) > 0)))] (Jm (decide (((t).length:Int) > 0)) (fun h1=>?_) (fun h1=>?_)))
 refine Jq (Jc (Jx (Jf (Jf (Jd (Jb [0,0] [(8,Pt b_as 0),(9,Sr t)] ?_))))))
 obtain ⟨y1,hy1⟩:=QW (l:=t) (k:=0) (by omega)
 have hb_y1:=y1.toNat_lt
 refine Jbl (ik:=.i64) 10 0 y1 hy1 (Jl 11 (Bo (YF (y1.toNat:Int))) (Jf5 G b_as hz_as (y1.toNat:Int) J5) (Jb [0] [(12,Bo (!(YF (y1.toNat:Int))))] (Je (Jc (Jm (!(YF (y1.toNat:Int))) (fun h2=>?_) (fun h2=>?_))))))
 refine KW (J1 (VE rfl (J8 (JT (Jc (Jg [0,0] [(4,Sr t)] (Jo (Jp [0] [Sr t] (Jy (Jh _) (congrArg Sr (?_:(Jae s)=t).symm))))))))))
 rw [hn];exact Jnl hy1 (by simp_all [Ja1])
 exact Jq (Jc (Jd (Jb [0] [(13,Sr t)] (JmS (l:=t) 14 (some (I 1)) none 1 0 (.inr ⟨_,rfl⟩) (.inl ⟨rfl,rfl⟩) J5 (Jb [0] [(0,Sr (t.drop 1))] (Je (JN (Qf (t.drop 1) ⟨(by (try dsimp only);(try simp only [Hy,Hg]);omega),(by (try dsimp only);rw [hn];exact JkV hy1 (by simp_all [Ja1]))⟩ (by (try dsimp only);(try simp only [Hy,Hg]);omega)))))))))
 refine KW (J1 (J8 (JT (Jc (Jg [0,0] [(4,Sr t)] (Jo (Jp [0] [Sr t] (Jy (Jh _) (congrArg Sr (?_:(Jae s)=t).symm)))))))))
 rw [hn];exact Jnn (by omega)
theorem Jnr (G:J4) (s:Bb) (hw_s:(s).length≤140737488351232) (b_as:Nat) (hz_as:∀ j v,(Jeq:Bv)[j]? = some v→G b_as (0+j)=some v) :Q7 238 #[Sr s,Pt b_as 0] G (Sr (YT s)):=by
 refine JS Tryz.func238 22 [(0,Sr s),(1,Pt b_as 0)] rfl (fun w0 G0=>?_)
 refine Jg [0] [] (Jf (Jx ?_))
 refine Qb (σ:=Bb) (fun q_=>(q_.length≤140737488351232)∧(YT s=YT q_)) (fun q_=>[(0,Sr q_),(1,Pt b_as 0)]) (fun q_=>G) (fun q_=>[]) (fun q_=>q_.length) s ⟨hw_s,rfl⟩ (fun q_ hs=>?_)
 revert hs;revert q_;intro t hs
 obtain ⟨ht,hn⟩:=hs
 dsimp only
 refine Jf (Jg [0,0,0] [(7,Bo (decide (((t).length:Int) > 0)))] (Jm (decide (((t).length:Int) > 0)) (fun h1=>?_) (fun h1=>?_)))
 refine Jq (Jc (Jx (Jf (Jf (Jd (Jb [0,0,0,0,0] [(8,Pt b_as 0),(9,Sr t),(12,I (Ha.wrap (((t).length:Int)-1)))] ?_))))))
 have e1:Ha.wrap (((t).length:Int)-1)=((t.length-1:Nat):Int):=(Hh _ (by omega)).trans (show ((t).length:Int)-1=((t.length-1:Nat):Int) by omega)
 refine KE 12 (I ((t.length-1:Nat):Int)) (congrArg I e1) ?_
 clear e1
 obtain ⟨y1,hy1⟩:=QW (l:=t) (k:=t.length-1) (by omega)
 have hb_y1:=y1.toNat_lt
 refine Jbl (ik:=.i64) 13 (t.length-1) y1 hy1 (Jl 14 (Bo (YF (y1.toNat:Int))) (Jf5 G b_as hz_as (y1.toNat:Int) J5) (Jb [0] [(15,Bo (!(YF (y1.toNat:Int))))] (Je (Jc (Jm (!(YF (y1.toNat:Int))) (fun h2=>?_) (fun h2=>?_))))))
 refine KW (J1 (VE rfl (J8 (JT (Jc (Jg [0,0] [(4,Sr t)] (Jo (Jp [0] [Sr t] (Jy (Jh _) (congrArg Sr (?_:(YT s)=t).symm))))))))))
 rw [hn];exact Jnm hy1 (by simp_all [Ja1])
 refine Jq (Jc (Jd (Jb [0,0,0,0] [(16,Sr t),(19,I (Ha.wrap (((t).length:Int)-1)))] ?_)))
 have e2:Ha.wrap (((t).length:Int)-1)=((t.length-1:Nat):Int):=(Hh _ (by omega)).trans (show ((t).length:Int)-1=((t.length-1:Nat):Int) by omega)
 refine KE 19 (I ((t.length-1:Nat):Int)) (congrArg I e2) ?_
 clear e2
 exact Jeg (l:=t) 20 none (some (I ((t.length-1:Nat):Int))) 0 (t.length-1) (.inl ⟨rfl,rfl⟩) (.inr ⟨_,rfl⟩) (Hz _) J5 (Jb [0] [(0,Sr (t.take (t.length-1)))] (Je (JN (Qf (t.take (t.length-1)) ⟨(by (try dsimp only);(try simp only [Hy,Hg]);omega),(by (try dsimp only);rw [hn];exact JkW hy1 (by simp_all [Ja1]))⟩ (by (try dsimp only);(try simp only [Hy,Hg]);omega)))))
 refine KW (J1 (J8 (JT (Jc (Jg [0,0] [(4,Sr t)] (Jo (Jp [0] [Sr t] (Jy (Jh _) (congrArg Sr (?_:(YT s)=t).symm)))))))))
 rw [hn];exact Jno (by omega)
theorem Jns (G:J4) (s:Bb) (hw_s:(s).length≤140737488351232) :Q7 199 #[Sr s,Sr ([48,49])] G (Sr (Jbo s)):=by
 refine JS Tryz.func199 43 [(0,Sr s),(1,Sr ([48,49]))] rfl (fun w0 G0=>?_)
 refine Jg [0] [] (Jf (Jf (Jd (Jb [0,0,0] [(9,Bo ((B s).toList == (B ([])).toList))] (KE 9 (Bo (s == [])) (show (Bo ((B s).toList == (B ([])).toList):Value)=Bo (s == []) by simp only [QT]) (Kk (s == []) [9] [1,1,0] [0,0,0] (fun bb=>[(12,Bo (bb || false))]) (Je (Jc (Jm ((s == []) || false) (fun h1=>?_) (fun h1=>?_))))))))))
 refine Jg [0,0] [(4,Sr s)] (Jo (Jj (Jp [0] [Sr s] (Jy (Jh _) (congrArg Sr (?_:(Jbo s)=s).symm)))))
 (simp_all;rfl)
 refine Jq (Jc (Jf (Jg [0,0,0,0,1,1,1,0] [(21,Bo false)] (Qt (Jq (Jc (Jf (Jf (Jd (Jb [0] [(30,Sr ([48,49]))] (Jl 31 (.tuple #[.agg Jeq.toArray,Bo true]) (JkX G) (Jb [0,0,0] [(32,.agg Jeq.toArray),(33,Bo true)] (Jv 5 #[Bo false,Bo false,Bo false,Bo false,Bo false,Bo false,Bo false,Bo false,Bo false,Bo false,Bo false,Bo false,Bo false,Bo false,Bo false,Bo false,Bo false,Bo false,Bo false,Bo false,Bo false,Bo false,Bo false,Bo false,Bo false,Bo false,Bo false,Bo false,Bo false,Bo false,Bo false,Bo false,Bo false,Bo false,Bo false,Bo false,Bo false,Bo false,Bo false,Bo false,Bo false,Bo false,Bo false,Bo false,Bo false,Bo false,Bo false,Bo false,Bo false,Bo false,Bo false,Bo false,Bo false,Bo false,Bo false,Bo false,Bo false,Bo false,Bo false,Bo false,Bo false,Bo false,Bo false,Bo false,Bo false,Bo false,Bo false,Bo false,Bo false,Bo false,Bo false,Bo false,Bo false,Bo false,Bo false,Bo false,Bo false,Bo false,Bo false,Bo false,Bo false,Bo false,Bo false,Bo false,Bo false,Bo false,Bo false,Bo false,Bo false,Bo false,Bo false,Bo false,Bo false,Bo false,Bo false,Bo false,Bo false,Bo false,Bo false,Bo false,Bo false,Bo false,Bo false,Bo false,Bo false,Bo false,Bo false,Bo false,Bo false,Bo false,Bo false,Bo false,Bo false,Bo false,Bo false,Bo false,Bo false,Bo false,Bo false,Bo false,Bo false,Bo false,Bo false,Bo false,Bo false,Bo false,Bo false,Bo false,Bo false,Bo false,Bo false,Bo false,Bo false,Bo false,Bo false,Bo false,Bo false,Bo false,Bo false,Bo false,Bo false,Bo false,Bo false,Bo false,Bo false,Bo false,Bo false,Bo false,Bo false,Bo false,Bo false,Bo false,Bo false,Bo false,Bo false,Bo false,Bo false,Bo false,Bo false,Bo false,Bo false,Bo false,Bo false,Bo false,Bo false,Bo false,Bo false,Bo false,Bo false,Bo false,Bo false,Bo false,Bo false,Bo false,Bo false,Bo false,Bo false,Bo false,Bo false,Bo false,Bo false,Bo false,Bo false,Bo false,Bo false,Bo false,Bo false,Bo false,Bo false,Bo false,Bo false,Bo false,Bo false,Bo false,Bo false,Bo false,Bo false,Bo false,Bo false,Bo false,Bo false,Bo false,Bo false,Bo false,Bo false,Bo false,Bo false,Bo false,Bo false,Bo false,Bo false,Bo false,Bo false,Bo false,Bo false,Bo false,Bo false,Bo false,Bo false,Bo false,Bo false,Bo false,Bo false,Bo false,Bo false,Bo false,Bo false,Bo false,Bo false,Bo false,Bo false,Bo false,Bo false,Bo false,Bo false,Bo false,Bo false,Bo false,Bo false,Bo false,Bo false,Bo false,Bo false,Bo false,Bo false,Bo false,Bo false,Bo false,Bo false,Bo false,Bo false,Bo false,Bo false,Bo false,Bo false,Bo false] 316 (fun b1=>JX [3,0] [(6,Bo true)] [[Sg b1 0 Jeq]] (Je (Jc (Jg [0] [(34,Bo true)] (JZ ?_))))))))))))))))))
 refine Jf (Jd (Jb [0] [(35,Sr s)] (Qu (b:=b1) (o:=0) (cs:=Jeq) 0 (fun G1 hl1 hz1=>Jl 36 (Sr (YT s)) (Jnr G1 s ‹_› b1 hz1) (Jl 37 (Sr (Jae (YT s))) (Jnq G1 (YT s) (Ho (Jnp s) hw_s) b1 hz1) (Jb [0] [(4,Sr (Jae (YT s)))] (Je (Jc (Jo (Jj (Jp [0] [Sr (Jae (YT s))] (Jy hl1 (congrArg Sr (?_:(Jbo s)=(Jae (YT s))).symm)))))))))))))
 rfl
theorem JkY (G:J4) (s:Bb) (q:Bb) :Q7 263 #[Sr s,Sr q] G (Bo (decide (q <+: s))):=by
 refine JS Tryz.func263 18 [(0,Sr s),(1,Sr q)] rfl (fun w0 G0=>?_)
 refine Jg [0] [] (Jf (Jd (Jb [0,0,0,0,0,0] [(10,Bo (decide (((s).length:Int) ≥ ((q).length:Int))))] (QS [10] (decide (((s).length:Int) ≥ ((q).length:Int))) (fun h1=>?_) (fun h1=>?_)))))
 refine Jb [0,0,0] [(11,Sr s),(13,I ((q).length:Int))] (Jeg (l:=s) 14 none (some (I ((q).length:Int))) 0 ((q).length) (.inl ⟨rfl,rfl⟩) (.inr ⟨_,rfl⟩) (Hz _) J5 (Jb [0,0,0,0] [(4,Bo ((B (s.take ((q).length))).toList == (B q).toList))] (KE 4 (Bo (s.take ((q).length) == q)) (show (Bo ((B (s.take ((q).length))).toList == (B q).toList):Value)=Bo (s.take ((q).length) == q) by simp only [QT]) (Je (Jc (Jo (Jp [0] [Bo (s.take ((q).length) == q)] (Jy (Jh _) (congrArg Bo (?_:(decide (q <+: s))=(s.take ((q).length) == q)).symm)))))))))
 (rw [Hw];simp only [decide_eq_true_eq,beq_iff_eq,List.prefix_iff_eq_take];exact eq_comm)
 refine Jb [1,1,1,1,1,1,0,0] [(4,Bo false)] (Je (Jc (Jo (Jp [0] [Bo false] (Jy (Jh _) (congrArg Bo (?_:(decide (q <+: s))=false).symm))))))
 (rw [decide_eq_false];intro hp_;have q_:=hp_.length_le;omega)
theorem JgX (G:J4) (s:Bb) (q:Bb) :Q7 244 #[Sr s,Sr q] G (Bo (decide (q <+: s))):=by
 refine JS Tryz.func244 8 [(0,Sr s),(1,Sr q)] rfl (fun w0 G0=>?_)
 refine Jg [0] [] (Jf (Jd (Jb [0,0] [(5,Sr s),(6,Sr q)] (Jl 7 (Bo (decide (q <+: s))) (JkY G s q) (Jb [0] [(4,Bo (decide (q <+: s)))] (Je (Jc (Jo (Jp [0] [Bo (decide (q <+: s))] (Jy (Jh _) (congrArg Bo (?_:(decide (q <+: s))=(decide (q <+: s))).symm)))))))))))
 rfl
theorem isB_bd {b:UInt8} (h:isB b=true):48≤b.toNat∧b.toNat≤49:=by
 unfold isB at h
 simp only [HZ,beq_iff_eq] at h
 rcases h with rfl | rfl <;> decide
theorem Jdf (name:Bb):∀ b∈YR name,isB b=true:=by
 intro b hb
 unfold YR at hb
 obtain ⟨n,hn,rfl⟩:=List.mem_map.1 hb
 have:n=48∨n=49:=by
  simp only [HE,HW,or_false] at hn
  have key:∀ k,JE (Ji name) k=48∨JE (Ji name) k=49:=fun k=>by unfold JE;omega
  rcases hn with rfl | rfl | rfl | rfl | rfl | rfl | rfl | rfl | rfl | rfl | rfl | rfl | rfl | rfl | rfl | rfl <;> exact key _
 rcases this with rfl | rfl <;> decide
theorem Jer {a:Bb} (h:(KJ a).2=0):(KJ a).1=YR a:=by
 unfold KJ at h ⊢;split at h
 · cases h
 · rename_i h1;rw [if_neg h1]
def JkZ (x:J3):Bb:=(VP [x.name,x.value]).1
def KY (l:List J3):Bb:=if l.length=0 then [0] else [1]++(l.map JkZ).flatten
theorem Jo2 (x:J3):(JkZ x).length≤600:=JcB _
theorem Jjx (l:List J3):((l.map JkZ).flatten).length≤600*l.length:=by
 induction l with
 | nil=>simp
 | cons x l ih=>simp only [List.map_cons,List.flatten_cons,Hc,Hd];have:=Jo2 x;omega
theorem JbF {l:List J3} (h:l.length≤24):(KY l).length≤14401:=by
 unfold KY;split
 · simp
 · rw [Hc];have:=Jjx l;simp only [Hd,Hf];omega
theorem Jnt {l:List J3} {i:Nat} {x:J3} (h:l[i]? = some x):([1]++((l.take i).map JkZ).flatten)++(VP [x.name,x.value]).1=[1]++((l.take (i+1)).map JkZ).flatten:=by rw [Hp,h];simp [JkZ]
def entZ:J3:=⟨[],[]⟩
def Jk0 (l:List J3):J3:=l[0]?.getD entZ
def Jo3 (l:List J3):J3:=l[l.length-1]?.getD entZ
theorem Jdg {l:List J3} {x:J3} (h:l[0]? = some x):x=Jk0 l:=by unfold Jk0;rw [h];rfl
theorem Jes {l:List J3} {x:J3} (h:l[l.length-1]? = some x):x=Jo3 l:=by unfold Jo3;rw [h];rfl
def Kc (l:List J3):Bb×Int:=if Kn l ≠ 0 then ([],Kn l) else if 0<(l.length:Int)∧¬ way (Jk0 l).name=way (Jo3 l).name then ([],3) else (KY l,0)
theorem Z9 (l:List J3):(Kc l).1.length≤14401:=by
 unfold Kc;split
 · simp
 split
 · simp
 · rename_i h _;exact JbF (KS.1 (Hj.1 h)).len
theorem Jiu:Kc []=([0],0):=by decide +kernel
def JaN (x:J3) (w:Bb):Bool:=!(way x.name == w)
def JbG (m:Int):Bool:=decide (m ≥ 2305843009213693951)
def QM (p:Qy):Int:=if KC p.name=false then 3 else if Kn p.entries ≠ 0 then Kn p.entries else if ((p.entries.any fun x0=>JaN x0 (way p.name))=true∨¬ (p.sides.length:Int)=16)∨(p.sides.any fun x0=>JbG x0)=true then 3 else 0
def Jf6:Bb:=(Kc []).1
def JgY (a b:Int):Bb:=if a=Ji Jf6∧b=Ji Jf6 then Jf6 else Qe 2 a b
def VS (w:Bb) (i:Nat) (s:Bb) (side:Int):Bb:=if w[15-i]? = some 49 then JgY side (Ji s) else JgY (Ji s) side
def Ja8 (w:Bb):Nat→Bb→List Int→Bs
 | _,s,[]=>[s]
 | i,s,q::qs=>s::Ja8 w (i+1) (VS w i s q) qs
theorem Ya (w:Bb):∀ (qs:List Int) (i:Nat) (s:Bb),(Ja8 w i s qs).length=qs.length+1
 | [],_,_=>rfl
 | q::qs,i,s=>by show (Ja8 w (i+1) _ qs).length+1=_;rw [Ya w qs];rfl
theorem Jk1 (w:Bb) (qs:List Int) (i:Nat) (s:Bb):(Ja8 w i s qs)[0]? = some s:=by cases qs <;> rfl
theorem Jk2 (w:Bb) (qs:List Int) (i:Nat) (s:Bb):[s]=(Ja8 w i s qs).take 1:=by cases qs <;> rfl
theorem Jet (w:Bb):∀ (qs:List Int) (i k:Nat) (s a:Bb) (q:Int),(Ja8 w i s qs)[k]? = some a→qs[k]? = some q→(Ja8 w i s qs)[k+1]? = some (VS w (i+k) a q)
 | [],_,_,_,_,_,_,h=>by simp at h
 | q::qs,i,0,s,a,q',h1,h2=>by
  have h1:some s=some a:=h1
  have h2:some q=some q':=h2
  rw [← Hq.inj h1,← Hq.inj h2]
  exact Jk1 w qs (i+1) _
 | q::qs,i,k+1,s,a,q',h1,h2=>by
  have:=Jet w qs (i+1) k (VS w i s q) a q' h1 h2
  rw [show i+(k+1)=i+1+k by omega];exact this
theorem Vw {w:Bb} {qs:List Int} {s0 s:Bb} {xo:Bs} {i:Nat} {q:Int} (ho:xo=(Ja8 w 0 s0 qs).take (i+1)) (hs:(Ja8 w 0 s0 qs)[i]? = some s) (hq:qs[i]? = some q):xo++[VS w i s q]=(Ja8 w 0 s0 qs).take (i+1+1)∧(Ja8 w 0 s0 qs)[i+1]? = some (VS w i s q):=by
 have:=Jet w qs 0 i s0 s q hs hq
 rw [HX] at this
 refine ⟨?_,this⟩
 rw [ho]
 conv=>rhs;rw [Hp,this]
 rfl
def K5 (p:Qy):Bs×Int:=if QM p ≠ 0 then ([],QM p) else (Ja8 (way p.name) 0 (Kc p.entries).1 p.sides,0)
theorem VX {name:Bb} (h:KC name=true):(way name).length=16:=by unfold way KJ;rw [if_neg (by rw [h];simp)];exact Jan name
structure JdM (p:Qy):Prop where
 name:KC p.name=true
 ents:Wd p.entries
 ways:∀ x∈p.entries,way x.name=way p.name
 sides:p.sides.length=16
 marks:∀ m∈p.sides,m<2305843009213693951
theorem We {p:Qy}:QM p=0 ↔ JdM p:=by
 unfold QM
 constructor
 ·
  intro h
  split at h
  · cases h
  split at h
  · contradiction
  split at h
  · cases h
  ·
   rename_i h1 h2 h3
   refine ⟨by simpa using h1,KS.1 (Hj.1 h2),fun x hx=>?_,?_,fun m hm=>?_⟩
   ·
    apply Classical.byContradiction;intro hc
    exact h3 (.inl (.inl (HD.2 ⟨x,hx,by unfold JaN;simpa using hc⟩)))
   ·
    apply Classical.byContradiction;intro hc
    exact h3 (.inl (.inr (by omega)))
   ·
    apply Classical.byContradiction;intro hc
    exact h3 (.inr (HD.2 ⟨m,hm,by unfold JbG;simp;omega⟩))
 ·
  rintro ⟨h1,h2,h3,h4,h5⟩
  rw [if_neg (by rw [h1];simp),if_neg (by have:=KS.2 h2;omega),if_neg]
  rintro ((hc | hc) | hc)
  ·
   obtain ⟨x,hx,e⟩:=HD.1 hc
   unfold JaN at e;simp at e
   exact e (h3 x hx)
  · omega
  ·
   obtain ⟨m,hm,e⟩:=HD.1 hc
   have:=h5 m hm
   unfold JbG at e;simp at e;omega
theorem Jfy {a b:Int} (h:(if b > a then b else a)=Ji (Kc []).1∧a=b):JgY a b=(Kc []).1:=by
 unfold JgY Jf6;obtain ⟨h1,rfl⟩:=h;rw [if_pos];split at h1 <;> exact ⟨h1,h1⟩
theorem Jfz {a b:Int} (h:¬ (if b > a then b else a)=Ji (Kc []).1∨¬ a=b):JgY a b=Qe 2 a b:=by
 unfold JgY Jf6;rw [if_neg];rintro ⟨rfl,h2⟩
 rcases h with h | h
 · exact h (by split <;> omega)
 · exact h h2.symm
theorem JfA {w s:Bb} {i k:Nat} {q:Int} {y:UInt8} (h:15-i=k) (hy:w[k]? = some y) (e:(y.toNat:Int)=49):VS w i s q=JgY q (Ji s):=by
 have:y=49:=Jqz.1 e
 unfold VS;rw [h,hy,this,if_pos rfl]
theorem JfB {w s:Bb} {i k:Nat} {q:Int} {y:UInt8} (h:15-i=k) (hy:w[k]? = some y) (e:¬ (y.toNat:Int)=49):VS w i s q=JgY (Ji s) q:=by
 unfold VS;rw [h,hy,if_neg]
 intro hc;apply e;rw [Hq.inj hc];rfl
theorem Jaq (G:J4) (a_l:Ba) (c_l:Nat) (l:List J3) (h_l:RS QJ G a_l c_l l) (h24:l.length≤24):Q7 181 #[Sl a_l l.length c_l] G (Sr (KY l)):=by
 refine JS Tryz.func181 35 [(0,Sl a_l l.length c_l)] rfl (fun w0 G0=>?_)
 refine Jg [0] [] (Jf (Jg [0,0,0] [(10,Bo (decide ((l.length:Int)=0)))] (Jm (decide ((l.length:Int)=0)) (fun h1=>?_) (fun h1=>?_))))
 refine Jf (Jd (Ki 11 1 #[Y 0] 5 (fun b1=>Jbm (b:=b1) (off:=0) (len:=1) (cap:=1) (cs:=List.map (Value.int .u8) [0]) 12 0 [0] rfl (Jaw (ns:=[0]) rfl) (Jb [0] [(2,Sr (([0]:List Int).map fun n=>HJ n.toNat))] (Je (Jc (Jo (Jj (Jp [0] [Sr (([0]:List Int).map fun n=>HJ n.toNat)] (Jy (Jh _) (congrArg Sr (?_:(KY l)=(([0]:List Int).map fun n=>HJ n.toNat)).symm)))))))))))
 unfold KY;(rw [if_pos (by omega)];rfl)
 refine Jq (Jc (Jf (Jd (Ki 13 1 #[Y 1] 5 (fun b2=>Jbm (b:=b2) (off:=0) (len:=1) (cap:=1) (cs:=List.map (Value.int .u8) [1]) 14 0 [1] rfl (Jaw (ns:=[1]) rfl) (Jb [0] [(3,Sr (([1]:List Int).map fun n=>HJ n.toNat))] (Je (Jc (Jf (Jg [0,0,0] [(15,Sl a_l l.length c_l),(16,I (l.length:Int)),(17,I 0)] (Jx ?_)))))))))))
 have hlm_h_l:l.length≤9223372036854775807:=Ho (h_l).le (h_l).max
 refine Qb (σ:=Nat×Bb×J4) (fun q_=>(J4.le G q_.2.2)∧(q_.1≤l.length)∧(q_.2.1=[1]++((l.take q_.1).map JkZ).flatten)) (fun q_=>[(3,Sr q_.2.1),(15,Sl a_l l.length c_l),(16,I (l.length:Int)),(17,I (q_.1:Int))]) (fun q_=>q_.2.2) (fun q_=>[[Sg b2 0 [Y 1]]]) (fun q_=>l.length-q_.1) (0,([1]:List Int).map fun n=>HJ n.toNat,G) ⟨(Jh _),(by (try dsimp only);exact Hz _),(by (try dsimp only);simp)⟩ (fun q_ hs=>?_)
 obtain ⟨i,o,g⟩:=q_
 obtain ⟨hle,hi,ho⟩:=hs
 dsimp only at hle hi ho
 dsimp only
 refine Jg [0] [(18,Bo (decide ((i:Int)<(l.length:Int))))] (Jf (Jm (decide ((i:Int)<(l.length:Int))) (fun h2=>?_) (fun h2=>?_)))
 refine Jq (Jc (Jf (Jx (Jf (Jd ?_)))))
 obtain ⟨b3,o1,rfl⟩:=RS.addr (h_l.mono hle) (k:=i) (by omega)
 obtain ⟨x1,hx1⟩:=QW (l:=l) (k:=i) (by omega)
 obtain ⟨_,⟨rfl,w1,w2⟩,hc1⟩:=RS.get (h_l.mono hle) hx1
 refine JY (b:=b3) (off:=o1) (len:=l.length) (cap:=c_l) (ik:=.i64) 19 111 2 i J5 (JR 20 111 (cs:=[Sr x1.name,Sr x1.value]) 0 (.agg #[Sr x1.name,Sr x1.value]) hc1 (Jv 5 #[Sr ([]),Sr ([])] 111 (fun b4=>JX [3] [] [[Sg b4 0 [Sr x1.name,Sr x1.value]],[Sg b2 0 [Y 1]]] (Je (Jc (Jf (Jd (Jb [0,2,0,2] [(23,Sr x1.name),(25,Sr x1.value)] (Ki 26 2 #[Sr x1.name,Sr x1.value] 9 (fun b5=>Qu (b:=b5) (o:=0) (cs:=[Sr x1.name,Sr x1.value]) 0 (fun G1 hl1 hz1=>?_)))))))))))
 have hs1:RS ES G1 (At b5 0) 2 [x1.name,x1.value]:=RS.lit [[Sr x1.name],[Sr x1.value]] [x1.name,x1.value] ⟨⟨rfl,w1⟩,⟨⟨rfl,w2⟩,trivial⟩⟩ hz1 (Hb rfl) (Hb rfl)
 exact Jl 27 (.tuple #[Sr ((VP ([x1.name,x1.value])).1),I ((VP ([x1.name,x1.value])).2)]) (Jjh G1 (At b5 0) 2 ([x1.name,x1.value]) hs1) (Jb [0,0,0,0,0] [(6,Sr ((VP ([x1.name,x1.value])).1))] (Je (Jc (Jd (Jb [0,0] [(30,Sr o),(31,Sr ((VP ([x1.name,x1.value])).1))] (Wi 32 o ((VP ([x1.name,x1.value])).1) (by have q_:=congrArg Hn ho;have q1_:=Jjx (l.take i);have q2_:=JcB [x1.name,x1.value];rw [Hg] at q1_;simp only [Hc,Hd,Hf] at q_;omega) (Jb [0] [(3,Sr (o++((VP ([x1.name,x1.value])).1)))] (Je (JN (Jc (Jd (Jb [0,0] [(17,I (Ha.wrap ((i:Int)+1)))] (Kp 17 ((i:Int)+1) J5 (Je (QA [[Sg b2 0 [Y 1]]] (Qf (i+1,o++((VP ([x1.name,x1.value])).1),G1) ⟨(Ja hle hl1),J5,(by (try dsimp only);rw [ho];exact Jnt hx1)⟩ (by (try dsimp only);omega)))))))))))))))))
 refine KW (J1 (J8 (JT (Jc (Jg [0,0] [(2,Sr o)] (Jo (Jp [0] [Sr o] (Jy hle (congrArg Sr (?_:(KY l)=o).symm)))))))))
 unfold KY;(rw [if_neg (by omega),ho,Ht (by omega)])
theorem JdN (G:J4) (a_l:Ba) (c_l:Nat) (l:List J3) (h_l:RS QJ G a_l c_l l) :Q7 126 #[Sl a_l l.length c_l] G (.tuple #[Sr ((Kc l).1),I ((Kc l).2)]):=by
 refine JS Tryz.func126 31 [(0,Sl a_l l.length c_l)] rfl (fun w0 G0=>?_)
 refine Jg [0,0] [] (Jf (Jf (Jd (Jb [0] [(5,Sl a_l l.length c_l)] (Jl 6 (I (Kn l)) (Vh G a_l c_l l h_l) (Jb [0] [(4,I (Kn l))] (Je (Jc (Jg [0,0] [(8,Bo (!decide (Kn l=0)))] (Jm (!decide (Kn l=0)) (fun h1=>?_) (fun h1=>?_)))))))))))
 refine Jg [0,0,0] [(2,Sr ([])),(3,I (Kn l))] (Jo (Jj (Jp [0,0] [Sr ([]),I (Kn l)] (Jy (Jh _) ?_))))
 have hf_:(Kc l)=([],(Kn l)):=by
  unfold Kc;(rw [if_pos ‹_›];done)
 · (try rw [hf_]);(simp only [QD];done)
 refine Jq (Jc (Jf (Jf ?_)))
 rcases Hr (decide ((l.length:Int) > 0)) with h2 | h2
 have h2d:=h2
 try simp only [BB] at h2d
 obtain ⟨b1,o1,rfl⟩:=RS.addr h_l (k:=0) (by omega)
 obtain ⟨x1,hx1⟩:=QW (l:=l) (k:=0) (by omega)
 obtain ⟨_,⟨rfl,w1,_⟩,hc1⟩:=RS.get h_l hx1
 have e1:Ha.wrap ((l.length:Int)-1)=((l.length-1:Nat):Int):=(Hh _ (by (have q_:=(KS.1 ‹_›).len;omega))).trans (show (l.length:Int)-1=((l.length-1:Nat):Int) by omega)
 obtain ⟨x2,hx2⟩:=QW (l:=l) (k:=l.length-1) (by omega)
 obtain ⟨_,⟨rfl,w3,_⟩,hc2⟩:=RS.get h_l hx2
 refine Kt [] (Wz [(0,Sl (At b1 o1) l.length c_l),(1,I (l.length:Int)),(2,Bo true),(3,Bo true),(4,Sl (At b1 o1) l.length c_l),(5,Pt b1 (o1+0*2)),(6,Pt b1 (o1+0*2)),(7,Sr x1.name),(8,Sr (way x1.name)),(9,Sl (At b1 o1) l.length c_l),(10,Sl (At b1 o1) l.length c_l),(11,I (l.length:Int)),(12,I ((l.length-1:Nat):Int)),(13,Pt b1 (o1+(l.length-1)*2)),(14,Pt b1 (o1+(l.length-1)*2)),(15,Sr x2.name),(16,Sr (way x2.name)),(17,Bo (!((B (way x1.name)).toList == (B (way x2.name)).toList))),(18,Bo (!((B (way x1.name)).toList == (B (way x2.name)).toList)))] (Kq [] [(0,0),(1,0),(3,0),(4,0),(6,0),(9,0),(10,0),(11,0),(14,0),(17,0),(18,0)] [2,5,7,8,12,13,15,16] [(0,Sl (At b1 o1) l.length c_l),(28,Bo (!((B (way x1.name)).toList == (B (way x2.name)).toList)))] (Kb ?_ (Kb ?_ (Kb ?_ (Kb ?_ (Kb ?_ (Kb ?_ (Kb ?_ (Kb ?_ K4)))))))) ?_))
 refine Jr 2 12 (Bo true) [(11,I (l.length:Int))] (fun X=>?_)
 exact Qc 12 (Bo (decide ((l.length:Int) > 0))) (Bo true) (by rw [h2]) Jn
 refine Jr 5 15 (Pt b1 (o1+0*2)) [(13,Bo true),(14,Sl (At b1 o1) l.length c_l)] (fun X=>?_)
 exact JY (b:=b1) (off:=o1) (len:=l.length) (cap:=c_l) (ik:=.i64) 15 111 2 0 J5 Jn
 refine Jr 7 17 (Sr x1.name) [(13,Bo true),(16,Pt b1 (o1+0*2))] (fun X=>?_)
 exact JR 17 9 (cs:=[Sr x1.name,Sr x1.value]) 0 (Sr x1.name) hc1 Jn
 refine Jr 8 18 (Sr (way x1.name)) [(13,Bo true),(17,Sr x1.name)] (fun X=>?_)
 exact Jl 18 (Sr (way x1.name)) (JdI G x1.name w1) Jn
 refine Jr 12 22 (I ((l.length-1:Nat):Int)) [(13,Bo true),(21,I (l.length:Int))] (fun X=>?_)
 exact Qc 22 (I (Ha.wrap ((l.length:Int)-1))) (I ((l.length-1:Nat):Int)) (by simp only [e1]) Jn
 refine Jr 13 23 (Pt b1 (o1+(l.length-1)*2)) [(13,Bo true),(19,Sl (At b1 o1) l.length c_l),(22,I ((l.length-1:Nat):Int))] (fun X=>?_)
 exact JY (b:=b1) (off:=o1) (len:=l.length) (cap:=c_l) (ik:=.i64) 23 111 2 (l.length-1) J5 Jn
 refine Jr 15 25 (Sr x2.name) [(13,Bo true),(24,Pt b1 (o1+(l.length-1)*2))] (fun X=>?_)
 exact JR 25 9 (cs:=[Sr x2.name,Sr x2.value]) 0 (Sr x2.name) hc2 Jn
 refine Jr 16 26 (Sr (way x2.name)) [(13,Bo true),(25,Sr x2.name)] (fun X=>?_)
 exact Jl 26 (Sr (way x2.name)) (JdI G x2.name w3) Jn
 refine Jc6 28 (Bo (!(way x1.name == way x2.name))) (show (Bo (!((B (way x1.name)).toList == (B (way x2.name)).toList)):Value)=Bo (!(way x1.name == way x2.name)) by simp only [QT]) (Jc (Jm (!(way x1.name == way x2.name)) (fun h3=>?_) (fun h3=>?_)))
 refine Jg [0,0] [(2,Sr ([])),(3,I 3)] (Jo (Jj (Jp [0,0] [Sr ([]),I 3] (Jy (Jh _) ?_))))
 have hf_:(Kc l)=([],3):=by
  unfold Kc;(have hf_:=Jdg hx1;(have hl_:=Jes hx2;subst hf_;subst hl_;rw [if_neg (by omega)];(rw [if_pos (by simp_all)];done)))
 · (try rw [hf_]);(simp only [QD];done)
 refine Jq (Jc (Jf (Jd (Jb [0] [(29,Sl (At b1 o1) l.length c_l)] (Jl 30 (Sr (KY l)) (Jaq G (At b1 o1) c_l l h_l (by exact (KS.1 ‹_›).len)) (Jb [0,0] [(2,Sr (KY l)),(3,I 0)] (Je (Jc (Jo (Jp [0,0] [Sr (KY l),I 0] (Jy (Jh _) ?_)))))))))))
 have hf_:(Kc l)=(KY l,0):=by
  unfold Kc;(have hf_:=Jdg hx1;(have hl_:=Jes hx2;subst hf_;subst hl_;rw [if_neg (by omega)];(rw [if_neg (by simp_all)];done)))
 · (try rw [hf_]);(simp only [QD];done)
 have h2d:=h2
 try simp only [BB] at h2d
 refine Kt [] (Wz [(0,Sl a_l l.length c_l),(1,I (l.length:Int)),(2,Bo false),(3,Bo false),(4,undef),(5,undef),(6,undef),(7,undef),(8,undef),(9,undef),(10,undef),(11,undef),(12,undef),(13,undef),(14,undef),(15,undef),(16,undef),(17,undef),(18,Bo false)] (Kq [] [(0,0),(1,0),(3,0),(4,1),(5,1),(6,1),(7,1),(8,1),(9,1),(10,1),(11,1),(12,1),(13,1),(14,1),(15,1),(16,1),(17,1),(18,0)] [2] [(0,Sl a_l l.length c_l),(28,Bo false)] (Kb ?_ K4) ?_))
 refine Jr 2 12 (Bo false) [(11,I (l.length:Int))] (fun X=>?_)
 exact Qc 12 (Bo (decide ((l.length:Int) > 0))) (Bo false) (by rw [h2]) Jn
 refine Jc (Qt (Jq (Jc (Jf (Jd (Jb [0] [(29,Sl a_l l.length c_l)] (Jl 30 (Sr (KY l)) (Jaq G a_l c_l l h_l (by exact (KS.1 ‹_›).len)) (Jb [0,0] [(2,Sr (KY l)),(3,I 0)] (Je (Jc (Jo (Jp [0,0] [Sr (KY l),I 0] (Jy (Jh _) ?_)))))))))))))
 have hf_:(Kc l)=(KY l,0):=by
  unfold Kc;(rw [if_neg (by omega),if_neg (by intro hc_;omega)];done)
 · (try rw [hf_]);(simp only [QD];done)
theorem JdO (G:J4) (name:Bb) (hw_name:(name).length≤140737488351232) :Q7 127 #[Sr name] G (Sr (way name)):=by
 refine JS Tryz.func127 11 [(0,Sr name)] rfl (fun w0 G0=>?_)
 refine Jg [0] [] (Jf (Jd (Jb [0] [(6,Sr name)] (Jl 7 (.tuple #[Sr ((KJ name).1),I ((KJ name).2)]) (Jdd G name hw_name) (Jb [0,0,0,0,0] [(3,Sr ((KJ name).1))] (Je (Jc (Jg [0,0] [(2,Sr ((KJ name).1))] (Jo (Jp [0] [Sr ((KJ name).1)] (Jy (Jh _) (congrArg Sr (?_:(way name)=((KJ name).1)).symm))))))))))))
 rfl
theorem Jk3 (G:J4) (vs_x:Bv) (x:J3) (h_x:QJ.R G vs_x x) (vs_w:Bv) (w:Bb) (h_w:ES.R G vs_w w) (b_w:Nat) (hz_w:∀ j v,(vs_w:Bv)[j]? = some v→G b_w (0+j)=some v) :Q7 178 #[.agg vs_x.toArray,Pt b_w 0] G (Bo (JaN x w)):=by
 obtain ⟨rfl,w1,_⟩:=h_x
 obtain ⟨rfl,_⟩:=h_w
 refine JS Tryz.func178 9 [(0,.agg #[Sr x.name,Sr x.value]),(1,Pt b_w 0)] rfl (fun w0 G0=>?_)
 refine Jf (Jd (Jv 2 #[Sr x.name,Sr x.value] 111 (fun b1=>Jb [0] [] (Je (Jc (Jf (Kt [] (Wz [(0,Pt b1 0),(1,Sr x.name),(2,Sr (way x.name)),(3,Sr w),(4,Bo (!((B (way x.name)).toList == (B w).toList))),(5,Bo (!((B (way x.name)).toList == (B w).toList)))] (Kq [] [(0,0),(1,2),(4,0),(5,0)] [2,3] [(3,Bo (!((B (way x.name)).toList == (B w).toList)))] (Kb ?_ (Kb ?_ K4)) ?_)))))))))
 refine Jr 2 6 (Sr (way x.name)) [(5,Sr x.name)] (fun X=>?_)
 exact Jl 6 (Sr (way x.name)) (JdO G x.name w1) Jn
 refine Jr 3 7 (Sr w) [(1,Pt b_w 0)] (fun X=>?_)
 exact JR (o':=0) 7 9 (cs:=[Sr w]) 0 (Sr w) hz_w Jn
 refine Jc6 3 (Bo (!(way x.name == w))) (show (Bo (!((B (way x.name)).toList == (B w).toList)):Value)=Bo (!(way x.name == w)) by simp only [QT]) (Jc (Jo (Jp [0] [Bo (!(way x.name == w))] (Jy (Jh _) (congrArg Bo (?_:(JaN x w)=(!(way x.name == w))).symm)))))
 rfl
theorem Jk4 (G:J4) (m:Int) :Q7 180 #[U m] G (Bo (JbG m)):=by
 refine JS Tryz.func180 5 [(0,U m)] rfl (fun w0 G0=>?_)
 refine Jg [0] [] (Jg [0,0,0] [(2,Bo (decide (m ≥ 2305843009213693951)))] (Jo (Jp [0] [Bo (decide (m ≥ 2305843009213693951))] (Jy (Jh _) (congrArg Bo (?_:(JbG m)=(decide (m ≥ 2305843009213693951))).symm)))))
 rfl
theorem Jf7 (G:J4) (vs_p:Bv) (p:Qy) (h_p:JfW.R G vs_p p) :Q7 125 #[.agg vs_p.toArray] G (I (QM p)):=by
 obtain ⟨a1,c1,a2,c2,rfl,w1,hs1,hs2⟩:=h_p
 refine JS Tryz.func125 33 [(0,(Jah p a1 c1 a2 c2))] rfl (fun w0 G0=>?_)
 refine Jf (Jd (Jv 1 #[Sr p.name,Sl a1 p.entries.length c1,Sl a2 p.sides.length c2] 47 (fun b1=>Jb [0] [] (Je (Jc (Jf (Jf (Jd (Jb [0,2] [(6,Sr p.name)] (Jl 7 (Bo (KC p.name)) (Z7 G p.name) (Jb [0] [(8,Bo (!(KC p.name)))] (Je (Jc (Jm (!(KC p.name)) (fun h1=>?_) (fun h1=>?_)))))))))))))))
 refine Jg [0] [(2,I 3)] (Jo (Jj (Jp [0] [I 3] (Jy (Jh _) (congrArg I (?_:(QM p)=3).symm)))))
 · unfold QM;(rw [if_pos ‹_›];done)
 refine Jq (Jc (Jf (Jf (Jd (Jb [0,2] [(10,Sl a1 p.entries.length c1)] (Jl 11 (I (Kn p.entries)) (Vh G a1 c1 p.entries hs1) (Jb [0] [(3,I (Kn p.entries))] (Je (Jc (Jg [0,0] [(13,Bo (!decide (Kn p.entries=0)))] (Jm (!decide (Kn p.entries=0)) (fun h2=>?_) (fun h2=>?_))))))))))))
 refine Jg [0,0] [(2,I (Kn p.entries))] (Jo (Jj (Jp [0] [I (Kn p.entries)] (Jy (Jh _) (congrArg I (?_:(QM p)=(Kn p.entries)).symm)))))
 · unfold QM;(rw [if_neg (by simp_all),if_pos ‹_›];done)
 refine Jq (Jc (Jf (Jd (Jb [0,2] [(16,Sr p.name)] (Jl 17 (Sr (way p.name)) (JdO G p.name w1) (Jv 4 #[Sr ([])] 9 (fun b2=>JX [3] [] [[Sg b2 0 [Sr (way p.name)]],[Sg b1 0 (VV p a1 c1 a2 c2)]] (Je (Jc (Jf (Jf (Jd (Jb [0,4,0] [(19,Sl a1 p.entries.length c1),(20,Fv 178 #[Pt b2 0])] (Qu (b:=b2) (o:=0) (cs:=[Sr (way p.name)]) 0 (fun G1 hl1 hz1=>Jl 21 (Bo (p.entries.any (fun x0=>JaN x0 (way p.name)))) (Jnd G1 a1 c1 p.entries (hs1.mono hl1) 178 #[Pt b2 0] (fun x0=>JaN x0 (way p.name)) (fun _ _=>by kernel_rfl) (fun vs0 x0 hx0=>by obtain ⟨rfl,w2,w3⟩:=hx0;exact Jk3 G1 [Sr x0.name,Sr x0.value] x0 (⟨rfl,w2,w3⟩) [Sr (way p.name)] (way p.name) (⟨rfl,(Ho (JqE p.name) (by decide))⟩) b2 hz1)) (Jb [0] [(22,Bo (p.entries.any (fun x0=>JaN x0 (way p.name))))] (Kk (p.entries.any (fun x0=>JaN x0 (way p.name))) [22] [1,1,1,1,0] [0,4,0,0,0] (fun bb=>[(27,Bo (bb || (!decide ((p.sides.length:Int)=16))))]) (Jb [0] [(28,Bo ((p.entries.any (fun x0=>JaN x0 (way p.name))) || (!decide ((p.sides.length:Int)=16))))] ?_))))))))))))))))))
 refine QS [28] ((p.entries.any (fun x0=>JaN x0 (way p.name))) || (!decide ((p.sides.length:Int)=16))) (fun h3=>?_) (fun h3=>?_)
 refine Jb [1,1,1,0] [(32,Bo true)] (Je (Jc (JZ (Jg [0] [(2,I 3)] (Jo (Jj (Jp [0] [I 3] (Jy hl1 (congrArg I (?_:(QM p)=3).symm)))))))))
 · unfold QM;(rw [if_neg (by simp_all),if_neg (by omega)];(rw [if_pos (by simp_all)];done))
 refine Jb [0,4] [(30,Sl a2 p.sides.length c2)] (Jl 31 (Bo (p.sides.any (fun x0=>JbG x0))) (JqD G1 a2 c2 p.sides (hs2.mono hl1) 180 #[] (fun x0=>JbG x0) (fun _ _=>by kernel_rfl) (fun x0 hx0=>Jk4 G1 x0)) (Jb [0] [(32,Bo (p.sides.any (fun x0=>JbG x0)))] (Je (Jc (Jm (p.sides.any (fun x0=>JbG x0)) (fun h4=>?_) (fun h4=>?_))))))
 refine Jg [0] [(2,I 3)] (Jo (Jj (Jp [0] [I 3] (Jy hl1 (congrArg I (?_:(QM p)=3).symm)))))
 · unfold QM;(rw [if_neg (by simp_all),if_neg (by omega)];(rw [if_pos (by simp_all)];done))
 refine Jq (Jc (Jg [0] [(2,I 0)] (Jo (Jp [0] [I 0] (Jy hl1 (congrArg I (?_:(QM p)=0).symm))))))
 · unfold QM;(rw [if_neg (by simp_all),if_neg (by omega)];(rw [if_neg (by simp_all)];done))
set_option maxRecDepth 20000 in
theorem JgZ (G:J4) (vs_p:Bv) (p:Qy) (h_p:JfW.R G vs_p p) :YL 73 #[.agg vs_p.toArray] G [] (fun u G' L'=>∃ (a1:Ba) (c2:Nat),u=.tuple #[Sl a1 (((K5 p).1).length) c2,I ((K5 p).2)]∧(RS ES G' a1 c2 ((K5 p).1))∧L'=[]):=by
 obtain ⟨a1,c1,a2,c2,rfl,w1,hs1,hs2⟩:=h_p
 refine JS Tryz.func73 74 [(0,(Jah p a1 c1 a2 c2))] rfl (fun w0 G0=>?_)
 refine Jf (Jd (Jv 1 #[Sr p.name,Sl a1 p.entries.length c1,Sl a2 p.sides.length c2] 47 (fun b1=>Jb [0,0] [] (Je (Jc (Jf (Jf (Jd (Jb [2] [(15,(Jah p a1 c1 a2 c2))] (Jl 16 (I (QM p)) (Jf7 G (VV p a1 c1 a2 c2) p (⟨a1,c1,a2,c2,rfl,w1,hs1,hs2⟩)) (Jb [0] [(4,I (QM p))] (Je (Jc (Jg [0,0] [(18,Bo (!decide (QM p=0)))] (Jm (!decide (QM p=0)) (fun h1=>?_) (fun h1=>?_))))))))))))))))
 refine Jg [0,0,0] [(2,Sl none 0 0),(3,I (QM p))] (Jo (Jj ?_))
 have hf1:K5 p=([],QM p):=by
  unfold K5;(simp_all;done)
 refine Jp [0,0] [Sl none 0 0,I (QM p)] (JB [] (Jh _) ?_)
 rw [hf1]
 try dsimp only
 exact ⟨none,0,rfl,(JP ES G),rfl⟩
 refine Jq (Jc (Jf (Jd (Jl 21 (.tuple #[Sr ((Kc ([])).1),I ((Kc ([])).2)]) (JdN G none 0 ([]) (JP QJ G)) (Jb [0,0,0,0,0] [(5,Sr ((Kc ([])).1))] (Je (Jc (Jf (Jd (Jb [0,2] [(26,Sl a1 p.entries.length c1)] (Jl 27 (.tuple #[Sr ((Kc p.entries).1),I ((Kc p.entries).2)]) (JdN G a1 c1 p.entries hs1) (Jb [0,0,0,0,0] [(7,Sr ((Kc p.entries).1))] (Je (Jc (Jf (Jd (Jb [0] [(30,Sr ((Kc p.entries).1))] (Ki 31 1 #[Sr ((Kc p.entries).1)] 9 (fun b2=>Jb [0] [(9,Sl (At b2 0) 1 1)] (Je (Jc (Jf (Jd (Jb [0,4] [(33,Sr p.name)] (Jl 34 (Sr (way p.name)) (JdO G p.name w1) ?_)))))))))))))))))))))))))
 refine Jb [0] [(10,Sr (way p.name))] (Je (Jc (Jf (Jg [0,4,0,0] [(36,Sl a2 p.sides.length c2),(37,I (p.sides.length:Int)),(38,I 0)] (Jx ?_)))))
 have hlm_hs2:p.sides.length≤9223372036854775807:=Ho (hs2).le (hs2).max
 refine Qb (σ:=Nat×Bb×Ba×Nat×Bg×Bs×J4) (fun q_=>(J4.le G q_.2.2.2.2.2.2)∧(q_.1≤p.sides.length)∧(q_.2.1.length≤14401)∧(J0 ES q_.2.2.2.2.2.2 q_.2.2.1 q_.2.2.2.1 q_.2.2.2.2.2.1 q_.2.2.2.2.1)∧(q_.2.2.2.2.2.1=(Ja8 (way p.name) 0 (Kc p.entries).1 p.sides).take (q_.1+1))∧((Ja8 (way p.name) 0 (Kc p.entries).1 p.sides)[q_.1]? = some q_.2.1)) (fun q_=>[(5,Sr ((Kc ([])).1)),(7,Sr q_.2.1),(9,Sl q_.2.2.1 q_.2.2.2.2.2.1.length q_.2.2.2.1),(10,Sr (way p.name)),(36,Sl a2 p.sides.length c2),(37,I (p.sides.length:Int)),(38,I (q_.1:Int))]) (fun q_=>q_.2.2.2.2.2.2) (fun q_=>[q_.2.2.2.2.1,[Sg b1 0 (VV p a1 c1 a2 c2)]]) (fun q_=>p.sides.length-q_.1) (0,(Kc p.entries).1,At b2 0,1,[Sg b2 0 [Sr ((Kc p.entries).1)]],[(Kc p.entries).1],G) ⟨(Jh _),(by (try dsimp only);exact Hz _),(Z9 _),(J0.of_lit [[Sr ((Kc p.entries).1)]] [(Kc p.entries).1] ⟨⟨rfl,(Ho (Z9 _) (by decide))⟩,trivial⟩ (by simp)),(Jk2 _ _ _ _),(Jk1 _ _ _ _)⟩ (fun q_ hs=>?_)
 obtain ⟨i,s,ao,co,ro,xo,g⟩:=q_
 obtain ⟨hle,hi,hs,hro,hxo,hs_⟩:=hs
 dsimp only at hle hi hs hro hxo hs_
 dsimp only
 refine Jg [0] [(39,Bo (decide ((i:Int)<(p.sides.length:Int))))] (Jf (Jm (decide ((i:Int)<(p.sides.length:Int))) (fun h2=>?_) (fun h2=>?_)))
 refine Jq (Jc (Jf (Jx (Jf (Jd (Jb [0] [(40,I (i:Int))] ?_))))))
 obtain ⟨b3,o1,rfl⟩:=RS.addr (hs2.mono hle) (k:=i) (by omega)
 obtain ⟨x1,hx1⟩:=QW (l:=p.sides) (k:=i) (by omega)
 obtain ⟨_,⟨rfl,_⟩,hc1⟩:=RS.get (hs2.mono hle) hx1
 refine JY (b:=b3) (off:=o1) (len:=p.sides.length) (cap:=c2) (ik:=.i64) 41 41 1 i J5 (JR 42 41 (cs:=[U x1]) 0 (U x1) hc1 (Jb [0,0] [(11,I (i:Int)),(12,U x1)] (Je (Jc (Jf (Jd (Jb [0] [(43,Sr s)] (Jl 44 (U (Ji s)) (Yg s (Jdb J5) g) (Jb [0,0,0] [(13,U (Ji s)),(14,U x1)] (Je (Jc (Jf (Jf (Jd (Jb [0,0,0] [(46,Sr (way p.name)),(48,I (Ha.wrap (15-(i:Int))))] (Kp 48 (15-(i:Int)) J5 ?_))))))))))))))))
 obtain ⟨kn1,hkn1⟩:∃ k_:Nat,15-(i:Int)=(k_:Int):=⟨(15-(i:Int)).toNat,by (have q_:=We.1 ‹_›;have q1_:=VX q_.name;have q2_:=q_.sides;omega)⟩
 have e1:15-(i:Int)=(kn1:Int):=hkn1
 refine KE 48 (I (kn1:Int)) (congrArg I e1) ?_
 obtain ⟨y1,hy1⟩:=QW (l:=way p.name) (k:=kn1) (by (have q_:=We.1 ‹_›;have q1_:=VX q_.name;have q2_:=q_.sides;omega))
 have hb_y1:=y1.toNat_lt
 refine Jbl (ik:=.i64) 49 kn1 y1 hy1 (Jb [0] [(50,Bo (decide ((y1.toNat:Int)=49)))] (Je (Jc (Jm (decide ((y1.toNat:Int)=49)) (fun h3=>?_) (fun h3=>?_)))))
 refine Jd (Jb [0,0,0,0] [(13,U x1),(14,U (Ji s))] (Je (Jc (Jf (Jg [0,0] [(7,Sr ((Kc ([])).1))] (Jf (Jd (Jb [0,0,0,0] [(56,U (if (Ji s) > x1 then (Ji s) else x1)),(57,Sr ((Kc ([])).1))] (Jl 58 (U (Ji ((Kc ([])).1))) (Yg ((Kc ([])).1) (Jdb (Ho (Z9 _) (by decide))) g) (Jb [0,0] [(60,Bo (!decide ((if (Ji s) > x1 then (Ji s) else x1)=Ji ((Kc ([])).1))))] (Kk (!decide ((if (Ji s) > x1 then (Ji s) else x1)=Ji ((Kc ([])).1))) [60] [1,1,1,0] [0,0,0,0] (fun bb=>[(64,Bo (bb || (!decide (x1=Ji s))))]) (Je (Jc (Jm ((!decide ((if (Ji s) > x1 then (Ji s) else x1)=Ji ((Kc ([])).1))) || (!decide (x1=Ji s))) (fun h4=>?_) (fun h4=>?_)))))))))))))))
 refine Jd (Jb [0,0] [(65,U x1),(66,U (Ji s))] (Jl 67 (Sr (Qe 2 x1 (Ji s))) (JbA 2 x1 (Ji s) g) (Jb [0] [(7,Sr (Qe 2 x1 (Ji s)))] (Je (Jc (Jd (Jb [0,0] [(68,Sl ao xo.length co),(69,Sr (Qe 2 x1 (Ji s)))] (Ki 70 1 #[Sr (Qe 2 x1 (Ji s))] 9 (fun b4=>Qr (b:=b4) (cs:=[Sr (Qe 2 x1 (Ji s))]) 71 9 1 0 (E:=ES) (Qe 2 x1 (Ji s)) hro ⟨rfl,(by rw [ZZ];decide)⟩ (by have q_:=We.1 ‹_›;have q1_:=VX q_.name;have q2_:=q_.sides;have q3_:=congrArg Hn hxo;have q4_:=Ya (way p.name) p.sides 0 (Kc p.entries).1;rw [Hg] at q3_;(try simp only [ES,Hc,Hd,Hf] at *);omega) (by have q_:=We.1 ‹_›;have q1_:=VX q_.name;have q2_:=q_.sides;have q3_:=congrArg Hn hxo;have q4_:=Ya (way p.name) p.sides 0 (Kc p.entries).1;rw [Hg] at q3_;(try simp only [ES,Hc,Hd,Hf] at *);omega) (fun a3 c3 r1 hr1=>Jb [0] [(9,Sl a3 ((xo++[Qe 2 x1 (Ji s)]).length) c3)] (Je (JN (Jc (Jd (Jb [0,0] [(38,I (Ha.wrap ((i:Int)+1)))] (Kp 38 ((i:Int)+1) J5 (Je ?_)))))))))))))))))
 exact QA [r1,[Sg b1 0 (VV p a1 c1 (At b3 o1) c2)]] (Qf (i+1,Qe 2 x1 (Ji s),a3,c3,r1,xo++[Qe 2 x1 (Ji s)],g) ⟨(Ja hle (Jh _)),J5,(by have q0_:=ZZ;(rw [q0_];decide)),hr1,(by (try dsimp only);have q0_:=Vw hxo hs_ hx1;have q1_:VS (way p.name) i s x1=Qe 2 x1 (Ji s):=(by (rw [JfA J5 hy1 ‹_›]);exact Jfz ‹_›);rw [q1_] at q0_;exact q0_.1),(by (try dsimp only);have q0_:=Vw hxo hs_ hx1;have q1_:VS (way p.name) i s x1=Qe 2 x1 (Ji s):=(by (rw [JfA J5 hy1 ‹_›]);exact Jfz ‹_›);rw [q1_] at q0_;exact q0_.2)⟩ (by (try dsimp only);omega))
 exact Jq (Jc (Jd (Jb [0,0] [(68,Sl ao xo.length co),(69,Sr ((Kc ([])).1))] (Ki 70 1 #[Sr ((Kc ([])).1)] 9 (fun b5=>Qr (b:=b5) (cs:=[Sr ((Kc ([])).1)]) 71 9 1 0 (E:=ES) ((Kc ([])).1) hro ⟨rfl,(Ho (Z9 _) (by decide))⟩ (by have q_:=We.1 ‹_›;have q1_:=VX q_.name;have q2_:=q_.sides;have q3_:=congrArg Hn hxo;have q4_:=Ya (way p.name) p.sides 0 (Kc p.entries).1;rw [Hg] at q3_;(try simp only [ES,Hc,Hd,Hf] at *);omega) (by have q_:=We.1 ‹_›;have q1_:=VX q_.name;have q2_:=q_.sides;have q3_:=congrArg Hn hxo;have q4_:=Ya (way p.name) p.sides 0 (Kc p.entries).1;rw [Hg] at q3_;(try simp only [ES,Hc,Hd,Hf] at *);omega) (fun a4 c4 r2 hr2=>Jb [0] [(9,Sl a4 ((xo++[(Kc ([])).1]).length) c4)] (Je (JN (Jc (Jd (Jb [0,0] [(38,I (Ha.wrap ((i:Int)+1)))] (Kp 38 ((i:Int)+1) J5 (Je (QA [r2,[Sg b1 0 (VV p a1 c1 (At b3 o1) c2)]] (Qf (i+1,(Kc ([])).1,a4,c4,r2,xo++[(Kc ([])).1],g) ⟨(Ja hle (Jh _)),J5,(by have q0_:=ZZ;exact Z9 _),hr2,(by (try dsimp only);have q0_:=Vw hxo hs_ hx1;have q1_:VS (way p.name) i s x1=(Kc ([])).1:=(by (rw [JfA J5 hy1 ‹_›]);exact Jfy ‹_›);rw [q1_] at q0_;exact q0_.1),(by (try dsimp only);have q0_:=Vw hxo hs_ hx1;have q1_:VS (way p.name) i s x1=(Kc ([])).1:=(by (rw [JfA J5 hy1 ‹_›]);exact Jfy ‹_›);rw [q1_] at q0_;exact q0_.2)⟩ (by (try dsimp only);omega))))))))))))))))
 refine Jq (Jc (Jf (Jg [0,0] [(7,Sr ((Kc ([])).1))] (Jf (Jd (Jb [0,0,0,0] [(56,U (if x1 > (Ji s) then x1 else (Ji s))),(57,Sr ((Kc ([])).1))] (Jl 58 (U (Ji ((Kc ([])).1))) (Yg ((Kc ([])).1) (Jdb (Ho (Z9 _) (by decide))) g) (Jb [0,0] [(60,Bo (!decide ((if x1 > (Ji s) then x1 else (Ji s))=Ji ((Kc ([])).1))))] (Kk (!decide ((if x1 > (Ji s) then x1 else (Ji s))=Ji ((Kc ([])).1))) [60] [1,1,1,0] [0,0,0,0] (fun bb=>[(64,Bo (bb || (!decide (Ji s=x1))))]) (Je (Jc (Jm ((!decide ((if x1 > (Ji s) then x1 else (Ji s))=Ji ((Kc ([])).1))) || (!decide (Ji s=x1))) (fun h5=>?_) (fun h5=>?_)))))))))))))
 refine Jd (Jb [0,0] [(65,U (Ji s)),(66,U x1)] (Jl 67 (Sr (Qe 2 (Ji s) x1)) (JbA 2 (Ji s) x1 g) (Jb [0] [(7,Sr (Qe 2 (Ji s) x1))] (Je (Jc (Jd (Jb [0,0] [(68,Sl ao xo.length co),(69,Sr (Qe 2 (Ji s) x1))] (Ki 70 1 #[Sr (Qe 2 (Ji s) x1)] 9 (fun b6=>Qr (b:=b6) (cs:=[Sr (Qe 2 (Ji s) x1)]) 71 9 1 0 (E:=ES) (Qe 2 (Ji s) x1) hro ⟨rfl,(by rw [ZZ];decide)⟩ (by have q_:=We.1 ‹_›;have q1_:=VX q_.name;have q2_:=q_.sides;have q3_:=congrArg Hn hxo;have q4_:=Ya (way p.name) p.sides 0 (Kc p.entries).1;rw [Hg] at q3_;(try simp only [ES,Hc,Hd,Hf] at *);omega) (by have q_:=We.1 ‹_›;have q1_:=VX q_.name;have q2_:=q_.sides;have q3_:=congrArg Hn hxo;have q4_:=Ya (way p.name) p.sides 0 (Kc p.entries).1;rw [Hg] at q3_;(try simp only [ES,Hc,Hd,Hf] at *);omega) (fun a5 c5 r3 hr3=>Jb [0] [(9,Sl a5 ((xo++[Qe 2 (Ji s) x1]).length) c5)] (Je (JN (Jc (Jd (Jb [0,0] [(38,I (Ha.wrap ((i:Int)+1)))] (Kp 38 ((i:Int)+1) J5 (Je ?_)))))))))))))))))
 exact QA [r3,[Sg b1 0 (VV p a1 c1 (At b3 o1) c2)]] (Qf (i+1,Qe 2 (Ji s) x1,a5,c5,r3,xo++[Qe 2 (Ji s) x1],g) ⟨(Ja hle (Jh _)),J5,(by have q0_:=ZZ;(rw [q0_];decide)),hr3,(by (try dsimp only);have q0_:=Vw hxo hs_ hx1;have q1_:VS (way p.name) i s x1=Qe 2 (Ji s) x1:=(by (rw [JfB J5 hy1 ‹_›]);exact Jfz ‹_›);rw [q1_] at q0_;exact q0_.1),(by (try dsimp only);have q0_:=Vw hxo hs_ hx1;have q1_:VS (way p.name) i s x1=Qe 2 (Ji s) x1:=(by (rw [JfB J5 hy1 ‹_›]);exact Jfz ‹_›);rw [q1_] at q0_;exact q0_.2)⟩ (by (try dsimp only);omega))
 exact Jq (Jc (Jd (Jb [0,0] [(68,Sl ao xo.length co),(69,Sr ((Kc ([])).1))] (Ki 70 1 #[Sr ((Kc ([])).1)] 9 (fun b7=>Qr (b:=b7) (cs:=[Sr ((Kc ([])).1)]) 71 9 1 0 (E:=ES) ((Kc ([])).1) hro ⟨rfl,(Ho (Z9 _) (by decide))⟩ (by have q_:=We.1 ‹_›;have q1_:=VX q_.name;have q2_:=q_.sides;have q3_:=congrArg Hn hxo;have q4_:=Ya (way p.name) p.sides 0 (Kc p.entries).1;rw [Hg] at q3_;(try simp only [ES,Hc,Hd,Hf] at *);omega) (by have q_:=We.1 ‹_›;have q1_:=VX q_.name;have q2_:=q_.sides;have q3_:=congrArg Hn hxo;have q4_:=Ya (way p.name) p.sides 0 (Kc p.entries).1;rw [Hg] at q3_;(try simp only [ES,Hc,Hd,Hf] at *);omega) (fun a6 c6 r4 hr4=>Jb [0] [(9,Sl a6 ((xo++[(Kc ([])).1]).length) c6)] (Je (JN (Jc (Jd (Jb [0,0] [(38,I (Ha.wrap ((i:Int)+1)))] (Kp 38 ((i:Int)+1) J5 (Je (QA [r4,[Sg b1 0 (VV p a1 c1 (At b3 o1) c2)]] (Qf (i+1,(Kc ([])).1,a6,c6,r4,xo++[(Kc ([])).1],g) ⟨(Ja hle (Jh _)),J5,(by have q0_:=ZZ;exact Z9 _),hr4,(by (try dsimp only);have q0_:=Vw hxo hs_ hx1;have q1_:VS (way p.name) i s x1=(Kc ([])).1:=(by (rw [JfB J5 hy1 ‹_›]);exact Jfy ‹_›);rw [q1_] at q0_;exact q0_.1),(by (try dsimp only);have q0_:=Vw hxo hs_ hx1;have q1_:VS (way p.name) i s x1=(Kc ([])).1:=(by (rw [JfB J5 hy1 ‹_›]);exact Jfy ‹_›);rw [q1_] at q0_;exact q0_.2)⟩ (by (try dsimp only);omega))))))))))))))))
 refine KW (J1 (J8 (JT (Jc (Jg [0,0,0] [(2,Sl ao xo.length co),(3,I 0)] (Jo (Wm (E:=ES) 0 hro (by have q_:=We.1 ‹_›;have q1_:=VX q_.name;have q2_:=q_.sides;have q3_:=congrArg Hn hxo;have q4_:=Ya (way p.name) p.sides 0 (Kc p.entries).1;rw [Hg] at q3_;(try simp only [ES,Hc,Hd,Hf] at *);omega) (fun G1 hl1 hs3=>?_))))))))
 have hf2:K5 p=(xo,0):=by
  unfold K5;(rw [if_neg (by omega),hxo,Ht (by rw [Ya];omega)])
 refine Jp [0,0] [Sl ao xo.length co,I 0] (JB [] (Ja hle hl1) ?_)
 rw [hf2]
 try dsimp only
 exact ⟨ao,co,rfl,hs3,rfl⟩
theorem Jnu {l xo:List J3} {p:J3→Bool} {i j:Nat} {x:J3} (h1:xo.take i=(l.take j).filter (fun y=>!p y)) (hx:l[j]? = some x) (hp:p x=true):xo.take i=(l.take (j+1)).filter (fun y=>!p y):=by
 rw [Hp,hx,HQ,← h1];simp [hp]
theorem Jo4 {l xo:List J3} {p:J3→Bool} {i j:Nat} {x:J3} (h1:xo.take i=(l.take j).filter (fun y=>!p y)) (hx:l[j]? = some x) (hp:p x=false) (hi:i<xo.length):(xo.set i x).take (i+1)=(l.take (j+1)).filter (fun y=>!p y):=by
 have e:l.take (j+1)=l.take j++[x]:=by rw [Hp,hx];rfl
 rw [e,HQ,← h1,Hp,List.getElem?_set_self hi,List.take_set_of_le (HS _)];simp [hp]
theorem Jo5 {l xo:List J3} {i j:Nat} {x:J3} (h:xo.drop j=l.drop j) (hij:i<j):(xo.set i x).drop (j+1)=l.drop (j+1):=by
 rw [List.drop_set_of_lt (by omega),← HN,h,HN]
theorem Jnv {l xo:List J3} {j:Nat} (h:xo.drop j=l.drop j):xo.drop (j+1)=l.drop (j+1):=by
 rw [← HN,h,HN]
theorem Jjy {l xo:List J3} {j:Nat} {x:J3} (h:xo.drop j=l.drop j) (hx:xo[j]? = some x):l[j]? = some x:=by
 have:=congrArg (fun z=>z[0]?) h
 simp only [HP,Nat.add_zero] at this
 rw [← this];exact hx
theorem Jnw {l:List J3} {p:J3→Bool} {k:Nat} (h:QK p l=(k:Int)):l.take k=(l.take (k+1)).filter (fun y=>!p y):=by
 unfold QK at h
 cases hh:l.findIdx? p with
 | none=>rw [hh] at h;simp at h
 | some m =>
  rw [hh] at h
  have:m=k:=by simp at h;omega
  subst this
  rw [List.findIdx?_eq_some_iff_getElem] at hh
  obtain ⟨h1,h2,h3⟩:=hh
  rw [Hp,Hk h1,HQ]
  have e1:(l.take m).filter (fun y=>!p y)=l.take m:=by
   rw [List.filter_eq_self]
   intro y hy
   obtain ⟨n,hn⟩:=Hx hy
   rw [List.getElem?_take] at hn
   split at hn
   ·
    rename_i hlt
    have:=h3 n hlt
    obtain ⟨hn',e⟩:=He.1 hn
    rw [e] at this;simpa using this
   · cases hn
  rw [e1];simp [h2]
theorem Jo6 {l:List J3} {p:J3→Bool} (h:QK p l=-1):l=l.filter (fun y=>!p y):=by
 unfold QK at h
 cases hh:l.findIdx? p with
 | some m=>rw [hh] at h;simp at h
 | none =>
  rw [List.findIdx?_eq_none_iff] at hh
  symm
  rw [List.filter_eq_self]
  intro y hy;simpa using hh y hy
theorem JqI (p:J3→Bool) (l:List J3):-1≤QK p l∧QK p l≤l.length∧(0≤QK p l→QK p l<l.length):=by
 by_cases h:QK p l<0
 ·
  refine ⟨?_,by omega,by omega⟩
  unfold QK;split <;> omega
 ·
  obtain ⟨k,hk⟩:∃ k:Nat,QK p l=k:=⟨_,(HM (by omega)).symm⟩
  obtain ⟨x,hx,_⟩:=Jih hk
  have:=(He.1 hx).1
  omega
def JbH (x:J3) (q:Bb):Bool:=!decide (q <+: way x.name)
def KB (l:List J3) (q:Bb):List J3:=l.filter fun x=>!JbH x q
theorem Y6 (l:List J3) (q:Bb):(KB l q).length≤l.length:=H2 ..
def Jaf:Int:=Ji (KY [])
def atG:Nat→List J3→Bb→Int
 | 0,l,_=>Ji (KY l)
 | n+1,l,q=>if l.length=0 then Ji (KY l) else if atG n (KB l (q++[48])) (q++[48])=Jaf∧atG n (KB l (q++[49])) (q++[49])=Jaf then Jaf else Ji (Qe 2 (atG n (KB l (q++[48])) (q++[48])) (atG n (KB l (q++[49])) (q++[49])))
def Wf (l:List J3) (q:Bb):Int:=atG (16-q.length) l q
theorem Jcc {l:List J3} {q:Bb} (h:(l.length:Int)=0∨(q.length:Int)=16):Wf l q=Ji (KY l):=by
 unfold Wf
 rcases h with h | h
 ·
  cases hn:16-q.length with
  | zero=>rfl
  | succ n=>rw [atG,if_pos (by omega)]
 · rw [show 16-q.length=0 by omega];rfl
theorem Jcd {l:List J3} {q:Bb} (h1:¬ (l.length:Int)=0) (h2:q.length<16):Wf l q=if Wf (KB l (q++[48])) (q++[48])=Jaf∧Wf (KB l (q++[49])) (q++[49])=Jaf then Jaf else Ji (Qe 2 (Wf (KB l (q++[48])) (q++[48])) (Wf (KB l (q++[49])) (q++[49]))):=by
 have e:16-q.length=(16-(q++[48]).length)+1:=by simp;omega
 have e2:16-(q++[49]).length=16-(q++[48]).length:=by simp
 conv=>lhs;unfold Wf;rw [e,atG,if_neg (by omega)]
 unfold Wf;rw [e2]
theorem Jnx (l:List J3) (q:Bb):0≤Wf l q∧Wf l q<18446744073709551616:=by
 unfold Wf
 generalize 16-q.length=n
 cases n with
 | zero=>exact (by have:=QX (KY l);unfold atG;omega)
 | succ n =>
  rw [atG]
  have h1:=QX (KY l);have h2:=QX (KY []);have h3:=fun a b=>QX (Qe 2 a b)
  split
  · omega
  split
  · unfold Jaf;omega
  · have:=h3 (atG n (KB l (q++[48])) (q++[48])) (atG n (KB l (q++[49])) (q++[49]));omega
def JW (l:List J3) (q:Bb):Int×Int:=if ¬ Kn l=0 then (0,Kn l) else if (q.length:Int) > 16∨¬ Jbo q=[] then (0,3) else (Wf (KB l q) q,0)
theorem Vo (l:List J3) (q:Bb):0≤(JW l q).1∧(JW l q).1<18446744073709551616:=by
 unfold JW;split
 · simp
 split
 · simp
 · exact Jnx _ _
set_option maxRecDepth 4000 in
theorem Jk5 (G:J4) (a:Ba) (c:Nat) (l:List J3) (r:Bg) (hr:J0 QJ G a c l r) (hsm:l.length≤1000) (k_f:FuncId) (caps_f:Array Value) (p_f:J3→Bool) (hk_f:JaX Tryz.prog k_f) (h_f:∀ (vs0:Bv) (x0:J3) (hx0:QJ.R G vs0 x0),VB Tryz.prog k_f (#[.agg vs0.toArray]++caps_f) G [] (fun u _ _=>u=Bo (p_f x0))):Jh4 Tryz.prog 242 #[Sl a l.length c,.func (.func k_f) #[] caps_f] G [r] (fun u G' L'=>∃ a' c' r',u=Sl a' (l.filter fun y=>!p_f y).length c'∧J0 QJ G' a' c' (l.filter fun y=>!p_f y) r'∧L'=[r']):=by
 intro Lr
 have hlc:=J0.lec hr
 have hcm:=J0.mx hr
 refine JS Tryz.func242 42 [(0,Sl a l.length c),(1,Fv k_f caps_f)] rfl (fun w0 G0=>?_)
 show TC _ _ _ _ _ (r::Lr)
 refine Jg [0] [] (Jf (Jd (Jb [0,0] [(8,Sl a l.length c),(9,Fv k_f caps_f)] (Ji5 (E:=QJ) 10 0 hr (by simp only [QJ];omega) (I (QK p_f l)) (fun G9 hle9 hs9=>Jf0 G9 a c l hs9 k_f caps_f p_f hk_f (fun vs0 x0 hx0=>VB.up hle9 (h_f vs0 x0 hx0))) (Jb [0] [(5,I (QK p_f l))] (Je (Jc (Jf (Jg [0,0] [(12,Bo (decide (QK p_f l=(-1))))] (Jm (decide (QK p_f l=(-1))) (fun h1=>?_) (fun h1=>?_)))))))))))
 refine Jg [0,0] [(4,Sl a l.length c)] (Jo (Jj ?_))
 have e_:l=(l.filter fun y=>!p_f y):=Jo6 (by omega)
 have en_:l.length=(l.filter fun y=>!p_f y).length:=congrArg Hn e_
 exact Jp [0] [Sl a l.length c] (KQ (Lr:=Lr) [r] (Jh _) (⟨_,_,_,congrArg (fun n=>Sl a n c) en_,(e_ ▸ hr),rfl⟩))
 refine Jq (Jc (Jf ?_))
 have hib_:=JqI p_f l
 obtain ⟨kn1,hkn1⟩:∃ k_:Nat,QK p_f l=(k_:Int):=⟨(QK p_f l).toNat,by omega⟩
 have e1:QK p_f l=(kn1:Int):=hkn1
 refine Wa 5 (I (kn1:Int)) (congrArg I e1) ?_
 have hfi_:=Jnw hkn1
 refine Jg [0,0,0] [(6,I (Ha.wrap ((kn1:Int)+1)))] (JlH 6 ((kn1:Int)+1) J5 (Jx ?_))
 refine Qb (σ:=Nat×Nat×Ba×Nat×Bg×List J3) (fun q_=>(q_.1<q_.2.1∧q_.2.1≤l.length)∧(J0 QJ G q_.2.2.1 q_.2.2.2.1 q_.2.2.2.2.2 q_.2.2.2.2.1)∧(q_.2.2.2.2.2.length=l.length∧q_.2.2.2.2.2.drop q_.2.1=l.drop q_.2.1∧q_.2.2.2.2.2.take q_.1=(l.take q_.2.1).filter (fun y=>!p_f y))) (fun q_=>[(0,Sl q_.2.2.1 q_.2.2.2.2.2.length q_.2.2.2.1),(1,Fv k_f caps_f),(5,I (q_.1:Int)),(6,I (q_.2.1:Int))]) (fun q_=>G) (fun q_=>(q_.2.2.2.2.1::Lr)) (fun q_=>l.length-q_.2.1) (kn1,(kn1+1),a,c,r,l) ⟨(by (try dsimp only);omega),hr,⟨rfl,rfl,hfi_⟩⟩ (fun q_ hs=>?_)
 obtain ⟨i,j,ao,co,ro,xo⟩:=q_
 obtain ⟨hj,hro,hxo⟩:=hs
 dsimp only at hj hro hxo
 dsimp only
 refine Jf (Jg [0,0,0,0] [(19,Bo (decide ((j:Int)<(xo.length:Int))))] (Jm (decide ((j:Int)<(xo.length:Int))) (fun h2=>?_) (fun h2=>?_)))
 refine Jq (Jc (Jf (Jx (Jf (Jd (Jb [0,0] [(22,Sl ao xo.length co),(23,I (j:Int))] ?_))))))
 obtain ⟨x1,hx1⟩:=QW (l:=xo) (k:=j) (by omega)
 obtain ⟨b1,o1,_,_,⟨rfl,w1,w2⟩,ha1,hre1,hc1⟩:=J0.ix hro hx1
 refine Qv (b:=b1) (off:=o1) (len:=xo.length) (cap:=co) (ik:=.i64) 24 111 2 j ha1 J5 (W8 (off:=o1) (p:=j*2) (cs:=[Sr x1.name,Sr x1.value]) 25 111 0 0 (.agg #[Sr x1.name,Sr x1.value]) hre1 hc1 (Jv 7 #[Sr ([]),Sr ([])] 111 (fun b2=>JX [3] [] ([Sg b2 0 [Sr x1.name,Sr x1.value]]::ro::Lr) (Je (Jc (Jf (Jd (Jb [0,2] [(26,Fv k_f caps_f),(27,.agg #[Sr x1.name,Sr x1.value])] (ZM (k:=k_f) (caps:=caps_f) (args:=#[.agg #[Sr x1.name,Sr x1.value]]) 28 (Bo (p_f x1)) hk_f (h_f [Sr x1.name,Sr x1.value] x1 (⟨rfl,w1,w2⟩)) (Jb [0] [(29,Bo (!(p_f x1)))] (Je (Jc (Jm (!(p_f x1)) (fun h3=>?_) (fun h3=>?_))))))))))))))
 refine Jf (Jd (Jb [0,0,2] [(30,Sl ao xo.length co),(31,I (i:Int)),(32,.agg #[Sr x1.name,Sr x1.value])] ?_))
 obtain ⟨_,hx2⟩:=QW (l:=xo) (k:=i) (by omega)
 obtain ⟨b3,o2,_,_,⟨rfl,_,_⟩,ha2,_,hc2⟩:=J0.ix hro hx2
 refine Qv (b:=b3) (off:=o2) (len:=xo.length) (cap:=co) (ik:=.i64) 33 111 2 i ha2 J5 (YA (b:=b3) (off:=o2) 1 hro i x1 ha2 J5 (.agg #[Sr x1.name,Sr x1.value]) [Sr x1.name,Sr x1.value] ⟨rfl,w1,w2⟩ (fun r1 hr1=>?_))
 have e2:xo.length=(xo.set i x1).length:=(Hv ..).symm
 exact KE 0 (Sl ao ((xo.set i x1).length) co) (congrArg (Sl ao · co) e2) (KE 30 (Sl ao ((xo.set i x1).length) co) (congrArg (Sl ao · co) e2) (Je (Jc (Jd (Jb [0,0,0] [(5,I (Ha.wrap ((i:Int)+1)))] (Kp 5 ((i:Int)+1) J5 (Je (JN (Jc (Jd (Jb [0,0,0] [(6,I (Ha.wrap ((j:Int)+1)))] (Kp 6 ((j:Int)+1) J5 (Je (QA (r1::Lr) (Qf (i+1,j+1,ao,co,r1,xo.set i x1) ⟨(by (try dsimp only);omega),hr1,(by (try dsimp only);exact ⟨by rw [Hv];exact hxo.1,Jo5 hxo.2.1 hj.1,Jo4 hxo.2.2 (Jjy hxo.2.1 hx1) ‹_› J5⟩)⟩ (by (try dsimp only);omega))))))))))))))))
 exact Jq (JN (Jc (Jd (Jb [0,0,0] [(6,I (Ha.wrap ((j:Int)+1)))] (Kp 6 ((j:Int)+1) J5 (Je (QA (ro::Lr) (Qf (i,j+1,ao,co,ro,xo) ⟨(by (try dsimp only);omega),hro,(by (try dsimp only);exact ⟨hxo.1,Jnv hxo.2.1,Jnu hxo.2.2 (Jjy hxo.2.1 hx1) ‹_›⟩)⟩ (by (try dsimp only);omega)))))))))
 refine KW (J1 (J8 (JT (Jc ?_))))
 obtain ⟨b,off,css,spare,rfl,rfl,hc1,hc2,_,hsp,hle9,hmax,hone⟩:=J0.opened hro (by omega)
 refine Jf (Jd (Jb [0,0] [(36,Sl (At b off) xo.length co),(37,I (i:Int))] (WQ (a:=At b off) (a':=At b (off+(xo.take i).length*2)) (len:=xo.length) (cap:=co) (c':=co-(xo.take i).length) (n:=xo.length-(xo.take i).length) 38 2 (some (I (i:Int))) none i xo.length (.inr ⟨_,rfl⟩) (.inl ⟨rfl,rfl⟩) J5 (by rw [if_neg J5,Hg,HG (by omega)];simp [W1]) (by rw [Hg,HG (by omega)]) (by rw [Hg,HG (by omega)]) J5 (Jou (b:=b) (off:=off) (m:=xo.length-(xo.take i).length) (c':=co-(xo.take i).length) 0 (J0.tk hro i J5) rfl (by rw [Hg];omega) (by rw [Hg];omega) (fun r8 hr8=>Je (Jc (Jf (Jd (Jb [0,0] [(39,Sl (At b off) xo.length co),(40,I (i:Int))] (WQ (a:=At b off) (a':=At b off) (len:=xo.length) (cap:=co) (c':=co) (n:=(xo.take i).length) 41 2 none (some (I (i:Int))) 0 i (.inl ⟨rfl,rfl⟩) (.inr ⟨_,rfl⟩) (Hz _) (by split <;> simp [W1]) (Nat.sub_zero _).symm (by rw [Hg];omega) J5 (Jb [0] [(4,Sl (At b off) ((xo.take i).length) co)] (Je (Jc (Jo ?_))))))))))))))
 have e_:xo.take i=(l.filter fun y=>!p_f y):=by have q_:=hxo.2.2;rwa [Ht (by omega:l.length≤j)] at q_
 have en_:(xo.take i).length=(l.filter fun y=>!p_f y).length:=congrArg Hn e_
 exact Jp [0] [Sl (At b off) ((xo.take i).length) co] (KQ (Lr:=Lr) [r8] (Jh _) (⟨_,_,_,congrArg (fun n=>Sl (At b off) n co) en_,(e_ ▸ hr8),rfl⟩))
theorem Jk6 (G:J4) (vs_x:Bv) (x:J3) (h_x:QJ.R G vs_x x) (vs_q:Bv) (q:Bb) (h_q:ES.R G vs_q q) (b_q:Nat) (hz_q:∀ j v,(vs_q:Bv)[j]? = some v→G b_q (0+j)=some v) :Q7 243 #[.agg vs_x.toArray,Pt b_q 0] G (Bo (JbH x q)):=by
 obtain ⟨rfl,w1,_⟩:=h_x
 obtain ⟨rfl,_⟩:=h_q
 refine JS Tryz.func243 10 [(0,.agg #[Sr x.name,Sr x.value]),(1,Pt b_q 0)] rfl (fun w0 G0=>?_)
 refine Jf (Jd (Jv 2 #[Sr x.name,Sr x.value] 111 (fun b1=>Jb [0] [] (Je (Jc (Jf (Kt [] (Wz [(0,Pt b1 0),(1,Sr x.name),(2,Sr (way x.name)),(3,Sr q),(4,Bo (decide (q <+: way x.name))),(5,Bo (!(decide (q <+: way x.name)))),(6,Bo (!(decide (q <+: way x.name))))] (Kq [] [(0,0),(1,2),(5,0),(6,0)] [2,3,4] [(3,Bo (!(decide (q <+: way x.name))))] (Kb ?_ (Kb ?_ (Kb ?_ K4))) ?_)))))))))
 refine Jr 2 6 (Sr (way x.name)) [(5,Sr x.name)] (fun X=>?_)
 exact Jl 6 (Sr (way x.name)) (JdI G x.name w1) Jn
 refine Jr 3 7 (Sr q) [(1,Pt b_q 0)] (fun X=>?_)
 exact JR (o':=0) 7 9 (cs:=[Sr q]) 0 (Sr q) hz_q Jn
 refine Jr 4 8 (Bo (decide (q <+: way x.name))) [(6,Sr (way x.name)),(7,Sr q)] (fun X=>?_)
 exact Jl 8 (Bo (decide (q <+: way x.name))) (JgX G (way x.name) q) Jn
 refine Jc (Jo (Jp [0] [Bo (!(decide (q <+: way x.name)))] (Jy (Jh _) (congrArg Bo (?_:(JbH x q)=(!(decide (q <+: way x.name)))).symm))))
 rfl
theorem Ja9 (G:J4) (a_l:Ba) (c_l:Nat) (l:List J3) (h_l:RS QJ G a_l c_l l) (q:Bb) (hw_q:(q).length≤140737488351232) (h24:l.length≤24):YL 201 #[Sl a_l l.length c_l,Sr q] G [] (fun u G' L'=>∃ (a1:Ba) (c2:Nat) (r3:Bg),u=Sl a1 ((KB l q).length) c2∧(J0 QJ G' a1 c2 (KB l q) r3)∧L'=[r3]):=by
 refine JS Tryz.func201 9 [(0,Sl a_l l.length c_l),(1,Sr q)] rfl (fun w0 G0=>?_)
 refine Jf (Jd (Jv 3 #[Sr q] 9 (fun b1=>Jb [0] [] (Je (Jc (Jf (Jd (Jb [0] [(5,Sl a_l l.length c_l)] (JM 6 (YO G a_l c_l l h_l) (fun v G1 L1 hl1 hp=>?_))))))))))
 obtain ⟨a1,c1,r1,rfl,hr1,rfl⟩:=hp
 refine Jb [0] [(7,Fv 243 #[Pt b1 0])] (Qu (b:=b1) (o:=0) (cs:=[Sr q]) 1 (fun G2 hl2 hz1=>Jw 0 (Qq (Ls:=[r1]) (Lr:=[[]]) 8 (Jk5 G2 a1 c1 l r1 (hr1.mono hl2) J5 243 #[Pt b1 0] (fun x0=>JbH x0 q) (fun _ _=>by kernel_rfl) (fun vs0 x0 hx0=>by obtain ⟨rfl,w1,w2⟩:=hx0;exact Jk6 G2 [Sr x0.name,Sr x0.value] x0 (⟨rfl,w1,w2⟩) [Sr q] q (⟨rfl,hw_q⟩) b1 hz1)) (fun v G3 L1 hl3 hp=>?_))))
 obtain ⟨a2,c2,r2,rfl,hr2,rfl⟩:=hp
 refine Jb [0] [(4,Sl a2 ((l.filter fun y=>!((fun x0=>JbH x0 q) y)).length) c2)] (Je (Jc (Jo (Jk 0 ?_))))
 have hf1:KB l q=l.filter fun y=>!((fun x0=>JbH x0 q) y):=by
  rfl
 refine Jp [0] [Sl a2 ((l.filter fun y=>!((fun x0=>JbH x0 q) y)).length) c2] (JB [r2] (Ja (Ja hl1 hl2) hl3) ?_)
 rw [hf1]
 try dsimp only
 exact ⟨a2,c2,r2,rfl,hr2,rfl⟩
abbrev Jma (l:List J3) (q:Bb):=Ji (Qe 2 (Wf (KB l (q++([48]))) (q++([48]))) (Wf (KB l (q++([49]))) (q++([49]))))
abbrev Jmb (l:List J3) (q:Bb):=Wf (KB l (q++([48]))) (q++([48]))
abbrev Jmc (l:List J3) (q:Bb):=Wf (KB l (q++([49]))) (q++([49]))
theorem Jf8 (N:Nat):∀ (G:J4) (a_l:Ba) (c_l:Nat) (l:List J3) (h_l:RS QJ G a_l c_l l) (q:Bb) (hw_q:(q).length≤140737488351232) (h24:l.length≤24) (hq:q.length≤16),16-q.length<N→Q7 200 #[Sl a_l l.length c_l,Sr q] G (U (Wf l q)):=by
 induction N with
 | zero=>intros;omega
 | succ N ih =>
  intro G a_l c_l l h_l q hw_q h24 hq hN
  refine JS Tryz.func200 50 [(0,Sl a_l l.length c_l),(1,Sr q)] rfl (fun w0 G0=>?_)
  refine Jg [0] [] (Jf (Jx (Jf (Jd (Jb [0,0,0,0] [(14,Bo (decide ((l.length:Int)=0)))] (Kk (decide ((l.length:Int)=0)) [14] [1,1,1,0] [0,0,0,0] (fun bb=>[(18,Bo (bb || (decide (((q).length:Int)=16))))]) (Jb [0] [(10,Bo ((decide ((l.length:Int)=0)) || (decide (((q).length:Int)=16))))] (Je (Jc (Jm ((decide ((l.length:Int)=0)) || (decide (((q).length:Int)=16))) (fun h1=>?_) (fun h1=>?_)))))))))))
  ·
   refine Jf (Jd (Jb [0] [(19,Sl a_l l.length c_l)] (Jl 20 (Sr (KY l)) (Jaq G a_l c_l l h_l ‹_›) (Jl 21 (U (Ji (KY l))) (Yg (KY l) (Jdb (Ho (JbF ‹_›) (by decide))) G) (Jb [0] [(4,U (Ji (KY l)))] (Je (Jc (Jo (Ju (Jj (Jp [0] [U (Ji (KY l))] (Jy (Jh _) (congrArg U (?_:(Wf l q)=(Ji (KY l))).symm)))))))))))))
   (rw [Jcc (by omega)];done)
  ·
   refine Jq (JN (Jc (Jf (Jd (Jb [0] [(22,Sr q)] (Wi 23 q ([48]) (by (simp only [Hc,Hd,Hf];omega)) (Jb [0] [(24,Sr q)] (Wi 25 q ([49]) (by (simp only [Hc,Hd,Hf];omega)) (Jb [0,0] [(5,Sr (q++([48]))),(6,Sr (q++([49])))] (Je (Jc (Jf (Jd (Jb [0,0] [(26,Sl a_l l.length c_l),(27,Sr (q++([48])))] (JM 28 (Ja9 G a_l c_l l h_l (q++([48])) (by (simp;omega)) ‹_›) (fun v G1 L1 hl1 hp=>?_))))))))))))))))
   obtain ⟨a1,c1,_,rfl,hr1,rfl⟩:=hp
   refine Jb [0] [(29,Sr (q++([48])))] (WC (E:=QJ) 0 hr1 (by have q_:=Y6 l (q++([48]));(simp only [QJ];omega)) (fun G2 hl2 hs1=>Jl 30 (U (Jmb l q)) (ih G2 a1 c1 (KB l (q++([48]))) hs1 (q++([48])) (by (simp;omega)) (by (have q_:=Y6 l (q++[48]);omega)) (by (simp;omega)) (by simp only [Hc,Hd,Hf] at *;omega)) (Jb [0,0] [(31,Sl a_l l.length c_l),(32,Sr (q++([49])))] (JM 33 (Ja9 G2 a_l c_l l (h_l.mono (Ja hl1 hl2)) (q++([49])) (by (simp;omega)) ‹_›) (fun v G3 L1 hl3 hp=>?_)))))
   obtain ⟨a2,c2,_,rfl,hr2,rfl⟩:=hp
   refine Jb [0] [(34,Sr (q++([49])))] (WC (E:=QJ) 0 hr2 (by have q_:=Y6 l (q++([49]));(simp only [QJ];omega)) (fun G4 hl4 hs2=>Jl 35 (U (Jmc l q)) (ih G4 a2 c2 (KB l (q++([49]))) hs2 (q++([49])) (by (simp;omega)) (by (have q_:=Y6 l (q++[49]);omega)) (by (simp;omega)) (by simp only [Hc,Hd,Hf] at *;omega)) (Jb [0,0] [(7,U (Jmb l q)),(8,U (Jmc l q))] (Je (Jc (Jf (Jf (Jd (Jl 36 (Sr (KY ([]))) (Jaq G4 none 0 ([]) (JP QJ G4) (by (simp;done))) (Jl 37 (U (Ji (KY ([])))) (Yg (KY ([])) (Jdb (Ho (JbF (by simp)) (by decide))) G4) (Jb [0] [(9,U (Ji (KY ([]))))] (Je (Jc (Jf (Jd (Jb [0,0,0,0] [(41,Bo (decide (Wf (KB l (q++([48]))) (q++([48]))=Ji (KY ([])))))] (Kk (decide (Wf (KB l (q++([48]))) (q++([48]))=Ji (KY ([])))) [41] [0,0,0,0] [1,1,1,0] (fun bb=>[(45,Bo (bb && (decide (Wf (KB l (q++([49]))) (q++([49]))=Ji (KY ([]))))))]) (Je (Jc (Jm ((decide (Wf (KB l (q++([48]))) (q++([48]))=Ji (KY ([])))) && (decide (Wf (KB l (q++([49]))) (q++([49]))=Ji (KY ([]))))) (fun h2=>?_) (fun h2=>?_)))))))))))))))))))))
   ·
    refine Jg [0,0] [(4,U (Ji (KY ([]))))] (Jo (Jj (Jp [0] [U (Ji (KY ([])))] (Jy (Ja (Ja (Ja hl1 hl2) hl3) hl4) (congrArg U (?_:(Wf l q)=(Ji (KY ([])))).symm)))))
    (rw [Jcd (by omega) (by omega)];unfold Jaf;(rw [if_pos ‹_›];done))
   ·
    refine Jq (Jc (Jf (Jd (Jb [0,0] [(47,U (Jmb l q)),(48,U (Jmc l q))] (Jl 49 (U (Jma l q)) (Jjd 2 (Jmb l q) (Jmc l q) G4) (Jb [0] [(4,U (Jma l q))] (Je (Jc (Jo (Jp [0] [U (Jma l q)] (Jy (Ja (Ja (Ja hl1 hl2) hl3) hl4) (congrArg U (?_:(Wf l q)=(Jma l q)).symm))))))))))))
    (rw [Jcd (by omega) (by omega)];unfold Jaf;(rw [if_neg (by intro hc_;have q_:=h2 hc_.1;exact q_ hc_.2)];done))
theorem Jk7 (G:J4) (a_l:Ba) (c_l:Nat) (l:List J3) (h_l:RS QJ G a_l c_l l) (q:Bb) (hw_q:(q).length≤140737488351232) (h24:l.length≤24) (hq:q.length≤16):Q7 200 #[Sl a_l l.length c_l,Sr q] G (U (Wf l q)):=Jf8 (16-q.length+1) G a_l c_l l h_l q hw_q h24 hq (Nat.lt_succ_self _)
theorem Je0 (G:J4) (a_l:Ba) (c_l:Nat) (l:List J3) (h_l:RS QJ G a_l c_l l) (q:Bb) (hw_q:(q).length≤140737488351232) :Q7 146 #[Sl a_l l.length c_l,Sr q] G (.tuple #[U ((JW l q).1),I ((JW l q).2)]):=by
 refine JS Tryz.func146 25 [(0,Sl a_l l.length c_l),(1,Sr q)] rfl (fun w0 G0=>?_)
 refine Jg [0,0] [] (Jf (Jf (Jd (Jb [0] [(7,Sl a_l l.length c_l)] (Jl 8 (I (Kn l)) (Vh G a_l c_l l h_l) (Jb [0] [(6,I (Kn l))] (Je (Jc (Jg [0,0] [(10,Bo (!decide (Kn l=0)))] (Jm (!decide (Kn l=0)) (fun h1=>?_) (fun h1=>?_)))))))))))
 refine Jg [0,0,0] [(4,U 0),(5,I (Kn l))] (Jo (Jj (Jp [0,0] [U 0,I (Kn l)] (Jy (Jh _) ?_))))
 have hf_:(JW l q)=(0,(Kn l)):=by
  unfold JW;(rw [if_pos ‹_›];done)
 · (try rw [hf_]);(simp only [QD];done)
 refine Jq (Jc (Jf (Jf (Jd (Jb [0,0,0,0] [(15,Bo (decide (((q).length:Int) > 16)))] (QS [15] (decide (((q).length:Int) > 16)) (fun h2=>?_) (fun h2=>?_)))))))
 refine Jb [1,1,1,0] [(19,Bo true)] (Je (Jc (JZ (Jg [0,0] [(4,U 0),(5,I 3)] (Jo (Jj (Jp [0,0] [U 0,I 3] (Jy (Jh _) ?_))))))))
 have hf_:(JW l q)=(0,3):=by
  unfold JW;(rw [if_neg (by omega)];(rw [if_pos (by simp_all)];done))
 · (try rw [hf_]);(simp only [QD];done)
 refine Jb [0] [(16,Sr q)] (Jl 17 (Sr (Jbo q)) (Jns G q hw_q) (Jb [0,0] [(19,Bo (!((B (Jbo q)).toList == (B ([])).toList)))] (KE 19 (Bo (!(Jbo q == []))) (show (Bo (!((B (Jbo q)).toList == (B ([])).toList)):Value)=Bo (!(Jbo q == [])) by simp only [QT]) (Je (Jc (Jm (!(Jbo q == [])) (fun h3=>?_) (fun h3=>?_)))))))
 refine Jg [0,0] [(4,U 0),(5,I 3)] (Jo (Jj (Jp [0,0] [U 0,I 3] (Jy (Jh _) ?_))))
 have hf_:(JW l q)=(0,3):=by
  unfold JW;(rw [if_neg (by omega)];(rw [if_pos (by simp_all)];done))
 · (try rw [hf_]);(simp only [QD];done)
 refine Jq (Jc (Jf (Jd (Jb [0,0] [(20,Sl a_l l.length c_l),(21,Sr q)] (JM 22 (Ja9 G a_l c_l l h_l q ‹_› (by exact (KS.1 ‹_›).len)) (fun v G1 L1 hl1 hp=>?_))))))
 obtain ⟨a1,c1,_,rfl,hr1,rfl⟩:=hp
 refine Jb [0] [(23,Sr q)] (WC (E:=QJ) 0 hr1 (by have q_:=Y6 l q;(have q1_:=(KS.1 ‹_›).len;simp only [QJ];omega)) (fun G2 hl2 hs1=>Jl 24 (U (Wf (KB l q) q)) (Jk7 G2 a1 c1 (KB l q) hs1 q ‹_› (by (have q_:=(KS.1 ‹_›).len;have q1_:=Y6 l q;omega)) J5) (Jb [0,0] [(4,U (Wf (KB l q) q)),(5,I 0)] (Je (Jc (Jo (Jp [0,0] [U (Wf (KB l q) q),I 0] (Jy (Ja hl1 hl2) ?_))))))))
 have hf_:(JW l q)=((Wf (KB l q) q),0):=by
  unfold JW;(rw [if_neg (by omega)];(rw [if_neg (by simp_all)];done))
 · (try rw [hf_]);(simp only [QD];done)
theorem JbI (G:J4) (a_l:Ba) (c_l:Nat) (l:List J3) (h_l:RS QJ G a_l c_l l) :Q7 95 #[Sl a_l l.length c_l] G (.tuple #[U ((JW l []).1),I ((JW l []).2)]):=by
 refine JS Tryz.func95 8 [(0,Sl a_l l.length c_l)] rfl (fun w0 G0=>?_)
 refine Jg [0,0] [] (Jf (Jd (Jb [0] [(4,Sl a_l l.length c_l)] (Jl 5 (.tuple #[U ((JW l ([])).1),I ((JW l ([])).2)]) (Je0 G a_l c_l l h_l ([]) (Hb rfl)) (Jb [0,0,0,0] [(2,U ((JW l ([])).1)),(3,I ((JW l ([])).2))] (Je (Jc (Jo (Jp [0,0] [U ((JW l ([])).1),I ((JW l ([])).2)] (Jy (Jh _) ?_))))))))))
 have hf_:(JW l [])=(((JW l ([])).1),((JW l ([])).2)):=by
  rfl
 · (try rw [hf_]);(simp only [QD];done)
theorem Jf9 {R:J3→J3→Prop} (hi:∀ x,¬ R x x) (ha:∀ x y,R x y→¬ R y x):∀ (l m:List J3),l.Pairwise R→m.Pairwise R→(∀ y,y∈l ↔ y∈m)→l=m
 | [],m,_,_,h=>by
  cases m with
  | nil=>rfl
  | cons y m=>exact absurd ((h y).2 (HH ..)) (HW)
 | x::l,[],_,_,h=>absurd ((h x).1 (HH ..)) (HW)
 | x::l,y::m,h1,h2,h=>by
  rw [List.pairwise_cons] at h1 h2
  have e:x=y:=by
   rcases HE.1 ((h x).1 (HH ..)) with e | e
   · exact e
   rcases HE.1 ((h y).2 (HH ..)) with e' | e'
   · exact e'.symm
   · exact absurd (h1.1 _ e') (ha _ _ (h2.1 _ e))
  subst e
  congr 1
  refine Jf9 hi ha l m h1.2 h2.2 fun z=>⟨fun hz=>?_,fun hz=>?_⟩
  ·
   rcases HE.1 ((h z).1 (H4 _ hz)) with e | e
   · subst e;exact absurd (h1.1 _ hz) (hi _)
   · exact e
  ·
   rcases HE.1 ((h z).2 (H4 _ hz)) with e | e
   · subst e;exact absurd (h2.1 _ hz) (hi _)
   · exact e
theorem Wd.pair {l:List J3} (h:Wd l):l.Pairwise fun x y=>Ys x.name y.name<0:=by
 rw [HU]
 intro i j hi hj hij
 exact h.ord i j _ _ hij (Hk hi) (Hk hj)
theorem Wd.ext {l m:List J3} (h1:Wd l) (h2:Wd m) (h:∀ y,y∈l ↔ y∈m):l=m:=by
 refine Jf9 (R:=fun x y=>Ys x.name y.name<0) (fun x hx=>?_) (fun x y hx hy=>?_) l m h1.pair h2.pair h
 · have:=Z1.2 (rfl:x.name=x.name);omega
 · have:=Jdc hx hy;have:=Z1.2 (rfl:x.name=x.name);omega
theorem Jk8 {l m:List J3} (h:Wd l) (hs:m.Sublist l):Wd m:=by
 have hp:=h.pair.sublist hs
 rw [HU] at hp
 refine ⟨by have:=hs.length_le;have:=h.len;omega,fun x hx=>h.ok x (hs.subset hx),fun i j x y hij hx hy=>?_⟩
 obtain ⟨hi,rfl⟩:=He.1 hx
 obtain ⟨hj,rfl⟩:=He.1 hy
 exact hp i j hi hj hij
theorem Je1 {l:List J3} {p q:Bb} (h:p <+: q):KB (KB l p) q=KB l q:=by
 unfold KB
 rw [List.filter_filter]
 apply List.filter_congr
 intro x _
 unfold JbH
 rw [Hw]
 simp only [Bool.not_not,Bool.and_eq_true,decide_eq_true_eq]
 exact ⟨fun h1=>h1.1,fun h1=>⟨h1,h.trans h1⟩⟩
theorem Jdh {q:Bb}:Wf [] q=Jaf:=Jcc (.inl rfl)
theorem Jdi {l:List J3} {q:Bb} (h:(JW l q).2=0):Wd l∧q.length≤16∧(∀ b∈q,isB b=true)∧(JW l q).1=Wf (KB l q) q:=by
 unfold JW at h ⊢
 split at h
 · contradiction
 rename_i h1
 split at h
 · cases h
 rename_i h2
 rw [if_neg h1,if_neg h2]
 have h3:Jbo q=[]:=Hj.1 fun hc=>h2 (.inr hc)
 have h4:¬ (q.length:Int) > 16:=fun hc=>h2 (.inl hc)
 exact ⟨KS.1 (Hj.1 h1),by omega,JhE.1 h3,rfl⟩
theorem JaO {l:List J3} {q:Bb} (h1:Wd l) (h2:q.length≤16) (h3:∀ b∈q,isB b=true):JW l q=(Wf (KB l q) q,0):=by
 unfold JW
 rw [if_neg (fun hc=>hc (KS.2 h1)),if_neg]
 rintro (hc | hc)
 · omega
 · exact hc (JhE.2 h3)
theorem Jiv {l:List J3} {q:Bb} (h:q.length<16):Wf (KB l q) q=if Wf (KB l (q++[48])) (q++[48])=Jaf∧Wf (KB l (q++[49])) (q++[49])=Jaf then Jaf else Ji (Qe 2 (Wf (KB l (q++[48])) (q++[48])) (Wf (KB l (q++[49])) (q++[49]))):=by
 have e0:=Je1 (l:=l) (p:=q) (q:=q++[48]) (List.prefix_append _ _)
 have e1:=Je1 (l:=l) (p:=q) (q:=q++[49]) (List.prefix_append _ _)
 by_cases hn:KB l q=[]
 ·
  have f0:KB l (q++[48])=[]:=by rw [← e0,hn];rfl
  have f1:KB l (q++[49])=[]:=by rw [← e1,hn];rfl
  rw [hn,f0,f1,Jdh,Jdh,Jdh,if_pos ⟨rfl,rfl⟩]
 · rw [Jcd (by intro hc;exact hn (HL (by omega))) h,e0,e1]
def ZP (b:UInt8):UInt8:=HJ (97-(b.toNat:Int)).toNat
theorem Jjz {b:UInt8} (h:48≤b.toNat∧b.toNat≤49):Utf8.encode (97-(b.toNat:Int))=B [ZP b]:=Jh6 (by omega) (by omega)
def Jga (l:List J3) (p:Bb) (k:Nat):Int:=(JW l (p.take k++[ZP (p[k]?.getD 48)])).1
def Vp (l:List J3) (p:Bb) (n:Nat):List Int:=(List.range n).map fun i=>Jga l p (15-i)
theorem VY (l:List J3) (p:Bb) (n:Nat):(Vp l p n).length=n:=by unfold Vp;simp
theorem JjA {l:List J3} {p:Bb} {k:Nat} {y:UInt8} (hy:p[k]? = some y) (hk:k≤15):Vp l p (15-k)++[(JW l (p.take k++[ZP y])).1]=Vp l p (15-k+1):=by
 unfold Vp
 rw [List.range_succ,List.map_append]
 congr 1
 simp only [List.map_cons,List.map_nil]
 unfold Jga
 rw [show 15-(15-k)=k by omega,hy];rfl
def Jeu:Qy:=⟨[],[],[]⟩
def Jba (l:List J3) (p:Bb):List J3:=l.filter fun x=>way x.name == p
theorem Jny {l:List J3} {i:Nat} {x:J3} {p:Bb} (h:l[i]? = some x) (hp:(way x.name == p)=true):Jba (l.take i) p++[x]=Jba (l.take (i+1)) p:=by unfold Jba;rw [Hp,h];simp [hp]
theorem Jnz {l:List J3} {i:Nat} {x:J3} {p:Bb} (h:l[i]? = some x) (hp:¬ (way x.name == p)=true):Jba (l.take i) p=Jba (l.take (i+1)) p:=by unfold Jba;rw [Hp,h];simp [hp]
theorem Jiw (l:List J3) (p:Bb):(Jba l p).length≤l.length:=H2 ..
def KU (l:List J3) (name:Bb):Qy×Int:=if ¬ Kn l=0 then (Jeu,Kn l) else if ¬ (KJ name).2=0 then (Jeu,(KJ name).2) else (⟨name,Jba l (KJ name).1,Vp l (KJ name).1 16⟩,0)
set_option maxRecDepth 20000 in
theorem Jg0 (G:J4) (a_l:Ba) (c_l:Nat) (l:List J3) (h_l:RS QJ G a_l c_l l) (name:Bb) (hw_name:(name).length≤140737488351232) :YL 194 #[Sl a_l l.length c_l,Sr name] G [] (fun u G' L'=>∃ (a1:Ba) (c2:Nat) (a3:Ba) (c4:Nat),u=.tuple #[.agg #[Sr (((KU l name).1).name),Sl a1 ((((KU l name).1).entries).length) c2,Sl a3 ((((KU l name).1).sides).length) c4],I ((KU l name).2)]∧((((KU l name).1).name).length≤140737488351232)∧(RS QJ G' a1 c2 (((KU l name).1).entries))∧(RS EU G' a3 c4 (((KU l name).1).sides))∧L'=[]):=by
 refine JS Tryz.func194 78 [(0,Sl a_l l.length c_l),(1,Sr name)] rfl (fun w0 G0=>?_)
 refine Jf (Jd (Jv 4 #[Sr ([]),Sl none 0 0,Sl none 0 0] 47 (fun b1=>Jb [0] [] (Je (Jc (Jf (Jf (Jd (Jb [0] [(16,Sl a_l l.length c_l)] (Jl 17 (I (Kn l)) (Vh G a_l c_l l h_l) (Jb [0] [(6,I (Kn l))] (Je (Jc (Jg [0,0] [(19,Bo (!decide (Kn l=0)))] (Jm (!decide (Kn l=0)) (fun h1=>?_) (fun h1=>?_))))))))))))))))
 refine Jg [0,0,3,0] [(5,I (Kn l))] (Jo (Jj ?_))
 have hf1:KU l name=((⟨[],[],[]⟩:Qy),Kn l):=by
  unfold KU Jeu;(rw [if_pos ‹_›];done)
 refine Jp [0,0] [.agg #[Sr ([]),Sl none 0 0,Sl none 0 0],I (Kn l)] (JB [] (Jh _) ?_)
 rw [hf1]
 try dsimp only
 exact ⟨none,0,none,0,rfl,(Hb rfl),(JP QJ G),(JP EU G),rfl⟩
 refine Jq (Jc (Jf (Jd (Jb [0] [(23,Sr name)] (Jl 24 (.tuple #[Sr ((KJ name).1),I ((KJ name).2)]) (Jdd G name hw_name) (Jb [0,0,0,0,0] [(7,Sr ((KJ name).1)),(8,I ((KJ name).2))] (Je (Jc (Jf (Jg [0,0] [(28,Bo (!decide ((KJ name).2=0)))] (Jm (!decide ((KJ name).2=0)) (fun h2=>?_) (fun h2=>?_))))))))))))
 refine Jg [0,0,3,0] [(5,I ((KJ name).2))] (Jo (Jj ?_))
 have hf2:KU l name=((⟨[],[],[]⟩:Qy),(KJ name).2):=by
  unfold KU Jeu;(rw [if_neg (by omega)];(rw [if_pos ‹_›];done))
 refine Jp [0,0] [.agg #[Sr ([]),Sl none 0 0,Sl none 0 0],I ((KJ name).2)] (JB [] (Jh _) ?_)
 rw [hf2]
 try dsimp only
 exact ⟨none,0,none,0,rfl,(Hb rfl),(JP QJ G),(JP EU G),rfl⟩
 refine Jq (Jc (Jf (Jd (Jb [0,0] [(32,.agg #[Sr name,Sl none 0 0,Sl none 0 0])] (Jv 9 #[Sr ([]),Sl none 0 0,Sl none 0 0] 47 (fun b2=>JX [3] [] [[Sg b2 0 [Sr name,Sl none 0 0,Sl none 0 0]],[Sg b1 0 [Sr ([]),Sl none 0 0,Sl none 0 0]]] (Je (Jc (Jf (Jg [0,0,0] [(33,Sl a_l l.length c_l),(34,I (l.length:Int)),(35,I 0)] (Jx (Z4 ?_))))))))))))
 have hlm_h_l:l.length≤9223372036854775807:=Ho (h_l).le (h_l).max
 refine Qb (σ:=Nat×Ba×Nat×Bg×List J3×J4) (fun q_=>(J4.le G q_.2.2.2.2.2)∧(q_.1≤l.length)∧(J0 QJ q_.2.2.2.2.2 q_.2.1 q_.2.2.1 q_.2.2.2.2.1 q_.2.2.2.1)∧(q_.2.2.2.2.1=Jba (l.take q_.1) (KJ name).1)) (fun q_=>[(0,Sl a_l l.length c_l),(4,Pt b1 0),(7,Sr ((KJ name).1)),(9,Pt b2 0),(33,Sl a_l l.length c_l),(34,I (l.length:Int)),(35,I (q_.1:Int))]) (fun q_=>q_.2.2.2.2.2) (fun q_=>[q_.2.2.2.1,[Sg b2 0 [Sr name,Sl q_.2.1 q_.2.2.2.2.1.length q_.2.2.1,Sl none 0 0]],[Sg b1 0 [Sr ([]),Sl none 0 0,Sl none 0 0]]]) (fun q_=>l.length-q_.1) (0,none,0,[],[],G) ⟨(Jh _),(by (try dsimp only);exact Hz _),(J0.none QJ _),(by (try dsimp only);simp [Jba])⟩ (fun q_ hs=>?_)
 obtain ⟨i,ao,co,ro,xo,g⟩:=q_
 obtain ⟨hle,hi,hro,hxo⟩:=hs
 dsimp only at hle hi hro hxo
 dsimp only
 refine Jg [0] [(36,Bo (decide ((i:Int)<(l.length:Int))))] (Jf (Jm (decide ((i:Int)<(l.length:Int))) (fun h3=>?_) (fun h3=>?_)))
 refine Jq (Jc (Jf (Jx (Jf (Jd ?_)))))
 obtain ⟨b3,o1,rfl⟩:=RS.addr (h_l.mono hle) (k:=i) (by omega)
 obtain ⟨x1,hx1⟩:=QW (l:=l) (k:=i) (by omega)
 obtain ⟨_,⟨rfl,w1,_⟩,hc1⟩:=RS.get (h_l.mono hle) hx1
 refine JY (b:=b3) (off:=o1) (len:=l.length) (cap:=c_l) (ik:=.i64) 37 111 2 i J5 (JR 38 111 (cs:=[Sr x1.name,Sr x1.value]) 0 (.agg #[Sr x1.name,Sr x1.value]) hc1 (Jv 11 #[Sr ([]),Sr ([])] 111 (fun b4=>JX [3] [] [[Sg b4 0 [Sr x1.name,Sr x1.value]],ro,[Sg b2 0 [Sr name,Sl ao xo.length co,Sl none 0 0]],[Sg b1 0 [Sr ([]),Sl none 0 0,Sl none 0 0]]] (Je (Jc (Jf (Jd (Jb [0,2] [(40,Sr x1.name)] (Jl 41 (Sr (way x1.name)) (JdO g x1.name w1) (Jb [0,0] [(43,Bo ((B (way x1.name)).toList == (B ((KJ name).1)).toList))] (KE 43 (Bo (way x1.name == (KJ name).1)) (show (Bo ((B (way x1.name)).toList == (B ((KJ name).1)).toList):Value)=Bo (way x1.name == (KJ name).1) by simp only [QT]) (Je (Jc (Jm (way x1.name == (KJ name).1) (fun h4=>?_) (fun h4=>?_)))))))))))))))
 exact Jd (Jb [0,6,2] [(45,Sl ao xo.length co),(46,.agg #[Sr x1.name,Sr x1.value])] (Ki 47 1 #[Sr x1.name,Sr x1.value] 111 (fun b5=>Qr (b:=b5) (cs:=[Sr x1.name,Sr x1.value]) 48 111 2 0 (E:=QJ) x1 hro ⟨rfl,‹_›,‹_›⟩ (by have q_:=(KS.1 ‹_›).len;(have q2_:=Jiw (l.take i) (KJ name).1;have q3_:=congrArg Hn hxo;rw [Hg] at q2_;(try simp only [QJ,EU,Hc,Hd,Hf] at *);omega)) (by have q_:=(KS.1 ‹_›).len;(have q2_:=Jiw (l.take i) (KJ name).1;have q3_:=congrArg Hn hxo;rw [Hg] at q2_;(try simp only [QJ,EU,Hc,Hd,Hf] at *);omega)) (fun a1 c1 r1 hr1=>JX [0,9] [] [[Sg b5 0 [Sr x1.name,Sr x1.value]],[Sg b4 0 [Sr x1.name,Sr x1.value]],r1,[Sg b2 0 [Sr name,Sl a1 ((xo++[x1]).length) c1,Sl none 0 0]],[Sg b1 0 [Sr ([]),Sl none 0 0,Sl none 0 0]]] (Je (JN (Jc (Jd (Jb [0,0] [(35,I (Ha.wrap ((i:Int)+1)))] (Kp 35 ((i:Int)+1) J5 (Je (QA [r1,[Sg b2 0 [Sr name,Sl a1 ((xo++[x1]).length) c1,Sl none 0 0]],[Sg b1 0 [Sr ([]),Sl none 0 0,Sl none 0 0]]] (Qf (i+1,a1,c1,r1,xo++[x1],g) ⟨(Ja hle (Jh _)),J5,hr1,(by (try dsimp only);rw [hxo];exact Jny hx1 (by simp_all))⟩ (by (try dsimp only);omega))))))))))))))
 exact Jq (JN (Jc (Jd (Jb [0,0] [(35,I (Ha.wrap ((i:Int)+1)))] (Kp 35 ((i:Int)+1) J5 (Je (QA [ro,[Sg b2 0 [Sr name,Sl ao xo.length co,Sl none 0 0]],[Sg b1 0 [Sr ([]),Sl none 0 0,Sl none 0 0]]] (Qf (i+1,ao,co,ro,xo,g) ⟨(Ja hle (Jh _)),J5,hro,(by (try dsimp only);rw [hxo];exact Jnz hx1 (by simp_all))⟩ (by (try dsimp only);omega)))))))))
 refine KW (J1 (J8 (JT (Jc (Jf (Jg [0] [(12,I 15)] (Jx (Z4 ?_))))))))
 have hlm_h_l:l.length≤9223372036854775807:=Ho (h_l).le (h_l).max
 refine Qb (σ:=Int×Ba×Nat×Bg×List J3×Ba×Nat×Bg×List Int×J4) (fun q_=>(J4.le g q_.2.2.2.2.2.2.2.2.2)∧(-1≤q_.1∧q_.1≤15)∧(J0 QJ q_.2.2.2.2.2.2.2.2.2 q_.2.1 q_.2.2.1 q_.2.2.2.2.1 q_.2.2.2.1)∧(q_.2.2.2.2.1=Jba l (KJ name).1)∧(J0 EU q_.2.2.2.2.2.2.2.2.2 q_.2.2.2.2.2.1 q_.2.2.2.2.2.2.1 q_.2.2.2.2.2.2.2.2.1 q_.2.2.2.2.2.2.2.1)∧(q_.2.2.2.2.2.2.2.2.1=Vp l (KJ name).1 (15-q_.1).toNat)) (fun q_=>[(0,Sl a_l l.length c_l),(4,Pt b1 0),(7,Sr ((KJ name).1)),(9,Pt b2 0),(12,I q_.1)]) (fun q_=>q_.2.2.2.2.2.2.2.2.2) (fun q_=>[q_.2.2.2.2.2.2.2.1,q_.2.2.2.1,[Sg b2 0 [Sr name,Sl q_.2.1 q_.2.2.2.2.1.length q_.2.2.1,Sl q_.2.2.2.2.2.1 q_.2.2.2.2.2.2.2.2.1.length q_.2.2.2.2.2.2.1]],[Sg b1 0 [Sr ([]),Sl none 0 0,Sl none 0 0]]]) (fun q_=>(q_.1+1).toNat) (15,ao,co,ro,xo,none,0,[],[],g) ⟨(Jh _),(by (try dsimp only);omega),hro,(by (try dsimp only);rw [hxo,Ht (by omega)]),(J0.none EU _),rfl⟩ (fun q_ hs=>?_)
 obtain ⟨k,ao,co,ro,xo,am,cm,rm,xm,g1_⟩:=q_
 obtain ⟨hle1_,hk,hro,hxo,hrm,hxm⟩:=hs
 dsimp only at hle1_ hk hro hxo hrm hxm
 dsimp only
 refine Jf (Jg [0,0] [(52,Bo (decide (k ≥ 0)))] (Jm (decide (k ≥ 0)) (fun h5=>?_) (fun h5=>?_)))
 refine Jq (Jc (Jf (Jx ?_)))
 obtain ⟨kn1,hkn1⟩:∃ k_:Nat,k=(k_:Int):=⟨(k).toNat,by omega⟩
 have e1:k=(kn1:Int):=hkn1
 refine Wa 12 (I (kn1:Int)) (congrArg I e1) (Jf ?_)
 obtain ⟨y1,hy1⟩:=QW (l:=(KJ name).1) (k:=kn1) (by (have q_:=Jer (a:=name) ‹_›;have q1_:=congrArg Hn q_;rw [Jan] at q1_;omega))
 have hb_y1:=y1.toNat_lt
 have e2:H3.wrap (y1.toNat:Int)=(y1.toNat:Int):=by (rw [IntKind.wrap_i32];omega)
 have e3:H3.wrap (97-(y1.toNat:Int))=97-(y1.toNat:Int):=by (rw [IntKind.wrap_i32];omega)
 refine Kt [] (Wz [(0,Sr ((KJ name).1)),(1,I (kn1:Int)),(2,Sr (((KJ name).1).take kn1)),(3,Sr ((KJ name).1)),(4,I (kn1:Int)),(5,Y (y1.toNat:Int)),(6,.int .i32 (y1.toNat:Int)),(7,.int .i32 (97-(y1.toNat:Int))),(8,Sr ([ZP y1])),(9,Sr ((((KJ name).1).take kn1)++([ZP y1]))),(10,Sr ((((KJ name).1).take kn1)++([ZP y1])))] (Kq [] [(0,0),(1,0),(3,0),(4,0),(10,0)] [2,5,6,7,8,9] [(0,Sl a_l l.length c_l),(4,Pt b1 0),(7,Sr ((KJ name).1)),(9,Pt b2 0),(12,I (kn1:Int)),(13,Sr ((((KJ name).1).take kn1)++([ZP y1])))] (Kb ?_ (Kb ?_ (Kb ?_ (Kb ?_ (Kb ?_ (Kb ?_ K4)))))) ?_))
 refine Jr 2 57 (Sr (((KJ name).1).take kn1)) [(55,Sr ((KJ name).1)),(56,I (kn1:Int))] (fun X=>?_)
 exact Jeg (l:=(KJ name).1) 57 none (some (I (kn1:Int))) 0 kn1 (.inl ⟨rfl,rfl⟩) (.inr ⟨_,rfl⟩) (Hz _) (by (have q_:=Jer (a:=name) ‹_›;have q1_:=congrArg Hn q_;rw [Jan] at q1_;omega)) Jn
 refine Jr 5 60 (Y (y1.toNat:Int)) [(58,Sr ((KJ name).1)),(59,I (kn1:Int))] (fun X=>?_)
 exact Jbl (ik:=.i64) 60 kn1 y1 hy1 Jn
 refine Jr 6 61 (.int .i32 (y1.toNat:Int)) [(60,Y (y1.toNat:Int))] (fun X=>?_)
 exact Qc 61 (.int .i32 (H3.wrap (y1.toNat:Int))) (.int .i32 (y1.toNat:Int)) (by simp only [e2]) Jn
 refine Jr 7 62 (.int .i32 (97-(y1.toNat:Int))) [(61,.int .i32 (y1.toNat:Int))] (fun X=>?_)
 exact Qc 62 (.int .i32 (H3.wrap (97-(y1.toNat:Int)))) (.int .i32 (97-(y1.toNat:Int))) (by simp only [e3]) Jn
 refine Jr 8 63 (Sr ([ZP y1])) [(62,.int .i32 (97-(y1.toNat:Int)))] (fun X=>?_)
 exact Jov 63 (97-(y1.toNat:Int)) [ZP y1] (Jjz (isB_bd (Jdf name _ (Hl (by rw [← Jer ‹_›];exact hy1))))) Jn
 refine Jr 9 64 (Sr ((((KJ name).1).take kn1)++([ZP y1]))) [(57,Sr (((KJ name).1).take kn1)),(63,Sr ([ZP y1]))] (fun X=>?_)
 exact Wi 64 (((KJ name).1).take kn1) ([ZP y1]) (by (try simp only [Hc,Hg,Hd,Hf]);omega) Jn
 refine Jc (Jf (Jd (Jb [0,0] [(66,Sl a_l l.length c_l),(67,Sr ((((KJ name).1).take kn1)++([ZP y1])))] (Jl 68 (.tuple #[U ((JW l ((((KJ name).1).take kn1)++([ZP y1]))).1),I ((JW l ((((KJ name).1).take kn1)++([ZP y1]))).2)]) (Je0 g1_ a_l c_l l (h_l.mono (Ja hle hle1_)) ((((KJ name).1).take kn1)++([ZP y1])) (by (simp;omega))) (Jb [0,0,0,0,0] [(14,U ((JW l ((((KJ name).1).take kn1)++([ZP y1]))).1))] (Je (Jc (Jd (Jb [0,6,0] [(72,Sl am xm.length cm),(73,U ((JW l ((((KJ name).1).take kn1)++([ZP y1]))).1))] (Ki 74 1 #[U ((JW l ((((KJ name).1).take kn1)++([ZP y1]))).1)] 41 (fun b6=>Qr (b:=b6) (cs:=[U ((JW l ((((KJ name).1).take kn1)++([ZP y1]))).1)]) 75 41 1 0 (E:=EU) ((JW l ((((KJ name).1).take kn1)++([ZP y1]))).1) hrm ⟨rfl,(Vo _ _)⟩ (by have q_:=(KS.1 ‹_›).len;(have q3_:=congrArg Hn hxm;rw [VY] at q3_;(try simp only [QJ,EU,Hc,Hd,Hf] at *);omega)) (by have q_:=(KS.1 ‹_›).len;(have q3_:=congrArg Hn hxm;rw [VY] at q3_;(try simp only [QJ,EU,Hc,Hd,Hf] at *);omega)) (fun a2 c2 r2 hr2=>JX [0,9] [] [[Sg b6 0 [U ((JW l ((((KJ name).1).take kn1)++([ZP y1]))).1)]],r2,ro,[Sg b2 0 [Sr name,Sl ao xo.length co,Sl a2 ((xm++[(JW l ((((KJ name).1).take kn1)++([ZP y1]))).1]).length) c2]],[Sg b1 0 [Sr ([]),Sl none 0 0,Sl none 0 0]]] (Je (JN (Jc (Jd (Jb [0,0,0] [(12,I (Ha.wrap ((kn1:Int)-1)))] (Kp 12 ((kn1:Int)-1) J5 (Je ?_)))))))))))))))))))
 exact QA [r2,ro,[Sg b2 0 [Sr name,Sl ao xo.length co,Sl a2 ((xm++[(JW l ((((KJ name).1).take kn1)++([ZP y1]))).1]).length) c2]],[Sg b1 0 [Sr ([]),Sl none 0 0,Sl none 0 0]]] (Qf ((kn1:Int)-1,ao,co,ro,xo,a2,c2,r2,xm++[(JW l ((((KJ name).1).take kn1)++([ZP y1]))).1],g1_) ⟨(Ja hle1_ (Jh _)),(by (try dsimp only);omega),hro,hxo,hr2,(by (try dsimp only);rw [hxm,show (15-((kn1:Int)-1)).toNat=15-kn1+1 by omega,show (15-k).toNat=15-kn1 by omega];exact JjA hy1 J5)⟩ (by (try dsimp only);omega))
 refine KW (J1 (J8 (JT (Jc (QF [6,9,0] [(5,I 0)] [rm,ro,[Sg b2 0 [Sr name,Sl ao xo.length co,Sl am xm.length cm]],[Sg b1 0 [Sr name,Sl ao xo.length co,Sl am xm.length cm]]] (Jo (Wm (E:=QJ) 1 hro (by have q_:=(KS.1 ‹_›).len;(have q3_:=congrArg Hn hxo;have q2_:=Jiw l (KJ name).1;(try simp only [QJ,EU,Hc,Hd,Hf] at *);omega)) (fun G1 hl1 hs1=>Wm (E:=EU) 0 (hrm.mono hl1) (by have q_:=(KS.1 ‹_›).len;(have q3_:=congrArg Hn hxm;rw [VY] at q3_;(try simp only [QJ,EU,Hc,Hd,Hf] at *);omega)) (fun G2 hl2 hs2=>?_)))))))))
 have hf3:KU l name=((⟨name,xo,xm⟩:Qy),0):=by
  unfold KU Jeu;(rw [if_neg (by omega)];(rw [if_neg (by omega),hxo,hxm,show (15-k).toNat=16 by omega];done))
 refine Jp [3,0] [.agg #[Sr name,Sl ao xo.length co,Sl am xm.length cm],I 0] (JB [] (Ja (Ja (Ja hle hle1_) hl1) hl2) ?_)
 rw [hf3]
 try dsimp only
 exact ⟨ao,co,am,cm,rfl,hw_name,(hs1.mono hl2),hs2,rfl⟩
def JhF (a:Bs):Bb:=a[a.length-1]?.getD []
theorem JhG {a:Bs} {k:Nat} {x:Bb} (hk:k=a.length-1) (h:a[k]? = some x):x=JhF a:=by unfold JhF;rw [← hk,h];rfl
def Ja2 (x y:JV):Bool:=decide (Jz x y.root y.at_=(y,0))
theorem Jev {x y:JV}:Ja2 x y=true ↔ (Jz x y.root y.at_).2=0∧(Jz x y.root y.at_).1.epoch=y.epoch∧(Jz x y.root y.at_).1.root=y.root∧(Jz x y.root y.at_).1.prev=y.prev∧(Jz x y.root y.at_).1.at_=y.at_:=by
 unfold Ja2
 rw [decide_eq_true_eq]
 constructor
 · intro h;rw [h];simp
 ·
  rintro ⟨h1,h2⟩
  exact Prod.ext (Jb6.2 h2) h1
def lnk:List JV→Nat→Int
 | x::y::r,i=>if Ja2 x y then lnk (y::r) (i+1) else (i:Int)
 | _,_=>-1
def Wy (l:List JV):Int:=lnk l 1
theorem JqJ {l:List JV} {i:Nat} (h:l.length≤1):lnk l i=-1:=by
 match l,h with
 | [],_=>rfl
 | [_],_=>rfl
theorem Jo7 {l:List JV} {i:Nat} {x y:JV} (hi:1≤i) (hx:l[i-1]? = some x) (hy:l[i]? = some y) (h:Ja2 x y=true):lnk (l.drop (i-1)) i=lnk (l.drop (i+1-1)) (i+1):=by
 obtain ⟨h1,rfl⟩:=He.1 hx
 obtain ⟨h2,rfl⟩:=He.1 hy
 rw [Hm h1,show i-1+1=i by omega,show i+1-1=i by omega,Hm h2]
 show (if Ja2 _ _=true then _ else _)=_
 rw [if_pos h]
theorem Jo8 {l:List JV} {i:Nat} {x y:JV} (hi:1≤i) (hx:l[i-1]? = some x) (hy:l[i]? = some y) (h:¬ Ja2 x y=true):lnk (l.drop (i-1)) i=(i:Int):=by
 obtain ⟨h1,rfl⟩:=He.1 hx
 obtain ⟨h2,rfl⟩:=He.1 hy
 rw [Hm h1,show i-1+1=i by omega,Hm h2]
 show (if Ja2 _ _=true then _ else _)=_
 rw [if_neg h]
theorem Jmd:∀ (l:List JV) (i:Nat),lnk l i<0 ↔ ∀ (k:Nat) x y,l[k]? = some x→l[k+1]? = some y→Ja2 x y=true
 | [],i=>by simp [lnk]
 | [a],i=>by simp [lnk]
 | a::b::r,i=>by
  have ih:=Jmd (b::r) (i+1)
  unfold lnk
  split
  ·
   rename_i h
   rw [ih]
   constructor
   ·
    intro hh k x y hx hy
    cases k with
    | zero=>simp at hx hy;subst hx hy;exact h
    | succ k=>exact hh k x y hx hy
   ·
    intro hh k x y hx hy
    exact hh (k+1) x y hx hy
  ·
   rename_i h
   constructor
   · intro hh;omega
   · intro hh;exact absurd (hh 0 a b rfl rfl) h
def Vq:List JV→Nat→Int×Int
 | [],_=>(0,0)
 | h::l,i=>if JO h=0 then Vq l (i+1) else (JO h,(i:Int))
theorem JjB {l:List JV} {i:Nat} {x:JV} (hx:l[i]? = some x) (h:JO x=0):Vq (l.drop i) i=Vq (l.drop (i+1)) (i+1):=by
 obtain ⟨h1,rfl⟩:=He.1 hx
 rw [Hm h1]
 show (if JO _=0 then _ else _)=_
 rw [if_pos h]
theorem JnA {l:List JV} {i:Nat} {x:JV} (hx:l[i]? = some x) (h:¬ JO x=0):Vq (l.drop i) i=(JO x,(i:Int)):=by
 obtain ⟨h1,rfl⟩:=He.1 hx
 rw [Hm h1]
 show (if JO _=0 then _ else _)=_
 rw [if_neg h]
theorem Jgb:∀ (l:List JV) (i:Nat),(Vq l i).1=0 ↔ ∀ h∈l,JO h=0
 | [],i=>by simp [Vq]
 | h::l,i=>by
  have ih:=Jgb l (i+1)
  unfold Vq
  split
  · rename_i e;rw [ih];simp [e]
  · rename_i e;simp [e]
def Kf (l:List JV):Int×Int:=if l.length=0 then (5,0) else if 40<l.length then (2,0) else if (Vq l 0).1 ≠ 0 then Vq l 0 else if 0≤Wy l then (8,Wy l) else (0,0)
structure Zr (l:List JV):Prop where
 len1:1≤l.length
 len:l.length≤40
 ok:∀ h∈l,JO h=0
 lnk:∀ (k:Nat) x y,l[k]? = some x→l[k+1]? = some y→Ja2 x y=true
theorem Qd {l:List JV}:(Kf l).1=0 ↔ Zr l:=by
 unfold Kf
 have e1:=Jgb l 0
 have e2:=Jmd l 1
 constructor
 ·
  intro h
  split at h
  · cases h
  split at h
  · cases h
  split at h
  · contradiction
  split at h
  · cases h
  ·
   rename_i h1 h2 h3 h4
   exact ⟨by omega,by omega,e1.1 (Hj.1 h3),e2.1 (by unfold Wy at h4;omega)⟩
 ·
  rintro ⟨h1,h2,h3,h4⟩
  rw [if_neg (by omega),if_neg (by omega),if_neg (by have:=e1.2 h3;omega),if_neg (by have:=e2.2 h4;unfold Wy;omega)]
def K7:List (List JV)→Int
 | []=>0
 | l::r=>if (Kf l).1=0 then K7 r else (Kf l).1
theorem Jg1 {l:List (List JV)} {i:Nat} {x:List JV} (hx:l[i]? = some x) (h:(Kf x).1=0):K7 (l.drop i)=K7 (l.drop (i+1)):=by
 obtain ⟨h1,rfl⟩:=He.1 hx
 rw [Hm h1]
 show (if (Kf _).1=0 then _ else _)=_
 rw [if_pos h]
theorem JjC {l:List (List JV)} {i:Nat} {x:List JV} (hx:l[i]? = some x) (h:¬ (Kf x).1=0):K7 (l.drop i)=(Kf x).1:=by
 obtain ⟨h1,rfl⟩:=He.1 hx
 rw [Hm h1]
 show (if (Kf _).1=0 then _ else _)=_
 rw [if_neg h]
theorem JdP:∀ (l:List (List JV)),K7 l=0 ↔ ∀ x∈l,Zr x
 | []=>by simp [K7]
 | a::l=>by
  have ih:=JdP l
  unfold K7
  split
  · rename_i e;rw [ih];simp [Qd.1 e]
  ·
   rename_i e;constructor
   · intro h;exact absurd h e
   · intro h;exact absurd (Qd.2 (h a (by simp))) e
theorem QN {l:List JV}:K7 [l]=0 ↔ Zr l:=by rw [JdP];simp
def Zg (l:List JV):JV:=l[l.length-1]?.getD ZF
def W6 (l:List JV):JV:=l[0]?.getD ZF
theorem WN {l:List JV} {k:Nat} {x:JV} (hk:k=l.length-1) (h:l[k]? = some x):x=Zg l:=by unfold Zg;rw [← hk,h];rfl
theorem W7 {l:List JV} {x:JV} (h:l[0]? = some x):x=W6 l:=by unfold W6;rw [h];rfl
def Yh (l:List JV) (root at_:Int):Int:=if K7 [l] ≠ 0 then K7 [l] else if (l.length:Int)=40 then 7 else (Jz (Zg l) root at_).2
def QE (l:List JV) (root at_:Int):List JV×Int:=if Yh l root at_ ≠ 0 then ([],Yh l root at_) else (l++[(Jz (Zg l) root at_).1],0)
def cut (l:List JV) (a b:Int):List JV:=(l.take (b-(W6 l).epoch+1).toNat).drop (a-(W6 l).epoch).toNat
def Zj (l:List JV) (a b:Int):List JV×Int:=if K7 [l] ≠ 0 then ([],K7 [l]) else if b<a∨a<(W6 l).epoch∨(Zg l).epoch<b then ([],4) else (cut l a b,0)
def Q5 (h:JV) (l:List JV):Bool×Int:=if K7 [l] ≠ 0 then (false,K7 [l]) else if JO h ≠ 0 then (false,JO h) else (decide (Wy [h,W6 l]<0),0)
theorem Zr.first {l:List JV} (h:Zr l):l[0]? = some (W6 l):=by
 have:=h.len1
 have e:l[0]? = some (l[0]'(by omega)):=Hk (by omega)
 rw [e];unfold W6;rw [e];rfl
theorem Zr.last {l:List JV} (h:Zr l):l[l.length-1]? = some (Zg l):=by
 have:=h.len1
 have e:l[l.length-1]? = some (l[l.length-1]'(by omega)):=Hk (by omega)
 rw [e];unfold Zg;rw [e];rfl
theorem JjD {x y:JV} (h:Ja2 x y=true):y.epoch=x.epoch+1:=by
 unfold Ja2 at h
 rw [decide_eq_true_eq] at h
 have h0:(Jz x y.root y.at_).2=0:=by rw [h]
 have:=(Ja0 h0).2.2.2.1
 rw [h] at this
 have:=congrArg (fun p=>p.1.epoch) this
 simpa using this
theorem Zr.epoch {l:List JV} (h:Zr l):∀ (k:Nat) x,l[k]? = some x→x.epoch=(W6 l).epoch+k
 | 0,x,hx=>by rw [h.first] at hx;rw [← Hq.inj hx];simp
 | k+1,x,hx=>by
  have hk:=(He.1 hx).1
  have e:l[k]? = some (l[k]'(by omega)):=Hk (by omega)
  have:=h.epoch k _ e
  have:=JjD (h.lnk k _ _ e hx)
  omega
theorem Zr.lastE {l:List JV} (h:Zr l):(Zg l).epoch=(W6 l).epoch+l.length-1:=by
 have:=h.epoch _ _ h.last
 have:=h.len1
 omega
theorem Zr.fb {l:List JV} (h:Zr l):0≤(W6 l).epoch∧(W6 l).epoch≤1000000:=by
 have:=Zf (h.ok _ (Hl h.first));omega
theorem Zr.lb {l:List JV} (h:Zr l):0≤(Zg l).epoch∧(Zg l).epoch≤1000000:=by
 have:=Zf (h.ok _ (Hl h.last));omega
theorem JdQ {l:List JV} {r t:Int} (h:(QE l r t).2=0):Zr l∧l.length<40∧(Jz (Zg l) r t).2=0∧QE l r t=(l++[(Jz (Zg l) r t).1],0):=by
 unfold QE at h ⊢
 split at h
 · contradiction
 ·
  rename_i h1
  rw [if_neg h1]
  unfold Yh at h1
  by_cases e1:K7 [l]=0
  ·
   rw [if_neg (by omega)] at h1
   have hc:=QN.1 e1
   by_cases e2:(l.length:Int)=40
   · rw [if_pos e2] at h1;omega
   ·
    rw [if_neg e2] at h1
    exact ⟨hc,by have:=hc.len;omega,Hj.1 h1,rfl⟩
  · rw [if_pos e1] at h1;omega
theorem Jg2 {l:List JV} {r t:Int} (h:¬ (QE l r t).2=0):(QE l r t).1=[]:=by
 revert h;unfold QE;split <;> simp
theorem Zr.snoc {l:List JV} (h:Zr l) (hl:l.length<40) {n:JV} (hn:JO n=0) (hk:Ja2 (Zg l) n=true):Zr (l++[n]):=by
 refine ⟨by simp,by simp;omega,fun x hx=>?_,fun k x y hx hy=>?_⟩
 ·
  rcases HA.1 hx with hx | hx
  · exact h.ok x hx
  · rw [Hu.1 hx];exact hn
 ·
  by_cases e:k+1<l.length
  ·
   rw [HF (by omega)] at hx hy
   exact h.lnk k x y hx hy
  ·
   have hy1:=(He.1 hy).1
   simp at hy1
   have e2:k=l.length-1:=by have:=h.len1;omega
   have:=h.len1
   rw [HF (by omega),e2,h.last] at hx
   rw [HR (by omega),show k+1-l.length=0 by omega] at hy
   simp at hy
   rw [← Hq.inj hx,← hy];exact hk
theorem Jk9 {x:JV} {r t:Int} (h:(Jz x r t).2=0):Ja2 x (Jz x r t).1=true∧JO (Jz x r t).1=0:=by
 obtain ⟨h1,h2,h3,h4,h5⟩:=Ja0 h
 have e1:(Jz x r t).1.root=r:=by rw [h4]
 have e2:(Jz x r t).1.at_=t:=by rw [h4]
 refine ⟨?_,by rw [h4];exact h5⟩
 unfold Ja2
 rw [decide_eq_true_eq,e1,e2]
 exact Prod.ext rfl h
theorem Yu {x:JV} {r t:Int} (hr:0≤r) (h:(Jz x r t).2=0):(0≤(Jz x r t).1.epoch∧(Jz x r t).1.epoch≤1000000)∧(0≤(Jz x r t).1.root∧(Jz x r t).1.root<2305843009213693951)∧(0≤(Jz x r t).1.prev∧(Jz x r t).1.prev<2305843009213693951)∧0≤(Jz x r t).1.at_∧(Jz x r t).1.at_≤1000000000:=by
 obtain ⟨h1,h2,h3,h4,h5⟩:=Ja0 h
 have:=Zf h5
 have:=QX (Jac x)
 rw [h4]
 simp only at *
 omega
theorem Jce (G:J4) (a_l:Ba) (c_l:Nat) (l:List JV) (h_l:RS KG G a_l c_l l) :Q7 174 #[Sl a_l l.length c_l] G (I (Wy l)):=by
 refine JS Tryz.func174 42 [(0,Sl a_l l.length c_l)] rfl (fun w0 G0=>?_)
 refine Jg [0] [] (Jf (Jg [0] [(3,I 1)] (Jx ?_)))
 have hlm_h_l:l.length≤9223372036854775807:=Ho (h_l).le (h_l).max
 refine Qb (σ:=Nat) (fun q_=>(1≤q_∧(q_≤l.length∨q_=1))∧(Wy l=lnk (l.drop (q_-1)) q_)) (fun q_=>[(0,Sl a_l l.length c_l),(3,I (q_:Int))]) (fun q_=>G) (fun q_=>[]) (fun q_=>l.length-q_) 1 ⟨⟨HS _,.inr rfl⟩,rfl⟩ (fun q_ hs=>?_)
 revert hs;revert q_;intro i hs
 obtain ⟨hi,hn⟩:=hs
 dsimp only
 refine Jf (Jg [0,0,0,0] [(9,Bo (decide ((i:Int)<(l.length:Int))))] (Jm (decide ((i:Int)<(l.length:Int))) (fun h1=>?_) (fun h1=>?_)))
 refine Jq (Jc (Jf (Jx (Jf ?_))))
 have e1:Ha.wrap ((i:Int)-1)=((i-1:Nat):Int):=(Hh _ (by omega)).trans (show (i:Int)-1=((i-1:Nat):Int) by omega)
 obtain ⟨b1,o1,rfl⟩:=RS.addr h_l (k:=i-1) (by omega)
 obtain ⟨x1,hx1⟩:=QW (l:=l) (k:=i-1) (by omega)
 obtain ⟨_,⟨rfl,w1,w2,w3,w4⟩,hc1⟩:=RS.get h_l hx1
 obtain ⟨x2,hx2⟩:=QW (l:=l) (k:=i) (by omega)
 obtain ⟨_,⟨rfl,_,w6,_,w8⟩,hc2⟩:=RS.get h_l hx2
 refine Kt [19,20] (Wz [(0,Sl (At b1 o1) l.length c_l),(1,I (i:Int)),(2,I ((i-1:Nat):Int)),(3,Pt b1 (o1+(i-1)*4)),(4,.agg #[I x1.epoch,U x1.root,U x1.prev,I x1.at_]),(5,Sl (At b1 o1) l.length c_l),(6,I (i:Int)),(7,Pt b1 (o1+i*4)),(8,Pt b1 (o1+i*4+1)),(9,U x2.root),(10,Sl (At b1 o1) l.length c_l),(11,I (i:Int)),(12,Pt b1 (o1+i*4)),(13,Pt b1 (o1+i*4+3)),(14,I x2.at_),(15,.tuple #[(VR (Jz x1 x2.root x2.at_).1),I ((Jz x1 x2.root x2.at_).2)]),(16,.tuple #[(VR (Jz x1 x2.root x2.at_).1),I ((Jz x1 x2.root x2.at_).2)]),(17,(VR (Jz x1 x2.root x2.at_).1)),(18,I ((Jz x1 x2.root x2.at_).2))] (JL [] [(0,0),(1,0),(5,0),(6,0),(8,0),(10,0),(11,0),(13,0),(16,0),(17,0),(18,0)] [2,3,4,7,9,12,14,15] [19] (Kb ?_ (Kb ?_ (Kb ?_ (Kb ?_ (Kb ?_ (Kb ?_ (Kb ?_ (Kb ?_ K4)))))))) (Kb ?_ K4)))
 refine Jr 2 15 (I ((i-1:Nat):Int)) [(14,I (i:Int))] (fun X=>?_)
 exact Qc 15 (I (Ha.wrap ((i:Int)-1))) (I ((i-1:Nat):Int)) (by simp only [e1]) Jn
 refine Jr 3 16 (Pt b1 (o1+(i-1)*4)) [(13,Sl (At b1 o1) l.length c_l),(15,I ((i-1:Nat):Int))] (fun X=>?_)
 exact JY (b:=b1) (off:=o1) (len:=l.length) (cap:=c_l) (ik:=.i64) 16 43 4 (i-1) J5 Jn
 refine Jr 4 17 (.agg #[I x1.epoch,U x1.root,U x1.prev,I x1.at_]) [(16,Pt b1 (o1+(i-1)*4))] (fun X=>?_)
 exact JR 17 43 (cs:=[I x1.epoch,U x1.root,U x1.prev,I x1.at_]) 0 (.agg #[I x1.epoch,U x1.root,U x1.prev,I x1.at_]) hc1 Jn
 refine Jr 7 20 (Pt b1 (o1+i*4)) [(18,Sl (At b1 o1) l.length c_l),(19,I (i:Int))] (fun X=>?_)
 exact JY (b:=b1) (off:=o1) (len:=l.length) (cap:=c_l) (ik:=.i64) 20 43 4 i J5 Jn
 refine Jr 9 22 (U x2.root) [(21,Pt b1 (o1+i*4+1))] (fun X=>?_)
 exact JR 22 41 (cs:=[I x2.epoch,U x2.root,U x2.prev,I x2.at_]) 1 (U x2.root) hc2 Jn
 refine Jr 12 25 (Pt b1 (o1+i*4)) [(23,Sl (At b1 o1) l.length c_l),(24,I (i:Int))] (fun X=>?_)
 exact JY (b:=b1) (off:=o1) (len:=l.length) (cap:=c_l) (ik:=.i64) 25 43 4 i J5 Jn
 refine Jr 14 27 (I x2.at_) [(26,Pt b1 (o1+i*4+3))] (fun X=>?_)
 exact JR 27 2 (cs:=[I x2.epoch,U x2.root,U x2.prev,I x2.at_]) 3 (I x2.at_) hc2 Jn
 refine Jr 15 28 (.tuple #[(VR (Jz x1 x2.root x2.at_).1),I ((Jz x1 x2.root x2.at_).2)]) [(17,.agg #[I x1.epoch,U x1.root,U x1.prev,I x1.at_]),(22,U x2.root),(27,I x2.at_)] (fun X=>?_)
 exact Jl 28 (.tuple #[(VR (Jz x1 x2.root x2.at_).1),I ((Jz x1 x2.root x2.at_).2)]) (JbC G [I x1.epoch,U x1.root,U x1.prev,I x1.at_] x1 (⟨rfl,w1,w2,w3,w4⟩) x2.root w6 x2.at_ w8) Jn
 refine JA 19 [] (fun X=>?_)
 refine Jv 4 #[I 0,U 0,U 0,I 0] 43 (fun b2=>?_)
 have e2:Ha.wrap ((i:Int)-1)=((i-1:Nat):Int):=(Hh _ (by omega)).trans (show (i:Int)-1=((i-1:Nat):Int) by omega)
 refine JC [(19,Pt b2 0)] (JL [] [(0,0),(1,0),(5,0),(6,0),(8,0),(10,0),(11,0),(13,0),(16,0),(17,0),(18,0)] [2,3,4,7,9,12,14,15] [20] (Kb ?_ (Kb ?_ (Kb ?_ (Kb ?_ (Kb ?_ (Kb ?_ (Kb ?_ (Kb ?_ K4)))))))) (Kb ?_ K4))
 refine Jr 2 15 (I ((i-1:Nat):Int)) [(14,I (i:Int))] (fun X=>?_)
 exact Qc 15 (I (Ha.wrap ((i:Int)-1))) (I ((i-1:Nat):Int)) (by simp only [e2]) Jn
 refine Jr 3 16 (Pt b1 (o1+(i-1)*4)) [(13,Sl (At b1 o1) l.length c_l),(15,I ((i-1:Nat):Int))] (fun X=>?_)
 exact JY (b:=b1) (off:=o1) (len:=l.length) (cap:=c_l) (ik:=.i64) 16 43 4 (i-1) J5 Jn
 refine Jr 4 17 (.agg #[I x1.epoch,U x1.root,U x1.prev,I x1.at_]) [(16,Pt b1 (o1+(i-1)*4))] (fun X=>?_)
 exact JR 17 43 (cs:=[I x1.epoch,U x1.root,U x1.prev,I x1.at_]) 0 (.agg #[I x1.epoch,U x1.root,U x1.prev,I x1.at_]) hc1 Jn
 refine Jr 7 20 (Pt b1 (o1+i*4)) [(18,Sl (At b1 o1) l.length c_l),(19,I (i:Int))] (fun X=>?_)
 exact JY (b:=b1) (off:=o1) (len:=l.length) (cap:=c_l) (ik:=.i64) 20 43 4 i J5 Jn
 refine Jr 9 22 (U x2.root) [(21,Pt b1 (o1+i*4+1))] (fun X=>?_)
 exact JR 22 41 (cs:=[I x2.epoch,U x2.root,U x2.prev,I x2.at_]) 1 (U x2.root) hc2 Jn
 refine Jr 12 25 (Pt b1 (o1+i*4)) [(23,Sl (At b1 o1) l.length c_l),(24,I (i:Int))] (fun X=>?_)
 exact JY (b:=b1) (off:=o1) (len:=l.length) (cap:=c_l) (ik:=.i64) 25 43 4 i J5 Jn
 refine Jr 14 27 (I x2.at_) [(26,Pt b1 (o1+i*4+3))] (fun X=>?_)
 exact JR 27 2 (cs:=[I x2.epoch,U x2.root,U x2.prev,I x2.at_]) 3 (I x2.at_) hc2 Jn
 refine Jr 15 28 (.tuple #[(VR (Jz x1 x2.root x2.at_).1),I ((Jz x1 x2.root x2.at_).2)]) [(17,.agg #[I x1.epoch,U x1.root,U x1.prev,I x1.at_]),(22,U x2.root),(27,I x2.at_)] (fun X=>?_)
 exact Jl 28 (.tuple #[(VR (Jz x1 x2.root x2.at_).1),I ((Jz x1 x2.root x2.at_).2)]) (JbC G [I x1.epoch,U x1.root,U x1.prev,I x1.at_] x1 (⟨rfl,w1,w2,w3,w4⟩) x2.root w6 x2.at_ w8) Jn
 refine JA 20 [(4,Pt b2 0),(29,(VR (Jz x1 x2.root x2.at_).1))] (fun X=>?_)
 refine KI 0 [[Sg b2 0 (JdD (Jz x1 x2.root x2.at_).1)]] (J9 [(21,I ((Jz x1 x2.root x2.at_).2))] (Kq [0,1,2,3,4,5,6,7,8,9,10,11,12,13,14,15,16,17] [(18,0),(21,0)] [] [(0,Sl (At b1 o1) l.length c_l),(3,I (i:Int)),(4,Pt b2 0),(5,I ((Jz x1 x2.root x2.at_).2))] (Hi _) (Jc (Jf ?_))))
 rcases Hr (!decide ((Jz x1 x2.root x2.at_).2=0)) with h2 | h2
 have h2d:=h2
 try simp only [BB] at h2d
 refine Kt [] (Wz [(0,I ((Jz x1 x2.root x2.at_).2)),(1,Bo true),(2,Bo true),(3,undef),(4,undef),(5,undef),(6,undef),(7,undef),(8,undef),(9,Bo true)] (Kq [] [(0,0),(2,0),(3,1),(4,1),(5,1),(6,1),(7,1),(8,1),(9,0)] [1] [(0,Sl (At b1 o1) l.length c_l),(3,I (i:Int)),(40,Bo true)] (Kb ?_ K4) ?_))
 refine Jr 1 32 (Bo true) [(31,I ((Jz x1 x2.root x2.at_).2))] (fun X=>?_)
 exact Qc 32 (Bo (!decide ((Jz x1 x2.root x2.at_).2=0))) (Bo true) (by rw [h2]) Jn
 refine Jc (JZ (Jg [0,0] [(2,I (i:Int))] (Jo (Ju (Jj (Q0 (Ju (Jj (Jp [0] [I (i:Int)] (Jy (Jh _) (congrArg I (?_:(Wy l)=(i:Int)).symm)))))))))))
 rw [hn];exact Jo8 (by omega) hx1 hx2 (by rw [Jev];simp_all)
 have h2d:=h2
 try simp only [BB] at h2d
 refine Kt [] (Wz [(0,I ((Jz x1 x2.root x2.at_).2)),(1,Bo false),(2,Bo false),(3,(VR (Jz x1 x2.root x2.at_).1)),(4,Sl (At b1 o1) l.length c_l),(5,I (i:Int)),(6,Pt b1 (o1+i*4)),(7,.agg #[I x2.epoch,U x2.root,U x2.prev,I x2.at_]),(8,Bo (!(decide (((Jz x1 x2.root x2.at_).1).epoch=x2.epoch) && decide (((Jz x1 x2.root x2.at_).1).root=x2.root) && decide (((Jz x1 x2.root x2.at_).1).prev=x2.prev) && decide (((Jz x1 x2.root x2.at_).1).at_=x2.at_)))),(9,Bo (!(decide (((Jz x1 x2.root x2.at_).1).epoch=x2.epoch) && decide (((Jz x1 x2.root x2.at_).1).root=x2.root) && decide (((Jz x1 x2.root x2.at_).1).prev=x2.prev) && decide (((Jz x1 x2.root x2.at_).1).at_=x2.at_))))] (Kq [] [(0,0),(2,0),(3,2),(4,0),(5,0),(9,0)] [1,6,7,8] [(0,Sl (At b1 o1) l.length c_l),(3,I (i:Int)),(40,Bo (!(decide (((Jz x1 x2.root x2.at_).1).epoch=x2.epoch) && decide (((Jz x1 x2.root x2.at_).1).root=x2.root) && decide (((Jz x1 x2.root x2.at_).1).prev=x2.prev) && decide (((Jz x1 x2.root x2.at_).1).at_=x2.at_))))] (Kb ?_ (Kb ?_ (Kb ?_ (Kb ?_ K4)))) ?_))
 refine Jr 1 32 (Bo false) [(31,I ((Jz x1 x2.root x2.at_).2))] (fun X=>?_)
 exact Qc 32 (Bo (!decide ((Jz x1 x2.root x2.at_).2=0))) (Bo false) (by rw [h2]) Jn
 refine Jr 6 37 (Pt b1 (o1+i*4)) [(33,Bo false),(35,Sl (At b1 o1) l.length c_l),(36,I (i:Int))] (fun X=>?_)
 exact JY (b:=b1) (off:=o1) (len:=l.length) (cap:=c_l) (ik:=.i64) 37 43 4 i J5 Jn
 refine Jr 7 38 (.agg #[I x2.epoch,U x2.root,U x2.prev,I x2.at_]) [(33,Bo false),(37,Pt b1 (o1+i*4))] (fun X=>?_)
 exact JR 38 43 (cs:=[I x2.epoch,U x2.root,U x2.prev,I x2.at_]) 0 (.agg #[I x2.epoch,U x2.root,U x2.prev,I x2.at_]) hc2 Jn
 refine Jr 8 39 (Bo (!(decide (((Jz x1 x2.root x2.at_).1).epoch=x2.epoch) && decide (((Jz x1 x2.root x2.at_).1).root=x2.root) && decide (((Jz x1 x2.root x2.at_).1).prev=x2.prev) && decide (((Jz x1 x2.root x2.at_).1).at_=x2.at_)))) [(33,Bo false),(34,(VR (Jz x1 x2.root x2.at_).1)),(38,.agg #[I x2.epoch,U x2.root,U x2.prev,I x2.at_])] (fun X=>?_)
 exact Jdv 39 (Bo (!(decide (((Jz x1 x2.root x2.at_).1).epoch=x2.epoch) && (decide (((Jz x1 x2.root x2.at_).1).root=x2.root) && (decide (((Jz x1 x2.root x2.at_).1).prev=x2.prev) && (decide (((Jz x1 x2.root x2.at_).1).at_=x2.at_) && true)))))) (Bo (!(decide (((Jz x1 x2.root x2.at_).1).epoch=x2.epoch) && decide (((Jz x1 x2.root x2.at_).1).root=x2.root) && decide (((Jz x1 x2.root x2.at_).1).prev=x2.prev) && decide (((Jz x1 x2.root x2.at_).1).at_=x2.at_)))) (by simp [QT,HO]) Jn
 refine Jc (Jm (!(decide (((Jz x1 x2.root x2.at_).1).epoch=x2.epoch) && decide (((Jz x1 x2.root x2.at_).1).root=x2.root) && decide (((Jz x1 x2.root x2.at_).1).prev=x2.prev) && decide (((Jz x1 x2.root x2.at_).1).at_=x2.at_))) (fun h3=>?_) (fun h3=>?_))
 refine Jg [0,0] [(2,I (i:Int))] (Jo (Ju (Jj (Q0 (Ju (Jj (Jp [0] [I (i:Int)] (Jy (Jh _) (congrArg I (?_:(Wy l)=(i:Int)).symm)))))))))
 rw [hn];exact Jo8 (by omega) hx1 hx2 (by rw [Jev];simp_all)
 exact Jq (JN (Jc (Jd (Jb [0,0,0] [(3,I (Ha.wrap ((i:Int)+1)))] (Kp 3 ((i:Int)+1) J5 (Je (QA [] (Qf (i+1) ⟨⟨by (try dsimp only);omega,.inl (by (try dsimp only);omega)⟩,(by rw [hn];exact Jo7 J5 hx1 hx2 (Jev.2 (by simp_all)))⟩ (by (try dsimp only);omega)))))))))
 refine KW (J1 (J8 (JT (Jc (Jg [0] [(2,I (-1))] (Jo (Jp [0] [I (-1)] (Jy (Jh _) (congrArg I (?_:(Wy l)=(-1)).symm)))))))))
 rw [hn];exact JqJ (by simp;omega)
theorem JaP (G:J4) (a_l:Ba) (c_l:Nat) (l:List JV) (h_l:RS KG G a_l c_l l) :Q7 120 #[Sl a_l l.length c_l] G (.tuple #[I ((Kf l).1),I ((Kf l).2)]):=by
 refine JS Tryz.func120 35 [(0,Sl a_l l.length c_l)] rfl (fun w0 G0=>?_)
 refine Jg [0,0] [] (Jf (Jx (Jg [0,0,0,0] [(8,Bo (decide ((l.length:Int)=0)))] (Jm (decide ((l.length:Int)=0)) (fun h1=>?_) (fun h1=>?_)))))
 refine Jg [0,0] [(2,I 5),(3,I 0)] (Jo (Ju (Jj (Jp [0,0] [I 5,I 0] (Jy (Jh _) ?_)))))
 have hf_:(Kf l)=(5,0):=by
  unfold Kf;(rw [if_pos (by omega)];done)
 · (try rw [hf_]);(simp only [QD];done)
 refine Jg [0,0,0,0] [(12,Bo (decide ((l.length:Int) > 40)))] (Jm (decide ((l.length:Int) > 40)) (fun h2=>?_) (fun h2=>?_))
 refine Jg [0,0] [(2,I 2),(3,I 0)] (Jo (Ju (Jj (Jp [0,0] [I 2,I 0] (Jy (Jh _) ?_)))))
 have hf_:(Kf l)=(2,0):=by
  unfold Kf;(rw [if_neg (by omega),if_pos (by omega)];done)
 · (try rw [hf_]);(simp only [QD];done)
 refine Jq (JN (Jc (Jf (Jg [0,0,0] [(16,Sl a_l l.length c_l),(17,I (l.length:Int)),(18,I 0)] (Jx ?_)))))
 have hlm_h_l:l.length≤9223372036854775807:=Ho (h_l).le (h_l).max
 refine Qb (σ:=Nat) (fun q_=>(q_≤l.length)∧(Vq l 0=Vq (l.drop q_) q_)) (fun q_=>[(0,Sl a_l l.length c_l),(16,Sl a_l l.length c_l),(17,I (l.length:Int)),(18,I (q_:Int))]) (fun q_=>G) (fun q_=>[]) (fun q_=>l.length-q_) 0 ⟨(by (try dsimp only);exact Hz _),rfl⟩ (fun q_ hs=>?_)
 revert hs;revert q_;intro i hs
 obtain ⟨hi,hn⟩:=hs
 dsimp only
 refine Jg [0] [(19,Bo (decide ((i:Int)<(l.length:Int))))] (Jf (Jm (decide ((i:Int)<(l.length:Int))) (fun h3=>?_) (fun h3=>?_)))
 refine Jq (Jc (Jf (Jx (Jf (Jd (Jb [0] [(20,I (i:Int))] ?_))))))
 obtain ⟨b1,o1,rfl⟩:=RS.addr h_l (k:=i) (by omega)
 obtain ⟨x1,hx1⟩:=QW (l:=l) (k:=i) (by omega)
 obtain ⟨_,⟨rfl,_,_,_,_⟩,hc1⟩:=RS.get h_l hx1
 refine JY (b:=b1) (off:=o1) (len:=l.length) (cap:=c_l) (ik:=.i64) 21 43 4 i J5 (JR 22 43 (cs:=[I x1.epoch,U x1.root,U x1.prev,I x1.at_]) 0 (.agg #[I x1.epoch,U x1.root,U x1.prev,I x1.at_]) hc1 (Jv 5 #[I 0,U 0,U 0,I 0] 43 (fun b2=>JX [0,3] [(4,I (i:Int))] [[Sg b2 0 [I x1.epoch,U x1.root,U x1.prev,I x1.at_]]] (Je (Jc (Jf (Jd (Jb [2] [(23,.agg #[I x1.epoch,U x1.root,U x1.prev,I x1.at_])] (Jl 24 (I (JO x1)) (Yf x1 G) (Jb [0] [(6,I (JO x1))] (Je (Jc (Jg [0,0] [(26,Bo (!decide (JO x1=0)))] (Jm (!decide (JO x1=0)) (fun h4=>?_) (fun h4=>?_)))))))))))))))
 refine Jg [0,0,0,0] [(2,I (JO x1)),(3,I (i:Int))] (Jo (Ju (Jj (Q0 (Ju (Jj (Jp [0,0] [I (JO x1),I (i:Int)] (Jy (Jh _) ?_))))))))
 have hf_:(Kf l)=((JO x1),(i:Int)):=by
  unfold Kf;(rw [if_neg (by omega),if_neg (by omega)];(have e_:=JnA hx1 ‹_›;rw [← hn] at e_;rw [if_pos (by rw [e_];assumption),e_];done))
 · (try rw [hf_]);(simp only [QD];done)
 exact Jq (JN (Jc (Jd (Jb [0,0] [(18,I (Ha.wrap ((i:Int)+1)))] (Kp 18 ((i:Int)+1) J5 (Je (QA [] (Qf (i+1) ⟨J5,(by rw [hn];exact JjB hx1 ‹_›)⟩ (by (try dsimp only);omega)))))))))
 refine KW (J1 (J8 (JT (Jc (Jf (Jf (Jd (Jb [0] [(30,Sl a_l l.length c_l)] (Jl 31 (I (Wy l)) (Jce G a_l c_l l h_l) (Jb [0] [(7,I (Wy l))] (Je (Jc (Jg [0,0] [(33,Bo (decide (Wy l ≥ 0)))] (Jm (decide (Wy l ≥ 0)) (fun h5=>?_) (fun h5=>?_)))))))))))))))
 refine Jg [0,0,0] [(2,I 8),(3,I (Wy l))] (Jo (Jj (Jp [0,0] [I 8,I (Wy l)] (Jy (Jh _) ?_))))
 have hf_:(Kf l)=(8,(Wy l)):=by
  unfold Kf;(rw [if_neg (by omega),if_neg (by omega)];(have e_:Vq l 0=(0,0):=(by rw [hn,HB (by omega)];rfl);rw [if_neg (by rw [e_];simp)];(rw [if_pos (by omega)];done)))
 · (try rw [hf_]);(simp only [QD];done)
 refine Jq (Jc (Jg [0,0] [(2,I 0),(3,I 0)] (Jo (Jp [0,0] [I 0,I 0] (Jy (Jh _) ?_)))))
 have hf_:(Kf l)=(0,0):=by
  unfold Kf;(rw [if_neg (by omega),if_neg (by omega)];(have e_:Vq l 0=(0,0):=(by rw [hn,HB (by omega)];rfl);rw [if_neg (by rw [e_];simp)];(rw [if_neg (by omega)];done)))
 · (try rw [hf_]);(simp only [QD];done)
theorem JbJ (G:J4) (a_l:Ba) (c_l:Nat) (l:List (List JV)) (h_l:RS Jfw G a_l c_l l) :Q7 175 #[Sl a_l l.length c_l] G (I (K7 l)):=by
 refine JS Tryz.func175 22 [(0,Sl a_l l.length c_l)] rfl (fun w0 G0=>?_)
 refine Jg [0] [] (Jf (Jg [0,0,0] [(7,Sl a_l l.length c_l),(8,I (l.length:Int)),(9,I 0)] (Jx ?_)))
 have hlm_h_l:l.length≤9223372036854775807:=Ho (h_l).le (h_l).max
 refine Qb (σ:=Nat) (fun q_=>(q_≤l.length)∧(K7 l=K7 (l.drop q_))) (fun q_=>[(7,Sl a_l l.length c_l),(8,I (l.length:Int)),(9,I (q_:Int))]) (fun q_=>G) (fun q_=>[]) (fun q_=>l.length-q_) 0 ⟨(by (try dsimp only);exact Hz _),rfl⟩ (fun q_ hs=>?_)
 revert hs;revert q_;intro i hs
 obtain ⟨hi,hn⟩:=hs
 dsimp only
 refine Jg [0] [(10,Bo (decide ((i:Int)<(l.length:Int))))] (Jf (Jm (decide ((i:Int)<(l.length:Int))) (fun h1=>?_) (fun h1=>?_)))
 refine Jq (Jc (Jf (Jx (Jf (Jd ?_)))))
 obtain ⟨b1,o1,rfl⟩:=RS.addr h_l (k:=i) (by omega)
 obtain ⟨x1,hx1⟩:=QW (l:=l) (k:=i) (by omega)
 obtain ⟨_,⟨a1,c1,rfl,hs1⟩,hc1⟩:=RS.get h_l hx1
 refine JY (b:=b1) (off:=o1) (len:=l.length) (cap:=c_l) (ik:=.i64) 11 40 1 i J5 (JR 12 40 (cs:=[Sl a1 x1.length c1]) 0 (Sl a1 x1.length c1) hc1 (Jb [0] [(4,Sl a1 x1.length c1)] (Je (Jc (Jf (Jd (Jb [0] [(14,Sl a1 x1.length c1)] (Jl 15 (.tuple #[I ((Kf x1).1),I ((Kf x1).2)]) (JaP G a1 c1 x1 hs1) (Jb [0,0,0,0,0] [(5,I ((Kf x1).1))] (Je (Jc (Jg [0,0] [(19,Bo (!decide ((Kf x1).1=0)))] (Jm (!decide ((Kf x1).1=0)) (fun h2=>?_) (fun h2=>?_))))))))))))))
 refine Jg [0,0] [(2,I ((Kf x1).1))] (Jo (Ju (Jj (Q0 (Ju (Jj (Jp [0] [I ((Kf x1).1)] (Jy (Jh _) (congrArg I (?_:(K7 l)=((Kf x1).1)).symm)))))))))
 rw [hn];exact JjC hx1 ‹_›
 exact Jq (JN (Jc (Jd (Jb [0,0] [(9,I (Ha.wrap ((i:Int)+1)))] (Kp 9 ((i:Int)+1) J5 (Je (Qf (i+1) ⟨J5,(by rw [hn];exact Jg1 hx1 ‹_›)⟩ (by (try dsimp only);omega))))))))
 refine KW (J1 (J8 (JT (Jc (Jg [0] [(2,I 0)] (Jo (Jp [0] [I 0] (Jy (Jh _) (congrArg I (?_:(K7 l)=0).symm)))))))))
 rw [hn];(rw [HB (by omega)];rfl)
theorem Jg3 (G:J4) (a_l:Ba) (c_l:Nat) (l:List JV) (h_l:RS KG G a_l c_l l) (root:Int) (hw_root:rU root) (a:Int) (hw_a:rI a) :YL 166 #[Sl a_l l.length c_l,U root,I a] G [] (fun u G' L'=>∃ (a1:Ba) (c2:Nat) (r3:Bg),u=.tuple #[Sl a1 (((QE l root a).1).length) c2,I ((QE l root a).2)]∧(J0 KG G' a1 c2 ((QE l root a).1) r3)∧L'=[r3]):=by
 refine JS Tryz.func166 41 [(0,Sl a_l l.length c_l),(1,U root),(2,I a)] rfl (fun w0 G0=>?_)
 refine Jg [0,0] [] (Jf (Jd (Jb [0] [(10,Sl a_l l.length c_l)] (Ki 11 1 #[Sl a_l l.length c_l] 40 (fun b1=>Qu (b:=b1) (o:=0) (cs:=[Sl a_l l.length c_l]) 0 (fun G1 hl1 hz1=>?_))))))
 have hs1:RS Jfw G1 (At b1 0) 1 [l]:=RS.lit [[Sl a_l l.length c_l]] [l] ⟨⟨a_l,c_l,rfl,(h_l.mono hl1)⟩,trivial⟩ hz1 (Hb rfl) (Hb rfl)
 refine Jl 12 (I (K7 ([l]))) (JbJ G1 (At b1 0) 1 ([l]) hs1) (Jb [0] [(8,I (K7 ([l])))] (Je (Jc (Jf (Jx (Jg [0,0,0] [(13,Bo (!decide (K7 ([l])=0)))] (Jm (!decide (K7 ([l])=0)) (fun h1=>?_) (fun h1=>?_))))))))
 refine Jg [0,0,0] [(6,Sl none 0 0),(7,I (K7 ([l])))] (Jo (Ju (Jj (ZN (Jk 0 ?_)))))
 have hf1:QE l root a=([],K7 ([l])):=by
  unfold QE Yh;(simp_all;done)
 refine Jp [0,0] [Sl none 0 0,I (K7 ([l]))] (JB [[]] hl1 ?_)
 rw [hf1]
 try dsimp only
 exact ⟨none,0,([]),rfl,(J0.none KG _),rfl⟩
 refine Jg [0,0,0,0] [(17,Bo (decide ((l.length:Int)=40)))] (Jm (decide ((l.length:Int)=40)) (fun h2=>?_) (fun h2=>?_))
 refine Jg [0,0] [(6,Sl none 0 0),(7,I 7)] (Jo (Ju (Jj (ZN (Jk 0 ?_)))))
 have hf2:QE l root a=([],7):=by
  unfold QE Yh;(simp_all;done)
 refine Jp [0,0] [Sl none 0 0,I 7] (JB [[]] hl1 ?_)
 rw [hf2]
 try dsimp only
 exact ⟨none,0,([]),rfl,(J0.none KG _),rfl⟩
 refine Jq (JN (Jc (Jf (Jd (Jb [0,0,0,0] [(22,Sl a_l l.length c_l),(25,I (Ha.wrap ((l.length:Int)-1)))] ?_)))))
 have e1:Ha.wrap ((l.length:Int)-1)=((l.length-1:Nat):Int):=(Hh _ (by (have q_:=QN.1 ‹_›;have q1_:=q_.len1;have q2_:=q_.len;have q3_:=q_.lastE;have q4_:=q_.fb;have q5_:=q_.lb;omega))).trans (show (l.length:Int)-1=((l.length-1:Nat):Int) by (have q_:=QN.1 ‹_›;have q1_:=q_.len1;have q2_:=q_.len;have q3_:=q_.lastE;have q4_:=q_.fb;have q5_:=q_.lb;omega))
 refine KE 25 (I ((l.length-1:Nat):Int)) (congrArg I e1) ?_
 clear e1
 obtain ⟨b2,o1,rfl⟩:=RS.addr (h_l.mono hl1) (k:=l.length-1) (by (have q_:=QN.1 ‹_›;have q1_:=q_.len1;have q2_:=q_.len;have q3_:=q_.lastE;have q4_:=q_.fb;have q5_:=q_.lb;omega))
 obtain ⟨x1,hx1⟩:=QW (l:=l) (k:=l.length-1) (by (have q_:=QN.1 ‹_›;have q1_:=q_.len1;have q2_:=q_.len;have q3_:=q_.lastE;have q4_:=q_.fb;have q5_:=q_.lb;omega))
 obtain ⟨_,⟨rfl,w1,w2,w3,w4⟩,hc1⟩:=RS.get (h_l.mono hl1) hx1
 refine JY (b:=b2) (off:=o1) (len:=l.length) (cap:=c_l) (ik:=.i64) 26 43 4 (l.length-1) (by (have q_:=QN.1 ‹_›;have q1_:=q_.len1;have q2_:=q_.len;have q3_:=q_.lastE;have q4_:=q_.fb;have q5_:=q_.lb;omega)) (JR 27 43 (cs:=[I x1.epoch,U x1.root,U x1.prev,I x1.at_]) 0 (.agg #[I x1.epoch,U x1.root,U x1.prev,I x1.at_]) hc1 (Jb [0,0] [(28,U root),(29,I a)] (Jl 30 (.tuple #[(VR (Jz x1 root a).1),I ((Jz x1 root a).2)]) (JbC G1 [I x1.epoch,U x1.root,U x1.prev,I x1.at_] x1 (⟨rfl,w1,w2,w3,w4⟩) root ‹_› a ‹_›) (Jb [0,0,0] [(31,(VR (Jz x1 root a).1)),(32,I ((Jz x1 root a).2))] (Jv 9 #[I 0,U 0,U 0,I 0] 43 (fun b3=>JX [3,0] [(8,I ((Jz x1 root a).2))] [[Sg b3 0 (JdD (Jz x1 root a).1)],[]] (Je (Jc (Jf (Jg [0,0] [(34,Bo (!decide ((Jz x1 root a).2=0)))] (Jm (!decide ((Jz x1 root a).2=0)) (fun h3=>?_) (fun h3=>?_))))))))))))
 refine Jg [0,0,0] [(6,Sl none 0 0),(7,I ((Jz x1 root a).2))] (Jo (Jj (ZN (Jk 0 ?_))))
 have hf3:QE l root a=([],(Jz x1 root a).2):=by
  unfold QE Yh;(have hl_:=WN (l:=l) (k:=l.length-1) rfl ‹_›;subst hl_;(simp_all;done))
 refine Jp [0,0] [Sl none 0 0,I ((Jz x1 root a).2)] (JB [[]] hl1 ?_)
 rw [hf3]
 try dsimp only
 exact ⟨none,0,([]),rfl,(J0.none KG _),rfl⟩
 refine Jq (Jc (Jf (Kt [1,3,4] (Wz [(0,Sl (At b2 o1) l.length c_l),(2,(VR (Jz x1 root a).1))] (JL [] [(0,0),(2,2)] [] [1,3] (Hi _) (Kb ?_ (Kb ?_ K4)))))))
 refine JA 1 [(36,Sl (At b2 o1) l.length c_l)] (fun X=>?_)
 refine JM 37 (VH G1 (At b2 o1) c_l l (h_l.mono hl1)) (fun v G2 L1 hl2 hp=>?_)
 obtain ⟨a1,c1,_,rfl,hr1,rfl⟩:=hp
 refine JC [(1,Sl a1 l.length c1)] (JL [0] [(2,4)] [] [3] (Hi _) (Kb ?_ K4))
 refine JA 3 [(38,(VR (Jz x1 root a).1))] (fun X=>?_)
 refine Ki 39 1 #[I (((Jz x1 root a).1).epoch),U (((Jz x1 root a).1).root),U (((Jz x1 root a).1).prev),I (((Jz x1 root a).1).at_)] 43 (fun b4=>JC [(3,Sl (At b4 0) 1 1)] (JL [0,2] [] [] [4] (Hi _) (Kb ?_ K4)))
 refine JA 4 [(37,Sl a1 l.length c1),(39,Sl (At b4 0) 1 1)] (fun X=>?_)
 refine Qr (b:=b4) (cs:=(JdD (Jz x1 root a).1)) 40 43 1 0 (E:=KG) ((Jz x1 root a).1) hr1 ⟨rfl,(by have q_:=Yu (x:=x1) (r:=root) (t:=a) J5 ‹_›;omega),(by have q_:=Yu (x:=x1) (r:=root) (t:=a) J5 ‹_›;omega),(by have q_:=Yu (x:=x1) (r:=root) (t:=a) J5 ‹_›;omega),(by have q_:=Yu (x:=x1) (r:=root) (t:=a) J5 ‹_›;omega)⟩ (by have q_:=QN.1 ‹_›;have q1_:=q_.len1;have q2_:=q_.len;have q3_:=q_.lastE;have q4_:=q_.fb;have q5_:=q_.lb;(try simp only [KG,Hc,Hd,Hf]);omega) (by have q_:=QN.1 ‹_›;have q1_:=q_.len1;have q2_:=q_.len;have q3_:=q_.lastE;have q4_:=q_.fb;have q5_:=q_.lb;(try simp only [KG,Hc,Hd,Hf]);omega) (fun a2 c2 r2 hr2=>JC [(4,Sl a2 ((l++[((Jz x1 root a).1)]).length) c2),(5,Sl a2 ((l++[((Jz x1 root a).1)]).length) c2),(6,I 0)] (Kq [0,2] [(5,0),(6,0)] [] [(6,Sl a2 ((l++[((Jz x1 root a).1)]).length) c2),(7,I 0)] (Hi _) (Jc (Jo (Jk 1 ?_)))))
 have hf4:QE l root a=(l++[((Jz x1 root a).1)],0):=by
  unfold QE Yh;(have hl_:=WN (l:=l) (k:=l.length-1) rfl ‹_›;subst hl_;(simp_all;done))
 refine Jp [0,0] [Sl a2 ((l++[((Jz x1 root a).1)]).length) c2,I 0] (JB [r2] (Ja hl1 hl2) ?_)
 rw [hf4]
 try dsimp only
 exact ⟨a2,c2,r2,rfl,hr2,rfl⟩
 refine JA 3 [(38,(VR (Jz x1 root a).1))] (fun X=>?_)
 refine Ki 39 1 #[I (((Jz x1 root a).1).epoch),U (((Jz x1 root a).1).root),U (((Jz x1 root a).1).prev),I (((Jz x1 root a).1).at_)] 43 (fun b5=>JC [(3,Sl (At b5 0) 1 1)] (JL [2] [(0,0)] [] [1] (Hi _) (Kb ?_ K4)))
 refine JA 1 [(36,Sl (At b2 o1) l.length c_l)] (fun X=>?_)
 refine JM 37 (VH G1 (At b2 o1) c_l l (h_l.mono hl1)) (fun v G3 L1 hl3 hp=>?_)
 obtain ⟨a3,c3,r3,rfl,hr3,rfl⟩:=hp
 refine JC [(1,Sl a3 l.length c3)] (JL [0,2] [] [] [4] (Hi _) (Kb ?_ K4))
 refine JA 4 [(37,Sl a3 l.length c3),(39,Sl (At b5 0) 1 1)] (fun X=>?_)
 refine Qr (b:=b5) (cs:=(JdD (Jz x1 root a).1)) 40 43 0 1 (E:=KG) ((Jz x1 root a).1) hr3 ⟨rfl,(by have q_:=Yu (x:=x1) (r:=root) (t:=a) J5 ‹_›;omega),(by have q_:=Yu (x:=x1) (r:=root) (t:=a) J5 ‹_›;omega),(by have q_:=Yu (x:=x1) (r:=root) (t:=a) J5 ‹_›;omega),(by have q_:=Yu (x:=x1) (r:=root) (t:=a) J5 ‹_›;omega)⟩ (by have q_:=QN.1 ‹_›;have q1_:=q_.len1;have q2_:=q_.len;have q3_:=q_.lastE;have q4_:=q_.fb;have q5_:=q_.lb;(try simp only [KG,Hc,Hd,Hf]);omega) (by have q_:=QN.1 ‹_›;have q1_:=q_.len1;have q2_:=q_.len;have q3_:=q_.lastE;have q4_:=q_.fb;have q5_:=q_.lb;(try simp only [KG,Hc,Hd,Hf]);omega) (fun a4 c4 r4 hr4=>JC [(4,Sl a4 ((l++[((Jz x1 root a).1)]).length) c4),(5,Sl a4 ((l++[((Jz x1 root a).1)]).length) c4),(6,I 0)] (Kq [0,2] [(5,0),(6,0)] [] [(6,Sl a4 ((l++[((Jz x1 root a).1)]).length) c4),(7,I 0)] (Hi _) (Jc (Jo (Jk 0 ?_)))))
 have hf5:QE l root a=(l++[((Jz x1 root a).1)],0):=by
  unfold QE Yh;(have hl_:=WN (l:=l) (k:=l.length-1) rfl ‹_›;subst hl_;(simp_all;done))
 refine Jp [0,0] [Sl a4 ((l++[((Jz x1 root a).1)]).length) c4,I 0] (JB [r4] (Ja hl1 hl3) ?_)
 rw [hf5]
 try dsimp only
 exact ⟨a4,c4,r4,rfl,hr4,rfl⟩
theorem Jg4 (G:J4) (a_l:Ba) (c_l:Nat) (l:List JV) (h_l:RS KG G a_l c_l l) (a:Int) (hw_a:rI a) (b:Int) (hw_b:rI b) :YL 214 #[Sl a_l l.length c_l,I a,I b] G [] (fun u G' L'=>∃ (a1:Ba) (c2:Nat),u=.tuple #[Sl a1 (((Zj l a b).1).length) c2,I ((Zj l a b).2)]∧(RS KG G' a1 c2 ((Zj l a b).1))∧L'=[]):=by
 refine JS Tryz.func214 51 [(0,Sl a_l l.length c_l),(1,I a),(2,I b)] rfl (fun w0 G0=>?_)
 refine Jg [0,0] [] (Jf (Jf (Jd (Jb [0] [(11,Sl a_l l.length c_l)] (Ki 12 1 #[Sl a_l l.length c_l] 40 (fun b1=>Qu (b:=b1) (o:=0) (cs:=[Sl a_l l.length c_l]) 0 (fun G1 hl1 hz1=>?_)))))))
 have hs1:RS Jfw G1 (At b1 0) 1 [l]:=RS.lit [[Sl a_l l.length c_l]] [l] ⟨⟨a_l,c_l,rfl,(h_l.mono hl1)⟩,trivial⟩ hz1 (Hb rfl) (Hb rfl)
 refine Jl 13 (I (K7 ([l]))) (JbJ G1 (At b1 0) 1 ([l]) hs1) (Jb [0] [(8,I (K7 ([l])))] (Je (Jc (Jg [0,0] [(15,Bo (!decide (K7 ([l])=0)))] (Jm (!decide (K7 ([l])=0)) (fun h1=>?_) (fun h1=>?_))))))
 refine Jg [0,0,0] [(6,Sl none 0 0),(7,I (K7 ([l])))] (Jo (Jj ?_))
 have hf1:Zj l a b=([],K7 ([l])):=by
  unfold Zj;(simp_all;done)
 refine Jp [0,0] [Sl none 0 0,I (K7 ([l]))] (JB [] hl1 ?_)
 rw [hf1]
 try dsimp only
 exact ⟨none,0,rfl,(JP KG G1),rfl⟩
 refine Jq (Jc (Jf ?_))
 obtain ⟨b2,o1,rfl⟩:=RS.addr (h_l.mono hl1) (k:=0) (by (have q_:=QN.1 ‹_›;have q1_:=q_.len1;have q2_:=q_.len;have q3_:=q_.lastE;have q4_:=q_.fb;have q5_:=q_.lb;omega))
 obtain ⟨x1,hx1⟩:=QW (l:=l) (k:=0) (by (have q_:=QN.1 ‹_›;have q1_:=q_.len1;have q2_:=q_.len;have q3_:=q_.lastE;have q4_:=q_.fb;have q5_:=q_.lb;omega))
 obtain ⟨_,⟨rfl,_,_,_,_⟩,hc1⟩:=RS.get (h_l.mono hl1) hx1
 have e1:Ha.wrap ((l.length:Int)-1)=((l.length-1:Nat):Int):=(Hh _ (by (have q_:=QN.1 ‹_›;have q1_:=q_.len1;have q2_:=q_.len;have q3_:=q_.lastE;have q4_:=q_.fb;have q5_:=q_.lb;omega))).trans (show (l.length:Int)-1=((l.length-1:Nat):Int) by (have q_:=QN.1 ‹_›;have q1_:=q_.len1;have q2_:=q_.len;have q3_:=q_.lastE;have q4_:=q_.fb;have q5_:=q_.lb;omega))
 obtain ⟨x2,hx2⟩:=QW (l:=l) (k:=l.length-1) (by (have q_:=QN.1 ‹_›;have q1_:=q_.len1;have q2_:=q_.len;have q3_:=q_.lastE;have q4_:=q_.fb;have q5_:=q_.lb;omega))
 obtain ⟨_,⟨rfl,_,_,_,_⟩,hc2⟩:=RS.get (h_l.mono hl1) hx2
 refine Kt [] (Wz [(0,Sl (At b2 o1) l.length c_l),(1,Pt b2 (o1+0*4)),(2,Pt b2 (o1+0*4)),(3,I x1.epoch),(4,Sl (At b2 o1) l.length c_l),(5,Sl (At b2 o1) l.length c_l),(6,I (l.length:Int)),(7,I ((l.length-1:Nat):Int)),(8,Pt b2 (o1+(l.length-1)*4)),(9,Pt b2 (o1+(l.length-1)*4)),(10,I x2.epoch),(11,I x1.epoch),(12,I x2.epoch)] (Kq [] [(0,0),(2,0),(4,0),(5,0),(6,0),(9,0),(11,0),(12,0)] [1,3,7,8,10] [(0,Sl (At b2 o1) l.length c_l),(1,I a),(2,I b),(9,I x1.epoch),(10,I x2.epoch)] (Kb ?_ (Kb ?_ (Kb ?_ (Kb ?_ (Kb ?_ K4))))) ?_))
 refine Jr 1 18 (Pt b2 (o1+0*4)) [(17,Sl (At b2 o1) l.length c_l)] (fun X=>?_)
 exact JY (b:=b2) (off:=o1) (len:=l.length) (cap:=c_l) (ik:=.i64) 18 43 4 0 (by (have hl_:=WN (l:=l) (k:=l.length-1) rfl hx2;have hf_:=W7 hx1;subst hl_;subst hf_;have q_:=QN.1 ‹_›;have q1_:=q_.len1;have q2_:=q_.len;have q3_:=q_.lastE;have q4_:=q_.fb;have q5_:=q_.lb;omega)) Jn
 refine Jr 3 20 (I x1.epoch) [(19,Pt b2 (o1+0*4))] (fun X=>?_)
 exact JR 20 2 (cs:=[I x1.epoch,U x1.root,U x1.prev,I x1.at_]) 0 (I x1.epoch) hc1 Jn
 refine Jr 7 24 (I ((l.length-1:Nat):Int)) [(23,I (l.length:Int))] (fun X=>?_)
 exact Qc 24 (I (Ha.wrap ((l.length:Int)-1))) (I ((l.length-1:Nat):Int)) (by simp only [e1]) Jn
 refine Jr 8 25 (Pt b2 (o1+(l.length-1)*4)) [(21,Sl (At b2 o1) l.length c_l),(24,I ((l.length-1:Nat):Int))] (fun X=>?_)
 exact JY (b:=b2) (off:=o1) (len:=l.length) (cap:=c_l) (ik:=.i64) 25 43 4 (l.length-1) (by (have hl_:=WN (l:=l) (k:=l.length-1) rfl hx2;have hf_:=W7 hx1;subst hl_;subst hf_;have q_:=QN.1 ‹_›;have q1_:=q_.len1;have q2_:=q_.len;have q3_:=q_.lastE;have q4_:=q_.fb;have q5_:=q_.lb;omega)) Jn
 refine Jr 10 27 (I x2.epoch) [(26,Pt b2 (o1+(l.length-1)*4))] (fun X=>?_)
 exact JR 27 2 (cs:=[I x2.epoch,U x2.root,U x2.prev,I x2.at_]) 0 (I x2.epoch) hc2 Jn
 refine Jc (Jf (Jf (Jd (Jb [0,0,0,0] [(31,Bo (decide (a > b)))] (Kk (decide (a > b)) [31] [1,1,1,0] [0,0,0,0] (fun bb=>[(35,Bo (bb || (decide (a<x1.epoch))))]) (Jb [0] [(36,Bo ((decide (a > b)) || (decide (a<x1.epoch))))] (Kk ((decide (a > b)) || (decide (a<x1.epoch))) [36] [1,1,1,0] [0,0,0,0] (fun bb=>[(40,Bo (bb || (decide (b > x2.epoch))))]) (Je (Jc (Jm (((decide (a > b)) || (decide (a<x1.epoch))) || (decide (b > x2.epoch))) (fun h2=>?_) (fun h2=>?_)))))))))))
 refine Jg [0,0] [(6,Sl none 0 0),(7,I 4)] (Jo (Jj ?_))
 have hf2:Zj l a b=([],4):=by
  unfold Zj;(have hl_:=WN (l:=l) (k:=l.length-1) rfl hx2;have hf_:=W7 hx1;subst hl_;subst hf_;rw [if_neg (by omega)];(rw [if_pos (by omega)];done))
 refine Jp [0,0] [Sl none 0 0,I 4] (JB [] hl1 ?_)
 rw [hf2]
 try dsimp only
 exact ⟨none,0,rfl,(JP KG G1),rfl⟩
 refine Jq (Jc (Jf (Jd (Jb [0,0,0,0,0,0,0,0] [(41,Sl (At b2 o1) l.length c_l),(44,I (Ha.wrap (a-x1.epoch))),(48,I (Ha.wrap ((Ha.wrap (b-x1.epoch))+1)))] ?_))))
 have e2:Ha.wrap (a-x1.epoch)=a-x1.epoch:=Hh _ (by (have hl_:=WN (l:=l) (k:=l.length-1) rfl hx2;have hf_:=W7 hx1;subst hl_;subst hf_;have q_:=QN.1 ‹_›;have q1_:=q_.len1;have q2_:=q_.len;have q3_:=q_.lastE;have q4_:=q_.fb;have q5_:=q_.lb;omega))
 have e3:Ha.wrap (b-x1.epoch)=b-x1.epoch:=Hh _ (by (have hl_:=WN (l:=l) (k:=l.length-1) rfl hx2;have hf_:=W7 hx1;subst hl_;subst hf_;have q_:=QN.1 ‹_›;have q1_:=q_.len1;have q2_:=q_.len;have q3_:=q_.lastE;have q4_:=q_.fb;have q5_:=q_.lb;omega))
 have e4:Ha.wrap ((b-x1.epoch)+1)=(b-x1.epoch)+1:=Hh _ (by (have hl_:=WN (l:=l) (k:=l.length-1) rfl hx2;have hf_:=W7 hx1;subst hl_;subst hf_;have q_:=QN.1 ‹_›;have q1_:=q_.len1;have q2_:=q_.len;have q3_:=q_.lastE;have q4_:=q_.fb;have q5_:=q_.lb;omega))
 refine KE 44 (I (a-x1.epoch)) (congrArg I e2) (KE 48 (I ((b-x1.epoch)+1)) (show (I (Ha.wrap ((Ha.wrap (b-x1.epoch))+1)):Value)=I ((b-x1.epoch)+1) by simp only [e2,e3,e4]) ?_)
 clear e4 e3 e2
 obtain ⟨kn1,hkn1⟩:∃ k_:Nat,a-x1.epoch=(k_:Int):=⟨(a-x1.epoch).toNat,by omega⟩
 have e5:a-x1.epoch=(kn1:Int):=hkn1
 refine KE 44 (I (kn1:Int)) (congrArg I e5) ?_
 obtain ⟨kn2,hkn2⟩:∃ k_:Nat,(b-x1.epoch)+1=(k_:Int):=⟨((b-x1.epoch)+1).toNat,by omega⟩
 have e6:(b-x1.epoch)+1=(kn2:Int):=hkn2
 refine KE 48 (I (kn2:Int)) (congrArg I e6) ?_
 obtain ⟨a1,c1,ea1,ec1,en1,eh1,hs2⟩:=RS.reslX (h_l.mono hl1) kn1 kn2 J5 (by (have hl_:=WN (l:=l) (k:=l.length-1) rfl hx2;have hf_:=W7 hx1;subst hl_;subst hf_;have q_:=QN.1 ‹_›;have q1_:=q_.len1;have q2_:=q_.len;have q3_:=q_.lastE;have q4_:=q_.fb;have q5_:=q_.lb;omega))
 refine WQ (a:=At b2 o1) (len:=l.length) (cap:=c_l) 49 4 (some (I (kn1:Int))) (some (I (kn2:Int))) kn1 kn2 (.inr ⟨_,rfl⟩) (.inr ⟨_,rfl⟩) J5 ea1 ec1 en1 eh1 (JM 50 (VH G1 a1 c1 ((l.take kn2).drop kn1) hs2) (fun v G2 L1 hl2 hp=>?_))
 obtain ⟨a2,c2,_,rfl,hr1,rfl⟩:=hp
 refine Jb [0,0] [(6,Sl a2 (((l.take kn2).drop kn1).length) c2),(7,I 0)] (Je (Jc (Jo (Wm (E:=KG) 0 hr1 (by exact (hs2).fit) (fun G3 hl3 hs3=>?_)))))
 have hf3:Zj l a b=((l.take kn2).drop kn1,0):=by
  unfold Zj;(have hl_:=WN (l:=l) (k:=l.length-1) rfl hx2;have hf_:=W7 hx1;subst hl_;subst hf_;rw [if_neg (by omega)];(rw [if_neg (by omega)];unfold cut;rw [show (a-(W6 l).epoch).toNat=kn1 by omega,show (b-(W6 l).epoch+1).toNat=kn2 by omega];done))
 refine Jp [0,0] [Sl a2 (((l.take kn2).drop kn1).length) c2,I 0] (JB [] (Ja (Ja hl1 hl2) hl3) ?_)
 rw [hf3]
 try dsimp only
 exact ⟨a2,c2,rfl,hs3,rfl⟩
theorem Jew (G:J4) (vs_h:Bv) (h:JV) (h_h:KG.R G vs_h h) (a_l:Ba) (c_l:Nat) (l:List JV) (h_l:RS KG G a_l c_l l) :Q7 121 #[.agg vs_h.toArray,Sl a_l l.length c_l] G (.tuple #[Bo ((Q5 h l).1),I ((Q5 h l).2)]):=by
 obtain ⟨rfl,w1,w2,w3,w4⟩:=h_h
 refine JS Tryz.func121 24 [(0,.agg #[I h.epoch,U h.root,U h.prev,I h.at_]),(1,Sl a_l l.length c_l)] rfl (fun w0 G0=>?_)
 refine Jf (Jd (Jv 2 #[I h.epoch,U h.root,U h.prev,I h.at_] 43 (fun b1=>Jb [0,0] [] (Je (Jc (Jf (Jd (Jb [0] [(7,Sl a_l l.length c_l)] (Ki 8 1 #[Sl a_l l.length c_l] 40 (fun b2=>Qu (b:=b2) (o:=0) (cs:=[Sl a_l l.length c_l]) 0 (fun G1 hl1 hz1=>?_)))))))))))
 have hs1:RS Jfw G1 (At b2 0) 1 [l]:=RS.lit [[Sl a_l l.length c_l]] [l] ⟨⟨a_l,c_l,rfl,(h_l.mono hl1)⟩,trivial⟩ hz1 (Hb rfl) (Hb rfl)
 refine Jl 9 (I (K7 ([l]))) (JbJ G1 (At b2 0) 1 ([l]) hs1) (Jb [0] [(6,I (K7 ([l])))] (Je (Jc (Jf (Jg [0,0] [(11,Bo (decide (K7 ([l])=0)))] (Jm (decide (K7 ([l])=0)) (fun h1=>?_) (fun h1=>?_)))))))
 refine Jd (Jb [4] [(12,.agg #[I h.epoch,U h.root,U h.prev,I h.at_])] (Jl 13 (I (JO h)) (Yf h G1) (Jb [0] [(6,I (JO h))] (Je (Jc (Jf (Jg [0,0] [(15,Bo (!decide (JO h=0)))] (Jm (!decide (JO h=0)) (fun h2=>?_) (fun h2=>?_)))))))))
 refine Jg [0,0,0] [(4,Bo false),(5,I (JO h))] (Jo (Jj (Jp [0,0] [Bo false,I (JO h)] (Jy hl1 ?_))))
 have hf_:(Q5 h l)=(false,(JO h)):=by
  unfold Q5;(simp_all;done)
 · (try rw [hf_]);(simp only [QD];done)
 refine Jq (Jc (Jf ?_))
 obtain ⟨b3,o1,rfl⟩:=RS.addr (h_l.mono hl1) (k:=0) (by (have q_:=QN.1 ‹_›;have q1_:=q_.len1;have q2_:=q_.len;have q3_:=q_.lastE;have q4_:=q_.fb;have q5_:=q_.lb;omega))
 obtain ⟨x1,hx1⟩:=QW (l:=l) (k:=0) (by (have q_:=QN.1 ‹_›;have q1_:=q_.len1;have q2_:=q_.len;have q3_:=q_.lastE;have q4_:=q_.fb;have q5_:=q_.lb;omega))
 obtain ⟨_,⟨rfl,w5,w6,w7,w8⟩,hc1⟩:=RS.get (h_l.mono hl1) hx1
 refine Kt [4,5] (Wz [(0,.agg #[I h.epoch,U h.root,U h.prev,I h.at_]),(1,Sl (At b3 o1) l.length c_l),(2,Pt b3 (o1+0*4)),(3,.agg #[I x1.epoch,U x1.root,U x1.prev,I x1.at_])] (JL [] [(0,4),(1,0)] [2,3] [4] (Kb ?_ (Kb ?_ K4)) (Kb ?_ K4)))
 refine Jr 2 19 (Pt b3 (o1+0*4)) [(18,Sl (At b3 o1) l.length c_l)] (fun X=>?_)
 exact JY (b:=b3) (off:=o1) (len:=l.length) (cap:=c_l) (ik:=.i64) 19 43 4 0 (by (have q_:=QN.1 ‹_›;have q1_:=q_.len1;have q2_:=q_.len;have q3_:=q_.lastE;have q4_:=q_.fb;have q5_:=q_.lb;omega)) Jn
 refine Jr 3 20 (.agg #[I x1.epoch,U x1.root,U x1.prev,I x1.at_]) [(19,Pt b3 (o1+0*4))] (fun X=>?_)
 exact JR 20 43 (cs:=[I x1.epoch,U x1.root,U x1.prev,I x1.at_]) 0 (.agg #[I x1.epoch,U x1.root,U x1.prev,I x1.at_]) hc1 Jn
 refine JA 4 [(17,.agg #[I h.epoch,U h.root,U h.prev,I h.at_]),(20,.agg #[I x1.epoch,U x1.root,U x1.prev,I x1.at_])] (fun X=>?_)
 refine Ki 21 2 #[I h.epoch,U h.root,U h.prev,I h.at_,I x1.epoch,U x1.root,U x1.prev,I x1.at_] 43 (fun b4=>JC [(4,Sl (At b4 0) 2 2)] (JL [0,1,2,3] [] [] [5] (Hi _) (Kb ?_ K4)))
 refine JA 5 [(21,Sl (At b4 0) 2 2)] (fun X=>?_)
 refine Qu (b:=b4) (o:=0) (cs:=[I h.epoch,U h.root,U h.prev,I h.at_,I x1.epoch,U x1.root,U x1.prev,I x1.at_]) 0 (fun G2 hl2 hz2=>?_)
 have hs2:RS KG G2 (At b4 0) 2 [h,x1]:=RS.lit [[I h.epoch,U h.root,U h.prev,I h.at_],[I x1.epoch,U x1.root,U x1.prev,I x1.at_]] [h,x1] ⟨⟨rfl,w1,w2,w3,w4⟩,⟨⟨rfl,w5,w6,w7,w8⟩,trivial⟩⟩ hz2 (Hb rfl) (Hb rfl)
 refine Jl 22 (I (Wy ([h,x1]))) (Jce G2 (At b4 0) 2 ([h,x1]) hs2) (JC [(5,I (Wy ([h,x1]))),(6,Bo (decide (Wy ([h,x1])<0))),(7,Bo (decide (Wy ([h,x1])<0))),(8,I 0)] (Kq [0,1,2,3] [(6,0),(7,0),(8,0)] [] [(4,Bo (decide (Wy ([h,x1])<0))),(5,I 0)] (Hi _) (Jc (Jo (Jp [0,0] [Bo (decide (Wy ([h,x1])<0)),I 0] (Jy (Ja hl1 hl2) ?_))))))
 have hf_:(Q5 h l)=((decide (Wy ([h,x1])<0)),0):=by
  unfold Q5;(have hf_:=W7 hx1;subst hf_;simp_all;done)
 · (try rw [hf_]);(simp only [QD];done)
 refine Jq (Jc (Jf (Jg [0,0] [(15,Bo (!decide (K7 ([l])=0)))] (Jm (!decide (K7 ([l])=0)) (fun h3=>?_) (fun h3=>?_)))))
 refine Jg [0,0,0] [(4,Bo false),(5,I (K7 ([l])))] (Jo (Jj (Jp [0,0] [Bo false,I (K7 ([l]))] (Jy hl1 ?_))))
 have hf_:(Q5 h l)=(false,(K7 ([l]))):=by
  unfold Q5;(simp_all;done)
 · (try rw [hf_]);(simp only [QD];done)
 refine Jq (Jc (Jf ?_))
 obtain ⟨b5,o2,rfl⟩:=RS.addr (h_l.mono hl1) (k:=0) (by omega)
 obtain ⟨x2,hx2⟩:=QW (l:=l) (k:=0) (by omega)
 obtain ⟨_,⟨rfl,w9,w10,w11,w12⟩,hc2⟩:=RS.get (h_l.mono hl1) hx2
 refine Kt [4,5] (Wz [(0,.agg #[I h.epoch,U h.root,U h.prev,I h.at_]),(1,Sl (At b5 o2) l.length c_l),(2,Pt b5 (o2+0*4)),(3,.agg #[I x2.epoch,U x2.root,U x2.prev,I x2.at_])] (JL [] [(0,4),(1,0)] [2,3] [4] (Kb ?_ (Kb ?_ K4)) (Kb ?_ K4)))
 refine Jr 2 19 (Pt b5 (o2+0*4)) [(18,Sl (At b5 o2) l.length c_l)] (fun X=>?_)
 exact JY (b:=b5) (off:=o2) (len:=l.length) (cap:=c_l) (ik:=.i64) 19 43 4 0 J5 Jn
 refine Jr 3 20 (.agg #[I x2.epoch,U x2.root,U x2.prev,I x2.at_]) [(19,Pt b5 (o2+0*4))] (fun X=>?_)
 exact JR 20 43 (cs:=[I x2.epoch,U x2.root,U x2.prev,I x2.at_]) 0 (.agg #[I x2.epoch,U x2.root,U x2.prev,I x2.at_]) hc2 Jn
 refine JA 4 [(17,.agg #[I h.epoch,U h.root,U h.prev,I h.at_]),(20,.agg #[I x2.epoch,U x2.root,U x2.prev,I x2.at_])] (fun X=>?_)
 refine Ki 21 2 #[I h.epoch,U h.root,U h.prev,I h.at_,I x2.epoch,U x2.root,U x2.prev,I x2.at_] 43 (fun b6=>JC [(4,Sl (At b6 0) 2 2)] (JL [0,1,2,3] [] [] [5] (Hi _) (Kb ?_ K4)))
 refine JA 5 [(21,Sl (At b6 0) 2 2)] (fun X=>?_)
 refine Qu (b:=b6) (o:=0) (cs:=[I h.epoch,U h.root,U h.prev,I h.at_,I x2.epoch,U x2.root,U x2.prev,I x2.at_]) 0 (fun G3 hl3 hz3=>?_)
 have hs3:RS KG G3 (At b6 0) 2 [h,x2]:=RS.lit [[I h.epoch,U h.root,U h.prev,I h.at_],[I x2.epoch,U x2.root,U x2.prev,I x2.at_]] [h,x2] ⟨⟨rfl,w1,w2,w3,w4⟩,⟨⟨rfl,w9,w10,w11,w12⟩,trivial⟩⟩ hz3 (Hb rfl) (Hb rfl)
 refine Jl 22 (I (Wy ([h,x2]))) (Jce G3 (At b6 0) 2 ([h,x2]) hs3) (JC [(5,I (Wy ([h,x2]))),(6,Bo (decide (Wy ([h,x2])<0))),(7,Bo (decide (Wy ([h,x2])<0))),(8,I 0)] (Kq [0,1,2,3] [(6,0),(7,0),(8,0)] [] [(4,Bo (decide (Wy ([h,x2])<0))),(5,I 0)] (Hi _) (Jc (Jo (Jp [0,0] [Bo (decide (Wy ([h,x2])<0)),I 0] (Jy (Ja hl1 hl3) ?_))))))
 have hf_:(Q5 h l)=((decide (Wy ([h,x2])<0)),0):=by
  unfold Q5;(simp_all;done)
 · (try rw [hf_]);(simp only [QD];done)
def VZ:Qh:=⟨[],0,ZF,[],0⟩
def WO (s:Bb):Bool:=decide (s.length > 20)
def Kd (o:Qh):Int:=if KC o.name=false then 3 else if JO o.head ≠ 0 then JO o.head else if 30<(o.wanted.length:Int)∨(o.wanted.any fun x0=>WO x0)=true then 2 else if o.had<0∨(o.wanted.length:Int)<o.had then 4 else 0
def Kh (name:Bb) (key:Int) (h:JV):Qh×Int:=if Kd ⟨name,key,h,[],0⟩ ≠ 0 then (VZ,Kd ⟨name,key,h,[],0⟩) else (⟨name,key,h,[],0⟩,0)
def ZQ (o:Qh) (v:Bb):Int:=if Kd o ≠ 0 then Kd o else if WO v=true then 2 else if (o.wanted.length:Int)=30 then 7 else 0
def JJ (o:Qh) (v:Bb):Qh×Zn×Int:=if ZQ o v ≠ 0 then (VZ,Jjm,ZQ o v) else (⟨o.name,o.key,o.head,o.wanted++[v],o.had⟩,(YQ o.key o.name v o.wanted.length).1,0)
theorem K8 {o:Qh}:Kd o=0 ↔ KC o.name=true∧JO o.head=0∧o.wanted.length≤30∧(∀ s∈o.wanted,s.length≤20)∧0≤o.had∧o.had≤o.wanted.length:=by
 unfold Kd
 have e:(o.wanted.any fun x0=>WO x0)=true ↔ ¬ ∀ s∈o.wanted,s.length≤20:=by
  rw [HD]
  unfold WO
  constructor
  ·
   rintro ⟨x,hx,h⟩ hc
   have:=hc x hx
   simp at h;omega
  ·
   intro h
   apply Classical.byContradiction
   intro hc
   refine h fun s hs=>?_
   apply Classical.byContradiction
   intro h2
   exact hc ⟨s,hs,by simp;omega⟩
 cases hn:KC o.name with
 | false=>simp
 | true =>
  rw [if_neg (by simp)]
  by_cases h1:JO o.head=0
  ·
   rw [if_neg (by omega)]
   by_cases h2:30<(o.wanted.length:Int)∨(o.wanted.any fun x0=>WO x0)=true
   ·
    rw [if_pos h2]
    constructor
    · intro h;cases h
    ·
     rintro ⟨_,_,h3,h4,_⟩
     rcases h2 with h2 | h2
     · omega
     · exact absurd h4 (e.1 h2)
   ·
    rw [if_neg h2]
    have h3:o.wanted.length≤30:=Nat.le_of_not_lt fun h=>h2 (.inl (by omega))
    have h4:∀ s∈o.wanted,s.length≤20:=Hj.1 fun h=>h2 (.inr (e.2 h))
    split
    ·
     constructor
     · intro h;cases h
     · rintro ⟨_,_,_,_,_,_⟩;omega
    · exact ⟨fun _=>⟨rfl,h1,h3,h4,by omega,by omega⟩,fun _=>rfl⟩
  ·
   rw [if_pos h1]
   exact ⟨fun h=>absurd h h1,fun h=>absurd h.2.1 h1⟩
theorem JdR {o:Qh} {v:Bb} (h:(JJ o v).2.2=0):Kd o=0∧v.length≤20∧o.wanted.length<30∧JJ o v=(⟨o.name,o.key,o.head,o.wanted++[v],o.had⟩,⟨o.name,v,o.wanted.length,VJ o.key (Zq o.name v o.wanted.length)⟩,0)∧Kd (JJ o v).1=0∧Yq o.key (JJ o v).2.1=true∧(JJ o v).1.key=o.key∧(JJ o v).2.1.n=o.wanted.length∧(JJ o v).1.wanted.length=o.wanted.length+1:=by
 have key:Kd o=0∧WO v=false∧¬ (o.wanted.length:Int)=30:=by
  unfold JJ at h
  split at h
  · contradiction
  ·
   rename_i h1
   unfold ZQ at h1
   by_cases e1:Kd o=0
   ·
    rw [if_neg (by omega)] at h1
    by_cases e2:WO v=true
    · rw [if_pos e2] at h1;omega
    ·
     rw [if_neg e2] at h1
     by_cases e3:(o.wanted.length:Int)=30
     · rw [if_pos e3] at h1;omega
     · exact ⟨e1,by simpa using e2,e3⟩
   · rw [if_pos e1] at h1;omega
 obtain ⟨e1,e2,e3⟩:=key
 have hi:=K8.1 e1
 have hv:v.length≤20:=by unfold WO at e2;simp at e2;omega
 have hE:ZQ o v=0:=by unfold ZQ;rw [if_neg (by omega),if_neg (by rw [e2];simp),if_neg e3]
 have hr:Wc o.name v=0:=by unfold Wc;rw [if_neg (by rw [hi.1];simp),if_neg (by omega)]
 have ht:YQ o.key o.name v o.wanted.length=(⟨o.name,v,o.wanted.length,VJ o.key (Zq o.name v o.wanted.length)⟩,0):=by unfold YQ;rw [if_neg (by omega)]
 have hw:JJ o v=(⟨o.name,o.key,o.head,o.wanted++[v],o.had⟩,⟨o.name,v,o.wanted.length,VJ o.key (Zq o.name v o.wanted.length)⟩,0):=by
  unfold JJ;rw [if_neg (by omega),ht]
 refine ⟨e1,hv,by omega,hw,?_,?_,?_,?_,?_⟩ <;> rw [hw] <;> simp only
 ·
  rw [K8]
  refine ⟨hi.1,hi.2.1,by simp;omega,fun s hs=>?_,hi.2.2.2.2.1,by simp;omega⟩
  rcases HA.1 hs with hs | hs
  · exact hi.2.2.2.1 s hs
  · rw [Hu.1 hs];exact hv
 · unfold Yq;simp [hr]
 · simp
theorem JcT (G:J4) (s:Bb) :Q7 70 #[Sr s] G (Bo (WO s)):=by
 refine JS Tryz.func70 6 [(0,Sr s)] rfl (fun w0 G0=>?_)
 refine Jg [0] [] (Jg [0,0,0,0] [(2,Bo (decide (((s).length:Int) > 20)))] (Jo (Jp [0] [Bo (decide (((s).length:Int) > 20))] (Jy (Jh _) (congrArg Bo (?_:(WO s)=(decide (((s).length:Int) > 20))).symm)))))
 unfold WO;rw [Hw];simp;omega
theorem JaQ (G:J4) (vs_o:Bv) (o:Qh) (h_o:QG.R G vs_o o) :Q7 38 #[.agg vs_o.toArray] G (I (Kd o)):=by
 obtain ⟨a1,c1,rfl,_,_,_,_,_,_,hs1,_⟩:=h_o
 refine JS Tryz.func38 36 [(0,(KF o a1 c1))] rfl (fun w0 G0=>?_)
 refine Jf (Jd (Jv 1 #[Sr o.name,U o.key,I o.head.epoch,U o.head.root,U o.head.prev,I o.head.at_,Sl a1 o.wanted.length c1,I o.had] 76 (fun b1=>Jb [0] [] (Je (Jc (Jf (Jf (Jd (Jb [0,2] [(5,Sr o.name)] (Jl 6 (Bo (KC o.name)) (Z7 G o.name) (Jb [0] [(7,Bo (!(KC o.name)))] (Je (Jc (Jm (!(KC o.name)) (fun h1=>?_) (fun h1=>?_)))))))))))))))
 refine Jg [0] [(2,I 3)] (Jo (Jj (Jp [0] [I 3] (Jy (Jh _) (congrArg I (?_:(Kd o)=3).symm)))))
 · unfold Kd;(rw [if_pos (by simp_all)];done)
 refine Jq (Jc (Jf (Jf (Jd (Jb [0,2] [(9,.agg #[I o.head.epoch,U o.head.root,U o.head.prev,I o.head.at_])] (Jl 10 (I (JO o.head)) (Yf o.head G) (Jb [0] [(3,I (JO o.head))] (Je (Jc (Jg [0,0] [(12,Bo (!decide (JO o.head=0)))] (Jm (!decide (JO o.head=0)) (fun h2=>?_) (fun h2=>?_))))))))))))
 refine Jg [0,0] [(2,I (JO o.head))] (Jo (Jj (Jp [0] [I (JO o.head)] (Jy (Jh _) (congrArg I (?_:(Kd o)=(JO o.head)).symm)))))
 · unfold Kd;(rw [if_neg (by simp_all),if_pos (by omega)];done)
 refine Jq (Jc (Jf (Jx (Jf (Jd (Jb [0,2,0,0,0] [(19,Bo (decide ((o.wanted.length:Int) > 30)))] (QS [19] (decide ((o.wanted.length:Int) > 30)) (fun h3=>?_) (fun h3=>?_))))))))
 refine Jb [1,1,1,0,0] [(14,Bo true)] (Je (Jc (JZ (Jg [0] [(2,I 2)] (Jo (Ju (Jj (Jp [0] [I 2] (Jy (Jh _) (congrArg I (?_:(Kd o)=2).symm))))))))))
 · unfold Kd;(rw [if_neg (by simp_all),if_neg (by omega)];(rw [if_pos (by simp_all)];done))
 refine Jb [0,2] [(21,Sl a1 o.wanted.length c1)] (Jl 22 (Bo (o.wanted.any (fun x0=>WO x0))) (JqA G a1 c1 o.wanted hs1 70 #[] (fun x0=>WO x0) (fun _ _=>by kernel_rfl) (fun x0 hx0=>JcT G x0)) (Jb [0,0] [(14,Bo (o.wanted.any (fun x0=>WO x0)))] (Je (Jc (Jm (o.wanted.any (fun x0=>WO x0)) (fun h4=>?_) (fun h4=>?_))))))
 refine Jg [0] [(2,I 2)] (Jo (Ju (Jj (Jp [0] [I 2] (Jy (Jh _) (congrArg I (?_:(Kd o)=2).symm))))))
 · unfold Kd;(rw [if_neg (by simp_all),if_neg (by omega)];(rw [if_pos (by simp_all)];done))
 refine Jf (Jd (Jb [0,2,0,0] [(28,Bo (decide (o.had<0)))] (Kk (decide (o.had<0)) [28] [1,1,1,1,1,1,0] [0,2,0,2,0,0,0] (fun bb=>[(35,Bo (bb || (decide (o.had > (o.wanted.length:Int)))))]) (Jb [0] [(24,Bo ((decide (o.had<0)) || (decide (o.had > (o.wanted.length:Int)))))] (Je (Jc (Jm ((decide (o.had<0)) || (decide (o.had > (o.wanted.length:Int)))) (fun h5=>?_) (fun h5=>?_))))))))
 refine Jg [0] [(2,I 4)] (Jo (Ju (Jj (Jp [0] [I 4] (Jy (Jh _) (congrArg I (?_:(Kd o)=4).symm))))))
 · unfold Kd;(rw [if_neg (by simp_all),if_neg (by omega)];(rw [if_neg (by simp_all),if_pos (by omega)];done))
 refine Jq (JN (Jc (Jg [0] [(2,I 0)] (Jo (Jp [0] [I 0] (Jy (Jh _) (congrArg I (?_:(Kd o)=0).symm)))))))
 · unfold Kd;(rw [if_neg (by simp_all),if_neg (by omega)];(rw [if_neg (by simp_all),if_neg (by omega)];done))
theorem JdS (G:J4) (name:Bb) (hw_name:(name).length≤140737488351232) (key:Int) (hw_key:rU key) (vs_h:Bv) (h:JV) (h_h:KG.R G vs_h h) :YL 57 #[Sr name,U key,.agg vs_h.toArray] G [] (fun u G' L'=>∃ (a1:Ba) (c2:Nat),u=.tuple #[.agg #[Sr (((Kh name key h).1).name),U (((Kh name key h).1).key),I (((Kh name key h).1).head.epoch),U (((Kh name key h).1).head.root),U (((Kh name key h).1).head.prev),I (((Kh name key h).1).head.at_),Sl a1 ((((Kh name key h).1).wanted).length) c2,I (((Kh name key h).1).had)],I ((Kh name key h).2)]∧((((Kh name key h).1).name).length≤140737488351232)∧(rU (((Kh name key h).1).key))∧(rI (((Kh name key h).1).head.epoch))∧(rU (((Kh name key h).1).head.root))∧(rU (((Kh name key h).1).head.prev))∧(rI (((Kh name key h).1).head.at_))∧(RS ES G' a1 c2 (((Kh name key h).1).wanted))∧(rI (((Kh name key h).1).had))∧L'=[]):=by
 obtain ⟨rfl,w1,w2,w3,w4⟩:=h_h
 refine JS Tryz.func57 21 [(0,Sr name),(1,U key),(2,.agg #[I h.epoch,U h.root,U h.prev,I h.at_])] rfl (fun w0 G0=>?_)
 refine Jf (Jd (Jv 5 #[I h.epoch,U h.root,U h.prev,I h.at_] 43 (fun b1=>Jv 6 #[Sr ([]),U 0,I 0,U 0,U 0,I 0,Sl none 0 0,I 0] 76 (fun b2=>Jb [0] [] (Je (Jc (Jf (Jd (Jb [0,0,4,0] [(13,.agg #[Sr name,U key,I h.epoch,U h.root,U h.prev,I h.at_,Sl none 0 0,I 0])] (Jv 8 #[Sr ([]),U 0,I 0,U 0,U 0,I 0,Sl none 0 0,I 0] 76 (fun b3=>JX [3] [] [[Sg b3 0 [Sr name,U key,I h.epoch,U h.root,U h.prev,I h.at_,Sl none 0 0,I 0]],[Sg b2 0 [Sr ([]),U 0,I 0,U 0,U 0,I 0,Sl none 0 0,I 0]],[Sg b1 0 [I h.epoch,U h.root,U h.prev,I h.at_]]] (Je (Jc (Jf (Jf (Jd (Jb [2] [(14,.agg #[Sr name,U key,I h.epoch,U h.root,U h.prev,I h.at_,Sl none 0 0,I 0])] (Jl 15 (I (Kd (⟨name,key,h,[],0⟩:Qh))) (JaQ G [Sr name,U key,I h.epoch,U h.root,U h.prev,I h.at_,Sl none 0 0,I 0] (⟨name,key,h,[],0⟩:Qh) (⟨none,0,rfl,hw_name,hw_key,w1,w2,w3,w4,(JP ES G),(by (simp;done))⟩)) (Jb [0] [(9,I (Kd (⟨name,key,h,[],0⟩:Qh)))] (Je (Jc (Jg [0,0] [(17,Bo (!decide (Kd (⟨name,key,h,[],0⟩:Qh)=0)))] ?_))))))))))))))))))))))
 refine Jm (!decide (Kd (⟨name,key,h,[],0⟩:Qh)=0)) (fun h1=>?_) (fun h1=>?_)
 refine Jg [0,0,5,0] [(7,I (Kd (⟨name,key,h,[],0⟩:Qh)))] (Jo (Jj ?_))
 have hf1:Kh name key h=((⟨[],0,(⟨0,0,0,0⟩:JV),[],0⟩:Qh),Kd (⟨name,key,h,[],0⟩:Qh)):=by
  unfold Kh VZ ZF;simp_all
 refine Jp [1,0] [.agg #[Sr ([]),U 0,I 0,U 0,U 0,I 0,Sl none 0 0,I 0],I (Kd (⟨name,key,h,[],0⟩:Qh))] (JB [] (Jh _) ?_)
 rw [hf1]
 try dsimp only
 exact ⟨none,0,rfl,(Hb rfl),J5,J5,J5,J5,J5,(JP ES G),J5,rfl⟩
 refine Jq (Jc (QF [2,5,0] [(7,I 0)] [[Sg b3 0 [Sr name,U key,I h.epoch,U h.root,U h.prev,I h.at_,Sl none 0 0,I 0]],[Sg b2 0 [Sr name,U key,I h.epoch,U h.root,U h.prev,I h.at_,Sl none 0 0,I 0]],[Sg b1 0 [I h.epoch,U h.root,U h.prev,I h.at_]]] (Jo ?_)))
 have hf2:Kh name key h=((⟨name,key,h,[],0⟩:Qh),0):=by
  unfold Kh VZ ZF;simp_all
 refine Jp [1,0] [.agg #[Sr name,U key,I h.epoch,U h.root,U h.prev,I h.at_,Sl none 0 0,I 0],I 0] (JB [] (Jh _) ?_)
 rw [hf2]
 try dsimp only
 exact ⟨none,0,rfl,hw_name,hw_key,w1,w2,w3,w4,(JP ES G),J5,rfl⟩
abbrev JaR (o:Qh) (v:Bb):=YQ o.key o.name v (o.wanted.length:Int)
abbrev Jcf (o:Qh) (v:Bb):=(⟨o.name,o.key,o.head,(o.wanted++[v]),o.had⟩:Qh)
theorem Vi (G:J4) (vs_o:Bv) (o:Qh) (h_o:QG.R G vs_o o) (v:Bb) (hw_v:(v).length≤140737488351232) :YL 101 #[.agg vs_o.toArray,Sr v] G [] (fun u G' L'=>∃ (a1:Ba) (c2:Nat),u=.tuple #[.agg #[Sr (((JJ o v).1).name),U (((JJ o v).1).key),I (((JJ o v).1).head.epoch),U (((JJ o v).1).head.root),U (((JJ o v).1).head.prev),I (((JJ o v).1).head.at_),Sl a1 ((((JJ o v).1).wanted).length) c2,I (((JJ o v).1).had)],.agg #[Sr (((JJ o v).2.1).name),Sr (((JJ o v).2.1).value),U (((JJ o v).2.1).n),U (((JJ o v).2.1).tag)],I ((JJ o v).2.2)]∧((((JJ o v).1).name).length≤140737488351232)∧(rU (((JJ o v).1).key))∧(rI (((JJ o v).1).head.epoch))∧(rU (((JJ o v).1).head.root))∧(rU (((JJ o v).1).head.prev))∧(rI (((JJ o v).1).head.at_))∧(RS ES G' a1 c2 (((JJ o v).1).wanted))∧(rI (((JJ o v).1).had))∧((((JJ o v).2.1).name).length≤140737488351232)∧((((JJ o v).2.1).value).length≤140737488351232)∧(rU (((JJ o v).2.1).n))∧(rU (((JJ o v).2.1).tag))∧L'=[]):=by
 obtain ⟨a1,c1,rfl,w1,w2,w3,w4,w5,w6,hs1,w7⟩:=h_o
 refine JS Tryz.func101 52 [(0,(KF o a1 c1)),(1,Sr v)] rfl (fun w0 G0=>?_)
 refine Jf (Jd (Jv 2 #[Sr o.name,U o.key,I o.head.epoch,U o.head.root,U o.head.prev,I o.head.at_,Sl a1 o.wanted.length c1,I o.had] 76 (fun b1=>Jv 4 #[Sr ([]),U 0,I 0,U 0,U 0,I 0,Sl none 0 0,I 0] 76 (fun b2=>Jv 5 #[Sr ([]),Sr ([]),U 0,U 0] 182 (fun b3=>Jb [0] [] (Je (Jc (Jf (Jd (Jb [6] [(10,(KF o a1 c1))] (Jl 11 (I (Kd o)) (JaQ G (KT o a1 c1) o (⟨a1,c1,rfl,w1,w2,w3,w4,w5,w6,hs1,w7⟩)) (Jb [0] [(7,I (Kd o))] (Je (Jc (Jf (Jx (Jg [0,0,0] [(12,Bo (!decide (Kd o=0)))] (Jm (!decide (Kd o=0)) (fun h1=>?_) (fun h1=>?_)))))))))))))))))))
 refine Jg [0,0,0,5,3,0] [(6,I (Kd o))] (Jo (Ju (Jj ?_)))
 have hf1:JJ o v=((⟨[],0,(⟨0,0,0,0⟩:JV),[],0⟩:Qh),(⟨[],[],0,0⟩:Zn),Kd o):=by
  unfold JJ ZQ VZ Jjm ZF;simp_all
 refine Jp [1,0,0] [.agg #[Sr ([]),U 0,I 0,U 0,U 0,I 0,Sl none 0 0,I 0],.agg #[Sr ([]),Sr ([]),U 0,U 0],I (Kd o)] (JB [] (Jh _) ?_)
 rw [hf1]
 try dsimp only
 exact ⟨none,0,rfl,(Hb rfl),J5,J5,J5,J5,J5,(JP ES G),J5,(Hb rfl),(Hb rfl),J5,J5,rfl⟩
 refine Jf (Jd (Jb [0] [(19,Sr v)] (Jl 20 (Bo (WO v)) (JcT G v) (Jb [0] [(18,Bo (WO v))] (Je (Jc (Jm (WO v) (fun h2=>?_) (fun h2=>?_))))))))
 refine Jg [0,0,5,3,0] [(6,I 2)] (Jo (Ju (Jj ?_)))
 have hf2:JJ o v=((⟨[],0,(⟨0,0,0,0⟩:JV),[],0⟩:Qh),(⟨[],[],0,0⟩:Zn),2):=by
  unfold JJ ZQ VZ Jjm ZF;simp_all
 refine Jp [1,0,0] [.agg #[Sr ([]),U 0,I 0,U 0,U 0,I 0,Sl none 0 0,I 0],.agg #[Sr ([]),Sr ([]),U 0,U 0],I 2] (JB [] (Jh _) ?_)
 rw [hf2]
 try dsimp only
 exact ⟨none,0,rfl,(Hb rfl),J5,J5,J5,J5,J5,(JP ES G),J5,(Hb rfl),(Hb rfl),J5,J5,rfl⟩
 refine Jg [0,6,0,0,0] [(23,Bo (decide ((o.wanted.length:Int)=30)))] (Jm (decide ((o.wanted.length:Int)=30)) (fun h3=>?_) (fun h3=>?_))
 refine Jg [0,0,5,3,0] [(6,I 7)] (Jo (Ju (Jj ?_)))
 have hf3:JJ o v=((⟨[],0,(⟨0,0,0,0⟩:JV),[],0⟩:Qh),(⟨[],[],0,0⟩:Zn),7):=by
  unfold JJ ZQ VZ Jjm ZF;simp_all
 refine Jp [1,0,0] [.agg #[Sr ([]),U 0,I 0,U 0,U 0,I 0,Sl none 0 0,I 0],.agg #[Sr ([]),Sr ([]),U 0,U 0],I 7] (JB [] (Jh _) ?_)
 rw [hf3]
 try dsimp only
 exact ⟨none,0,rfl,(Hb rfl),J5,J5,J5,J5,J5,(JP ES G),J5,(Hb rfl),(Hb rfl),J5,J5,rfl⟩
 refine Jq (JN (Jc (Jf (Jd (Jb [0,6,0,6,0,0,6,0,0] [(32,U o.key),(34,Sr o.name),(35,Sr v),(39,U (IntKind.u64.wrap (o.wanted.length:Int)))] (Jbk 39 (o.wanted.length:Int) (by (have q_:=K8.1 ‹_›;omega)) (JM 40 (JkQ G o.key o.name ‹_› v ‹_› (o.wanted.length:Int) (by (have q_:=K8.1 ‹_›;omega))) (fun v G1 L1 hl1 hp=>?_))))))))
 obtain ⟨rfl,w8,w9,w10,w11,rfl⟩:=hp
 refine Jb [0,0,0] [(41,(JkH (JaR o v).1)),(42,I ((JaR o v).2))] (Jv 8 #[Sr ([]),Sr ([]),U 0,U 0] 182 (fun b4=>JX [3,0] [] [[Sg b4 0 (Jjb (JaR o v).1)],[Sg b3 0 [Sr ([]),Sr ([]),U 0,U 0]],[Sg b2 0 [Sr ([]),U 0,I 0,U 0,U 0,I 0,Sl none 0 0,I 0]],[Sg b1 0 (KT o a1 c1)]] (Je (Jc (Jf (Jd (Jb [0,8] [(44,Sl a1 o.wanted.length c1)] (JM 45 (JcA G1 a1 c1 o.wanted (hs1.mono hl1)) (fun v G2 L1 hl2 hp=>?_)))))))))
 obtain ⟨_,c2,_,rfl,hr1,rfl⟩:=hp
 refine Jb [0] [(46,Sr v)] (Ki 47 1 #[Sr v] 9 (fun b5=>Qr (b:=b5) (cs:=[Sr v]) 48 9 1 0 (E:=ES) v hr1 ⟨rfl,‹_›⟩ (by have q_:=K8.1 ‹_›;(try simp only [ES,Hc,Hd,Hf]);omega) (by have q_:=K8.1 ‹_›;(try simp only [ES,Hc,Hd,Hf]);omega) (fun a3 c3 r2 hr2=>JX [0,13] [] [[Sg b5 0 [Sr v]],r2,[Sg b4 0 (Jjb (JaR o v).1)],[Sg b3 0 [Sr ([]),Sr ([]),U 0,U 0]],[Sg b2 0 [Sr ([]),U 0,I 0,U 0,U 0,I 0,Sl none 0 0,I 0]],[Sg b1 0 (KT (Jcf o v) a3 c3)]] (Je (Jc (Jf (Kt [2,3] (Wz [(0,(KF (Jcf o v) a3 c3)),(1,(JkH (JaR o v).1))] (JL [] [(0,12),(1,6)] [] [2] (Hi _) (Kb ?_ K4))))))))))
 refine JA 2 [(4,Pt b2 0),(50,(KF (Jcf o v) a3 c3))] (fun X=>?_)
 refine KI 4 [[Sg b5 0 [Sr v]],r2,[Sg b4 0 (Jjb (JaR o v).1)],[Sg b3 0 [Sr ([]),Sr ([]),U 0,U 0]],[Sg b2 0 (KT (Jcf o v) a3 c3)],[Sg b1 0 (KT (Jcf o v) a3 c3)]] (J9 [] (JL [0] [(1,6)] [] [3] (Hi _) (Kb ?_ K4)))
 refine JA 3 [(5,Pt b3 0),(51,(JkH (JaR o v).1))] (fun X=>?_)
 refine KI 3 [[Sg b5 0 [Sr v]],r2,[Sg b4 0 (Jjb (JaR o v).1)],[Sg b3 0 (Jjb (JaR o v).1)],[Sg b2 0 (KT (Jcf o v) a3 c3)],[Sg b1 0 (KT (Jcf o v) a3 c3)]] (J9 [(4,I 0)] (Kq [0,1] [(4,0)] [] [(4,Pt b2 0),(5,Pt b3 0),(6,I 0)] (Hi _) (Jc (Jo (Wm (E:=ES) 1 hr2 (by have q_:=K8.1 ‹_›;(try simp only [ES,Hc,Hd,Hf]);omega) (fun G3 hl3 hs2=>?_))))))
 have hf4:JJ o v=((⟨o.name,o.key,o.head,o.wanted++[v],o.had⟩:Qh),((JaR o v).1),0):=by
  unfold JJ ZQ VZ Jjm ZF;simp_all
 refine Jp [4,3,0] [(KF (Jcf o v) a3 c3),(JkH (JaR o v).1),I 0] (JB [] (Ja (Ja hl1 hl2) hl3) ?_)
 rw [hf4]
 try dsimp only
 exact ⟨a3,c3,rfl,‹_›,‹_›,‹_›,‹_›,‹_›,‹_›,hs2,‹_›,w8,w9,w10,w11,rfl⟩
def QZ (p:Qy):Int×Int:=if (K5 p).2 ≠ 0 then (0,(K5 p).2) else (Ji (JhF (K5 p).1),0)
def W9 (root:Int) (p:Qy):Int:=if (QZ p).2=0∧¬ (QZ p).1=root then 8 else (QZ p).2
def Zk (root:Int) (p:Qy):Bb×Bool×Int:=if ¬ W9 root p=0 then ([],false,W9 root p) else Wx p.entries p.name
def JF (r:QL):Bb×Bool×Int:=if ¬ JO r.head=0 then ([],false,JO r.head) else Zk r.head.root r.proof
theorem Vj {p:Qy} (h:(K5 p).2=0):(K5 p).1.length=17:=by
 unfold K5 at h ⊢
 split at h
 · contradiction
 ·
  rename_i h1
  rw [if_neg h1]
  simp only
  rw [Ya,(We.1 (Hj.1 h1)).sides]
def Yr (x h:JV):Bool:=decide (x.epoch=h.epoch) && !decide (x=h)
def K9 (h:JV) (l:List JV):Int:=if ¬ (Kf l).1=0∨(W6 l).epoch > h.epoch+1 then 2 else if (W6 l).epoch=h.epoch+1∧(Q5 h l).1=false then 2 else if (l.any fun x0=>Yr x0 h)=true then 3 else if (Zg l).epoch≤h.epoch then 1 else 0
def V4 (o:Qh):Int:=if 0 > o.had-1 then 0 else o.had-1
def JaS (o:Qh) (w:Bb):Int:=QK (fun x=>decide (w=x)) (o.wanted.drop (V4 o).toNat)
def J2 (o:Qh) (l:List JV) (r:QL):Int×Int:=if ¬ K9 o.head l=0 then (K9 o.head l,0) else if (¬ (JF r).2.2=0∨¬ r.head=Zg l)∨¬ r.proof.name=o.name then (4,0) else if (JF r).2.1=false∧o.had > 0 then (5,0) else if (JF r).2.1=false then (0,0) else if JaS o (JF r).1<0 then (6,0) else (0,V4 o+JaS o (JF r).1+1)
def JD (o:Qh) (l:List JV) (r:QL):Qh×Int×Int:=if ¬ Kd o=0 then (VZ,0,Kd o) else if (J2 o l r).1=0 then (⟨o.name,o.key,r.head,o.wanted,(J2 o l r).2⟩,0,0) else (o,(J2 o l r).1,0)
theorem YU {h:JV} {l:List JV} (e:K9 h l=0):Zr l∧h.epoch<(Zg l).epoch:=by
 unfold K9 at e
 split at e
 · cases e
 split at e
 · cases e
 split at e
 · cases e
 split at e
 · cases e
 ·
  rename_i h1 _ _ h4
  exact ⟨Qd.1 (Hj.1 fun hc=>h1 (.inl hc)),by omega⟩
theorem JjE {h:JV} {l:List JV} {x:JV} (h1:¬ (Kf l).1=0∨(l[0]? = some x∧x.epoch > h.epoch+1)):K9 h l=2:=by
 unfold K9
 rw [if_pos]
 rcases h1 with h1 | ⟨h1,h2⟩
 · exact .inl h1
 · rw [← W7 h1];exact .inr h2
theorem Jo9 {h:JV} {l:List JV} {x:JV} (h0:(Kf l).1=0) (h1:l[0]? = some x) (h2:x.epoch≤h.epoch+1) (h3:x.epoch=h.epoch+1) (h4:(Q5 h l).1=false):K9 h l=2:=by
 unfold K9
 rw [← W7 h1,if_neg (by omega),if_pos ⟨h3,h4⟩]
theorem Jbp {h:JV} {l:List JV} {x:JV} (h0:(Kf l).1=0) (h1:l[0]? = some x) (h2:x.epoch≤h.epoch+1) (h3:¬ x.epoch=h.epoch+1∨(Q5 h l).1=true):K9 h l=if (l.any fun x0=>Yr x0 h)=true then 3 else if (Zg l).epoch≤h.epoch then 1 else 0:=by
 unfold K9
 rw [← W7 h1,if_neg (by omega),if_neg]
 rintro ⟨a,b⟩
 rcases h3 with h3 | h3
 · exact h3 a
 · rw [h3] at b;cases b
theorem Jme {α:Type} (p:α→Bool) (l:List α):-1≤QK p l∧QK p l<l.length+1:=by
 by_cases h:QK p l<0
 ·
  refine ⟨?_,by omega⟩
  unfold QK;split <;> omega
 ·
  obtain ⟨k,hk⟩:∃ k:Nat,QK p l=k:=⟨_,(HM (by omega)).symm⟩
  obtain ⟨x,hx,_⟩:=Jih hk
  have:=(He.1 hx).1
  omega
theorem JfC {o:Qh} {l:List JV} {r:QL} {x:JV} (h0:K9 o.head l=0) (h1:(JF r).2.2=0) (h2:l[l.length-1]? = some x) (h3:((r.head.epoch=x.epoch∧r.head.root=x.root)∧r.head.prev=x.prev)∧r.head.at_=x.at_) (h4:r.proof.name=o.name) :
  J2 o l r=if (JF r).2.1=false∧o.had > 0 then (5,0) else if (JF r).2.1=false then (0,0) else if JaS o (JF r).1<0 then (6,0) else (0,V4 o+JaS o (JF r).1+1):=by
 unfold J2
 have e:=WN rfl h2
 have e2:r.head=Zg l:=by rw [← e,Jb6];exact ⟨h3.1.1.1,h3.1.1.2,h3.1.2,h3.2⟩
 rw [if_neg (by omega),if_neg]
 rintro ((a | a) | a)
 · exact a h1
 · exact a e2
 · exact a h4
theorem Jix {o:Qh} {l:List JV} {r:QL} (h0:K9 o.head l=0) (h1:(¬ (JF r).2.2=0∨∃ x,l[l.length-1]? = some x∧(((r.head.epoch=x.epoch∧r.head.root=x.root)∧r.head.prev=x.prev)→¬ r.head.at_=x.at_))∨¬ r.proof.name=o.name):J2 o l r=(4,0):=by
 unfold J2
 rw [if_neg (by omega),if_pos]
 rcases h1 with (h1 | ⟨x,h1,h2⟩) | h1
 · exact .inl (.inl h1)
 ·
  refine .inl (.inr ?_)
  rw [← WN rfl h1,Jb6]
  rintro ⟨a,b,c,d⟩
  exact h2 ⟨⟨a,b⟩,c⟩ d
 · exact .inr h1
theorem JjF {o:Qh} {k:Nat} (w:Bb) (h:(if 0 > o.had-1 then 0 else o.had-1)=(k:Int)):V4 o=k∧JaS o w=QK (fun x=>decide (w=x)) (o.wanted.drop k):=by
 have e:V4 o=k:=h
 refine ⟨e,?_⟩
 unfold JaS;rw [e];rfl
theorem JjG {o:Qh} {w:Bb} (h:¬ JaS o w<0):∃ k:Nat,JaS o w=k∧o.wanted[(V4 o).toNat+k]? = some w:=by
 obtain ⟨k,hk⟩:∃ k:Nat,JaS o w=k:=⟨_,(HM (by omega)).symm⟩
 refine ⟨k,hk,?_⟩
 unfold JaS at hk
 obtain ⟨x,hx,hp⟩:=Jih hk
 rw [HP] at hx
 rw [hx,of_decide_eq_true hp]
theorem JdT {o:Qh} {l:List JV} {r:QL} (hc:Kd o=0) (h:(J2 o l r).1=0) :
  (JF r).2.2=0∧o.head.epoch<r.head.epoch∧JO r.head=0∧o.had≤(J2 o l r).2∧0≤(J2 o l r).2∧(J2 o l r).2≤o.wanted.length ∧
  ((JF r).2.1=false→(J2 o l r).2=0∧o.had=0)∧((JF r).2.1=true→1≤(J2 o l r).2∧∃ k:Nat,(J2 o l r).2-1=k∧o.wanted[k]? = some (JF r).1):=by
 have ho:=K8.1 hc
 unfold J2 at h ⊢
 by_cases h1:K9 o.head l=0
 ·
  rw [if_neg (by omega)] at h ⊢
  obtain ⟨c1,c2⟩:=YU h1
  by_cases h2:(¬ (JF r).2.2=0∨¬ r.head=Zg l)∨¬ r.proof.name=o.name
  · rw [if_pos h2] at h;cases h
  ·
   rw [if_neg h2] at h ⊢
   have e1:(JF r).2.2=0:=Hj.1 fun hc=>h2 (.inl (.inl hc))
   have e2:r.head=Zg l:=Hj.1 fun hc=>h2 (.inl (.inr hc))
   have e3:JO r.head=0:=by rw [e2];exact c1.ok _ (Hl c1.last)
   by_cases h3:(JF r).2.1=false∧o.had > 0
   · rw [if_pos h3] at h;cases h
   ·
    rw [if_neg h3] at h ⊢
    by_cases h4:(JF r).2.1=false
    ·
     rw [if_pos h4] at h ⊢
     have:¬ o.had > 0:=fun hc=>h3 ⟨h4,hc⟩
     exact ⟨e1,by rw [e2];exact c2,e3,by simp only;omega,by simp,by simp,fun _=>⟨rfl,by omega⟩,fun hc=>by rw [h4] at hc;cases hc⟩
    ·
     rw [if_neg h4] at h ⊢
     by_cases h5:JaS o (JF r).1<0
     · rw [if_pos h5] at h;cases h
     ·
      rw [if_neg h5]
      obtain ⟨k,hk,hw⟩:=JjG h5
      have hlt:=(He.1 hw).1
      have hf:0≤V4 o∧o.had-1≤V4 o:=by unfold V4;split <;> omega
      simp only
      refine ⟨e1,by rw [e2];exact c2,e3,by omega,by omega,by omega,fun hc=>absurd hc h4,fun _=>⟨by omega,(V4 o).toNat+k,by omega,hw⟩⟩
 · rw [if_pos h1] at h;exact absurd h h1
theorem see_ok {o:Qh} {l:List JV} {r:QL} (h:(JD o l r).2.2=0):Kd o=0∧(JD o l r).2.1=(J2 o l r).1∧((J2 o l r).1=0→(JD o l r).1=⟨o.name,o.key,r.head,o.wanted,(J2 o l r).2⟩)∧(¬ (J2 o l r).1=0→(JD o l r).1=o):=by
 unfold JD at h ⊢
 by_cases h1:Kd o=0
 ·
  rw [if_neg (by omega)] at h ⊢
  by_cases h2:(J2 o l r).1=0
  · rw [if_pos h2];exact ⟨h1,h2.symm,fun _=>rfl,fun hc=>absurd h2 hc⟩
  · rw [if_neg h2];exact ⟨h1,rfl,fun hc=>absurd hc h2,fun _=>rfl⟩
 · rw [if_pos h1] at h;exact absurd h h1
theorem Jpa {o:Qh} {l:List JV} {r:QL} (h:(JD o l r).2.2=0) (hv:(JD o l r).2.1=0):(JF r).2.2=0∧(JD o l r).1.head=r.head∧o.head.epoch<(JD o l r).1.head.epoch∧o.had≤(JD o l r).1.had∧Kd (JD o l r).1=0∧((JF r).2.1=false→(JD o l r).1.had=0∧o.had=0)∧((JF r).2.1=true→1≤(JD o l r).1.had∧(JD o l r).1.had≤o.wanted.length∧∃ k:Nat,(JD o l r).1.had-1=k∧o.wanted[k]? = some (JF r).1):=by
 obtain ⟨h1,h2,h3,_⟩:=see_ok h
 have hv0:(J2 o l r).1=0:=by rw [← h2];exact hv
 have hx:=h3 hv0
 have ho:=K8.1 h1
 obtain ⟨a1,a2,a3,a4,a5,a6,a7,a8⟩:=JdT h1 hv0
 rw [hx]
 refine ⟨a1,rfl,a2,a4,K8.2 ⟨ho.1,a3,ho.2.2.1,ho.2.2.2.1,a5,a6⟩,a7,fun hi=>⟨(a8 hi).1,a6,(a8 hi).2⟩⟩
theorem Jg5 (G:J4) (vs_p:Bv) (p:Qy) (h_p:JfW.R G vs_p p) :Q7 124 #[.agg vs_p.toArray] G (.tuple #[U ((QZ p).1),I ((QZ p).2)]):=by
 obtain ⟨a1,c1,a2,c2,rfl,w1,hs1,hs2⟩:=h_p
 refine JS Tryz.func124 21 [(0,(Jah p a1 c1 a2 c2))] rfl (fun w0 G0=>?_)
 refine Jf (Jd (Jv 1 #[Sr p.name,Sl a1 p.entries.length c1,Sl a2 p.sides.length c2] 47 (fun b1=>Jb [0,0] [] (Je (Jc (Jf (Jd (Jb [2] [(7,(Jah p a1 c1 a2 c2))] (JM 8 (JgZ G (VV p a1 c1 a2 c2) p (⟨a1,c1,a2,c2,rfl,w1,hs1,hs2⟩)) (fun v G1 L1 hl1 hp=>?_))))))))))
 obtain ⟨a3,c3,rfl,hs3,rfl⟩:=hp
 refine Jb [0,0,0,0,0] [(4,Sl a3 (((K5 p).1).length) c3),(5,I ((K5 p).2))] (Je (Jc (Jf (Jg [0,0] [(12,Bo (!decide ((K5 p).2=0)))] (Jm (!decide ((K5 p).2=0)) (fun h1=>?_) (fun h1=>?_))))))
 refine Jg [0,0,0] [(2,U 0),(3,I ((K5 p).2))] (Jo (Jj (Jp [0,0] [U 0,I ((K5 p).2)] (Jy hl1 ?_))))
 have hf_:(QZ p)=(0,((K5 p).2)):=by
  unfold QZ;(rw [if_pos ‹_›];done)
 · (try rw [hf_]);(simp only [QD];done)
 refine Jq (Jc (Jf (Jd (Jb [0,0,0,0] [(14,Sl a3 (((K5 p).1).length) c3),(17,I (Ha.wrap ((((K5 p).1).length:Int)-1)))] ?_))))
 have e1:Ha.wrap ((((K5 p).1).length:Int)-1)=((((K5 p).1).length-1:Nat):Int):=(Hh _ (by (have q_:=Vj (p:=p) ‹_›;omega))).trans (show (((K5 p).1).length:Int)-1=((((K5 p).1).length-1:Nat):Int) by (have q_:=Vj (p:=p) ‹_›;omega))
 refine KE 17 (I ((((K5 p).1).length-1:Nat):Int)) (congrArg I e1) ?_
 clear e1
 obtain ⟨b2,o1,rfl⟩:=RS.addr hs3 (k:=((K5 p).1).length-1) (by (have q_:=Vj (p:=p) ‹_›;omega))
 obtain ⟨x1,hx1⟩:=QW (l:=(K5 p).1) (k:=((K5 p).1).length-1) (by (have q_:=Vj (p:=p) ‹_›;omega))
 obtain ⟨_,⟨rfl,w2⟩,hc1⟩:=RS.get hs3 hx1
 refine JY (b:=b2) (off:=o1) (len:=((K5 p).1).length) (cap:=c3) (ik:=.i64) 18 9 1 (((K5 p).1).length-1) (by (have q_:=Vj (p:=p) ‹_›;omega)) (JR 19 9 (cs:=[Sr x1]) 0 (Sr x1) hc1 (Jl 20 (U (Ji x1)) (Yg x1 (Jdb w2) G1) (Jb [0,0] [(2,U (Ji x1)),(3,I 0)] (Je (Jc (Jo (Jp [0,0] [U (Ji x1),I 0] (Jy hl1 ?_))))))))
 have hf_:(QZ p)=((Ji x1),0):=by
  unfold QZ;(rw [if_neg (by omega)];have hl_:=JhG (a:=(K5 p).1) rfl hx1;rw [← hl_];done)
 · (try rw [hf_]);(simp only [QD];done)
theorem Jg6 (G:J4) (root:Int) (vs_p:Bv) (p:Qy) (h_p:JfW.R G vs_p p) :Q7 72 #[U root,.agg vs_p.toArray] G (I (W9 root p)):=by
 obtain ⟨a1,c1,a2,c2,rfl,w1,hs1,hs2⟩:=h_p
 refine JS Tryz.func72 20 [(0,U root),(1,(Jah p a1 c1 a2 c2))] rfl (fun w0 G0=>?_)
 refine Jf (Jd (Jv 3 #[Sr p.name,Sl a1 p.entries.length c1,Sl a2 p.sides.length c2] 47 (fun b1=>Jb [0] [] (Je (Jc (Jf (Jd (Jb [2] [(8,(Jah p a1 c1 a2 c2))] (Jl 9 (.tuple #[U ((QZ p).1),I ((QZ p).2)]) (Jg5 G (VV p a1 c1 a2 c2) p (⟨a1,c1,a2,c2,rfl,w1,hs1,hs2⟩)) (Jb [0,0,0,0,0] [(5,U ((QZ p).1)),(6,I ((QZ p).2))] (Je (Jc (Jf (Jf (Jd (Jb [0,0,0] [(14,Bo (decide ((QZ p).2=0)))] (Kk (decide ((QZ p).2=0)) [14] [0,0,0,0] [1,1,1,0] (fun bb=>[(18,Bo (bb && (!decide ((QZ p).1=root))))]) (Je (Jc (Jm ((decide ((QZ p).2=0)) && (!decide ((QZ p).1=root))) (fun h1=>?_) (fun h1=>?_)))))))))))))))))))))
 refine Jd (Jb [0] [(6,I 8)] (Je (Jc (Jg [0,0] [(4,I 8)] (Jo (Jp [0] [I 8] (Jy (Jh _) (congrArg I (?_:(W9 root p)=8).symm))))))))
 · unfold W9;(rw [if_pos (by simp_all)];done)
 refine Jq (Jc (Jg [0,0] [(4,I ((QZ p).2))] (Jo (Jp [0] [I ((QZ p).2)] (Jy (Jh _) (congrArg I (?_:(W9 root p)=((QZ p).2)).symm))))))
 · unfold W9;(rw [if_neg (by simp_all)];done)
abbrev JbK (p:Qy):=Wx p.entries p.name
theorem Jg7 (G:J4) (root:Int) (vs_p:Bv) (p:Qy) (h_p:JfW.R G vs_p p) :YL 42 #[U root,.agg vs_p.toArray] G [] (fun u G' L'=>u=.tuple #[Sr ((Zk root p).1),Bo ((Zk root p).2.1),I ((Zk root p).2.2)]∧(((Zk root p).1).length≤140737488351232)∧L'=[]):=by
 obtain ⟨a1,c1,a2,c2,rfl,w1,hs1,hs2⟩:=h_p
 refine JS Tryz.func42 22 [(0,U root),(1,(Jah p a1 c1 a2 c2))] rfl (fun w0 G0=>?_)
 refine Jf (Jd (Jv 3 #[Sr p.name,Sl a1 p.entries.length c1,Sl a2 p.sides.length c2] 47 (fun b1=>Jb [0,0,0] [] (Je (Jc (Jf (Jf (Jd (Jb [0,2] [(8,U root),(9,(Jah p a1 c1 a2 c2))] (Jl 10 (I (W9 root p)) (Jg6 G root (VV p a1 c1 a2 c2) p (⟨a1,c1,a2,c2,rfl,w1,hs1,hs2⟩)) (Jb [0] [(7,I (W9 root p))] (Je (Jc (Jg [0,0] [(12,Bo (!decide (W9 root p=0)))] (Jm (!decide (W9 root p=0)) (fun h1=>?_) (fun h1=>?_))))))))))))))))
 refine Jg [0,0,0,0] [(4,Sr ([])),(5,Bo false),(6,I (W9 root p))] (Jo (Jj ?_))
 have hf1:Zk root p=([],false,W9 root p):=by
  unfold Zk;(rw [if_pos ‹_›];done)
 refine Jp [0,0,0] [Sr ([]),Bo false,I (W9 root p)] (JB [] (Jh _) ?_)
 rw [hf1]
 try dsimp only
 exact ⟨rfl,(Hb rfl),rfl⟩
 refine Jq (Jc (Jf (Jd (Jb [0,2,0,2] [(15,Sl a1 p.entries.length c1),(17,Sr p.name)] (JM 18 (Jjt G a1 c1 p.entries hs1 p.name w1) (fun v G1 L1 hl1 hp=>?_))))))
 obtain ⟨rfl,w2,rfl⟩:=hp
 refine Jb [0,0,0,0,0,0] [(4,Sr ((JbK p).1)),(5,Bo ((JbK p).2.1)),(6,I ((JbK p).2.2))] (Je (Jc (Jo ?_)))
 have hf2:Zk root p=((JbK p).1,(JbK p).2.1,(JbK p).2.2):=by
  unfold Zk;(rw [if_neg (by simp_all)];done)
 refine Jp [0,0,0] [Sr ((JbK p).1),Bo ((JbK p).2.1),I ((JbK p).2.2)] (JB [] hl1 ?_)
 rw [hf2]
 try dsimp only
 exact ⟨rfl,w2,rfl⟩
abbrev JbL (r:QL):=Zk r.head.root r.proof
theorem JcU (G:J4) (vs_r:Bv) (r:QL) (h_r:JkF.R G vs_r r) :YL 24 #[.agg vs_r.toArray] G [] (fun u G' L'=>u=.tuple #[Sr ((JF r).1),Bo ((JF r).2.1),I ((JF r).2.2)]∧(((JF r).1).length≤140737488351232)∧L'=[]):=by
 obtain ⟨a1,c1,a2,c2,rfl,_,_,_,_,w5,hs1,hs2⟩:=h_r
 refine JS Tryz.func24 21 [(0,(W2 r a1 c1 a2 c2))] rfl (fun w0 G0=>?_)
 refine Jf (Jd (Jv 1 #[I r.head.epoch,U r.head.root,U r.head.prev,I r.head.at_,Sr r.proof.name,Sl a1 r.proof.entries.length c1,Sl a2 r.proof.sides.length c2] 49 (fun b1=>Jb [0,0,0] [] (Je (Jc (Jf (Jf (Jd (Jb [0,2] [(7,.agg #[I r.head.epoch,U r.head.root,U r.head.prev,I r.head.at_])] (Jl 8 (I (JO r.head)) (Yf r.head G) (Jb [0] [(5,I (JO r.head))] (Je (Jc (Jg [0,0] [(10,Bo (!decide (JO r.head=0)))] (Jm (!decide (JO r.head=0)) (fun h1=>?_) (fun h1=>?_))))))))))))))))
 refine Jg [0,0,0,0] [(2,Sr ([])),(3,Bo false),(4,I (JO r.head))] (Jo (Jj ?_))
 have hf1:JF r=([],false,JO r.head):=by
  unfold JF;(rw [if_pos ‹_›];done)
 refine Jp [0,0,0] [Sr ([]),Bo false,I (JO r.head)] (JB [] (Jh _) ?_)
 rw [hf1]
 try dsimp only
 exact ⟨rfl,(Hb rfl),rfl⟩
 refine Jq (Jc (Jf (Jd (Jb [0,0,2,0,2] [(14,U r.head.root),(16,(Jah r.proof a1 c1 a2 c2))] (JM 17 (Jg7 G r.head.root (VV r.proof a1 c1 a2 c2) r.proof (⟨a1,c1,a2,c2,rfl,w5,hs1,hs2⟩)) (fun v G1 L1 hl1 hp=>?_))))))
 obtain ⟨rfl,w6,rfl⟩:=hp
 refine Jb [0,0,0,0,0,0] [(2,Sr ((JbL r).1)),(3,Bo ((JbL r).2.1)),(4,I ((JbL r).2.2))] (Je (Jc (Jo ?_)))
 have hf2:JF r=((JbL r).1,(JbL r).2.1,(JbL r).2.2):=by
  unfold JF;(rw [if_neg (by simp_all)];done)
 refine Jp [0,0,0] [Sr ((JbL r).1),Bo ((JbL r).2.1),I ((JbL r).2.2)] (JB [] hl1 ?_)
 rw [hf2]
 try dsimp only
 exact ⟨rfl,w6,rfl⟩
theorem JdU (G:J4) (vs_x:Bv) (x:JV) (h_x:KG.R G vs_x x) (vs_h:Bv) (h:JV) (h_h:KG.R G vs_h h) (b_h:Nat) (hz_h:∀ j v,(vs_h:Bv)[j]? = some v→G b_h (0+j)=some v) :Q7 123 #[.agg vs_x.toArray,Pt b_h 0] G (Bo (Yr x h)):=by
 obtain ⟨rfl,_,_,_,_⟩:=h_x
 obtain ⟨rfl,_,_,_,_⟩:=h_h
 refine JS Tryz.func123 14 [(0,.agg #[I x.epoch,U x.root,U x.prev,I x.at_]),(1,Pt b_h 0)] rfl (fun w0 G0=>?_)
 refine Jf (Jd (Jv 2 #[I x.epoch,U x.root,U x.prev,I x.at_] 43 (fun b1=>Jb [0] [] (Je (Jc (Jf (Jd (Jb [0,2,0] [(5,I x.epoch),(6,Pt b_h 0)] (JR (o':=0) 7 2 (cs:=[I h.epoch,U h.root,U h.prev,I h.at_]) 0 (I h.epoch) hz_h (Jb [0,0] [(9,Bo (decide (x.epoch=h.epoch)))] (QS [9] (decide (x.epoch=h.epoch)) (fun h1=>?_) (fun h1=>?_))))))))))))
 refine Jb [2] [(10,.agg #[I x.epoch,U x.root,U x.prev,I x.at_])] (JR (o':=0) 11 43 (cs:=[I h.epoch,U h.root,U h.prev,I h.at_]) 0 (.agg #[I h.epoch,U h.root,U h.prev,I h.at_]) hz_h (Jdv 12 (Bo (!(decide (x.epoch=h.epoch) && (decide (x.root=h.root) && (decide (x.prev=h.prev) && (decide (x.at_=h.at_) && true)))))) (Bo (!(decide (x.epoch=h.epoch) && decide (x.root=h.root) && decide (x.prev=h.prev) && decide (x.at_=h.at_)))) (by simp [QT,HO]) (Jb [0,0] [(3,Bo (!(decide (x.epoch=h.epoch) && decide (x.root=h.root) && decide (x.prev=h.prev) && decide (x.at_=h.at_))))] (Je (Jc (Jo (Jp [0] [Bo (!(decide (x.epoch=h.epoch) && decide (x.root=h.root) && decide (x.prev=h.prev) && decide (x.at_=h.at_)))] (Jy (Jh _) (congrArg Bo (?_:(Yr x h)=(!(decide (x.epoch=h.epoch) && decide (x.root=h.root) && decide (x.prev=h.prev) && decide (x.at_=h.at_)))).symm)))))))))
 unfold Yr;rw [Hw];simp [Jb6];grind
 refine Jb [1,1,1,0,0] [(3,Bo false)] (Je (Jc (Jo (Jp [0] [Bo false] (Jy (Jh _) (congrArg Bo (?_:(Yr x h)=false).symm))))))
 unfold Yr;rw [Hw];simp [Jb6];grind
set_option maxRecDepth 20000 in
theorem Jgc (G:J4) (vs_h:Bv) (h:JV) (h_h:KG.R G vs_h h) (a_l:Ba) (c_l:Nat) (l:List JV) (h_l:RS KG G a_l c_l l) (hh:JO h=0):Q7 71 #[.agg vs_h.toArray,Sl a_l l.length c_l] G (I (K9 h l)):=by
 obtain ⟨rfl,w1,w2,w3,w4⟩:=h_h
 refine JS Tryz.func71 55 [(0,.agg #[I h.epoch,U h.root,U h.prev,I h.at_]),(1,Sl a_l l.length c_l)] rfl (fun w0 G0=>?_)
 refine Jf (Jd (Jv 2 #[I h.epoch,U h.root,U h.prev,I h.at_] 43 (fun b1=>Jb [0] [] (Je (Jc (Jf (Jf (Jd (Jb [0] [(10,Sl a_l l.length c_l)] (Jl 11 (.tuple #[I ((Kf l).1),I ((Kf l).2)]) (JaP G a_l c_l l h_l) (Jb [0,0,0,0,0] [(5,I ((Kf l).1))] (Je (Jc (Jf ?_))))))))))))))
 rcases Hr (!decide ((Kf l).1=0)) with h1 | h1
 have h1d:=h1
 try simp only [BB] at h1d
 refine Kt [] (Wz [(0,I ((Kf l).1)),(1,Bo true),(2,Bo true),(3,undef),(4,undef),(5,undef),(6,undef),(7,undef),(8,undef),(9,undef),(10,undef),(11,Bo true)] (Kq [] [(0,0),(2,0),(3,1),(4,1),(5,1),(6,1),(7,1),(8,1),(9,1),(10,1),(11,0)] [1] [(1,Sl a_l l.length c_l),(2,Pt b1 0),(25,Bo true)] (Kb ?_ K4) ?_))
 refine Jr 1 15 (Bo true) [(14,I ((Kf l).1))] (fun X=>?_)
 exact Qc 15 (Bo (!decide ((Kf l).1=0))) (Bo true) (by rw [h1]) Jn
 refine Jc (JZ (Jg [0] [(4,I 2)] (Jo (Jj (Jp [0] [I 2] (Jy (Jh _) (congrArg I (?_:(K9 h l)=2).symm)))))))
 exact JjE (x:=ZF) (.inl ‹_›)
 have h1d:=h1
 try simp only [BB] at h1d
 obtain ⟨b2,o1,rfl⟩:=RS.addr h_l (k:=0) (by (have q_:=(Qd.1 ‹_›);have q1_:=q_.len1;have q2_:=q_.len;omega))
 obtain ⟨x1,hx1⟩:=QW (l:=l) (k:=0) (by (have q_:=(Qd.1 ‹_›);have q1_:=q_.len1;have q2_:=q_.len;omega))
 obtain ⟨_,⟨rfl,_,_,_,_⟩,hc1⟩:=RS.get h_l hx1
 have e1:Ha.wrap (h.epoch+1)=h.epoch+1:=Hh _ (by (have q0_:=Zf hh;omega))
 refine Kt [] (Wz [(0,I ((Kf l).1)),(1,Bo false),(2,Bo false),(3,Sl (At b2 o1) l.length c_l),(4,Pt b2 (o1+0*4)),(5,Pt b2 (o1+0*4)),(6,I x1.epoch),(7,Pt b1 0),(8,I h.epoch),(9,I (h.epoch+1)),(10,Bo (decide (x1.epoch > h.epoch+1))),(11,Bo (decide (x1.epoch > h.epoch+1)))] (Kq [] [(0,0),(2,0),(3,0),(5,0),(7,0),(8,2),(10,0),(11,0)] [1,4,6,9] [(1,Sl (At b2 o1) l.length c_l),(2,Pt b1 0),(25,Bo (decide (x1.epoch > h.epoch+1)))] (Kb ?_ (Kb ?_ (Kb ?_ (Kb ?_ K4)))) ?_))
 refine Jr 1 15 (Bo false) [(14,I ((Kf l).1))] (fun X=>?_)
 exact Qc 15 (Bo (!decide ((Kf l).1=0))) (Bo false) (by rw [h1]) Jn
 refine Jr 4 18 (Pt b2 (o1+0*4)) [(16,Bo false),(17,Sl (At b2 o1) l.length c_l)] (fun X=>?_)
 exact JY (b:=b2) (off:=o1) (len:=l.length) (cap:=c_l) (ik:=.i64) 18 43 4 0 (by (have q_:=(Qd.1 ‹_›);have q1_:=q_.len1;have q2_:=q_.len;omega)) Jn
 refine Jr 6 20 (I x1.epoch) [(16,Bo false),(19,Pt b2 (o1+0*4))] (fun X=>?_)
 exact JR 20 2 (cs:=[I x1.epoch,U x1.root,U x1.prev,I x1.at_]) 0 (I x1.epoch) hc1 Jn
 refine Jr 9 23 (I (h.epoch+1)) [(16,Bo false),(22,I h.epoch)] (fun X=>?_)
 exact Qc 23 (I (Ha.wrap (h.epoch+1))) (I (h.epoch+1)) (by simp only [e1]) Jn
 refine Jc (Jm (decide (x1.epoch > h.epoch+1)) (fun h2=>?_) (fun h2=>?_))
 refine Jg [0] [(4,I 2)] (Jo (Jj (Jp [0] [I 2] (Jy (Jh _) (congrArg I (?_:(K9 h l)=2).symm)))))
 exact JjE (.inr ⟨hx1,by assumption⟩)
 refine Jq (Jc (Jf (Jf ?_)))
 have e2:Ha.wrap (h.epoch+1)=h.epoch+1:=Hh _ (by (have q0_:=Zf hh;omega))
 refine Kt [] (Wz [(0,Sl (At b2 o1) l.length c_l),(1,Pt b2 (o1+0*4)),(2,Pt b2 (o1+0*4)),(3,I x1.epoch),(4,Pt b1 0),(5,I h.epoch),(6,I (h.epoch+1)),(7,Bo (decide (x1.epoch=h.epoch+1)))] (Kq [] [(0,0),(2,0),(4,0),(5,2),(7,0)] [1,3,6] [(1,Sl (At b2 o1) l.length c_l),(2,Pt b1 0),(33,Bo (decide (x1.epoch=h.epoch+1)))] (Kb ?_ (Kb ?_ (Kb ?_ K4))) ?_))
 refine Jr 1 27 (Pt b2 (o1+0*4)) [(26,Sl (At b2 o1) l.length c_l)] (fun X=>?_)
 exact JY (b:=b2) (off:=o1) (len:=l.length) (cap:=c_l) (ik:=.i64) 27 43 4 0 (by (have q_:=(Qd.1 ‹_›);have q1_:=q_.len1;have q2_:=q_.len;omega)) Jn
 refine Jr 3 29 (I x1.epoch) [(28,Pt b2 (o1+0*4))] (fun X=>?_)
 exact JR 29 2 (cs:=[I x1.epoch,U x1.root,U x1.prev,I x1.at_]) 0 (I x1.epoch) hc1 Jn
 refine Jr 6 32 (I (h.epoch+1)) [(31,I h.epoch)] (fun X=>?_)
 exact Qc 32 (I (Ha.wrap (h.epoch+1))) (I (h.epoch+1)) (by simp only [e2]) Jn
 refine Jc (Jm (decide (x1.epoch=h.epoch+1)) (fun h3=>?_) (fun h3=>?_))
 refine Jf (Jd (Jb [2,0] [(35,.agg #[I h.epoch,U h.root,U h.prev,I h.at_]),(36,Sl (At b2 o1) l.length c_l)] (Jl 37 (.tuple #[Bo ((Q5 h l).1),I ((Q5 h l).2)]) (Jew G [I h.epoch,U h.root,U h.prev,I h.at_] h (⟨rfl,w1,w2,w3,w4⟩) (At b2 o1) c_l l h_l) (Jb [0,0,0,0,0] [(7,Bo ((Q5 h l).1))] (Je (Jc (Jg [0,0] [(41,Bo (!((Q5 h l).1)))] (Jm (!((Q5 h l).1)) (fun h4=>?_) (fun h4=>?_)))))))))
 refine Jg [0] [(4,I 2)] (Jo (Jj (Jp [0] [I 2] (Jy (Jh _) (congrArg I (?_:(K9 h l)=2).symm)))))
 exact Jo9 ‹_› hx1 ‹_› ‹_› ‹_›
 refine Jq (Jc (Jf (Jf (Jd (Jb [0,0] [(42,Sl (At b2 o1) l.length c_l),(43,Fv 123 #[Pt b1 0])] (Qu (b:=b1) (o:=0) (cs:=[I h.epoch,U h.root,U h.prev,I h.at_]) 0 (fun G1 hl1 hz1=>Jl 44 (Bo (l.any (fun x0=>Yr x0 h))) (JfZ G1 (At b2 o1) c_l l (h_l.mono hl1) 123 #[Pt b1 0] (fun x0=>Yr x0 h) (fun _ _=>by kernel_rfl) (fun vs0 x0 hx0=>by obtain ⟨rfl,w9,w10,w11,w12⟩:=hx0;exact JdU G1 [I x0.epoch,U x0.root,U x0.prev,I x0.at_] x0 (⟨rfl,w9,w10,w11,w12⟩) [I h.epoch,U h.root,U h.prev,I h.at_] h (⟨rfl,w1,w2,w3,w4⟩) b1 hz1)) (Je (Jc (Jm (l.any (fun x0=>Yr x0 h)) (fun h5=>?_) (fun h5=>?_)))))))))))
 refine Jg [0] [(4,I 3)] (Jo (Jj (Jp [0] [I 3] (Jy hl1 (congrArg I (?_:(K9 h l)=3).symm)))))
 · (rw [Jbp ‹_› hx1 ‹_› (by exact .inr ‹_›)];(rw [if_pos ‹_›];done))
 refine Jq (Jc (Jf (Jf ?_)))
 have e3:Ha.wrap ((l.length:Int)-1)=((l.length-1:Nat):Int):=(Hh _ (by (have q_:=(Qd.1 ‹_›);have q1_:=q_.len1;have q2_:=q_.len;omega))).trans (show (l.length:Int)-1=((l.length-1:Nat):Int) by (have q_:=(Qd.1 ‹_›);have q1_:=q_.len1;have q2_:=q_.len;omega))
 obtain ⟨x2,hx2⟩:=QW (l:=l) (k:=l.length-1) (by (have q_:=(Qd.1 ‹_›);have q1_:=q_.len1;have q2_:=q_.len;omega))
 obtain ⟨_,⟨rfl,_,_,_,_⟩,hc2⟩:=RS.get (h_l.mono hl1) hx2
 refine Kt [] (Wz [(0,Sl (At b2 o1) l.length c_l),(1,Sl (At b2 o1) l.length c_l),(2,I (l.length:Int)),(3,I ((l.length-1:Nat):Int)),(4,Pt b2 (o1+(l.length-1)*4)),(5,Pt b2 (o1+(l.length-1)*4)),(6,I x2.epoch),(7,Pt b1 0),(8,I h.epoch),(9,Bo (decide (x2.epoch≤h.epoch)))] (Kq [] [(0,0),(1,0),(2,0),(5,0),(7,0),(9,0)] [3,4,6,8] [(54,Bo (decide (x2.epoch≤h.epoch)))] (Kb ?_ (Kb ?_ (Kb ?_ (Kb ?_ K4)))) ?_))
 refine Jr 3 48 (I ((l.length-1:Nat):Int)) [(47,I (l.length:Int))] (fun X=>?_)
 exact Qc 48 (I (Ha.wrap ((l.length:Int)-1))) (I ((l.length-1:Nat):Int)) (by simp only [e3]) Jn
 refine Jr 4 49 (Pt b2 (o1+(l.length-1)*4)) [(45,Sl (At b2 o1) l.length c_l),(48,I ((l.length-1:Nat):Int))] (fun X=>?_)
 exact JY (b:=b2) (off:=o1) (len:=l.length) (cap:=c_l) (ik:=.i64) 49 43 4 (l.length-1) (by (have q_:=(Qd.1 ‹_›);have q1_:=q_.len1;have q2_:=q_.len;omega)) Jn
 refine Jr 6 51 (I x2.epoch) [(50,Pt b2 (o1+(l.length-1)*4))] (fun X=>?_)
 exact JR 51 2 (cs:=[I x2.epoch,U x2.root,U x2.prev,I x2.at_]) 0 (I x2.epoch) hc2 Jn
 refine Jr 8 53 (I h.epoch) [(52,Pt b1 0)] (fun X=>?_)
 exact JR (o':=0) 53 2 (cs:=[I h.epoch,U h.root,U h.prev,I h.at_]) 0 (I h.epoch) hz1 Jn
 refine Jc (Jm (decide (x2.epoch≤h.epoch)) (fun h6=>?_) (fun h6=>?_))
 refine Jg [0] [(4,I 1)] (Jo (Jj (Jp [0] [I 1] (Jy hl1 (congrArg I (?_:(K9 h l)=1).symm)))))
 · (rw [Jbp ‹_› hx1 ‹_› (by exact .inr ‹_›)];(have el_:=WN (l:=l) (k:=l.length-1) rfl ‹_›;subst el_;rw [if_neg (by simp_all)];(rw [if_pos ‹_›];done)))
 refine Jq (Jc (Jg [0] [(4,I 0)] (Jo (Jp [0] [I 0] (Jy hl1 (congrArg I (?_:(K9 h l)=0).symm))))))
 · (rw [Jbp ‹_› hx1 ‹_› (by exact .inr ‹_›)];(have el_:=WN (l:=l) (k:=l.length-1) rfl ‹_›;subst el_;rw [if_neg (by simp_all)];(rw [if_neg (by omega)];done)))
 refine Jq (Jc (Jf (Jf (Jd (Jb [0,0] [(42,Sl (At b2 o1) l.length c_l),(43,Fv 123 #[Pt b1 0])] (Qu (b:=b1) (o:=0) (cs:=[I h.epoch,U h.root,U h.prev,I h.at_]) 0 (fun G2 hl2 hz2=>Jl 44 (Bo (l.any (fun x0=>Yr x0 h))) (JfZ G2 (At b2 o1) c_l l (h_l.mono hl2) 123 #[Pt b1 0] (fun x0=>Yr x0 h) (fun _ _=>by kernel_rfl) (fun vs0 x0 hx0=>by obtain ⟨rfl,w17,w18,w19,w20⟩:=hx0;exact JdU G2 [I x0.epoch,U x0.root,U x0.prev,I x0.at_] x0 (⟨rfl,w17,w18,w19,w20⟩) [I h.epoch,U h.root,U h.prev,I h.at_] h (⟨rfl,w1,w2,w3,w4⟩) b1 hz2)) (Je (Jc (Jm (l.any (fun x0=>Yr x0 h)) (fun h7=>?_) (fun h7=>?_)))))))))))
 refine Jg [0] [(4,I 3)] (Jo (Jj (Jp [0] [I 3] (Jy hl2 (congrArg I (?_:(K9 h l)=3).symm)))))
 · (rw [Jbp ‹_› hx1 ‹_› (by exact .inl ‹_›)];(rw [if_pos ‹_›];done))
 refine Jq (Jc (Jf (Jf ?_)))
 have e4:Ha.wrap ((l.length:Int)-1)=((l.length-1:Nat):Int):=(Hh _ (by (have q_:=(Qd.1 ‹_›);have q1_:=q_.len1;have q2_:=q_.len;omega))).trans (show (l.length:Int)-1=((l.length-1:Nat):Int) by (have q_:=(Qd.1 ‹_›);have q1_:=q_.len1;have q2_:=q_.len;omega))
 obtain ⟨x3,hx3⟩:=QW (l:=l) (k:=l.length-1) (by (have q_:=(Qd.1 ‹_›);have q1_:=q_.len1;have q2_:=q_.len;omega))
 obtain ⟨_,⟨rfl,_,_,_,_⟩,hc3⟩:=RS.get (h_l.mono hl2) hx3
 refine Kt [] (Wz [(0,Sl (At b2 o1) l.length c_l),(1,Sl (At b2 o1) l.length c_l),(2,I (l.length:Int)),(3,I ((l.length-1:Nat):Int)),(4,Pt b2 (o1+(l.length-1)*4)),(5,Pt b2 (o1+(l.length-1)*4)),(6,I x3.epoch),(7,Pt b1 0),(8,I h.epoch),(9,Bo (decide (x3.epoch≤h.epoch)))] (Kq [] [(0,0),(1,0),(2,0),(5,0),(7,0),(9,0)] [3,4,6,8] [(54,Bo (decide (x3.epoch≤h.epoch)))] (Kb ?_ (Kb ?_ (Kb ?_ (Kb ?_ K4)))) ?_))
 refine Jr 3 48 (I ((l.length-1:Nat):Int)) [(47,I (l.length:Int))] (fun X=>?_)
 exact Qc 48 (I (Ha.wrap ((l.length:Int)-1))) (I ((l.length-1:Nat):Int)) (by simp only [e4]) Jn
 refine Jr 4 49 (Pt b2 (o1+(l.length-1)*4)) [(45,Sl (At b2 o1) l.length c_l),(48,I ((l.length-1:Nat):Int))] (fun X=>?_)
 exact JY (b:=b2) (off:=o1) (len:=l.length) (cap:=c_l) (ik:=.i64) 49 43 4 (l.length-1) (by (have q_:=(Qd.1 ‹_›);have q1_:=q_.len1;have q2_:=q_.len;omega)) Jn
 refine Jr 6 51 (I x3.epoch) [(50,Pt b2 (o1+(l.length-1)*4))] (fun X=>?_)
 exact JR 51 2 (cs:=[I x3.epoch,U x3.root,U x3.prev,I x3.at_]) 0 (I x3.epoch) hc3 Jn
 refine Jr 8 53 (I h.epoch) [(52,Pt b1 0)] (fun X=>?_)
 exact JR (o':=0) 53 2 (cs:=[I h.epoch,U h.root,U h.prev,I h.at_]) 0 (I h.epoch) hz2 Jn
 refine Jc (Jm (decide (x3.epoch≤h.epoch)) (fun h8=>?_) (fun h8=>?_))
 refine Jg [0] [(4,I 1)] (Jo (Jj (Jp [0] [I 1] (Jy hl2 (congrArg I (?_:(K9 h l)=1).symm)))))
 · (rw [Jbp ‹_› hx1 ‹_› (by exact .inl ‹_›)];(have el_:=WN (l:=l) (k:=l.length-1) rfl ‹_›;subst el_;rw [if_neg (by simp_all)];(rw [if_pos ‹_›];done)))
 refine Jq (Jc (Jg [0] [(4,I 0)] (Jo (Jp [0] [I 0] (Jy hl2 (congrArg I (?_:(K9 h l)=0).symm))))))
 · (rw [Jbp ‹_› hx1 ‹_› (by exact .inl ‹_›)];(have el_:=WN (l:=l) (k:=l.length-1) rfl ‹_›;subst el_;rw [if_neg (by simp_all)];(rw [if_neg (by omega)];done)))
theorem JjH (G:J4) (vs_o:Bv) (o:Qh) (h_o:QG.R G vs_o o) :YL 39 #[.agg vs_o.toArray] G [] (fun u G' L'=>∃ (a1:Ba) (c2:Nat),u=.agg #[Sr o.name,U o.key,I o.head.epoch,U o.head.root,U o.head.prev,I o.head.at_,Sl a1 o.wanted.length c2,I o.had]∧((o.name).length≤140737488351232)∧(rU o.key)∧(rI o.head.epoch)∧(rU o.head.root)∧(rU o.head.prev)∧(rI o.head.at_)∧(RS ES G' a1 c2 o.wanted)∧(rI o.had)∧L'=[]):=by
 obtain ⟨a1,c1,rfl,w1,w2,w3,w4,w5,w6,hs1,w7⟩:=h_o
 refine JS Tryz.func39 8 [(0,(KF o a1 c1))] rfl (fun w0 G0=>?_)
 refine Jf (Jd (Jv 1 #[Sr o.name,U o.key,I o.head.epoch,U o.head.root,U o.head.prev,I o.head.at_,Sl a1 o.wanted.length c1,I o.had] 76 (fun b1=>Jv 2 #[Sr ([]),U 0,I 0,U 0,U 0,I 0,Sl none 0 0,I 0] 76 (fun b2=>Je (Jc (Jf (Jd (Jb [0,4] [(4,Sl a1 o.wanted.length c1)] (JM 5 (JcA G a1 c1 o.wanted hs1) (fun v G1 L1 hl1 hp=>?_))))))))))
 obtain ⟨a2,c2,r1,rfl,hr1,rfl⟩:=hp
 refine JX [0,7] [] [r1,[Sg b2 0 [Sr ([]),U 0,I 0,U 0,U 0,I 0,Sl none 0 0,I 0]],[Sg b1 0 (KT o a2 c2)]] (Je (Jc (QF [6,5] [] [r1,[Sg b2 0 (KT o a2 c2)],[Sg b1 0 (KT o a2 c2)]] (Jo (Wm (E:=ES) 0 hr1 (by exact (hs1).fit) (fun G2 hl2 hs2=>?_))))))
 have hf1:o=o:=by
  rfl
 refine Jp [1] [(KF o a2 c2)] (JB [] (Ja hl1 hl2) ?_)
 rw [hf1]
 try dsimp only
 exact ⟨a2,c2,rfl,w1,w2,w3,w4,w5,w6,hs2,w7,rfl⟩
set_option maxRecDepth 20000 in
theorem Jex (G:J4) (vs_o:Bv) (o:Qh) (h_o:QG.R G vs_o o) (a_l:Ba) (c_l:Nat) (l:List JV) (h_l:RS KG G a_l c_l l) (vs_r:Bv) (r:QL) (h_r:JkF.R G vs_r r) (ho:Kd o=0):Q7 40 #[.agg vs_o.toArray,Sl a_l l.length c_l,.agg vs_r.toArray] G (.tuple #[I ((J2 o l r).1),I ((J2 o l r).2)]):=by
 obtain ⟨a1,c1,rfl,_,_,w3,w4,w5,w6,hs1,_⟩:=h_o
 obtain ⟨a2,c2,a3,c3,rfl,w8,w9,w10,w11,w12,hs2,hs3⟩:=h_r
 refine JS Tryz.func40 76 [(0,(KF o a1 c1)),(1,Sl a_l l.length c_l),(2,(W2 r a2 c2 a3 c3))] rfl (fun w0 G0=>?_)
 refine Jf (Jd (Jv 3 #[Sr o.name,U o.key,I o.head.epoch,U o.head.root,U o.head.prev,I o.head.at_,Sl a1 o.wanted.length c1,I o.had] 76 (fun b1=>Jv 5 #[I r.head.epoch,U r.head.root,U r.head.prev,I r.head.at_,Sr r.proof.name,Sl a2 r.proof.entries.length c2,Sl a3 r.proof.sides.length c3] 49 (fun b2=>Jb [0,0] [] (Je (Jc (Jf (Jf (Jd (Jb [0,4,0] [(15,.agg #[I o.head.epoch,U o.head.root,U o.head.prev,I o.head.at_]),(16,Sl a_l l.length c_l)] (Jl 17 (I (K9 o.head l)) (Jgc G [I o.head.epoch,U o.head.root,U o.head.prev,I o.head.at_] o.head (⟨rfl,w3,w4,w5,w6⟩) a_l c_l l h_l (K8.1 ho).2.1) (Jb [0] [(8,I (K9 o.head l))] (Je (Jc (Jg [0,0] [(19,Bo (!decide (K9 o.head l=0)))] (Jm (!decide (K9 o.head l=0)) (fun h1=>?_) (fun h1=>?_)))))))))))))))))
 refine Jg [0,0,0] [(6,I (K9 o.head l)),(7,I 0)] (Jo (Jj (Jp [0,0] [I (K9 o.head l),I 0] (Jy (Jh _) ?_))))
 have hf_:(J2 o l r)=((K9 o.head l),0):=by
  (unfold J2;rw [if_pos ‹_›];done)
 · (try rw [hf_]);(simp only [QD];done)
 refine Jq (Jc (Jf (Jd (Jb [2] [(22,(W2 r a2 c2 a3 c3))] (JM 23 (JcU G (ZO r a2 c2 a3 c3) r (⟨a2,c2,a3,c3,rfl,w8,w9,w10,w11,w12,hs2,hs3⟩)) (fun v G1 L1 hl1 hp=>?_))))))
 obtain ⟨rfl,_,rfl⟩:=hp
 refine Jb [0,0,0,0,0,0,0] [(9,Sr ((JF r).1)),(10,Bo ((JF r).2.1)),(11,I ((JF r).2.2))] (Je (Jc (Jf (Jx (Jf ?_)))))
 rcases Hr (!decide ((JF r).2.2=0)) with h2 | h2
 have h2d:=h2
 try simp only [BB] at h2d
 refine Kt [] (Wz [(0,I ((JF r).2.2)),(1,Bo true),(2,Bo true),(3,undef),(4,undef),(5,undef),(6,undef),(7,undef),(8,undef),(9,undef),(10,undef),(11,undef),(12,Bo true),(13,Bo true),(14,undef),(15,undef),(16,undef),(17,undef),(18,undef),(19,undef),(20,Bo true),(21,Bo true)] (Kq [] [(0,0),(2,0),(3,1),(4,1),(5,1),(6,1),(7,1),(8,1),(9,1),(10,1),(11,1),(12,0),(13,0),(14,1),(15,1),(16,1),(17,1),(18,1),(19,1),(20,0),(21,0)] [1] [(3,Pt b1 0),(9,Sr ((JF r).1)),(10,Bo ((JF r).2.1)),(27,Bo true)] (Kb ?_ K4) ?_))
 refine Jr 1 29 (Bo true) [(28,I ((JF r).2.2))] (fun X=>?_)
 exact Qc 29 (Bo (!decide ((JF r).2.2=0))) (Bo true) (by rw [h2]) Jn
 refine Jc (JZ (Jg [0,0] [(6,I 4),(7,I 0)] (Jo (Ju (Jj (Jp [0,0] [I 4,I 0] (Jy hl1 ?_)))))))
 have hf_:(J2 o l r)=(4,0):=by
  exact Jix ‹_› (.inl (.inl ‹_›))
 · (try rw [hf_]);(simp only [QD];done)
 have h2d:=h2
 try simp only [BB] at h2d
 have e1:Ha.wrap ((l.length:Int)-1)=((l.length-1:Nat):Int):=(Hh _ (by (have q_:=(YU ‹_›).1;have q1_:=q_.len1;have q2_:=q_.len;omega))).trans (show (l.length:Int)-1=((l.length-1:Nat):Int) by (have q_:=(YU ‹_›).1;have q1_:=q_.len1;have q2_:=q_.len;omega))
 obtain ⟨b3,o1,rfl⟩:=RS.addr (h_l.mono hl1) (k:=l.length-1) (by (have q_:=(YU ‹_›).1;have q1_:=q_.len1;have q2_:=q_.len;omega))
 obtain ⟨x1,hx1⟩:=QW (l:=l) (k:=l.length-1) (by (have q_:=(YU ‹_›).1;have q1_:=q_.len1;have q2_:=q_.len;omega))
 obtain ⟨_,⟨rfl,_,_,_,_⟩,hc1⟩:=RS.get (h_l.mono hl1) hx1
 rcases Hr (!(decide (r.head.epoch=x1.epoch) && decide (r.head.root=x1.root) && decide (r.head.prev=x1.prev) && decide (r.head.at_=x1.at_))) with h3 | h3
 have h3d:=h3
 try simp only [BB] at h3d
 have e2:Ha.wrap ((l.length:Int)-1)=((l.length-1:Nat):Int):=(Hh _ (by (have q_:=(YU ‹_›).1;have q1_:=q_.len1;have q2_:=q_.len;omega))).trans (show (l.length:Int)-1=((l.length-1:Nat):Int) by (have q_:=(YU ‹_›).1;have q1_:=q_.len1;have q2_:=q_.len;omega))
 refine Kt [] (Wz [(0,I ((JF r).2.2)),(1,Bo false),(2,Bo false),(3,Pt b2 0),(4,.agg #[I r.head.epoch,U r.head.root,U r.head.prev,I r.head.at_]),(5,Sl (At b3 o1) l.length c_l),(6,Sl (At b3 o1) l.length c_l),(7,I (l.length:Int)),(8,I ((l.length-1:Nat):Int)),(9,Pt b3 (o1+(l.length-1)*4)),(10,.agg #[I x1.epoch,U x1.root,U x1.prev,I x1.at_]),(11,Bo (!(decide (r.head.epoch=x1.epoch) && decide (r.head.root=x1.root) && decide (r.head.prev=x1.prev) && decide (r.head.at_=x1.at_)))),(12,Bo true),(13,Bo true),(14,undef),(15,undef),(16,undef),(17,undef),(18,undef),(19,undef),(20,Bo true),(21,Bo true)] (Kq [] [(0,0),(2,0),(3,0),(4,2),(5,0),(6,0),(7,0),(13,0),(14,1),(15,1),(16,1),(17,1),(18,1),(19,1),(20,0),(21,0)] [1,8,9,10,11,12] [(3,Pt b1 0),(9,Sr ((JF r).1)),(10,Bo ((JF r).2.1)),(27,Bo true)] (Kb ?_ (Kb ?_ (Kb ?_ (Kb ?_ (Kb ?_ (Kb ?_ K4)))))) ?_))
 refine Jr 1 29 (Bo false) [(28,I ((JF r).2.2))] (fun X=>?_)
 exact Qc 29 (Bo (!decide ((JF r).2.2=0))) (Bo false) (by rw [h2]) Jn
 refine Jr 8 36 (I ((l.length-1:Nat):Int)) [(30,Bo false),(35,I (l.length:Int))] (fun X=>?_)
 exact Qc 36 (I (Ha.wrap ((l.length:Int)-1))) (I ((l.length-1:Nat):Int)) (by simp only [e2]) Jn
 refine Jr 9 37 (Pt b3 (o1+(l.length-1)*4)) [(30,Bo false),(33,Sl (At b3 o1) l.length c_l),(36,I ((l.length-1:Nat):Int))] (fun X=>?_)
 exact JY (b:=b3) (off:=o1) (len:=l.length) (cap:=c_l) (ik:=.i64) 37 43 4 (l.length-1) (by (have q_:=(YU ‹_›).1;have q1_:=q_.len1;have q2_:=q_.len;omega)) Jn
 refine Jr 10 38 (.agg #[I x1.epoch,U x1.root,U x1.prev,I x1.at_]) [(30,Bo false),(37,Pt b3 (o1+(l.length-1)*4))] (fun X=>?_)
 exact JR 38 43 (cs:=[I x1.epoch,U x1.root,U x1.prev,I x1.at_]) 0 (.agg #[I x1.epoch,U x1.root,U x1.prev,I x1.at_]) hc1 Jn
 refine Jr 11 39 (Bo (!(decide (r.head.epoch=x1.epoch) && decide (r.head.root=x1.root) && decide (r.head.prev=x1.prev) && decide (r.head.at_=x1.at_)))) [(30,Bo false),(32,.agg #[I r.head.epoch,U r.head.root,U r.head.prev,I r.head.at_]),(38,.agg #[I x1.epoch,U x1.root,U x1.prev,I x1.at_])] (fun X=>?_)
 exact Jdv 39 (Bo (!(decide (r.head.epoch=x1.epoch) && (decide (r.head.root=x1.root) && (decide (r.head.prev=x1.prev) && (decide (r.head.at_=x1.at_) && true)))))) (Bo (!(decide (r.head.epoch=x1.epoch) && decide (r.head.root=x1.root) && decide (r.head.prev=x1.prev) && decide (r.head.at_=x1.at_)))) (by simp [QT,HO]) Jn
 refine Jr 12 40 (Bo true) [(30,Bo false),(39,Bo (!(decide (r.head.epoch=x1.epoch) && decide (r.head.root=x1.root) && decide (r.head.prev=x1.prev) && decide (r.head.at_=x1.at_))))] (fun X=>?_)
 exact Qc 40 (Bo (!(decide (r.head.epoch=x1.epoch) && decide (r.head.root=x1.root) && decide (r.head.prev=x1.prev) && decide (r.head.at_=x1.at_)))) (Bo true) (by rw [h3]) Jn
 refine Jc (JZ (Jg [0,0] [(6,I 4),(7,I 0)] (Jo (Ju (Jj (Jp [0,0] [I 4,I 0] (Jy hl1 ?_)))))))
 have hf_:(J2 o l r)=(4,0):=by
  exact Jix ‹_› (.inl (.inr ⟨_,hx1,by assumption⟩))
 · (try rw [hf_]);(simp only [QD];done)
 have h3d:=h3
 try simp only [BB] at h3d
 have e3:Ha.wrap ((l.length:Int)-1)=((l.length-1:Nat):Int):=(Hh _ (by (have q_:=(YU ‹_›).1;have q1_:=q_.len1;have q2_:=q_.len;omega))).trans (show (l.length:Int)-1=((l.length-1:Nat):Int) by (have q_:=(YU ‹_›).1;have q1_:=q_.len1;have q2_:=q_.len;omega))
 refine Kt [] (Wz [(0,I ((JF r).2.2)),(1,Bo false),(2,Bo false),(3,Pt b2 0),(4,.agg #[I r.head.epoch,U r.head.root,U r.head.prev,I r.head.at_]),(5,Sl (At b3 o1) l.length c_l),(6,Sl (At b3 o1) l.length c_l),(7,I (l.length:Int)),(8,I ((l.length-1:Nat):Int)),(9,Pt b3 (o1+(l.length-1)*4)),(10,.agg #[I x1.epoch,U x1.root,U x1.prev,I x1.at_]),(11,Bo (!(decide (r.head.epoch=x1.epoch) && decide (r.head.root=x1.root) && decide (r.head.prev=x1.prev) && decide (r.head.at_=x1.at_)))),(12,Bo false),(13,Bo false),(14,Pt b2 4),(15,Pt b2 4),(16,Sr r.proof.name),(17,Pt b1 0),(18,Sr o.name),(19,Bo (!((B r.proof.name).toList == (B o.name).toList))),(20,Bo (!((B r.proof.name).toList == (B o.name).toList))),(21,Bo (!((B r.proof.name).toList == (B o.name).toList)))] (Kq [] [(0,0),(2,0),(3,0),(4,2),(5,0),(6,0),(7,0),(13,0),(14,0),(15,0),(16,2),(17,0),(18,4),(19,0),(20,0),(21,0)] [1,8,9,10,11,12] [(3,Pt b1 0),(9,Sr ((JF r).1)),(10,Bo ((JF r).2.1)),(27,Bo (!((B r.proof.name).toList == (B o.name).toList)))] (Kb ?_ (Kb ?_ (Kb ?_ (Kb ?_ (Kb ?_ (Kb ?_ K4)))))) ?_))
 refine Jr 1 29 (Bo false) [(28,I ((JF r).2.2))] (fun X=>?_)
 exact Qc 29 (Bo (!decide ((JF r).2.2=0))) (Bo false) (by rw [h2]) Jn
 refine Jr 8 36 (I ((l.length-1:Nat):Int)) [(30,Bo false),(35,I (l.length:Int))] (fun X=>?_)
 exact Qc 36 (I (Ha.wrap ((l.length:Int)-1))) (I ((l.length-1:Nat):Int)) (by simp only [e3]) Jn
 refine Jr 9 37 (Pt b3 (o1+(l.length-1)*4)) [(30,Bo false),(33,Sl (At b3 o1) l.length c_l),(36,I ((l.length-1:Nat):Int))] (fun X=>?_)
 exact JY (b:=b3) (off:=o1) (len:=l.length) (cap:=c_l) (ik:=.i64) 37 43 4 (l.length-1) (by (have q_:=(YU ‹_›).1;have q1_:=q_.len1;have q2_:=q_.len;omega)) Jn
 refine Jr 10 38 (.agg #[I x1.epoch,U x1.root,U x1.prev,I x1.at_]) [(30,Bo false),(37,Pt b3 (o1+(l.length-1)*4))] (fun X=>?_)
 exact JR 38 43 (cs:=[I x1.epoch,U x1.root,U x1.prev,I x1.at_]) 0 (.agg #[I x1.epoch,U x1.root,U x1.prev,I x1.at_]) hc1 Jn
 refine Jr 11 39 (Bo (!(decide (r.head.epoch=x1.epoch) && decide (r.head.root=x1.root) && decide (r.head.prev=x1.prev) && decide (r.head.at_=x1.at_)))) [(30,Bo false),(32,.agg #[I r.head.epoch,U r.head.root,U r.head.prev,I r.head.at_]),(38,.agg #[I x1.epoch,U x1.root,U x1.prev,I x1.at_])] (fun X=>?_)
 exact Jdv 39 (Bo (!(decide (r.head.epoch=x1.epoch) && (decide (r.head.root=x1.root) && (decide (r.head.prev=x1.prev) && (decide (r.head.at_=x1.at_) && true)))))) (Bo (!(decide (r.head.epoch=x1.epoch) && decide (r.head.root=x1.root) && decide (r.head.prev=x1.prev) && decide (r.head.at_=x1.at_)))) (by simp [QT,HO]) Jn
 refine Jr 12 40 (Bo false) [(30,Bo false),(39,Bo (!(decide (r.head.epoch=x1.epoch) && decide (r.head.root=x1.root) && decide (r.head.prev=x1.prev) && decide (r.head.at_=x1.at_))))] (fun X=>?_)
 exact Qc 40 (Bo (!(decide (r.head.epoch=x1.epoch) && decide (r.head.root=x1.root) && decide (r.head.prev=x1.prev) && decide (r.head.at_=x1.at_)))) (Bo false) (by rw [h3]) Jn
 refine Jc6 27 (Bo (!(r.proof.name == o.name))) (show (Bo (!((B r.proof.name).toList == (B o.name).toList)):Value)=Bo (!(r.proof.name == o.name)) by simp only [QT]) (Jc (Jm (!(r.proof.name == o.name)) (fun h4=>?_) (fun h4=>?_)))
 refine Jg [0,0] [(6,I 4),(7,I 0)] (Jo (Ju (Jj (Jp [0,0] [I 4,I 0] (Jy hl1 ?_)))))
 have hf_:(J2 o l r)=(4,0):=by
  exact Jix ‹_› (.inr ‹_›)
 · (try rw [hf_]);(simp only [QD];done)
 refine Jf (Jd (Jb [0,0,0] [(52,Bo (!((JF r).2.1)))] (Kk (!((JF r).2.1)) [52] [0,4,0,0] [1,1,1,0] (fun bb=>[(56,Bo (bb && (decide (o.had > 0))))]) (Jb [0] [(49,Bo ((!((JF r).2.1)) && (decide (o.had > 0))))] (Je (Jc (Jm ((!((JF r).2.1)) && (decide (o.had > 0))) (fun h5=>?_) (fun h5=>?_))))))))
 refine Jg [0,0] [(6,I 5),(7,I 0)] (Jo (Ju (Jj (Jp [0,0] [I 5,I 0] (Jy hl1 ?_)))))
 have hf_:(J2 o l r)=(5,0):=by
  (rw [JfC ‹_› ‹_› hx1 ‹_› ‹_›];(rw [if_pos ‹_›];done))
 · (try rw [hf_]);(simp only [QD];done)
 refine Jg [0,0,0] [(57,Bo (!((JF r).2.1)))] (Jm (!((JF r).2.1)) (fun h6=>?_) (fun h6=>?_))
 refine Jg [0,0] [(6,I 0),(7,I 0)] (Jo (Ju (Jj (Jp [0,0] [I 0,I 0] (Jy hl1 ?_)))))
 have hf_:(J2 o l r)=(0,0):=by
  (rw [JfC ‹_› ‹_› hx1 ‹_› ‹_›];(rw [if_neg (by simp_all)];(rw [if_pos ‹_›];done)))
 · (try rw [hf_]);(simp only [QD];done)
 refine Jq (JN (Jc (Jg [0,4,0,0,0] [(12,I (if 0 > (Ha.wrap (o.had-1)) then 0 else (Ha.wrap (o.had-1))))] ?_)))
 have e4:Ha.wrap (o.had-1)=o.had-1:=Hh _ (by (have q_:=K8.1 ho;omega))
 refine Wa 12 (I (if 0 > (o.had-1) then 0 else (o.had-1))) (show (I (if 0 > (Ha.wrap (o.had-1)) then 0 else (Ha.wrap (o.had-1))):Value)=I (if 0 > (o.had-1) then 0 else (o.had-1)) by simp only [e4]) ?_
 clear e4
 refine Jf (Jd (Jb [0,4,0] [(65,Sl a1 o.wanted.length c1),(66,I (if 0 > (o.had-1) then 0 else (o.had-1)))] ?_))
 obtain ⟨kn1,hkn1⟩:∃ k_:Nat,(if 0 > (o.had-1) then 0 else (o.had-1))=(k_:Int):=⟨(if 0 > (o.had-1) then 0 else (o.had-1)).toNat,by omega⟩
 have e5:(if 0 > (o.had-1) then 0 else (o.had-1))=(kn1:Int):=hkn1
 refine KE 12 (I (kn1:Int)) (congrArg I e5) (KE 66 (I (kn1:Int)) (congrArg I e5) ?_)
 obtain ⟨a4,c4,ea1,ec1,en1,eh1,hs4⟩:=RS.reslXD (hs1.mono hl1) kn1 (by (have q_:=K8.1 ho;omega))
 refine WQ (a:=a1) (len:=o.wanted.length) (cap:=c1) 67 1 (some (I (kn1:Int))) none kn1 o.wanted.length (.inr ⟨_,rfl⟩) (.inl ⟨rfl,rfl⟩) (by (have q_:=K8.1 ho;omega)) ea1 ec1 en1 eh1 (Jb [0] [(68,Sr ((JF r).1))] (Jl 69 (I (QK (fun x=>decide ((JF r).1=x)) (o.wanted.drop kn1))) (Jl3 G1 a4 c4 (o.wanted.drop kn1) hs4 ((JF r).1)) (Jb [0] [(13,I (QK (fun x=>decide ((JF r).1=x)) (o.wanted.drop kn1)))] (Je (Jc (Jf (Jg [0,0] [(71,Bo (decide (QK (fun x=>decide ((JF r).1=x)) (o.wanted.drop kn1)<0)))] (Jm (decide (QK (fun x=>decide ((JF r).1=x)) (o.wanted.drop kn1)<0)) (fun h7=>?_) (fun h7=>?_)))))))))
 refine Jg [0,0] [(6,I 6),(7,I 0)] (Jo (Jj (Jp [0,0] [I 6,I 0] (Jy hl1 ?_))))
 have hf_:(J2 o l r)=(6,0):=by
  (rw [JfC ‹_› ‹_› hx1 ‹_› ‹_›];(rw [if_neg (by simp_all)];(rw [if_neg (by simp_all)];obtain ⟨q1_,q2_⟩:=JjF (JF r).1 hkn1;rw [q1_,q2_];(rw [if_pos ‹_›];done))))
 · (try rw [hf_]);(simp only [QD];done)
 refine Jq (Jc (Jg [0,0,0,0,0,0] [(6,I 0),(7,I (Ha.wrap ((Ha.wrap ((kn1:Int)+(QK (fun x=>decide ((JF r).1=x)) (o.wanted.drop kn1))))+1)))] ?_))
 have e6:Ha.wrap ((kn1:Int)+(QK (fun x=>decide ((JF r).1=x)) (o.wanted.drop kn1)))=(kn1:Int)+(QK (fun x=>decide ((JF r).1=x)) (o.wanted.drop kn1)):=Hh _ (by (have q_:=K8.1 ho;have q1_:=Jme (fun x=>decide ((JF r).1=x)) (o.wanted.drop kn1);rw [Hy] at q1_;omega))
 have e7:Ha.wrap (((kn1:Int)+(QK (fun x=>decide ((JF r).1=x)) (o.wanted.drop kn1)))+1)=((kn1:Int)+(QK (fun x=>decide ((JF r).1=x)) (o.wanted.drop kn1)))+1:=Hh _ (by (have q_:=K8.1 ho;have q1_:=Jme (fun x=>decide ((JF r).1=x)) (o.wanted.drop kn1);rw [Hy] at q1_;omega))
 refine Wa 7 (I (((kn1:Int)+(QK (fun x=>decide ((JF r).1=x)) (o.wanted.drop kn1)))+1)) (show (I (Ha.wrap ((Ha.wrap ((kn1:Int)+(QK (fun x=>decide ((JF r).1=x)) (o.wanted.drop kn1))))+1)):Value)=I (((kn1:Int)+(QK (fun x=>decide ((JF r).1=x)) (o.wanted.drop kn1)))+1) by simp only [e6,e7]) ?_
 clear e7 e6
 refine Jo (Jp [0,0] [I 0,I (((kn1:Int)+(QK (fun x=>decide ((JF r).1=x)) (o.wanted.drop kn1)))+1)] (Jy hl1 ?_))
 have hf_:(J2 o l r)=(0,(((kn1:Int)+(QK (fun x=>decide ((JF r).1=x)) (o.wanted.drop kn1)))+1)):=by
  (rw [JfC ‹_› ‹_› hx1 ‹_› ‹_›];(rw [if_neg (by simp_all)];(rw [if_neg (by simp_all)];obtain ⟨q1_,q2_⟩:=JjF (JF r).1 hkn1;rw [q1_,q2_];(rw [if_neg (by omega)];done))))
 · (try rw [hf_]);(simp only [QD];done)
theorem JdV (G:J4) (vs_o:Bv) (o:Qh) (h_o:QG.R G vs_o o) (a_l:Ba) (c_l:Nat) (l:List JV) (h_l:RS KG G a_l c_l l) (vs_r:Bv) (r:QL) (h_r:JkF.R G vs_r r) :YL 23 #[.agg vs_o.toArray,Sl a_l l.length c_l,.agg vs_r.toArray] G [] (fun u G' L'=>∃ (a1:Ba) (c2:Nat),u=.tuple #[.agg #[Sr (((JD o l r).1).name),U (((JD o l r).1).key),I (((JD o l r).1).head.epoch),U (((JD o l r).1).head.root),U (((JD o l r).1).head.prev),I (((JD o l r).1).head.at_),Sl a1 ((((JD o l r).1).wanted).length) c2,I (((JD o l r).1).had)],I ((JD o l r).2.1),I ((JD o l r).2.2)]∧((((JD o l r).1).name).length≤140737488351232)∧(rU (((JD o l r).1).key))∧(rI (((JD o l r).1).head.epoch))∧(rU (((JD o l r).1).head.root))∧(rU (((JD o l r).1).head.prev))∧(rI (((JD o l r).1).head.at_))∧(RS ES G' a1 c2 (((JD o l r).1).wanted))∧(rI (((JD o l r).1).had))∧L'=[]):=by
 obtain ⟨a1,c1,rfl,w1,w2,w3,w4,w5,w6,hs1,w7⟩:=h_o
 obtain ⟨a2,c2,a3,c3,rfl,w8,w9,w10,w11,w12,hs2,hs3⟩:=h_r
 refine JS Tryz.func23 36 [(0,(KF o a1 c1)),(1,Sl a_l l.length c_l),(2,(W2 r a2 c2 a3 c3))] rfl (fun w0 G0=>?_)
 refine Jf (Jd (Jv 3 #[Sr o.name,U o.key,I o.head.epoch,U o.head.root,U o.head.prev,I o.head.at_,Sl a1 o.wanted.length c1,I o.had] 76 (fun b1=>Jv 5 #[I r.head.epoch,U r.head.root,U r.head.prev,I r.head.at_,Sr r.proof.name,Sl a2 r.proof.entries.length c2,Sl a3 r.proof.sides.length c3] 49 (fun b2=>Jv 6 #[Sr ([]),U 0,I 0,U 0,U 0,I 0,Sl none 0 0,I 0] 76 (fun b3=>Jb [0,0] [] (Je (Jc (Jf (Jf (Jd (Jb [6] [(12,(KF o a1 c1))] (Jl 13 (I (Kd o)) (JaQ G (KT o a1 c1) o (⟨a1,c1,rfl,w1,w2,w3,w4,w5,w6,hs1,w7⟩)) (Jb [0] [(9,I (Kd o))] (Je (Jc (Jg [0,0] [(15,Bo (!decide (Kd o=0)))] (Jm (!decide (Kd o=0)) (fun h1=>?_) (fun h1=>?_))))))))))))))))))
 refine Jg [0,0,3,0,0] [(7,I 0),(8,I (Kd o))] (Jo (Jj ?_))
 have hf1:JD o l r=((⟨[],0,(⟨0,0,0,0⟩:JV),[],0⟩:Qh),0,Kd o):=by
  unfold JD VZ ZF;simp_all
 refine Jp [0,0,0] [.agg #[Sr ([]),U 0,I 0,U 0,U 0,I 0,Sl none 0 0,I 0],I 0,I (Kd o)] (JB [] (Jh _) ?_)
 rw [hf1]
 try dsimp only
 exact ⟨none,0,rfl,(Hb rfl),J5,J5,J5,J5,J5,(JP ES G),J5,rfl⟩
 refine Jq (Jc (Jf (Jd (Jb [6] [(18,(KF o a1 c1))] (JM 19 (JjH G (KT o a1 c1) o (⟨a1,c1,rfl,w1,w2,w3,w4,w5,w6,hs1,w7⟩)) (fun v G1 L1 hl1 hp=>?_))))))
 obtain ⟨a4,c4,rfl,w13,w14,w15,w16,w17,w18,hs4,w19,rfl⟩:=hp
 refine JX [7] [] [[Sg b3 0 [Sr ([]),U 0,I 0,U 0,U 0,I 0,Sl none 0 0,I 0]],[Sg b2 0 (ZO r a2 c2 a3 c3)],[Sg b1 0 (KT o a4 c4)]] (Je (Jc (Jf (Jd (Jb [6,0,4] [(21,(KF o a4 c4)),(22,Sl a_l l.length c_l),(23,(W2 r a2 c2 a3 c3))] (Jl 24 (.tuple #[I ((J2 o l r).1),I ((J2 o l r).2)]) (Jex G1 (KT o a4 c4) o (⟨a4,c4,rfl,w13,w14,w15,w16,w17,w18,hs4,w19⟩) a_l c_l l (h_l.mono hl1) (ZO r a2 c2 a3 c3) r (⟨a2,c2,a3,c3,rfl,w8,w9,w10,w11,w12,(hs2.mono hl1),(hs3.mono hl1)⟩) ‹_›) (Jb [0,0,0,0,0] [(10,I ((J2 o l r).1)),(11,I ((J2 o l r).2))] (Je (Jc (Jf (Jg [0,0] [(28,Bo (decide ((J2 o l r).1=0)))] (Jm (decide ((J2 o l r).1=0)) (fun h2=>?_) (fun h2=>?_)))))))))))))
 refine Jd (JX [0,4,0,0,7,0,7] [] [[Sg b3 0 [Sr ([]),U 0,I 0,U 0,U 0,I 0,Sl none 0 0,I 0]],[Sg b2 0 (ZO r a2 c2 a3 c3)],[Sg b1 0 [Sr o.name,U o.key,I r.head.epoch,U r.head.root,U r.head.prev,I r.head.at_,Sl a4 o.wanted.length c4,I ((J2 o l r).2)]]] (Je (Jc (QF [6,0,3,0,0] [(7,I ((J2 o l r).1)),(8,I 0)] [[Sg b3 0 [Sr o.name,U o.key,I r.head.epoch,U r.head.root,U r.head.prev,I r.head.at_,Sl a4 o.wanted.length c4,I ((J2 o l r).2)]],[Sg b2 0 (ZO r a2 c2 a3 c3)],[Sg b1 0 [Sr o.name,U o.key,I r.head.epoch,U r.head.root,U r.head.prev,I r.head.at_,Sl a4 o.wanted.length c4,I ((J2 o l r).2)]]] (Jo ?_)))))
 have hf2:JD o l r=((⟨o.name,o.key,r.head,o.wanted,(J2 o l r).2⟩:Qh),(J2 o l r).1,0):=by
  unfold JD VZ ZF;simp_all
 refine Jp [0,0,0] [.agg #[Sr o.name,U o.key,I r.head.epoch,U r.head.root,U r.head.prev,I r.head.at_,Sl a4 o.wanted.length c4,I ((J2 o l r).2)],I ((J2 o l r).1),I 0] (JB [] hl1 ?_)
 rw [hf2]
 try dsimp only
 exact ⟨a4,c4,rfl,w13,w14,w8,w9,w10,w11,hs4,(by (have q_:=JdT ‹_› ‹_›;have q1_:=K8.1 ‹_›;omega)),rfl⟩
 refine Jq (Jc (QF [6,0,3,0,0] [(7,I ((J2 o l r).1)),(8,I 0)] [[Sg b3 0 (KT o a4 c4)],[Sg b2 0 (ZO r a2 c2 a3 c3)],[Sg b1 0 (KT o a4 c4)]] (Jo ?_)))
 have hf3:JD o l r=(o,(J2 o l r).1,0):=by
  unfold JD VZ ZF;simp_all
 refine Jp [0,0,0] [(KF o a4 c4),I ((J2 o l r).1),I 0] (JB [] hl1 ?_)
 rw [hf3]
 try dsimp only
 exact ⟨a4,c4,rfl,w13,w14,w15,w16,w17,w18,hs4,w19,rfl⟩
theorem Jgd {n v:Bb} (h:KK n v=0):n.length≤12∧v.length≤20∧KC n=true:=by
 unfold KK at h
 split at h
 · cases h
 rename_i h1
 split at h
 · cases h
 have h2:KC n=true:=by simpa using h1
 have:=(Jif.1 h2).2.1
 exact ⟨this,by omega,h2⟩
theorem JnB {l:List J3} {w:Bb} (h:Wd l) (hw:∀ x∈l,way x.name=w):Kc l=(KY l,0):=by
 unfold Kc
 rw [if_neg (by rw [ne_eq,Hj];exact KS.2 h),if_neg]
 rintro ⟨h1,h2⟩
 have e1:l[0]? = some (l[0]'(by omega)):=Hk _
 have e2:l[l.length-1]? = some (l[l.length-1]'(by omega)):=Hk _
 rw [← Jdg e1,← Jes e2,hw _ (Hl e1),hw _ (Hl e2)] at h2
 exact h2 rfl
theorem JhH (a b:Int):Ji (JgY a b)=if a=Jaf∧b=Jaf then Jaf else Ji (Qe 2 a b):=by
 have e:Ji Jf6=Jaf:=by unfold Jf6;rw [Jiu];rfl
 unfold JgY;rw [e];split
 · exact e
 · rfl
theorem Jpb (w:Bb):∀ (qs:List Int) (i:Nat) (s:Bb) (k:Nat),k≤qs.length→∃ a,(Ja8 w i s qs)[k]? = some a
 | qs,i,s,k,h=>⟨_,Hk (by rw [Ya];omega)⟩
theorem Jla (w:Bb) (qs:List Int) (s:Bb):(Ja8 w 0 s qs)[qs.length]? = some (JhF (Ja8 w 0 s qs)):=by
 obtain ⟨a,ha⟩:=Jpb w qs 0 s qs.length (HS _)
 rw [ha,JhG (by rw [Ya];omega) ha]
theorem JqK {p:Qy} (h:JdM p):K5 p=(Ja8 (way p.name) 0 (KY p.entries) p.sides,0):=by
 unfold K5
 rw [if_neg (by rw [ne_eq,Hj];exact We.2 h),JnB h.ents h.ways]
theorem Jmf {p:Qy} (h:JdM p):QZ p=(Ji (JhF (Ja8 (way p.name) 0 (KY p.entries) p.sides)),0):=by
 unfold QZ;rw [JqK h,if_neg (by simp)]
theorem JqL {root:Int} {p:Qy} (h:JdM p) (h2:(QZ p).1=root):Zk root p=Wx p.entries p.name:=by
 unfold Zk
 rw [if_neg]
 rw [Hj]
 unfold W9
 rw [if_neg (fun hc=>hc.2 h2),Jmf h]
theorem JjI {l:List J3} {p:Bb} {x:J3}:x∈Jba l p ↔ x∈l∧way x.name=p:=by unfold Jba;rw [List.mem_filter];simp
theorem Jmg {l:List J3} {p:Bb} (h:Wd l):Wd (Jba l p):=Jk8 h List.filter_sublist
theorem JnC {l:List J3} (h:Wd l) {x:J3} (hx:x∈l):(way x.name).length=16∧∀ b∈way x.name,isB b=true:=by
 have hn:=(Jgd (h.ok x hx)).2.2
 refine ⟨VX hn,?_⟩
 unfold way KJ;rw [if_neg (by rw [hn];simp)];exact Jdf x.name
theorem Jpc {p w:Bb} (h:p.length=w.length):p <+: w ↔ w=p:=by
 constructor
 · intro hp;exact (hp.eq_of_length h).symm
 · intro e;rw [e];exact List.prefix_refl _
theorem JnD {l:List J3} {p:Bb} (h:Wd l) (hp:p.length=16):KB l p=Jba l p:=by
 unfold KB Jba
 apply List.filter_congr
 intro x hx
 unfold JbH
 rw [Bool.not_not,Hw,decide_eq_true_eq,beq_iff_eq]
 exact Jpc (by rw [hp,(JnC h hx).1])
theorem Jcg (l:List J3) (q:Bb):0≤Wf l q∧Wf l q<2305843009213693951:=by
 unfold Wf
 generalize 16-q.length=n
 cases n with
 | zero=>exact QX _
 | succ n =>
  rw [atG]
  split
  · exact QX _
  split
  · exact QX _
  · exact QX _
theorem flip_B {b:UInt8} (h:isB b=true):isB (ZP b)=true:=by
 unfold isB at h;simp only [HZ,beq_iff_eq] at h
 rcases h with rfl | rfl <;> decide
structure Jpd (p:Bb):Prop where
 len:p.length=16
 bits:∀ b∈p,isB b=true
theorem Jmh {l:List J3} {p:Bb} {k:Nat} {y:UInt8} (h:Wd l) (hp:Jpd p) (hk:p[k]? = some y):Jga l p k=Wf (KB l (p.take k++[ZP y])) (p.take k++[ZP y]):=by
 have hk16:k<16:=by have:=(He.1 hk).1;rw [hp.len] at this;exact this
 unfold Jga
 rw [hk]
 show (JW l (p.take k++[ZP y])).1=_
 rw [JaO h (by simp;omega)]
 intro b hb
 rcases HA.1 hb with hb | hb
 · exact hp.bits b (HC hb)
 · rw [Hu] at hb;rw [hb];exact flip_B (hp.bits y (Hl hk))
theorem Jge {l:List J3} {p:Bb} {n i:Nat} (h:i<n):(Vp l p n)[i]? = some (Jga l p (15-i)):=by
 unfold Vp;simp [h]
theorem JjJ {l:List J3} {p:Bb} (h:Wd l) (hp:Jpd p):∀ i,i≤16→∃ s,(Ja8 p 0 (KY (Jba l p)) (Vp l p 16))[i]? = some s∧Ji s=Wf (KB l (p.take (16-i))) (p.take (16-i))
 | 0,_=>⟨_,Jk1 _ _ _ _,by
   rw [Nat.sub_zero,Ht (by rw [hp.len];exact HS _),JnD h hp.len,Jcc (.inr (by rw [hp.len];rfl))]⟩
 | i+1,hi=>by
  obtain ⟨s,hs,hm⟩:=JjJ h hp i (by omega)
  have hy:p[15-i]? = some (p[15-i]'(by rw [hp.len];omega)):=Hk _
  generalize p[15-i]'(by rw [hp.len];omega)=y at hy
  have hs2:=Jet p (Vp l p 16) 0 i _ s _ hs (Jge (by omega))
  rw [HX] at hs2
  refine ⟨_,hs2,?_⟩
  have e1:p.take (16-i)=p.take (15-i)++[y]:=by rw [show 16-i=15-i+1 by omega,Hp,hy];rfl
  rw [show 16-(i+1)=15-i by omega,Jiv (by rw [Hg,hp.len];omega)]
  rw [e1] at hm
  have hsd:=Jmh h hp hy
  have hyb:=hp.bits y (Hl hy)
  unfold isB at hyb
  simp only [HZ,beq_iff_eq] at hyb
  unfold VS
  rcases hyb with rfl | rfl
  · rw [hy,if_neg (by decide),JhH,hm,hsd,show ZP 48=49 by decide]
  · rw [hy,if_pos rfl,JhH,hm,hsd,show ZP 49=48 by decide]
theorem Jpe {name:Bb} (h:KC name=true):Jpd (way name):=⟨VX h,by unfold way KJ;rw [if_neg (by rw [h];simp)];exact Jdf name⟩
def Jgf (l:List J3) (name:Bb):Qy:=⟨name,Jba l (way name),Vp l (way name) 16⟩
theorem Jpf {l:List J3} {name:Bb} (h:Wd l) (hn:KC name=true):JdM (Jgf l name):=by
 refine ⟨hn,Jmg h,fun x hx=>(JjI.1 hx).2,VY _ _ _,fun m hm=>?_⟩
 have hm:m∈Vp l (way name) 16:=hm
 obtain ⟨i,hi⟩:=Hx hm
 have hlt:=(He.1 hi).1
 rw [VY] at hlt
 rw [Jge hlt] at hi
 have hp:=Jpe hn
 have hy:(way name)[15-i]? = some ((way name)[15-i]'(by rw [hp.len];omega)):=Hk _
 rw [← Hq.inj hi,Jmh h hp hy]
 exact (Jcg _ _).2
theorem Jpg {l:List J3} {name:Bb} (h:Wd l) (hn:KC name=true):QZ (Jgf l name)=JW l []:=by
 have hp:=Jpe hn
 rw [Jmf (Jpf h hn),JaO h (by simp) (by simp)]
 obtain ⟨s,hs,hm⟩:=JjJ h hp 16 (HS _)
 have hl:=Jla (way name) (Vp l (way name) 16) (KY (Jba l (way name)))
 rw [VY,hs] at hl
 have hl:=Hq.inj hl
 show (Ji (JhF (Ja8 (way name) 0 (KY (Jba l (way name))) (Vp l (way name) 16))),0)=_
 rw [← hl,hm];rfl
theorem JqM {l:List J3} {name:Bb} (h:(KU l name).2=0):Wd l∧KC name=true∧(KU l name).1=Jgf l name:=by
 unfold KU at h ⊢
 split at h
 · contradiction
 rename_i h1
 split at h
 · contradiction
 rename_i h2
 rw [if_neg h1,if_neg h2]
 refine ⟨KS.1 (Hj.1 h1),?_,rfl⟩
 have h2:=Hj.1 h2
 unfold KJ at h2;split at h2
 · cases h2
 · rename_i hc;simpa using hc
theorem JqN {l:List J3} {name:Bb} (h:Wd l) (hn:KC name=true):Wx (Jba l (way name)) name=Wx l name∧(Wx l name).2.2=0:=by
 refine ⟨JkU (Jmg h) h fun y hy=>?_,?_⟩
 · rw [JjI];exact ⟨fun hc=>hc.1,fun hc=>⟨hc,by rw [hy]⟩⟩
 ·
  by_cases hx:∃ x∈l,x.name=name
  · obtain ⟨x,hx,rfl⟩:=hx;rw [JbE h hx hn]
  · rw [Jde h hn (fun y hy e=>hx ⟨y,hy,e⟩)]
theorem JnE {l:List J3} {name:Bb} (h:(KU l name).2=0):(JW l []).2=0∧Zk (JW l []).1 (KU l name).1=Wx l name∧(Wx l name).2.2=0∧QM (KU l name).1=0:=by
 obtain ⟨h1,h2,h3⟩:=JqM h
 have h4:=Jpf h1 h2
 have h5:=JqN h1 h2
 rw [h3]
 refine ⟨by rw [JaO h1 (by simp) (by simp)],?_,h5.2,We.2 h4⟩
 rw [JqL h4 (by rw [Jpg h1 h2])]
 exact h5.1
end Go.Proofs.YteaampgpgokjmaaGreatDoor
namespace Go.Tx
open Go.RowKit Go.Proofs Go.Shelf
open _root_.List renaming getElem?_eq_some_iff → Ha, getElem?_eq_getElem → Hb, mem_singleton → Hc, eq_nil_of_length_eq_zero → Hd, replicate → He, getElem_mem → Hg, mem_flatten → Hh, length_replicate → Hi, getElem?_append_right → Hj, getElem?_append_left → Hk, all_eq_true → Hl, getElem?_replicate → Hm, drop_eq_nil_of_le → Hn
open _root_.Array renaming getElem?_eq_some_iff → Hf
open _root_.Nat renaming le_of_ble_eq_true → Ho, zero_add → Hp
open _root_.Option renaming some → Hq
def Jey (P:Program) (k e:TypeId) (o:Obj) (n:Nat) (D:DataW Unit):Prop :=
 Jd7 o=true∧∀ (w:World) (b:Nat),w.heap[b]? = some o→w.ownsMap P k (plainElem P e) b n D
theorem Jey.of {P:Program} {k e:TypeId} {w:World} {b n:Nat} {D:DataW Unit} (h:w.ownsMap P k (plainElem P e) b n D):∃ o,w.heap[b]? = some o∧Jey P k e o n D:=by
 obtain ⟨es,clock,hb,F,hs,hD⟩:=h
 exact ⟨_,hb,rfl,fun w' b' h'=>⟨es,clock,h',F,hs,hD⟩⟩
theorem Jey.empty (P:Program) (k e:TypeId):Jey P k e (.map #[] 0) 0 (.map []) :=
 ⟨rfl,fun w b h=>by
  obtain ⟨es,clock,hb,F,hs,hD⟩:=World.ownsMap_made (H:=Unit) default P k (plainElem P e)
  have:es=#[]∧clock=0:=by
   rw [World.alloc_heap_new] at hb;cases hb;exact ⟨rfl,rfl⟩
  obtain ⟨rfl,rfl⟩:=this
  exact ⟨_,_,h,F,hs,hD⟩⟩
def Jmi (a:Bs) (s:Bb):Bs:=if s∈a then a else a++[s]
def dd (l:Bs):Bs:=l.foldl Jmi []
def nn (l:Bs):Nat:=(dd l).length
theorem Jmj {α:Type} {P:List α→Prop} (h0:P []) (hs:∀ l x,P l→P (l++[x])) (l:List α):P l:=by
 rw [← List.reverse_reverse l]
 induction l.reverse with
 | nil=>exact h0
 | cons x t ih=>rw [List.reverse_cons];exact hs _ _ ih
theorem Jmk (l:Bs) (s:Bb):dd (l++[s])=Jmi (dd l) s:=by simp [dd,List.foldl_append]
theorem YV (l:Bs):(∀ s,s∈dd l ↔ s∈l)∧(dd l).Nodup:=by
 induction l using Jmj with
 | h0=>simp [dd]
 | hs l x ih =>
  rw [Jmk];unfold Jmi
  split
  ·
   rename_i h
   refine ⟨fun s=>?_,ih.2⟩
   rw [ih.1 s];simp only [List.mem_append,Hc]
   exact ⟨.inl,fun h'=>h'.elim id (fun e=>e ▸ (ih.1 x).1 h)⟩
  ·
   rename_i h
   refine ⟨fun s=>by simp [ih.1 s],List.nodup_append.2 ⟨ih.2,by simp,fun a ha b hb=>by simp at hb;subst hb;exact fun e=>h (by rw [← e];exact ha)⟩⟩
theorem Jar:∀ (a b:Bs),a.Nodup→(∀ x∈a,x∈b)→a.length≤b.length
 | [],b,_,_=>Nat.zero_le _
 | x::a,b,h,hm=>by
  have hx:=hm x (by simp)
  have h1:=List.nodup_cons.1 h
  have:=Jar a (b.erase x) h1.2 (fun y hy=>(List.mem_erase_of_ne (fun e=>h1.1 (by subst e;exact hy))).2 (hm y (by simp [hy])))
  rw [List.length_erase_of_mem hx] at this
  have:0<b.length:=List.length_pos_of_mem hx
  simp only [List.length_cons];omega
theorem JbM {a b:Bs} (h:∀ x∈a,x∈b):nn a≤nn b :=
 Jar _ _ (YV a).2 (fun x hx=>((YV b).1 x).2 (h x (((YV a).1 x).1 hx)))
theorem nn_le (a:Bs):nn a≤a.length:=Jar _ _ (YV a).2 (fun x hx=>((YV a).1 x).1 hx)
theorem Jgg {a:Bs} (h:a.Nodup):nn a=a.length :=
 Nat.le_antisymm (nn_le a) (Jar _ _ h (fun x hx=>((YV a).1 x).2 hx))
def Dn (l:Bs):DataW Unit:=l.foldl (fun D s=>D.put (.string s) (.lit (.bool true))) (.map [])
theorem JfD (l:Bs) (s:Bb):Dn (l++[s])=(Dn l).put (.string s) (.lit (.bool true)):=by simp [Dn,List.foldl_append]
theorem Jml (l:Bs):Maps.Tidy (Dn l)∧(∀ s,Maps.has (Dn l) (.string s)=decide (s∈l))∧Maps.size (Dn l)=nn l:=by
 induction l using Jmj with
 | h0=>exact ⟨Maps.tidy_empty,fun s=>by simp [Dn,Maps.has],rfl⟩
 | hs l x ih =>
  obtain ⟨h1,h2,h3⟩:=ih
  have hk:WideAt.IsKeyLit (.string x):=by trivial
  rw [JfD]
  refine ⟨h1.put hk _,fun s=>?_,?_⟩
  ·
   by_cases e:s=x
   · subst e;rw [Maps.has_put_same h1.isMap hk];simp
   · rw [Maps.has_put_other (by simpa using e),h2 s];simp [e]
  ·
   rw [Maps.size_put h1,h2 x,h3]
   unfold nn;rw [Jmk];unfold Jmi
   by_cases e:x∈l
   · rw [if_pos (by simpa using e),if_pos (((YV l).1 x).2 e)]
   · rw [if_neg (by simpa using e),if_neg (fun h=>e (((YV l).1 x).1 h))];simp
theorem JqO (l:Bs):(strKeys (Dn l)).length=nn l:=by
 obtain ⟨⟨es,he,_⟩,_,h3⟩:=Jml l
 rw [← h3,he];simp [strKeys,Maps.size]
theorem St.grewO {w0 w w':World} {G0 G:J4} {L:Bl} {i b:Nat} {x y:Obj} (h:St w0 G0 w G L) (hi:L[i]? = some [Ob b x]) (hg:w.grownBy w' (some b)) (hyb:w'.heap[b]? = some y) (hy:Jd7 y=true) :
  St w0 G0 w' G (L.set i [Ob b y]):=by
 obtain ⟨A,B,rfl,hset⟩:=Vd hi
 rw [hset]
 have hm:(Ob b x)∈(A++[Ob b x]::B).flatten:=by simp
 obtain ⟨hB,_,hob,_⟩:=h.own _ hm
 obtain ⟨p1,p2,_,_⟩:=hob x rfl
 simp only at hB p2
 have hlt:=(Hf.1 p2).1
 have hne:∀ b' o v,w.cell? ⟨b',o,none⟩=some v→b ≠ b':=fun b' o v hv e=>by
  have:=Jb0 hv (e ▸ p2)
  rw [p1] at this;cases this
 have hget:∀ k,k<w.heap.size→k ≠ b→w'.heap[k]? = w.heap[k]?:=fun k hl hk=>hg.block k hl (fun e=>hk (Hq.inj e))
 refine St.upd h ((Below.refl w0.heap.size w).grown hg h.below.size (fun k e=>by cases e;exact hB)) ?_ ?_ ?_ ?_ ?_ (by simp)
 ·
  intro b' o v hv _
  have hn:=hne b' o v hv
  have hl:=WD hv
  unfold World.cell? World.frozen? at *
  simp only at *
  rw [hget b' hl (fun e=>hn e.symm)]
  exact ⟨hv,rfl⟩
 ·
  intro b' z hz
  obtain ⟨c,hh,_⟩:=YD.1 hz
  have hn:b' ≠ b:=fun e=>by
   subst e
   rw [p2] at hh
   cases x <;> simp [Jd7] at p1 hh
  unfold shp at hz ⊢
  rw [hget b' (Hf.1 hh).1 hn];exact hz
 ·
  intro b' z hz _ hno
  have:b' ≠ b:=fun e=>hno _ (Hc.2 rfl) ⟨e.symm,Nat.le_refl _,by simp [Vc.len]⟩
  rw [hget b' (Hf.1 hz).1 this];exact hz
 ·
  intro s hs
  obtain rfl:s=_:=by simpa using hs
  refine ⟨hB,by simp,fun z hz=>?_,by simp⟩
  cases hz
  exact ⟨hy,hyb,rfl,rfl⟩
 ·
  intro s hs b' o hh
  obtain rfl:s=_:=by simpa using hs
  exact .inl ⟨_,Hc.2 rfl,hh⟩
theorem St.below_ {w0 w w':World} {G0 G:J4} {L:Bl} (h:St w0 G0 w G L) (hb:Below w.heap.size w w'):St w0 G0 w' G L:=by
 have hS':St w G w' G []:=⟨hb,fun b o v hv=>by
  have hc:=h.mem b o v hv
  have hl:=WD hc
  unfold World.cell? at *
  simp only at *
  rw [hb.block b hl];exact hc,Jh _,fun b o v hv=>.inl hv,by simp,by simp⟩
 exact h.call hS'
section
variable {C:Cx} {Q:Bq} {fr:Bf} {G:J4} {L:Bl} {ops:Bp} {rest:List Oper} {o:Oper}
theorem JfE {e:Exit} (i:Nat) {b o:Nat} {cs:Bv} (h:∀ G',J4.le G G'→(∀ j v,cs[j]? = some v→G' b (o+j)=some v)→TQ C Q e fr G' (L.set i []))
  (hi:L[i]? = some [Sg b o cs]:=by rfl):TQ C Q e fr G L :=
 Joh i (by simp) hi (fun G' h1 h2=>h G' h1 (fun j v hv=>h2 _ (Hc.2 rfl) j v hv))
theorem Jlb (d:Nat) (k e:TypeId) (h:∀ b ob,Jey C.P k e ob 0 (.map [])→KA C ops Q rest ((d,.map (some b))::fr) G ([Ob b ob]::L))
  (hb:base C.n ops fr o d=true:=by as_aux_lemma=>kernel_rfl)
  (hc:∀ w,(execOp (Ze fr) o).run C.P w=.ok (.value (.map (some w.heap.size))) (w.alloc (.map #[] 0)):=by intro _;as_aux_lemma=>kernel_rfl):KA C ops Q (o::rest) fr G L :=
 QI d hb (fun w hw=>⟨_,w.alloc (.map #[] 0),G,_,hc w,hw.allocO _ rfl,h w.heap.size _ (Jey.empty _ _ _)⟩)
def Jmm (fr:Bf) (o:Oper):Option (TypeId×Value×Value×Value):=match o.op with
 | .mapUpdate t m x v=>some (t,Ze fr m,Ze fr x,Ze fr v)
 | _=>none
theorem JnF (hb:Jhw C.n ops fr o=true)
  (hx:∀ w,St C.w0 C.G0 w G L→∃ w' G' L',(execOp (Ze fr) o).run C.P w=.ok .skip w'∧St C.w0 C.G0 w' G' L'∧KA C ops Q rest fr G' L') :
  KA C ops Q (o::rest) fr G L:=by
 intro a w ha hw
 unfold Jhw at hb
 simp only [Bool.and_eq_true,Option.isNone_iff_eq_none] at hb
 obtain ⟨⟨⟨hd,hwt⟩,hsel⟩,hcov⟩:=hb
 have hE:execOp a.eval o=execOp (Ze fr) o:=Wv _ _ _ (fun cs b e=>by rw [e] at hsel;simp [Zp] at hsel)
  (fun x hx=>ha.eval x (Hl.1 hcov x (by simpa using hx)))
 have hwant:Qx ops fr o=some true:=by
  cases hx:Qx ops fr o with
  | none=>rw [hx] at hwt;simp [YI] at hwt
  | some b=>rw [hx] at hwt;simp [YI] at hwt;rw [← hwt]
 obtain ⟨w',G',L',hr,hS,hk⟩:=hx w hw
 unfold wpList
 rw [if_pos (Ww ha hwant)]
 refine .inl ?_
 unfold Oper.wp
 rw [hE,hr]
 show wpList C.P ops Q rest (a.put o.dst _) _
 rw [hd]
 exact hk _ _ ha hS
theorem Jez (i:Nat) (t k e:TypeId) {b n:Nat} {ob:Obj} {D:DataW Unit} {s:Bb} (x:Bool) (hm:Jey C.P k e ob n D) (K:Maps.Keyed C.P k) (ht:C.P.underlying t=some (.map k e)) (hks:C.P.underlying k=some .string) (he:C.P.underlying e=some .bool)
  (hs:s.length≤maxLen) (hn:n<maxLen)
  (h:∀ ob',Jey C.P k e ob' (n+1) (D.put (.string s) (.lit (.bool x)))→KA C ops Q rest fr G (L.set i [Ob b ob']))
  (hL:L[i]? = some [Ob b ob]:=by rfl)
  (hb:Jhw C.n ops fr o=true:=by as_aux_lemma=>kernel_rfl)
  (hc:Jmm fr o=some (t,.map (some b),Sr s,Bo x):=by as_aux_lemma=>kernel_rfl):KA C ops Q (o::rest) fr G L:=by
 refine JnF hb (fun w hw=>?_)
 unfold Jmm at hc
 split at hc
 case h_2=>cases hc
 rename_i t' m' x' v' hop
 simp only [Hq.injEq,Prod.mk.injEq] at hc
 obtain ⟨rfl,c1,c2,c3⟩:=hc
 have hmem:(Ob b ob)∈L.flatten:=by
  obtain ⟨hl,he⟩:=Ha.1 hL
  exact Hh.2 ⟨_,Hg hl,by rw [he];simp⟩
 obtain ⟨_,_,hob,_⟩:=hw.own _ hmem
 obtain ⟨p1,p2,_,_⟩:=hob ob rfl
 have hown:=hm.2 w b p2
 have hkey:keyOf C.P k (Sr s)=some (.string s):=by
  have:=WideMaps.keyOf_string_mk (P:=C.P) hks (s:=B s) (by show s.toArray.size≤maxLen;simpa using hs)
  simpa using this
 obtain ⟨w',hrun,hown',hg⟩:=hown.update K ht hn hkey (plainElem_bool (H:=Unit) he x)
 obtain ⟨ob',q1,q2⟩:=Jey.of hown'
 refine ⟨w',G,_,?_,hw.grewO hL hg q1 q2.1,h ob' q2⟩
 unfold execOp
 simp only [hop,c1,c2,c3,Sem.run_bind,Bo,hrun,Result.andThen_ok,Sem.run_pure]
theorem JnG (d:Nat) {ρ:Ren} (L7:SlLaysZ.n7 C.P ρ) {b:Nat} (h:∀ bk,KA C ops Q rest ((d,.func (.func (ρ.f 10)) #[] #[Pt bk 0])::fr) G ([Sg bk 0 [.map (some b)]]::L))
  (hw:Qx ops fr o=some true:=by rfl) (hd:o.dst=some d:=by rfl) (hn:Nat.blt d C.n=true:=by rfl) (hsel:Zp o.op=false:=by rfl)
  (hcov:o.op.operands.toList.all (cov fr)=true:=by as_aux_lemma=>kernel_rfl) (hrun:∀ w,(execOp (Ze fr) o).run C.P w=.ok (.enter (ρ.f 7) #[.map (some b)]) w:=by intro _;as_aux_lemma=>kernel_rfl) :
  KA C ops Q (o::rest) fr G L:=by
 intro a w ha hwS
 have hE:execOp a.eval o=execOp (Ze fr) o:=Wv _ _ _ (fun cs b e=>by rw [e] at hsel;simp [Zp] at hsel)
  (fun x hx=>ha.eval x (Hl.1 hcov x (by simpa using hx)))
 unfold wpList
 rw [if_pos (Ww ha hw)]
 refine .inl ?_
 unfold Oper.wp
 rw [hE,hrun]
 refine (callsIn_wide.1 (AnyZ.keys_in L7 Fence.wide 0 trivial rfl (some b) w)).mono ?_
 rintro e w' ⟨rfl,rfl⟩
 show wpList C.P ops Q rest (a.put o.dst _) _
 rw [hd]
 exact h _ _ _ (ha.put d _ (Ho hn)) (hwS.alloc _ _)
theorem Jiy (d i j:Nat) {ρ:Ren} (L8:SlLaysZ.n8 C.P ρ) (L10:SlLaysZ.n10 C.P ρ) {b bk n:Nat} {e:TypeId} {ob:Obj} {D:DataW Unit} (hm:Jey C.P (ρ.t 26) e ob n D) (hsz:Maps.size D≤1000000)
  (h:∀ a c,KA C ops Q rest ((d,Sl a (strKeys D).length c)::fr) G L)
  (hi:L[i]? = some [Ob b ob]:=by rfl) (hj:L[j]? = some [Sg bk 0 [.map (some b)]]:=by rfl)
  (hw:Qx ops fr o=some true:=by rfl) (hd:o.dst=some d:=by rfl) (hn:Nat.blt d C.n=true:=by rfl) (hsel:Zp o.op=false:=by rfl)
  (hcov:o.op.operands.toList.all (cov fr)=true:=by as_aux_lemma=>kernel_rfl) (hrun:∀ w,(execOp (Ze fr) o).run C.P w=.ok (.enter (ρ.f 8) #[.func (.func (ρ.f 10)) #[] #[Pt bk 0]]) w:=by intro _;as_aux_lemma=>kernel_rfl) :
  KA C ops Q (o::rest) fr G L:=by
 intro a w ha hwS
 have hE:execOp a.eval o=execOp (Ze fr) o:=Wv _ _ _ (fun cs b e=>by rw [e] at hsel;simp [Zp] at hsel)
  (fun x hx=>ha.eval x (Hl.1 hcov x (by simpa using hx)))
 unfold wpList
 rw [if_pos (Ww ha hw)]
 refine .inl ?_
 unfold Oper.wp
 rw [hE,hrun]
 have m1:(Ob b ob)∈L.flatten:=by
  obtain ⟨hl,he⟩:=Ha.1 hi
  exact Hh.2 ⟨_,Hg hl,by rw [he];simp⟩
 have m2:(Sg bk 0 [.map (some b)])∈L.flatten:=by
  obtain ⟨hl,he⟩:=Ha.1 hj
  exact Hh.2 ⟨_,Hg hl,by rw [he];simp⟩
 obtain ⟨_,_,hob,_⟩:=hwS.own _ m1
 obtain ⟨_,p2,_,_⟩:=hob ob rfl
 have hown:=hm.2 w b p2
 have hcell:=((hwS.own _ m2).2.1 0 _ rfl).1
 simp only [Nat.add_zero] at hcell
 have hseq:SeqGives Fence.wide (3-1-1) C.P (ρ.f 10) #[.pointer (some ⟨bk,0,none⟩)] encStr (fun ss=>ss.Perm (strKeys D)) (Maps.size D) w :=
  AnyZ.keys_gives L10 Fence.wide (3-1-1) trivial rfl (by decide) bk b n D w (WD hcell) hcell hown
 refine (callsIn_wide.1 (AnyZ.collect_in L8 Fence.wide 3 trivial trivial rfl (by decide) (ρ.f 10) #[.pointer (some ⟨bk,0,none⟩)] trivial (L10.f10.enters rfl) _ (Maps.size D) (Nat.le_trans hsz (by decide)) (by omega) w hseq)).mono ?_
 rintro e w' ⟨v,ss,rfl,hS,hrow,hnil,hb⟩
 have hlen:ss.length=(strKeys D).length:=hS.length_eq
 obtain ⟨aa,c,rfl⟩:∃ aa c,v=Sl aa (strKeys D).length c:=by
  rw [← hlen]
  rcases hrow.2 with ⟨rfl,h0⟩ | ⟨g,cap,cur,rfl,_⟩
  · exact ⟨none,0,by rw [h0]⟩
  · exact ⟨_,_,rfl⟩
 show wpList C.P ops Q rest (a.put o.dst _) w'
 rw [hd]
 exact h _ _ _ _ (ha.put d _ (Ho hn)) (hwS.below_ hb)
theorem Jgh {α:Type} {E:Y3 α} (d t e n:Nat) {z:Value} {lo co:Operand} {bytes:Nat} (x0:α) (hE:E.sz=1∧z.cells=#[z]∧(∀ G,E.R G [z] x0)) (h63:n≤9223372036854775807) (hby:n*bytes≤281474976710656)
  (hi:(C.P.info? e).map (fun i=>(i.zero,i.size,i.bytes))=some (some z,1,bytes))
  (h:∀ a r,J0 E G a n (He n x0) r→KA C ops Q rest ((d,Sl a (He n x0).length n)::fr) G (r::L))
  (hb:base C.n ops fr o d=true:=by as_aux_lemma=>kernel_rfl)
  (hop:o.op=.makeSlice t lo co:=by rfl) (ht:C.P.underlying t=some (.slice e):=by as_aux_lemma=>kernel_rfl)
  (hlo:Ze fr lo=I (n:Int):=by as_aux_lemma=>kernel_rfl) (hco:Ze fr co=I (n:Int):=by as_aux_lemma=>kernel_rfl):KA C ops Q (o::rest) fr G L:=by
 simp only [Hi] at h
 refine QI d hb (fun w hw=>?_)
 obtain ⟨inf,hinf,hz,hsz,hbs⟩:=info_parts hi
 have hbn:(inf.bytes:Int)*(n:Int)≤281474976710656:=by
  have h2:(inf.bytes:Int)*n=((n*bytes:Nat):Int):=by rw [Int.natCast_mul,Int.mul_comm,hbs]
  omega
 have hm:=run_make (P:=C.P) w t e inf z ht hinf hz .i64 .i64 n n (by omega) (Int.le_refl _) hbn (by omega)
 simp only [Int.toNat_natCast,hsz,Nat.mul_one] at hm
 have hmc:(madeCells z.cells n).toList=He n z:=by
  apply List.ext_getElem
  · simp [size_madeCells]
  ·
   intro k h1 h2
   simp only [madeCells,Array.toList_map,List.getElem_map,List.getElem_replicate,hE.2.1]
   simp [Nat.mod_one]
 refine ⟨_,_,G,_,?_,hw.alloc (madeCells z.cells n) e,h (At w.heap.size 0) _ ⟨⟨He n [z],by simp,fun k x hx=>?_,?_⟩⟩⟩
 ·
  unfold execOp
  simp only [hop,hlo,hco,Sem.run_bind,hm,Result.andThen_ok,Sem.run_pure]
 ·
  have hk:=(Ha.1 hx).1
  simp only [Hi] at hk
  rw [Hm,if_pos hk] at hx
  rw [← Hq.inj hx]
  exact ⟨[z],by rw [Hm,if_pos hk],hE.2.2 G⟩
 ·
  have hf:(He n [z]).flatten=He n z:=by simp [List.flatten_replicate_singleton]
  rw [hf,hmc,Hi,hE.1]
  exact Row.lit (by simp) h63
theorem RS.cellsR {α:Type} {E:Y3 α} {G:J4} {ax:Ba} {capx:Nat} {ys:List α} (hy:RS E G ax capx ys):∃ dss:List Bv,dss.length=ys.length∧(∀ (k:Nat) y,ys[k]? = some y→∃ cs,dss[k]? = some cs∧E.R G cs y) ∧
  ∀ w:World,(∀ b o v,G b o=some v→w.cell? ⟨b,o,none⟩=some v)→JlM E.sz w ax ys.length dss.flatten:=by
 have hcell:∃ dss:List Bv,dss.length=ys.length∧(∀ (k:Nat) y,ys[k]? = some y→∃ cs,dss[k]? = some cs∧E.R G cs y) ∧
   (∀ ad,ax=some ad→∀ (k:Nat) cs (j:Nat) v,dss[k]? = some cs→cs[j]? = some v→G ad.block (ad.off+k*E.sz+j)=some v):=by
  cases ax with
  | none =>
   have:ys=[]:=Hd (by have:=hy.nil rfl;have:=hy.le;omega)
   subst this
   exact ⟨[],rfl,by simp,by simp⟩
  | some ad =>
   have hch:∀ k:Nat,∃ cs,∀ y,ys[k]? = some y→E.R G cs y∧∀ j v,cs[j]? = some v→G ad.block (ad.off+k*E.sz+j)=some v:=by
    intro k
    cases hk:ys[k]? with
    | none=>exact ⟨[],by simp⟩
    | some y=>obtain ⟨cs,p1,p2⟩:=hy.elem ad rfl k y hk;exact ⟨cs,fun y' hy'=>by cases hy';exact ⟨p1,p2⟩⟩
   let f:Nat→Bv:=fun k=>Classical.choose (hch k)
   have hf:∀ (k:Nat) y,ys[k]? = some y→E.R G (f k) y∧∀ j v,(f k)[j]? = some v→G ad.block (ad.off+k*E.sz+j)=some v:=fun k=>Classical.choose_spec (hch k)
   refine ⟨(List.range ys.length).map f,by simp,?_,?_⟩
   ·
    intro k y hk
    have hlt:=(Ha.1 hk).1
    exact ⟨f k,by simp [hlt],(hf k y hk).1⟩
   ·
    intro ad' had k cs j v hk hv
    cases had
    have hlt:k<ys.length:=by have:=(Ha.1 hk).1;simpa using this
    have hcs:f k=cs:=by simpa [hlt] using hk
    rw [← hcs] at hv
    exact (hf k _ (Hb hlt)).2 j v hv
 obtain ⟨dss,d1,d2,d3⟩:=hcell
 have dsz:=JaC d1 d2
 refine ⟨dss,d1,d2,fun w hmem=>⟨by rw [QU dsz,d1],fun ha=>by have:=hy.nil ha;have:=hy.le;omega,fun ad ha j v hv=>?_⟩⟩
 have hsp:=hy.spot ad ha (by
  have hj:=(Ha.1 hv).1
  rw [QU dsz] at hj
  have h0:0<ys.length:=by
   rcases Nat.eq_zero_or_pos ys.length with h0 | h0
   · rw [d1,h0] at hj;omega
   · exact h0
  have:=hy.le;omega)
 obtain ⟨ab,ao,asp⟩:=ad
 simp only at hsp
 subst hsp
 rw [W1]
 refine hmem _ _ _ ?_
 have hj:=(Ha.1 hv).1
 rw [QU dsz] at hj
 have hpos:0<E.sz:=by
  rcases Nat.eq_zero_or_pos E.sz with h0 | h0
  · rw [h0] at hj;omega
  · exact h0
 have hk:j / E.sz<dss.length:=(Nat.div_lt_iff_lt_mul hpos).2 hj
 have hmod:=Nat.mod_lt j hpos
 have hcs:=dsz _ (Hg hk)
 have hget:(dss[j / E.sz])[j % E.sz]? = some v:=by
  have:=JaZ dsz (j / E.sz) _ (j % E.sz) ((dss[j / E.sz])[j % E.sz]'(by omega)) (Hb hk) (Hb (by omega))
  rw [Nat.div_add_mod' j E.sz,hv] at this
  rw [Hb (by omega)];exact this.symm
 have:=d3 _ ha (j / E.sz) _ (j % E.sz) v (Hb hk) hget
 simp only at this
 rwa [Nat.add_assoc,Nat.div_add_mod' j E.sz] at this
theorem Jlc {α:Type} {E:Y3 α} {a:Ba} {l:List α} (d e j:Nat) {b:Nat} {cs:Bv} (x:α) (hr:RS E G a l.length l) (hx:E.R G cs x)
  (h63:l.length+1≤9223372036854775807) (hby:(l.length+1)*E.bytes≤140737488355328)
  (h:∀ a' cap' r',J0 E G a' cap' (l++[x]) r'→KA C ops Q rest ((d,Sl a' (l++[x]).length cap')::fr) G (r'::L))
  (hj:L[j]? = some [Sg b 0 cs]:=by rfl)
  (hb:base C.n ops fr o d=true:=by as_aux_lemma=>kernel_rfl)
  (hc:Jbv C.P fr o e E.sz E.bytes=some (Sl a l.length l.length,Sl (At b 0) 1 1):=by as_aux_lemma=>kernel_rfl):KA C ops Q (o::rest) fr G L:=by
 obtain ⟨t,ty,inf,z,hu,hi,hz,hzs,hsz,hbs,hrun⟩:=Jh1 hc
 obtain ⟨dss,d1,d2,d3⟩:=hr.cellsR
 refine QI d hb (fun w hw=>?_)
 have hms:(Sg b 0 cs)∈L.flatten:=by
  obtain ⟨hi',he⟩:=Ha.1 hj
  exact Hh.2 ⟨_,he ▸ Hg hi',by simp⟩
 have hown:=(hw.own _ hms).2.1
 simp only [Hp] at hown
 have hnl:cs.length=1*inf.size:=by rw [E.len hx,hsz];simp
 have hnews:∀ k v,cs[k]? = some v→w.cell? ((⟨b,0,none⟩:Addr).add k)=some v:=fun k v hv=>by
  rw [W1,Hp];exact (hown k v hv).1
 obtain ⟨r1,r2,r3⟩:=d3 w hw.mem
 rw [← hsz] at r1
 have hby2:(l.length+1)*inf.bytes≤140737488355328:=by rw [hbs];exact hby
 have hnx:Builtin.nextslicecap (l.length+1) l.length*inf.bytes≤281474976710656:=growslice_fits (by omega) hby2
 have fin:∀ (old:Nat) (res:Result Value),res=.ok (.slice (some ⟨w.heap.size,0,none⟩) (l.length+1) (grownCap w (l.length+1) old e)) (w.drew.alloc (.cells (dss.flatten.toArray++cs.toArray++Builtin.zeroCells z.cells (grownCap w (l.length+1) old e-(l.length+1))) e)) →
   (Builtin.append_ #[t,t] ty #[.slice a l.length l.length,.slice (At b 0) 1 1]).run C.P w=res →
   ∃ v w' G' L',(execOp (Ze fr) o).run C.P w=.ok (.value v) w'∧St C.w0 C.G0 w' G' L'∧KA C ops Q rest ((d,v)::fr) G' L':=by
  intro old res hres hap
  have hlen:(l++[x]).length=l.length+1:=by simp
  refine ⟨_,_,G,_,by rw [hrun,hap,hres];rfl,(hw.drew).alloc _ e,?_⟩
  rw [← hlen]
  refine h _ _ _ ⟨⟨dss++[cs],by simp [d1],?_,?_⟩⟩
  ·
   intro k y hy
   by_cases hlt:k<l.length
   ·
    rw [Hk hlt] at hy
    obtain ⟨cs',p1,p2⟩:=d2 k y hy
    exact ⟨cs',by rw [Hk (by omega)];exact p1,p2⟩
   ·
    rw [Hj (by omega)] at hy
    have hk:k-l.length=0:=by
     have:=(Ha.1 hy).1;simp at this;omega
    rw [hk] at hy
    obtain rfl:x=y:=by simpa using hy
    exact ⟨cs,by rw [Hj (by omega),d1,hk];rfl,hx⟩
  ·
   rw [List.flatten_append,hlen,← hsz]
   refine ⟨by rw [List.length_append,r1];simp [hnl,Nat.add_mul],grownCap_ge w _ old e,?_,.inr ⟨w.heap.size,0,(Builtin.zeroCells z.cells (grownCap w (l.length+1) old e-(l.length+1))).toList,rfl,by simp,?_⟩⟩
   ·
    have:=grownCap_le_maxLen w (l.length+1) old e (by simp only [maxLen];omega)
    simp only [maxLen] at this;omega
   · rw [Array.length_toList,Yp,hzs]
 cases a with
 | none =>
  have h0:l.length=0:=hr.nil rfl
  have hl:l=[]:=Hd h0
  subst hl
  have hd0:dss=[]:=Hd (by simpa using d1)
  subst hd0
  have hap:=run_append_nil (P:=C.P) w t ty e inf z hu hi hz ⟨b,0,none⟩ 1 1 cs hnl hnews (by omega) (by omega) (by have h9:=hby2;simp only [List.length_nil,Hp] at h9;omega)
  exact fin 0 _ (by simp) hap
 | some ad =>
  have hap:=run_append_grow (P:=C.P) w t ty e inf z hu hi hz ad l.length l.length dss.flatten r1 (r3 ad rfl) ⟨b,0,none⟩ 1 1 cs hnl hnews (by omega) (by omega) hnx
  exact fin l.length _ rfl hap
def Shr (r r':Bg):Prop:=r'=r∨∃ b off F m,r=[Sg b off F]∧(r'=[Sg b (off+m) (F.drop m)]∨r'=[Sg b off []])
theorem St.shr {w0 w:World} {G0 G:J4} {L:Bl} {i:Nat} {r r':Bg} (h:St w0 G0 w G L) (hi:L[i]? = some r) (hs:Shr r r'):St w0 G0 w G (L.set i r'):=by
 rcases hs with rfl | ⟨b,off,F,m,rfl,hr⟩
 ·
  have:L.set i r'=L:=by
   obtain ⟨hi',he⟩:=Ha.1 hi
   rw [← he];exact List.set_getElem_self hi'
  rw [this];exact h
 ·
  obtain ⟨A,B,rfl,hset⟩:=Vd hi
  rw [hset]
  have hm:(Sg b off F)∈(A++[Sg b off F]::B).flatten:=by simp
  obtain ⟨hB,hc,_,_⟩:=h.own _ hm
  simp only at hB hc
  refine St.upd h (Below.refl _ _) (fun _ _ _ hv _=>⟨hv,rfl⟩) (fun _ _ hx=>hx) (fun _ _ hx _ _=>hx) ?_ ?_ ?_
  ·
   intro s hs
   rcases hr with rfl | rfl
   ·
    obtain rfl:s=_:=by simpa using hs
    refine ⟨hB,fun j v hv=>?_,by simp,by simp⟩
    simp only [List.getElem?_drop] at hv
    have:=hc _ _ hv
    rw [show off+(m+j)=off+m+j by omega] at this
    exact this
   ·
    obtain rfl:s=_:=by simpa using hs
    exact ⟨hB,by simp,by simp,by simp⟩
  ·
   intro s hs b' o hh
   rcases hr with rfl | rfl
   ·
    obtain rfl:s=_:=by simpa using hs
    obtain ⟨e,h1,h2⟩:=hh
    simp only [Vc.len,List.length_drop] at e h1 h2
    exact .inl ⟨_,Hc.2 rfl,e,by simp only;omega,by simp only [Vc.len];omega⟩
   ·
    obtain rfl:s=_:=by simpa using hs
    obtain ⟨e,h1,h2⟩:=hh
    simp [Vc.len] at h2;simp only at h1;omega
  · rcases hr with rfl | rfl <;> simp
theorem J0.dropX {α:Type} {E:Y3 α} {G:J4} {a:Ba} {cap:Nat} {l:List α} {r:Bg} (h:J0 E G a cap l r) (k:Nat) (hk:k≤l.length) :
  ∃ r',J0 E G (if cap=k then a else a.map (·.add (k*E.sz))) (cap-k) (l.drop k) r'∧Shr r r':=by
 obtain ⟨css,c1,c2,c3⟩:=h.ex
 have hsz:=JaC c1 c2
 have hd:(css.drop k).flatten=css.flatten.drop (k*E.sz):=by
  have h1:css.flatten=(css.take k).flatten++(css.drop k).flatten:=by rw [← List.flatten_append,List.take_append_drop]
  have h2:(css.take k).flatten.length=k*E.sz:=by
   rw [QU (fun cs hc=>hsz cs (List.mem_of_mem_take hc)),List.length_take];congr 1;omega
  rw [h1,← h2,List.drop_left]
 have hA:(css.drop k).length=(l.drop k).length∧∀ (i:Nat) x,(l.drop k)[i]? = some x→∃ cs,(css.drop k)[i]? = some cs∧E.R G cs x:=by
  refine ⟨by simp [c1],fun i x hx=>?_⟩
  rw [List.getElem?_drop] at hx ⊢
  exact c2 _ x hx
 have hlen:(css.drop k).flatten.length=(l.drop k).length*E.sz:=by
  rw [QU (fun cs hc=>hsz cs (List.mem_of_mem_drop hc)),hA.1]
 have hle:=c3.le;have hmx:=c3.max
 rcases c3.shape with ⟨rfl,rfl,rfl⟩ | ⟨b,off,spare,rfl,rfl,hsp⟩
 ·
  have hk0:k=0:=by omega
  subst hk0
  exact ⟨[],by simpa using h,.inl rfl⟩
 ·
  by_cases e:cap=k
  ·
   rw [if_pos e]
   have hl0:l.drop k=[]:=Hn (by omega)
   have hc0:css.drop k=[]:=Hn (by omega)
   refine ⟨[Sg b off []],⟨⟨css.drop k,hA.1,hA.2,⟨hlen,by rw [hl0];simp,by omega,.inr ⟨b,off,[],rfl,?_,?_⟩⟩⟩⟩,.inr ⟨b,off,_,0,rfl,.inr rfl⟩⟩
   · rw [hc0];simp
   · rw [hl0,e];simp
  ·
   rw [if_neg e]
   refine ⟨[Sg b (off+k*E.sz) ((css.flatten++spare).drop (k*E.sz))],⟨⟨css.drop k,hA.1,hA.2,⟨hlen,by simp;omega,by omega,.inr ⟨b,off+k*E.sz,spare,?_,?_,?_⟩⟩⟩⟩,.inr ⟨b,off,_,k*E.sz,rfl,.inl rfl⟩⟩
   · simp [W1]
   ·
    rw [hd,List.drop_append_of_le_length]
    rw [QU hsz,c1];exact Nat.mul_le_mul_right _ hk
   · rw [hsp,List.length_drop];congr 1;omega
theorem tq_shr {e:Exit} (i:Nat) {r r':Bg} (hs:Shr r r') (h:TQ C Q e fr G (L.set i r')) (hi:L[i]? = some r:=by rfl):TQ C Q e fr G L:=fun a w ha hw=>h a w ha (hw.shr hi hs)
end
end Go.Tx
