import Derived.Test.YteaampgpgokjmaaGreatDoorTiB
import Derived.Maps.Own
import Derived.CallsIn
import Derived.Shelf.SlIter.Collect
set_option linter.unusedVariables false
set_option linter.unusedSimpArgs false
namespace Go.Proofs.YteaampgpgokjmaaGreatDoor
open Go.Tx
open IntKind renaming i64 → Ha, i32 → HX
open _root_.Nat renaming le_of_ble_eq_true → Hb, le_trans → Hm, zero_le → Hv, min_eq_left → HC, min_def → HV, min → HZ, zero_add → H0
open _root_.List renaming length_append → Hc, length_cons → Hd, length_nil → He, length_take → Hf, getElem?_eq_some_iff → Hg, forall_mem_nil → Hi, drop_eq_getElem_cons → Hk, length → Hl, mem_of_getElem? → Hn, getElem?_eq_getElem → Ho, take_add_one → Hp, dropWhile_cons → Hs, length_set → Ht, length_drop → Hu, mem_singleton → Hw, drop_eq_nil_of_le → Hx, take_of_length_le → Hy, any_eq_true → Hz, mem_cons → HA, getElem?_append_left → HB, mem_append → HD, mem_cons_self → HF, getElem?_set → HG, getElem?_of_mem → HI, mem_of_mem_take → HJ, mem_of_mem_drop → HK, drop_drop → HM, getElem?_drop → HO, filter_append → HP, getElem?_append_right → HQ, mem_reverse → HR, not_mem_nil → HS, dropWhile_sublist → HT, take_append_drop → HU, length_filter_le → HW, mem_cons_of_mem → HY
open IntWalk renaming i64_in → Hh
open _root_.Decidable renaming not_not → Hj
open _root_.Bool renaming eq_false_or_eq_true → Hq, eq_iff_iff → HE, and_assoc → HN
open _root_.Option renaming some → Hr
open _root_.UInt8 renaming ofNat → HH
open _root_.Int renaming toNat_of_nonneg → HL
def Jaf (l:List Kb) (i:Nat) (x:Kb):List Kb:=l.take i++[x]++l.drop i
theorem JaB {l:List Kb} {i:Nat} {x:Kb} (h:i≤l.length):(Jaf l i x).length=l.length+1:=by unfold Jaf;simp;omega
theorem Jn4 {l:List Kb} {i:Nat} {x:Kb} (h:i=l.length):l++[x]=Jaf l i x:=by subst h;simp [Jaf]
theorem one2 {a b:Value} (ha:a.oneCell'=true) (hb:b.oneCell'=true):∀ u∈[a,b],u.oneCell'=true:=by
 intro u hu
 rcases HA.1 hu with rfl | hu
 · exact ha
 · rw [Hw.1 hu];exact hb
def Zl (l:List Kb) (name value:Bb):Int:=if (JH l name).2.2 ≠ 0 then (JH l name).2.2 else if KJ name value ≠ 0 then KJ name value else if (JH l name).2.1=false∧(l.length:Int)=24 then 7 else 0
def Qt (l:List Kb) (name value:Bb):List Kb×Int:=if Zl l name value ≠ 0 then ([],Zl l name value) else (if (JH l name).2.1=true then l.set (JH l name).1.toNat ⟨name,value⟩ else (Jaf l (JH l name).1.toNat ⟨[],[]⟩).set (JH l name).1.toNat ⟨name,value⟩,0)
theorem Jn5 {l:List Kb} {i:Nat} {x y:Kb} (h:i≤l.length):(Jaf l i x).set i y=Jaf l i y:=by
 unfold Jaf
 rw [List.append_assoc,List.set_append_right _ _ (by rw [Hf];omega),Hf,HC h,Nat.sub_self]
 simp
theorem Jn6 {l:List Kb} {i:Nat} {x:Kb} (h:i≤l.length) (p:Nat):(Jaf l i x)[p]? = if p<i then l[p]? else if p=i then some x else l[p-1]?:=by
 unfold Jaf
 rw [List.append_assoc]
 by_cases h1:p<i
 · rw [if_pos h1,HB (by rw [Hf];omega),List.getElem?_take,if_pos h1]
 ·
  rw [if_neg h1,HQ (by rw [Hf];omega),Hf,HC h]
  by_cases h2:p=i
  · rw [if_pos h2,h2,Nat.sub_self];rfl
  ·
   rw [if_neg h2]
   obtain ⟨m,hm⟩:∃ m,p-i=m+1:=⟨p-i-1,by omega⟩
   rw [hm]
   show (l.drop i)[m]? = _
   rw [HO];congr 1;omega
theorem JeE {l:List Kb} {name:Bb} (h:(JH l name).2.2=0):ZO l∧KS name=true∧JH l name=((bsF l name Wg).1,(bsF l name Wg).2,0):=by
 unfold JH at h ⊢
 split at h
 · contradiction
 split at h
 · cases h
 ·
  rename_i h1 h2
  rw [if_neg h1,if_neg h2]
  exact ⟨Qd.1 (Hj.1 h1),by simpa using h2,rfl⟩
theorem Zm {l:List Kb} {name:Bb} (h:(JH l name).2.2=0):0≤(JH l name).1∧(JH l name).1≤l.length∧l.length≤24:=by
 obtain ⟨h1,_,h3⟩:=JeE h
 have:=Jn1 (fun x=>Wg x name) l
 have:=h1.len
 rw [h3];unfold bsF;simp only;omega
theorem Jmj {l:List Kb} {name value:Bb} (h:(Qt l name value).2=0):(JH l name).2.2=0∧KJ name value=0∧((JH l name).2.1=true∨l.length<24):=by
 have h1:Zl l name value=0:=by
  unfold Qt at h;split at h
  · contradiction
  · rename_i h1;exact Hj.1 h1
 unfold Zl at h1
 by_cases e1:(JH l name).2.2=0
 ·
  rw [if_neg (by omega)] at h1
  by_cases e2:KJ name value=0
  ·
   rw [if_neg (by omega)] at h1
   refine ⟨e1,e2,?_⟩
   by_cases e3:(JH l name).2.1=false∧(l.length:Int)=24
   · rw [if_pos e3] at h1;cases h1
   ·
    cases hb:(JH l name).2.1 with
    | true=>exact .inl rfl
    | false =>
     refine .inr ?_
     have:=(Zm e1).2.2
     have:¬ (l.length:Int)=24:=fun hc=>e3 ⟨hb,hc⟩
     omega
  · rw [if_pos e2] at h1;exact absurd h1 e2
 · rw [if_pos e1] at h1;exact absurd h1 e1
theorem JiR {l:List Kb} {name value:Bb} (h:¬ (Qt l name value).2=0):(Qt l name value).1=[]:=by
 revert h;unfold Qt;split <;> simp
theorem JcT {l:List Kb} {name value:Bb} (h:(Qt l name value).2=0):ZO l∧KS name=true∧ZO (Qt l name value).1∧(∀ y,y∈(Qt l name value).1 ↔ y=⟨name,value⟩∨(y∈l∧y.name ≠ name)):=by
 obtain ⟨e1,e2,e3⟩:=Jmj h
 obtain ⟨hok,hp,hf⟩:=JeE e1
 have hs:=JfI hok name
 have hbd:=Jn1 (fun x=>Wg x name) l
 have hi:(JH l name).1.toNat=bsI (fun x=>Wg x name) l:=by rw [hf];unfold bsF;simp
 have hE:Zl l name value=0:=by
  unfold Qt at h;split at h
  · contradiction
  · rename_i h1;exact Hj.1 h1
 have hval:Qt l name value=(if (JH l name).2.1=true then l.set (JH l name).1.toNat ⟨name,value⟩ else (Jaf l (JH l name).1.toNat ⟨[],[]⟩).set (JH l name).1.toNat ⟨name,value⟩,0):=by
  unfold Qt;rw [if_neg (by omega)]
 rw [hval,hi]
 generalize hk:bsI (fun x=>Wg x name) l=k at *
 refine ⟨hok,hp,?_⟩
 cases hb:(JH l name).2.1 with
 | true =>
  rw [if_pos rfl]
  have hb2:(bsF l name Wg).2=true:=by rw [hf] at hb;exact hb
  obtain ⟨x,hx,hxn⟩:=Jn3 hb2
  rw [hk] at hx
  have hkl:=(Hg.1 hx).1
  have huni:∀ p y,l[p]? = some y→y.name=name→p=k:=by
   intro p y hy hyn
   rcases Nat.lt_trichotomy p k with hc | hc | hc
   · have:=hok.ord p k y x hc hy hx;rw [hyn,← hxn,YD.2 rfl] at this;omega
   · exact hc
   · have:=hok.ord k p x y hc hx hy;rw [hyn,hxn,YD.2 rfl] at this;omega
  refine ⟨⟨by rw [Ht];exact hok.len,fun y hy=>?_,fun p q y z hpq hy hz=>?_⟩,fun y=>?_⟩
  ·
   rcases List.mem_or_eq_of_mem_set hy with hy | rfl
   · exact hok.ok y hy
   · exact e2
  ·
   rw [HG] at hy hz
   have gy:∃ y',l[p]? = some y'∧y'.name=y.name:=by
    split at hy
    ·
     rename_i e;subst e
     (try rw [if_pos hkl] at hy)
     exact ⟨x,hx,by rw [← Hr.inj hy];exact hxn⟩
    · exact ⟨y,hy,rfl⟩
   have gz:∃ z',l[q]? = some z'∧z'.name=z.name:=by
    split at hz
    ·
     rename_i e;subst e
     (try rw [if_pos hkl] at hz)
     exact ⟨x,hx,by rw [← Hr.inj hz];exact hxn⟩
    · exact ⟨z,hz,rfl⟩
   obtain ⟨y',gy1,gy2⟩:=gy
   obtain ⟨z',gz1,gz2⟩:=gz
   rw [← gy2,← gz2];exact hok.ord p q y' z' hpq gy1 gz1
  ·
   constructor
   ·
    intro hy
    obtain ⟨p,hp2⟩:=HI hy
    rw [HG] at hp2
    split at hp2
    · rename_i e;subst e;(try rw [if_pos hkl] at hp2);exact .inl (Hr.inj hp2).symm
    ·
     rename_i e
     exact .inr ⟨Hn hp2,fun hc=>e (huni p y hp2 hc).symm⟩
   ·
    rintro (rfl | ⟨hy,hne⟩)
    · exact Hn (i:=k) (by rw [HG,if_pos rfl,if_pos hkl])
    ·
     obtain ⟨p,hp2⟩:=HI hy
     exact Hn (i:=p) (by rw [HG,if_neg (fun e=>hne (by subst e;rw [hx] at hp2;rw [← Hr.inj hp2];exact hxn))];exact hp2)
 | false =>
  rw [if_neg (by simp),Jn5 hbd]
  have hb3:(bsF l name Wg).2=false:=by rw [hf] at hb;exact hb
  have hb2:¬ (bsF l name Wg).2=true:=by rw [hb3];simp
  have hno:∀ y∈l,y.name ≠ name:=fun y hy hc=>hb2 ((Jn2 hok name).2 ⟨y,hy,hc⟩)
  have hlt:∀ p y,p<k→l[p]? = some y→Yn y.name name<0:=hs.1
  have hgt:∀ p y,k≤p→l[p]? = some y→Yn name y.name<0:=by
   intro p y hp2 hy
   have h1:=hs.2 p y hp2 hy
   have h2:Yn y.name name ≠ 0:=fun hc=>hno y (Hn hy) (YD.1 hc)
   exact Jpx.1 (by omega)
  have hl24:l.length<24:=by rcases e3 with e3 | e3;rw [e3] at hb;cases hb;exact e3
  refine ⟨⟨by rw [JaB hbd];omega,fun y hy=>?_,fun p q y z hpq hy hz=>?_⟩,fun y=>?_⟩
  ·
   unfold Jaf at hy
   simp only [HD,Hw] at hy
   rcases hy with (hy | rfl) | hy
   · exact hok.ok y (HJ hy)
   · exact e2
   · exact hok.ok y (HK hy)
  ·
   rw [Jn6 hbd] at hy hz
   by_cases p1:p<k
   ·
    rw [if_pos p1] at hy
    by_cases q1:q<k
    · rw [if_pos q1] at hz;exact hok.ord p q y z hpq hy hz
    ·
     rw [if_neg q1] at hz
     by_cases q2:q=k
     · rw [if_pos q2] at hz;rw [← Hr.inj hz];exact hlt p y p1 hy
     · rw [if_neg q2] at hz;exact hok.ord p (q-1) y z (by omega) hy hz
   ·
    rw [if_neg p1] at hy
    rw [if_neg (by omega),if_neg (by omega)] at hz
    by_cases p2:p=k
    · rw [if_pos p2] at hy;rw [← Hr.inj hy];exact hgt (q-1) z (by omega) hz
    · rw [if_neg p2] at hy;exact hok.ord (p-1) (q-1) y z (by omega) hy hz
  ·
   unfold Jaf
   simp only [HD,Hw]
   constructor
   ·
    rintro ((hy | rfl) | hy)
    · exact .inr ⟨HJ hy,hno y (HJ hy)⟩
    · exact .inl rfl
    · exact .inr ⟨HK hy,hno y (HK hy)⟩
   ·
    rintro (rfl | ⟨hy,_⟩)
    · exact .inl (.inr rfl)
    ·
     rw [← HU k l] at hy
     rcases HD.1 hy with hy | hy
     · exact .inl (.inl hy)
     · exact .inr hy
theorem JiS (l:List Kb) (name value:Bb):(Qt l name value).1.length≤24:=by
 by_cases h:(Qt l name value).2=0
 · exact (JcT h).2.2.1.len
 · rw [JiR h];simp
theorem Jmk {l:List Kb} {name value:Bb} (h:¬ (JH l name).2.2=0):Qt l name value=([],(JH l name).2.2):=by
 have:Zl l name value=(JH l name).2.2:=by unfold Zl;rw [if_pos h]
 unfold Qt;rw [if_pos (by omega),this]
theorem Jml {l:List Kb} {name value:Bb} (h0:(JH l name).2.2=0) (h:¬ KJ name value=0):Qt l name value=([],KJ name value):=by
 have:Zl l name value=KJ name value:=by unfold Zl;rw [if_neg (by omega),if_pos h]
 unfold Qt;rw [if_pos (by omega),this]
theorem Jmm {l:List Kb} {name value:Bb} (h0:(JH l name).2.2=0) (h1:KJ name value=0) (h:(JH l name).2.1=false∧(l.length:Int)=24):Qt l name value=([],7):=by
 have:Zl l name value=7:=by unfold Zl;rw [if_neg (by omega),if_neg (by omega),if_pos h]
 unfold Qt;rw [if_pos (by omega),this]
theorem Jmn {l:List Kb} {name value:Bb} {k:Nat} (h0:(JH l name).2.2=0) (h1:KJ name value=0) (h:(JH l name).2.1=true) (hk:(JH l name).1=(k:Int)):Qt l name value=(l.set k ⟨name,value⟩,0):=by
 have:Zl l name value=0:=by unfold Zl;rw [if_neg (by omega),if_neg (by omega),if_neg (by rw [h];simp)]
 unfold Qt;rw [if_neg (by omega),if_pos h,hk,Int.toNat_natCast]
theorem Jmo {l:List Kb} {name value:Bb} {k:Nat} (h0:(JH l name).2.2=0) (h1:KJ name value=0) (h:(JH l name).2.1=false) (h2:(JH l name).2.1=false→¬ (l.length:Int)=24) (hk:(JH l name).1=(k:Int)):Qt l name value=((Jaf l k ⟨[],[]⟩).set k ⟨name,value⟩,0):=by
 have:Zl l name value=0:=by unfold Zl;rw [if_neg (by omega),if_neg (by omega),if_neg (fun hc=>h2 hc.1 hc.2)]
 unfold Qt;rw [if_neg (by omega),if_neg (by rw [h];simp),hk,Int.toNat_natCast]
set_option maxRecDepth 4000 in
theorem Jg8 (G:J4) (a:Ba) (c:Nat) (l:List Kb) (r:Bg) (hr:JX QE G a c l r) (bv:Nat) (x:Kb) (hx0:(x.name).length≤140737488351232) (hx1:(x.value).length≤140737488351232) (i:Nat) (hi:i≤l.length) (hsm:l.length≤1000):Jhw Tryz.prog 212 #[Sl a l.length c,I (i:Int),Sl (At bv 0) 1 1] G [r,[Vr 111 bv 0 [Sr x.name,Sr x.value]]] (fun u G' L'=>∃ a' c' r',u=Sl a' (Jaf l i x).length c'∧JX QE G' a' c' (Jaf l i x) r'∧L'=[r']):=by
 intro Lr
 have hlc:=JX.lec hr
 have hcm:=JX.mx hr
 refine JQ Tryz.func212 95 [(0,Sl a l.length c),(1,I (i:Int)),(2,Sl (At bv 0) 1 1)] rfl (fun w0 G0=>?_)
 show TC _ _ _ _ _ (r::[Vr 111 bv 0 [Sr x.name,Sr x.value]]::Lr)
 refine Jg [0] [] (Jf (Jd (Jb [0,0] [(10,Sl a l.length c),(11,I (i:Int))] (Jnt (a:=a) (len:=l.length) (cap:=c) 12 2 (some (I (i:Int))) none i l.length (.inr ⟨_,rfl⟩) (.inl ⟨rfl,rfl⟩) hi hlc (fun a9=>Je (Jc (Jg [0,0,0] [(7,I (1:Int))] (Jf (Jg [0,0] [(16,Bo (decide ((1:Int)=0)))] (Jm (decide ((1:Int)=0)) (fun h1=>?_) (fun h1=>?_)))))))))))
 exfalso;omega
 refine Jq (Jc (Jg [0,0,0] [(8,I (l.length:Int))] (Jf (Jg [0,0,0] [(22,Bo (decide ((i:Int)=(l.length:Int))))] (Jm (decide ((i:Int)=(l.length:Int))) (fun h2=>?_) (fun h2=>?_))))))
 refine JdZ 1 (Jf (Jd (Jb [0,0] [(23,Sl a l.length c),(24,Sl (At bv 0) 1 1)] (Qm (b:=bv) (cs:=[Sr x.name,Sr x.value]) 25 111 0 1 (E:=QE) x hr ⟨rfl,‹_›,‹_›⟩ Kd (by simp only [QE];omega) (fun a1 c1 r1 hr1=>Jb [0] [(6,Sl a1 ((l++[x]).length) c1)] (Je (Jc (Jn (Jj ?_)))))))))
 have e_:l++[x]=Jaf l i x:=Jn4 (by omega)
 have en_:(l++[x]).length=(Jaf l i x).length:=by (rw [JaB hi];(try simp only [Hc,Hd,He]) <;> omega)
 exact Jo [0] [Sl a1 ((l++[x]).length) c1] (KH (Lr:=Lr) [r1] (Jh _) (⟨_,_,_,congrArg (fun n=>Sl a1 n c1) en_,(by rw [← e_];exact hr1),rfl⟩))
 refine Jq (Jc (Jf ?_))
 obtain ⟨b,off,css,spare,rfl,rfl,hc1,hc2,hc3,hsp,_,hmax,hone⟩:=JX.opened hr (by omega)
 refine Jg [0,0,0,0,0,0] [(31,Bo (decide (Ha.wrap ((l.length:Int)+(1:Int)) > (c:Int))))] ?_
 have e1:Ha.wrap ((l.length:Int)+(1:Int))=(l.length:Int)+(1:Int):=Hh _ (by omega)
 refine QW 31 (Bo (decide ((l.length:Int)+(1:Int) > (c:Int)))) (show (Bo (decide (Ha.wrap ((l.length:Int)+(1:Int)) > (c:Int))):Value)=Bo (decide ((l.length:Int)+(1:Int) > (c:Int))) by simp only [e1]) ?_
 clear e1
 refine Jm (decide ((l.length:Int)+(1:Int) > (c:Int))) (fun h3=>?_) (fun h3=>?_)
 refine JdZ 1 (Jf (Jd (Jb [0,0] [(32,Sl (At b off) l.length c),(33,I (i:Int))] (Jcd (b:=b) (off:=off) (len:=l.length) (cap:=c) 34 2 (some (I (i:Int))) i (.inr ⟨_,rfl⟩) Kd (Jb [0,0,0,0,0] [(39,I (Ha.wrap ((Ha.wrap ((l.length:Int)+(1:Int)))-(i:Int))))] ?_)))))
 have e2:Ha.wrap ((l.length:Int)+(1:Int))=(l.length:Int)+(1:Int):=Hh _ (by omega)
 have e3:Ha.wrap (((l.length:Int)+(1:Int))-(i:Int))=((l.length+1-i:Nat):Int):=(Hh _ (by omega)).trans (show ((l.length:Int)+(1:Int))-(i:Int)=((l.length+1-i:Nat):Int) by omega)
 refine KG 39 (I ((l.length+1-i:Nat):Int)) (show (I (Ha.wrap ((Ha.wrap ((l.length:Int)+(1:Int)))-(i:Int))):Value)=I ((l.length+1-i:Nat):Int) by simp only [e2,e3]) ?_
 clear e3 e2
 refine JjT (b:=b) (off:=off) (cap:=c) (F:=(css.flatten++spare)) 40 0 111 2 32 (l.length+1-i) i Kd Kd Kd (by rw [Hc,QN hc3,hc1];simp only [QE];omega) Kd (fun b9 c9 zs hz1 hz2 hz3=>Jb [0] [(9,Sl (At b9 0) (i+(l.length+1-i)) c9)] (Je (Jc (Jf (Jd (Jb [0,0] [(41,Sl (At b9 0) (i+(l.length+1-i)) c9),(42,I (i:Int))] (Vw (b:=b9) (off:=0) (len:=(i+(l.length+1-i))) (cap:=c9) 43 2 (some (I (i:Int))) none i (i+(l.length+1-i)) (.inr ⟨_,rfl⟩) (.inl ⟨rfl,rfl⟩) Kd Kd Kd (Jb [0] [(44,Sl (At bv 0) 1 1)] (VX (b:=b9) (off:=0) (p:=(i*2)) (nd:=(i+(l.length+1-i)-i)) (cd:=(c9-i)) (bs:=bv) (os:=0) (ns:=1) (cs:=1) (F:=((css.flatten++spare).take (i*2)++zs)) 45 0 2 [Sr x.name,Sr x.value] (by rw [show HZ 1 (i+(l.length+1-i)-i)=1 from by simp only [HV];split <;> omega];rfl) (by rw [hz3];simp only [Hd,He];omega) (one2 rfl rfl) (.inr ⟨2,0,[Sr x.name,Sr x.value],0,rfl,rfl,fun j v hv=>by rw [H0];exact hv⟩) (Je (Jc (Jf ?_))))))))))))
 have e4:Ha.wrap ((i:Int)+(1:Int))=((i+1:Nat):Int):=(Hh _ (by omega)).trans (show (i:Int)+(1:Int)=((i+1:Nat):Int) by omega)
 refine Kv [8] (Ws [(0,Sl (At b9 0) (i+(l.length+1-i)) c9),(1,I (i:Int)),(2,I (1:Int)),(3,I ((i+1:Nat):Int)),(4,Sl (At b9 (0+(i+1)*2)) ((i+(l.length+1-i))-(i+1)) (c9-(i+1))),(5,Sl (At b off) l.length c),(6,I (i:Int)),(7,Sl (At b (off+i*2)) (l.length-i) (c-i))] (JF [] [(0,0),(1,0),(2,0),(5,0),(6,0)] [3,4,7] [8] (Kf ?_ (Kf ?_ (Kf ?_ KY))) (Kf ?_ KY)))
 refine Jr 3 49 (I ((i+1:Nat):Int)) [(47,I (i:Int)),(48,I (1:Int))] (fun X=>?_)
 exact Qa 49 (I (Ha.wrap ((i:Int)+(1:Int)))) (I ((i+1:Nat):Int)) (by simp only [e4]) Jp
 refine Jr 4 50 (Sl (At b9 (0+(i+1)*2)) ((i+(l.length+1-i))-(i+1)) (c9-(i+1))) [(46,Sl (At b9 0) (i+(l.length+1-i)) c9),(49,I ((i+1:Nat):Int))] (fun X=>?_)
 exact Vw (b:=b9) (off:=0) (len:=(i+(l.length+1-i))) (cap:=c9) 50 2 (some (I ((i+1:Nat):Int))) none (i+1) (i+(l.length+1-i)) (.inr ⟨_,rfl⟩) (.inl ⟨rfl,rfl⟩) Kd Kd Kd Jp
 refine Jr 7 53 (Sl (At b (off+i*2)) (l.length-i) (c-i)) [(51,Sl (At b off) l.length c),(52,I (i:Int))] (fun X=>?_)
 exact Vw (b:=b) (off:=off) (len:=l.length) (cap:=c) 53 2 (some (I (i:Int))) none i l.length (.inr ⟨_,rfl⟩) (.inl ⟨rfl,rfl⟩) Kd Kd Kd Jp
 refine Jz 8 [(50,Sl (At b9 (0+(i+1)*2)) ((i+(l.length+1-i))-(i+1)) (c9-(i+1))),(53,Sl (At b (off+i*2)) (l.length-i) (c-i))] (fun X=>?_)
 refine VX (b:=b9) (off:=0) (p:=((i+1)*2)) (nd:=(i+(l.length+1-i)-(i+1))) (cd:=(c9-(i+1))) (bs:=b) (os:=(off+i*2)) (ns:=(l.length-i)) (cs:=(c-i)) (F:=(QO ((css.flatten++spare).take (i*2)++zs) (i*2) [Sr x.name,Sr x.value])) 54 0 2 (css.drop i).flatten (by rw [ZV hc3,hc1,show HZ (l.length-i) (i+(l.length+1-i)-(i+1))=l.length-i from by simp only [HV];split <;> omega];rfl) (by rw [Z2 (by rw [hz3];simp only [Hd,He];omega),hz3,ZV hc3,hc1];simp only [QE];omega) (Jk6 i hone) (.inr ⟨1,off,(css.flatten++spare),i*2,rfl,rfl,Jk8 (sz:=2) hc3 Kd⟩) (JA [(8,I ((HZ (l.length-i) (i+(l.length+1-i)-(i+1)):Nat):Int))] (Ko [0,1,2,3,4,5,6,7] [] [] [(9,Sl (At b9 0) (i+(l.length+1-i)) c9)] (Hi _) (Jc (Jg [0,0] [(6,Sl (At b9 0) (i+(l.length+1-i)) c9)] (Jn (Jj ?_))))))
 have en_:i+(l.length+1-i)=(Jaf l i x).length:=by (rw [JaB hi];(try simp only [Hc,Hd,He]) <;> omega)
 exact Jo [0] [Sl (At b9 0) (i+(l.length+1-i)) c9] (KH (Lr:=Lr) [[Sg b9 0 (QO (QO ((css.flatten++spare).take (i*2)++zs) (i*2) [Sr x.name,Sr x.value]) ((i+1)*2) (css.drop i).flatten)]] (Jh _) (⟨_,_,_,congrArg (fun n=>Sl (At b9 0) n c9) en_,(JX.insG (spare:=spare) i hi hc1 hc2 ⟨rfl,hx0,hx1⟩ hz3 Kd hz2),rfl⟩))
 refine Jq (Jc (Jf (Jd (Jb [0,0,0,0] [(56,Sl (At b off) l.length c),(59,I (Ha.wrap ((l.length:Int)+(1:Int))))] ?_))))
 have e5:Ha.wrap ((l.length:Int)+(1:Int))=((l.length+1:Nat):Int):=(Hh _ (by omega)).trans (show (l.length:Int)+(1:Int)=((l.length+1:Nat):Int) by omega)
 refine KG 59 (I ((l.length+1:Nat):Int)) (congrArg I e5) ?_
 clear e5
 refine Jcd (b:=b) (off:=off) (len:=l.length) (cap:=c) 60 2 (some (I ((l.length+1:Nat):Int))) (l.length+1) (.inr ⟨_,rfl⟩) Kd (Jb [0] [(0,Sl (At b off) (l.length+1) c)] (Je (Jc (Jf (Jf (Jd (Jb [0,0,0,0,0] [(61,Sl (At bv 0) 1 1),(62,Sl (At b off) (l.length+1) c),(65,I (Ha.wrap ((i:Int)+(1:Int))))] ?_)))))))
 have e6:Ha.wrap ((i:Int)+(1:Int))=((i+1:Nat):Int):=(Hh _ (by omega)).trans (show (i:Int)+(1:Int)=((i+1:Nat):Int) by omega)
 refine KG 65 (I ((i+1:Nat):Int)) (congrArg I e6) ?_
 clear e6
 refine Vw (b:=b) (off:=off) (len:=(l.length+1)) (cap:=c) 66 2 (some (I ((i+1:Nat):Int))) none (i+1) (l.length+1) (.inr ⟨_,rfl⟩) (.inl ⟨rfl,rfl⟩) Kd Kd Kd ?_
 refine Jl2 (f:=249) (args:=#[Sl (At bv 0) 1 1,Sl (At b (off+(i+1)*2)) ((l.length+1)-(i+1)) (c-(i+1))]) 67 (Bo false) (fun w hw=>?_) ?_
 rw [run_callFunc_extern (e:=Extern.SlicesOverlaps.overlaps #[44,44] #[4]) Tryz.func249 (by kernel_rfl) (by kernel_rfl) (by kernel_rfl) (by kernel_rfl),Jl3 hw (i:=1) (j:=0) rfl (by simp) rfl (by rw [Hc,QN hc3,hc1,hsp];simp only [QE];omega) (by decide) 44 4 111 2 (by kernel_rfl) (fun w=>by kernel_rfl)]
 rfl
 refine Jb [0] [(68,Bo true)] (Je (Jc (J0 (JdZ 1 (Jf ?_)))))
 have e7:Ha.wrap ((i:Int)+(1:Int))=((i+1:Nat):Int):=(Hh _ (by omega)).trans (show (i:Int)+(1:Int)=((i+1:Nat):Int) by omega)
 refine Kv [8] (Ws [(0,Sl (At b off) (l.length+1) c),(1,I (i:Int)),(2,I (1:Int)),(3,I ((i+1:Nat):Int)),(4,Sl (At b (off+(i+1)*2)) ((l.length+1)-(i+1)) (c-(i+1))),(5,Sl (At b off) (l.length+1) c),(6,I (i:Int)),(7,Sl (At b (off+i*2)) ((l.length+1)-i) (c-i))] (JF [] [(0,0),(1,0),(2,0),(5,0),(6,0)] [3,4,7] [8] (Kf ?_ (Kf ?_ (Kf ?_ KY))) (Kf ?_ KY)))
 refine Jr 3 72 (I ((i+1:Nat):Int)) [(70,I (i:Int)),(71,I (1:Int))] (fun X=>?_)
 exact Qa 72 (I (Ha.wrap ((i:Int)+(1:Int)))) (I ((i+1:Nat):Int)) (by simp only [e7]) Jp
 refine Jr 4 73 (Sl (At b (off+(i+1)*2)) ((l.length+1)-(i+1)) (c-(i+1))) [(69,Sl (At b off) (l.length+1) c),(72,I ((i+1:Nat):Int))] (fun X=>?_)
 exact Vw (b:=b) (off:=off) (len:=(l.length+1)) (cap:=c) 73 2 (some (I ((i+1:Nat):Int))) none (i+1) (l.length+1) (.inr ⟨_,rfl⟩) (.inl ⟨rfl,rfl⟩) Kd Kd Kd Jp
 refine Jr 7 76 (Sl (At b (off+i*2)) ((l.length+1)-i) (c-i)) [(74,Sl (At b off) (l.length+1) c),(75,I (i:Int))] (fun X=>?_)
 exact Vw (b:=b) (off:=off) (len:=(l.length+1)) (cap:=c) 76 2 (some (I (i:Int))) none i (l.length+1) (.inr ⟨_,rfl⟩) (.inl ⟨rfl,rfl⟩) Kd Kd Kd Jp
 refine Jz 8 [(73,Sl (At b (off+(i+1)*2)) ((l.length+1)-(i+1)) (c-(i+1))),(76,Sl (At b (off+i*2)) ((l.length+1)-i) (c-i))] (fun X=>?_)
 refine VX (b:=b) (off:=off) (p:=((i+1)*2)) (nd:=(l.length+1-(i+1))) (cd:=(c-(i+1))) (bs:=b) (os:=(off+i*2)) (ns:=(l.length+1-i)) (cs:=(c-i)) (F:=(css.flatten++spare)) 77 0 2 (css.drop i).flatten (by rw [ZV hc3,hc1,show HZ (l.length+1-i) (l.length+1-(i+1))=l.length-i from by simp only [HV];split <;> omega];rfl) (by rw [Hc,QN hc3,hc1,hsp];simp only [QE];rw [ZV hc3,hc1];simp only [QE];omega) (Jk6 i hone) (.inr ⟨0,off,(css.flatten++spare),i*2,rfl,rfl,Jk8 (sz:=2) hc3 Kd⟩) (JA [(8,I ((HZ (l.length+1-i) (l.length+1-(i+1)):Nat):Int))] (Ko [0,1,2,3,4,5,6,7] [] [] [(0,Sl (At b off) (l.length+1) c),(1,I (i:Int)),(2,Sl (At bv 0) 1 1)] (Hi _) (Jc (Jf (Jd (Jb [0,0] [(78,Sl (At b off) (l.length+1) c),(79,I (i:Int))] (Vw (b:=b) (off:=off) (len:=(l.length+1)) (cap:=c) 80 2 (some (I (i:Int))) none i (l.length+1) (.inr ⟨_,rfl⟩) (.inl ⟨rfl,rfl⟩) Kd Kd Kd (Jb [0] [(81,Sl (At bv 0) 1 1)] (VX (b:=b) (off:=off) (p:=(i*2)) (nd:=(l.length+1-i)) (cd:=(c-i)) (bs:=bv) (os:=0) (ns:=1) (cs:=1) (F:=(QO (css.flatten++spare) ((i+1)*2) (css.drop i).flatten)) 82 0 2 [Sr x.name,Sr x.value] (by rw [show HZ 1 (l.length+1-i)=1 from by simp only [HV];split <;> omega];rfl) (by rw [Z2 (by rw [Hc,QN hc3,hc1,hsp];simp only [QE];rw [ZV hc3,hc1];simp only [QE];omega)];rw [Hc,QN hc3,hc1,hsp];simp only [QE];simp only [Hd,He];omega) (one2 rfl rfl) (.inr ⟨1,0,[Sr x.name,Sr x.value],0,rfl,rfl,fun j v hv=>by rw [H0];exact hv⟩) (Je (Jc (Jg [0,0] [(6,Sl (At b off) (l.length+1) c)] (Jn (Jj ?_))))))))))))))
 have en_:l.length+1=(Jaf l i x).length:=by (rw [JaB hi];done)
 exact Jo [0] [Sl (At b off) (l.length+1) c] (KH (Lr:=Lr) [[Sg b off (QO (QO (css.flatten++spare) ((i+1)*2) (css.drop i).flatten) (i*2) [Sr x.name,Sr x.value])]] (Jh _) (⟨_,_,_,congrArg (fun n=>Sl (At b off) n c) en_,(JX.insP i hi hc1 hc2 ⟨rfl,hx0,hx1⟩ hsp Kd hcm),rfl⟩))
set_option maxRecDepth 20000 in
abbrev Jdp (kn1:Nat) (l:List Kb):=Jaf l kn1 (⟨[],[]⟩:Kb)
abbrev Jdq (kn3:Nat) (l:List Kb):=Jaf l kn3 (⟨[],[]⟩:Kb)
theorem JiT (G:J4) (a_l:Ba) (c_l:Nat) (l:List Kb) (h_l:RS QE G a_l c_l l) (name:Bb) (hw_name:(name).length≤140737488351232) (value:Bb) (hw_value:(value).length≤140737488351232) :YL 165 #[Sl a_l l.length c_l,Sr name,Sr value] G [] (fun u G' L'=>∃ (a1:Ba) (c2:Nat) (r3:Bg),u=.tuple #[Sl a1 (((Qt l name value).1).length) c2,I ((Qt l name value).2)]∧(JX QE G' a1 c2 ((Qt l name value).1) r3)∧L'=[r3]):=by
 refine JQ Tryz.func165 52 [(0,Sl a_l l.length c_l),(1,Sr name),(2,Sr value)] rfl (fun w0 G0=>?_)
 refine Jg [0,0] [] (Jf (Jd (Jb [0,0] [(13,Sl a_l l.length c_l),(14,Sr name)] (Jl 15 (.tuple #[I ((JH l name).1),Bo ((JH l name).2.1),I ((JH l name).2.2)]) (Jdo G a_l c_l l h_l name hw_name) (Jb [0,0,0,0,0,0,0] [(8,I ((JH l name).1)),(9,Bo ((JH l name).2.1)),(10,I ((JH l name).2.2))] (Je (Jc (Jf (Jg [0,0] [(20,Bo (decide ((JH l name).2.2=0)))] (Jm (decide ((JH l name).2.2=0)) (fun h1=>?_) (fun h1=>?_)))))))))))
 refine Jd (Jb [0,0] [(21,Sr name),(22,Sr value)] (Jl 23 (I (KJ name value)) (Jcy G name value) (Jb [0] [(10,I (KJ name value))] (Je (Jc (Jf (Jy (Jg [0,0,0] [(24,Bo (!decide (KJ name value=0)))] (Jm (!decide (KJ name value=0)) (fun h2=>?_) (fun h2=>?_))))))))))
 refine Jg [0,0,0] [(6,Sl none 0 0),(7,I (KJ name value))] (Jn (Ju (Jj (ZH (Jk 0 ?_)))))
 have hf1:Qt l name value=([],KJ name value):=by
  exact Jml ‹_› ‹_›
 refine Jo [0,0] [Sl none 0 0,I (KJ name value)] (JD [[]] (Jh _) ?_)
 rw [hf1]
 try dsimp only
 exact ⟨none,0,([]),rfl,(JX.none QE _),rfl⟩
 refine Jf (Jd (Jb [0,0,0] [(31,Bo (!((JH l name).2.1)))] (Kr (!((JH l name).2.1)) [31] [0,0,0,0] [1,1,1,0] (fun bb=>[(35,Bo (bb && (decide ((l.length:Int)=24))))]) (Jb [0] [(28,Bo ((!((JH l name).2.1)) && (decide ((l.length:Int)=24))))] (Je (Jc (Jm ((!((JH l name).2.1)) && (decide ((l.length:Int)=24))) (fun h3=>?_) (fun h3=>?_))))))))
 refine Jg [0,0] [(6,Sl none 0 0),(7,I 7)] (Jn (Ju (Jj (ZH (Jk 0 ?_)))))
 have hf2:Qt l name value=([],7):=by
  exact Jmm ‹_› ‹_› ‹_›
 refine Jo [0,0] [Sl none 0 0,I 7] (JD [[]] (Jh _) ?_)
 rw [hf2]
 try dsimp only
 exact ⟨none,0,([]),rfl,(JX.none QE _),rfl⟩
 refine Jq (JN (Jc (Jf (Jd (Jb [0] [(36,Sl a_l l.length c_l)] (JM 37 (YN G a_l c_l l h_l) (fun v G1 L1 hl1 hp=>?_)))))))
 obtain ⟨a1,c1,r1,rfl,hr1,rfl⟩:=hp
 refine Jb [0] [(11,Sl a1 l.length c1)] (Je (Jc (Jf (Jg [0,0] [(39,Bo (!((JH l name).2.1)))] (Jm (!((JH l name).2.1)) (fun h4=>?_) (fun h4=>?_))))))
 refine Jd (Jb [0,0,0] [(40,Sl a1 l.length c1),(41,I ((JH l name).1)),(42,.agg #[Sr ([]),Sr ([])])] (JgZ 43 1 #[Sr ([]),Sr ([])] 111 (fun b1=>?_)))
 obtain ⟨kn1,hkn1⟩:∃ k_:Nat,(JH l name).1=(k_:Int):=⟨((JH l name).1).toNat,by (have q_:=Zm (l:=l) (name:=name) ‹_›;omega)⟩
 have e1:(JH l name).1=(kn1:Int):=hkn1
 refine KG 8 (I (kn1:Int)) (congrArg I e1) (KG 41 (I (kn1:Int)) (congrArg I e1) (Jw 0 (Jw 1 (Qu (Ls:=[r1,[Vr 111 b1 0 [Sr ([]),Sr ([])]]]) (Lr:=[]) 44 (Jg8 G1 a1 c1 l r1 hr1 b1 (⟨[],[]⟩:Kb) (Hb rfl) (Hb rfl) kn1 (by (have q_:=Zm (l:=l) (name:=name) ‹_›;omega)) (by (have q_:=Zm (l:=l) (name:=name) ‹_›;omega))) (fun v G2 L1 hl2 hp=>?_)))))
 obtain ⟨a2,c2,_,rfl,hr2,rfl⟩:=hp
 refine Jb [0] [(11,Sl a2 ((Jdp kn1 l).length) c2)] (Je (Jc (Jf (Jd (Jb [0,0,0,0,0] [(45,Sl a2 ((Jdp kn1 l).length) c2),(46,I (kn1:Int)),(49,.agg #[Sr name,Sr value])] ?_)))))
 obtain ⟨_,hx1⟩:=QQ (l:=Jaf l kn1 (⟨[],[]⟩:Kb)) (k:=kn1) (by (have q_:=Zm (l:=l) (name:=name) ‹_›;(rw [JaB (by omega)];omega)))
 obtain ⟨b2,o1,_,_,⟨rfl,_,_⟩,ha1,_,_⟩:=JX.ix hr2 hx1
 refine Qq (b:=b2) (off:=o1) (len:=(Jdp kn1 l).length) (cap:=c2) (ik:=.i64) 50 111 2 kn1 ha1 (by (have q_:=Zm (l:=l) (name:=name) ‹_›;(rw [JaB (by omega)];omega))) (Yx (b:=b2) (off:=o1) 0 hr2 kn1 (⟨name,value⟩:Kb) ha1 (by (have q_:=Zm (l:=l) (name:=name) ‹_›;(rw [JaB (by omega)];omega))) (.agg #[Sr name,Sr value]) [Sr name,Sr value] ⟨rfl,hw_name,hw_value⟩ (fun r3 hr3=>?_))
 have e2:(Jdp kn1 l).length=((Jdp kn1 l).set kn1 (⟨name,value⟩:Kb)).length:=(Ht ..).symm
 refine KG 11 (Sl a2 (((Jdp kn1 l).set kn1 (⟨name,value⟩:Kb)).length) c2) (congrArg (Sl a2 · c2) e2) (Je (Jc (Jg [0,0,0] [(6,Sl a2 (((Jdp kn1 l).set kn1 (⟨name,value⟩:Kb)).length) c2),(7,I 0)] (Jn (Jk 0 ?_)))))
 have hf3:Qt l name value=((Jdp kn1 l).set kn1 (⟨name,value⟩:Kb),0):=by
  exact Jmo ‹_› ‹_› ‹_› ‹_› ‹_›
 refine Jo [0,0] [Sl a2 (((Jdp kn1 l).set kn1 (⟨name,value⟩:Kb)).length) c2,I 0] (JD [r3] (Ja hl1 hl2) ?_)
 rw [hf3]
 try dsimp only
 exact ⟨a2,c2,r3,rfl,hr3,rfl⟩
 refine Jq (Jc (Jf (Jd (Jb [0,0,0,0,0] [(45,Sl a1 l.length c1),(46,I ((JH l name).1)),(49,.agg #[Sr name,Sr value])] ?_))))
 obtain ⟨kn2,hkn2⟩:∃ k_:Nat,(JH l name).1=(k_:Int):=⟨((JH l name).1).toNat,by (have q_:=Zm (l:=l) (name:=name) ‹_›;omega)⟩
 have e3:(JH l name).1=(kn2:Int):=hkn2
 refine KG 46 (I (kn2:Int)) (congrArg I e3) ?_
 obtain ⟨_,hx2⟩:=QQ (l:=l) (k:=kn2) (by (have q_:=Zm (l:=l) (name:=name) ‹_›;(have q1_:=YR (l:=l) (name:=name) ‹_›;omega)))
 obtain ⟨b3,o2,_,_,⟨rfl,_,_⟩,ha2,_,_⟩:=JX.ix hr1 hx2
 refine Qq (b:=b3) (off:=o2) (len:=l.length) (cap:=c1) (ik:=.i64) 50 111 2 kn2 ha2 (by (have q_:=Zm (l:=l) (name:=name) ‹_›;(have q1_:=YR (l:=l) (name:=name) ‹_›;omega))) (Yx (b:=b3) (off:=o2) 0 hr1 kn2 (⟨name,value⟩:Kb) ha2 (by (have q_:=Zm (l:=l) (name:=name) ‹_›;(have q1_:=YR (l:=l) (name:=name) ‹_›;omega))) (.agg #[Sr name,Sr value]) [Sr name,Sr value] ⟨rfl,hw_name,hw_value⟩ (fun r4 hr4=>?_))
 have e4:l.length=(l.set kn2 (⟨name,value⟩:Kb)).length:=(Ht ..).symm
 refine KG 11 (Sl a1 ((l.set kn2 (⟨name,value⟩:Kb)).length) c1) (congrArg (Sl a1 · c1) e4) (Je (Jc (Jg [0,0,0] [(6,Sl a1 ((l.set kn2 (⟨name,value⟩:Kb)).length) c1),(7,I 0)] (Jn (Jk 0 ?_)))))
 have hf4:Qt l name value=(l.set kn2 (⟨name,value⟩:Kb),0):=by
  exact Jmn ‹_› ‹_› ‹_› ‹_›
 refine Jo [0,0] [Sl a1 ((l.set kn2 (⟨name,value⟩:Kb)).length) c1,I 0] (JD [r4] hl1 ?_)
 rw [hf4]
 try dsimp only
 exact ⟨a1,c1,r4,rfl,hr4,rfl⟩
 refine Jq (Jc (Jf (Jy (Jg [0,0,0] [(24,Bo (!decide ((JH l name).2.2=0)))] (Jm (!decide ((JH l name).2.2=0)) (fun h5=>?_) (fun h5=>?_))))))
 refine Jg [0,0,0] [(6,Sl none 0 0),(7,I ((JH l name).2.2))] (Jn (Ju (Jj (ZH (Jk 0 ?_)))))
 have hf5:Qt l name value=([],(JH l name).2.2):=by
  exact Jmk ‹_›
 refine Jo [0,0] [Sl none 0 0,I ((JH l name).2.2)] (JD [[]] (Jh _) ?_)
 rw [hf5]
 try dsimp only
 exact ⟨none,0,([]),rfl,(JX.none QE _),rfl⟩
 refine Jf (Jd (Jb [0,0,0] [(31,Bo (!((JH l name).2.1)))] (Kr (!((JH l name).2.1)) [31] [0,0,0,0] [1,1,1,0] (fun bb=>[(35,Bo (bb && (decide ((l.length:Int)=24))))]) (Jb [0] [(28,Bo ((!((JH l name).2.1)) && (decide ((l.length:Int)=24))))] (Je (Jc (Jm ((!((JH l name).2.1)) && (decide ((l.length:Int)=24))) (fun h6=>?_) (fun h6=>?_))))))))
 refine Jg [0,0] [(6,Sl none 0 0),(7,I 7)] (Jn (Ju (Jj (ZH (Jk 0 ?_)))))
 have hf6:Qt l name value=([],7):=by
  (exfalso;omega)
 refine Jo [0,0] [Sl none 0 0,I 7] (JD [[]] (Jh _) ?_)
 rw [hf6]
 try dsimp only
 exact ⟨none,0,([]),rfl,(JX.none QE _),rfl⟩
 refine Jq (JN (Jc (Jf (Jd (Jb [0] [(36,Sl a_l l.length c_l)] (JM 37 (YN G a_l c_l l h_l) (fun v G3 L1 hl3 hp=>?_)))))))
 obtain ⟨a3,c3,r5,rfl,hr5,rfl⟩:=hp
 refine Jb [0] [(11,Sl a3 l.length c3)] (Je (Jc (Jf (Jg [0,0] [(39,Bo (!((JH l name).2.1)))] (Jm (!((JH l name).2.1)) (fun h7=>?_) (fun h7=>?_))))))
 refine Jd (Jb [0,0,0] [(40,Sl a3 l.length c3),(41,I ((JH l name).1)),(42,.agg #[Sr ([]),Sr ([])])] (JgZ 43 1 #[Sr ([]),Sr ([])] 111 (fun b4=>?_)))
 obtain ⟨kn3,hkn3⟩:∃ k_:Nat,(JH l name).1=(k_:Int):=⟨((JH l name).1).toNat,by omega⟩
 have e5:(JH l name).1=(kn3:Int):=hkn3
 refine KG 8 (I (kn3:Int)) (congrArg I e5) (KG 41 (I (kn3:Int)) (congrArg I e5) (Jw 0 (Jw 1 (Qu (Ls:=[r5,[Vr 111 b4 0 [Sr ([]),Sr ([])]]]) (Lr:=[]) 44 (Jg8 G3 a3 c3 l r5 hr5 b4 (⟨[],[]⟩:Kb) (Hb rfl) (Hb rfl) kn3 Kd Kd) (fun v G4 L1 hl4 hp=>?_)))))
 obtain ⟨a4,c4,_,rfl,hr6,rfl⟩:=hp
 refine Jb [0] [(11,Sl a4 ((Jdq kn3 l).length) c4)] (Je (Jc (Jf (Jd (Jb [0,0,0,0,0] [(45,Sl a4 ((Jdq kn3 l).length) c4),(46,I (kn3:Int)),(49,.agg #[Sr name,Sr value])] ?_)))))
 obtain ⟨_,hx3⟩:=QQ (l:=Jaf l kn3 (⟨[],[]⟩:Kb)) (k:=kn3) (by omega)
 obtain ⟨b5,o3,_,_,⟨rfl,_,_⟩,ha3,_,_⟩:=JX.ix hr6 hx3
 refine Qq (b:=b5) (off:=o3) (len:=(Jdq kn3 l).length) (cap:=c4) (ik:=.i64) 50 111 2 kn3 ha3 Kd (Yx (b:=b5) (off:=o3) 0 hr6 kn3 (⟨name,value⟩:Kb) ha3 Kd (.agg #[Sr name,Sr value]) [Sr name,Sr value] ⟨rfl,hw_name,hw_value⟩ (fun r7 hr7=>?_))
 have e6:(Jdq kn3 l).length=((Jdq kn3 l).set kn3 (⟨name,value⟩:Kb)).length:=(Ht ..).symm
 refine KG 11 (Sl a4 (((Jdq kn3 l).set kn3 (⟨name,value⟩:Kb)).length) c4) (congrArg (Sl a4 · c4) e6) (Je (Jc (Jg [0,0,0] [(6,Sl a4 (((Jdq kn3 l).set kn3 (⟨name,value⟩:Kb)).length) c4),(7,I 0)] (Jn (Jk 0 ?_)))))
 have hf7:Qt l name value=((Jdq kn3 l).set kn3 (⟨name,value⟩:Kb),0):=by
  (exfalso;omega)
 refine Jo [0,0] [Sl a4 (((Jdq kn3 l).set kn3 (⟨name,value⟩:Kb)).length) c4,I 0] (JD [r7] (Ja hl3 hl4) ?_)
 rw [hf7]
 try dsimp only
 exact ⟨a4,c4,r7,rfl,hr7,rfl⟩
 refine Jq (Jc (Jf (Jd (Jb [0,0,0,0,0] [(45,Sl a3 l.length c3),(46,I ((JH l name).1)),(49,.agg #[Sr name,Sr value])] ?_))))
 obtain ⟨kn4,hkn4⟩:∃ k_:Nat,(JH l name).1=(k_:Int):=⟨((JH l name).1).toNat,by omega⟩
 have e7:(JH l name).1=(kn4:Int):=hkn4
 refine KG 46 (I (kn4:Int)) (congrArg I e7) ?_
 obtain ⟨_,hx4⟩:=QQ (l:=l) (k:=kn4) (by omega)
 obtain ⟨b6,o4,_,_,⟨rfl,_,_⟩,ha4,_,_⟩:=JX.ix hr5 hx4
 refine Qq (b:=b6) (off:=o4) (len:=l.length) (cap:=c3) (ik:=.i64) 50 111 2 kn4 ha4 Kd (Yx (b:=b6) (off:=o4) 0 hr5 kn4 (⟨name,value⟩:Kb) ha4 Kd (.agg #[Sr name,Sr value]) [Sr name,Sr value] ⟨rfl,hw_name,hw_value⟩ (fun r8 hr8=>?_))
 have e8:l.length=(l.set kn4 (⟨name,value⟩:Kb)).length:=(Ht ..).symm
 refine KG 11 (Sl a3 ((l.set kn4 (⟨name,value⟩:Kb)).length) c3) (congrArg (Sl a3 · c3) e8) (Je (Jc (Jg [0,0,0] [(6,Sl a3 ((l.set kn4 (⟨name,value⟩:Kb)).length) c3),(7,I 0)] (Jn (Jk 0 ?_)))))
 have hf8:Qt l name value=(l.set kn4 (⟨name,value⟩:Kb),0):=by
  (exfalso;omega)
 refine Jo [0,0] [Sl a3 ((l.set kn4 (⟨name,value⟩:Kb)).length) c3,I 0] (JD [r8] hl3 ?_)
 rw [hf8]
 try dsimp only
 exact ⟨a3,c3,r8,rfl,hr8,rfl⟩
def isB (b:UInt8):Bool:=b == 48 || b == 49
def YF (c:Int):Bool:=decide (c=48) || decide (c=49)
theorem JaR (b:UInt8):YF (b.toNat:Int)=isB b:=by
 have e1:((b.toNat:Int)=48) ↔ b=48:=⟨fun h=>UInt8.toNat_inj.1 (by have q:b.toNat=48:=(by omega);simpa using q),fun h=>by subst h;rfl⟩
 have e2:((b.toNat:Int)=49) ↔ b=49:=⟨fun h=>UInt8.toNat_inj.1 (by have q:b.toNat=49:=(by omega);simpa using q),fun h=>by subst h;rfl⟩
 unfold YF isB;rw [HE];simp [e1,e2]
def V0 (s:Bb):Bb:=s.dropWhile isB
def YS (s:Bb):Bb:=(s.reverse.dropWhile isB).reverse
def Jbe (s:Bb):Bb:=V0 (YS s)
theorem Jkd {s:Bb} {y:UInt8} (h:s[0]? = some y) (hb:isB y=true):V0 s=V0 (s.drop 1):=by
 cases s with
 | nil=>cases h
 | cons x r=>simp at h;subst h;simp [V0,Hs,hb]
theorem Jmp {s:Bb} {y:UInt8} (h:s[0]? = some y) (hb:isB y=false):V0 s=s:=by
 cases s with
 | nil=>cases h
 | cons x r=>simp at h;subst h;simp [V0,Hs,hb]
theorem Jlm {s:Bb} {y:UInt8} (h:s[s.length-1]? = some y):s=s.take (s.length-1)++[y]:=by
 obtain ⟨hl,e⟩:=Hg.1 h
 have:=HU (s.length-1) s
 rw [Hk hl,e,Hx (by omega)] at this
 exact this.symm
theorem Jke {s:Bb} {y:UInt8} (h:s[s.length-1]? = some y) (hb:isB y=true):YS s=YS (s.take (s.length-1)):=by
 have e:=Jlm h
 generalize hr:s.take (s.length-1)=r at *
 rw [e];unfold YS;rw [List.reverse_append];simp [Hs,hb]
theorem Jmq {s:Bb} {y:UInt8} (h:s[s.length-1]? = some y) (hb:isB y=false):YS s=s:=by
 have e:=Jlm h
 generalize hr:s.take (s.length-1)=r at *
 rw [e];unfold YS;rw [List.reverse_append];simp [Hs,hb]
theorem Jn7 {s:Bb} (h:((s.length:Nat):Int)≤0):s=[]:=List.eq_nil_of_length_eq_zero (by omega)
theorem Jmr {s:Bb} (h:((s.length:Nat):Int)≤0):V0 s=s:=by rw [Jn7 h];rfl
theorem Jms {s:Bb} (h:((s.length:Nat):Int)≤0):YS s=s:=by rw [Jn7 h];rfl
theorem JaX {p:UInt8→Bool}:∀ {s:Bb},s.dropWhile p=[] ↔ ∀ b∈s,p b=true
 | []=>by simp
 | x::r=>by
  rw [Hs]
  split
  · rename_i h;rw [JaX];simp [h]
  · rename_i h;simp [h]
theorem JbV {p:UInt8→Bool}:∀ {s:Bb} {x:UInt8},(s.dropWhile p).head? = some x→p x=false
 | [],_,h=>by cases h
 | y::r,x,h=>by
  rw [Hs] at h
  split at h
  · exact JbV h
  · rename_i hy;simp at h;subst h;simpa using hy
theorem Jg9 {s:Bb}:Jbe s=[] ↔ ∀ b∈s,isB b=true:=by
 unfold Jbe V0
 rw [JaX]
 constructor
 ·
  intro h
  by_cases e:s.reverse.dropWhile isB=[]
  · rw [JaX] at e;simpa using e
  ·
   exfalso
   obtain ⟨x,hx⟩:∃ x,(s.reverse.dropWhile isB).head? = some x:=by
    cases hh:s.reverse.dropWhile isB with
    | nil=>exact absurd hh e
    | cons x r=>exact ⟨x,rfl⟩
   have h1:=JbV hx
   have h2:x∈YS s:=by unfold YS;rw [HR];exact List.mem_of_mem_head? hx
   rw [h x h2] at h1;cases h1
 ·
  intro h b hb
  unfold YS at hb
  rw [HR] at hb
  exact h b (HR.1 ((HT _).subset hb))
theorem Jmt (s:Bb):(YS s).length≤s.length:=by
 unfold YS;rw [List.length_reverse];have:=(HT (p:=isB) (l:=s.reverse)).length_le;rw [List.length_reverse] at this;exact this
def Jd9:Bv:=(List.range 256).map fun (j:Nat)=>Bo (YF (j:Int))
theorem Jn8 {k:Nat} (hk:k<256):Jd9[k]? = some (Bo (YF (k:Int))):=by
 unfold Jd9;simp [hk]
theorem asc_at {G:J4} {b k:Nat} {cs:Bv} (hz:∀ j v,cs[j]? = some v→G b (0+j)=some v) (hc:cs=Jd9) (hk:k<256):∀ j v,[Bo (YF (k:Int))][j]? = some v→G b (0+k*1+j)=some v:=by
 intro j v hv
 cases j with
 | zero =>
  simp at hv;subst hv hc
  have:=hz k _ (Jn8 hk)
  rw [Nat.mul_one,Nat.add_zero];exact this
 | succ j=>simp at hv
set_option maxRecDepth 4000 in
theorem Jkf (G:J4):VG Tryz.prog 236 #[Sr [48,49]] G [] (fun u G' L'=>u=.tuple #[.agg Jd9.toArray,Bo true]):=by
 refine JQ Tryz.func236 21 [(0,Sr ([48,49]))] rfl (fun w0 G0=>?_)
 refine Jf (Jd (Jv 2 #[Bo false,Bo false,Bo false,Bo false,Bo false,Bo false,Bo false,Bo false,Bo false,Bo false,Bo false,Bo false,Bo false,Bo false,Bo false,Bo false,Bo false,Bo false,Bo false,Bo false,Bo false,Bo false,Bo false,Bo false,Bo false,Bo false,Bo false,Bo false,Bo false,Bo false,Bo false,Bo false,Bo false,Bo false,Bo false,Bo false,Bo false,Bo false,Bo false,Bo false,Bo false,Bo false,Bo false,Bo false,Bo false,Bo false,Bo false,Bo false,Bo false,Bo false,Bo false,Bo false,Bo false,Bo false,Bo false,Bo false,Bo false,Bo false,Bo false,Bo false,Bo false,Bo false,Bo false,Bo false,Bo false,Bo false,Bo false,Bo false,Bo false,Bo false,Bo false,Bo false,Bo false,Bo false,Bo false,Bo false,Bo false,Bo false,Bo false,Bo false,Bo false,Bo false,Bo false,Bo false,Bo false,Bo false,Bo false,Bo false,Bo false,Bo false,Bo false,Bo false,Bo false,Bo false,Bo false,Bo false,Bo false,Bo false,Bo false,Bo false,Bo false,Bo false,Bo false,Bo false,Bo false,Bo false,Bo false,Bo false,Bo false,Bo false,Bo false,Bo false,Bo false,Bo false,Bo false,Bo false,Bo false,Bo false,Bo false,Bo false,Bo false,Bo false,Bo false,Bo false,Bo false,Bo false,Bo false,Bo false,Bo false,Bo false,Bo false,Bo false,Bo false,Bo false,Bo false,Bo false,Bo false,Bo false,Bo false,Bo false,Bo false,Bo false,Bo false,Bo false,Bo false,Bo false,Bo false,Bo false,Bo false,Bo false,Bo false,Bo false,Bo false,Bo false,Bo false,Bo false,Bo false,Bo false,Bo false,Bo false,Bo false,Bo false,Bo false,Bo false,Bo false,Bo false,Bo false,Bo false,Bo false,Bo false,Bo false,Bo false,Bo false,Bo false,Bo false,Bo false,Bo false,Bo false,Bo false,Bo false,Bo false,Bo false,Bo false,Bo false,Bo false,Bo false,Bo false,Bo false,Bo false,Bo false,Bo false,Bo false,Bo false,Bo false,Bo false,Bo false,Bo false,Bo false,Bo false,Bo false,Bo false,Bo false,Bo false,Bo false,Bo false,Bo false,Bo false,Bo false,Bo false,Bo false,Bo false,Bo false,Bo false,Bo false,Bo false,Bo false,Bo false,Bo false,Bo false,Bo false,Bo false,Bo false,Bo false,Bo false,Bo false,Bo false,Bo false,Bo false,Bo false,Bo false,Bo false,Bo false,Bo false,Bo false,Bo false,Bo false,Bo false,Bo false,Bo false,Bo false,Bo false,Bo false,Bo false,Bo false,Bo false,Bo false,Bo false,Bo false,Bo false,Bo false,Bo false,Bo false,Bo false,Bo false,Bo false,Bo false] 316 (fun b1=>Jb [0] [] (Je (Jc (Jf (Jg [0] [(4,I 0)] (Jy (JdT 3 (Wy (Jf (Jg [0,0,0,0] [(9,Bo true)] (J0 (Jq (Jc (Jf (Jy (Jg [0,0,0,0] [(5,Y 48)] (Jf ?_)))))))))))))))))))
 refine Jg [0,0] [(16,Bo false)] (Qp (Jq (Jc (Jd (JT [0,0,3] [] [[Sg b1 0 [Bo false,Bo false,Bo false,Bo false,Bo false,Bo false,Bo false,Bo false,Bo false,Bo false,Bo false,Bo false,Bo false,Bo false,Bo false,Bo false,Bo false,Bo false,Bo false,Bo false,Bo false,Bo false,Bo false,Bo false,Bo false,Bo false,Bo false,Bo false,Bo false,Bo false,Bo false,Bo false,Bo false,Bo false,Bo false,Bo false,Bo false,Bo false,Bo false,Bo false,Bo false,Bo false,Bo false,Bo false,Bo false,Bo false,Bo false,Bo false,Bo true,Bo false,Bo false,Bo false,Bo false,Bo false,Bo false,Bo false,Bo false,Bo false,Bo false,Bo false,Bo false,Bo false,Bo false,Bo false,Bo false,Bo false,Bo false,Bo false,Bo false,Bo false,Bo false,Bo false,Bo false,Bo false,Bo false,Bo false,Bo false,Bo false,Bo false,Bo false,Bo false,Bo false,Bo false,Bo false,Bo false,Bo false,Bo false,Bo false,Bo false,Bo false,Bo false,Bo false,Bo false,Bo false,Bo false,Bo false,Bo false,Bo false,Bo false,Bo false,Bo false,Bo false,Bo false,Bo false,Bo false,Bo false,Bo false,Bo false,Bo false,Bo false,Bo false,Bo false,Bo false,Bo false,Bo false,Bo false,Bo false,Bo false,Bo false,Bo false,Bo false,Bo false,Bo false,Bo false,Bo false,Bo false,Bo false,Bo false,Bo false,Bo false,Bo false,Bo false,Bo false,Bo false,Bo false,Bo false,Bo false,Bo false,Bo false,Bo false,Bo false,Bo false,Bo false,Bo false,Bo false,Bo false,Bo false,Bo false,Bo false,Bo false,Bo false,Bo false,Bo false,Bo false,Bo false,Bo false,Bo false,Bo false,Bo false,Bo false,Bo false,Bo false,Bo false,Bo false,Bo false,Bo false,Bo false,Bo false,Bo false,Bo false,Bo false,Bo false,Bo false,Bo false,Bo false,Bo false,Bo false,Bo false,Bo false,Bo false,Bo false,Bo false,Bo false,Bo false,Bo false,Bo false,Bo false,Bo false,Bo false,Bo false,Bo false,Bo false,Bo false,Bo false,Bo false,Bo false,Bo false,Bo false,Bo false,Bo false,Bo false,Bo false,Bo false,Bo false,Bo false,Bo false,Bo false,Bo false,Bo false,Bo false,Bo false,Bo false,Bo false,Bo false,Bo false,Bo false,Bo false,Bo false,Bo false,Bo false,Bo false,Bo false,Bo false,Bo false,Bo false,Bo false,Bo false,Bo false,Bo false,Bo false,Bo false,Bo false,Bo false,Bo false,Bo false,Bo false,Bo false,Bo false,Bo false,Bo false,Bo false,Bo false,Bo false,Bo false,Bo false,Bo false,Bo false,Bo false,Bo false,Bo false,Bo false,Bo false,Bo false,Bo false,Bo false,Bo false]]] (Je (JN (Jc (Jd (Jb [0,0,0] [(4,I 1)] (Je (WP (Wy (Jf (Jg [0,0,0,0] [(9,Bo true)] (J0 (Jq (Jc (Jf (Jy ?_))))))))))))))))))))
 refine Jg [0,0,0,0] [(5,Y 49)] (Jf (Jg [0,0] [(16,Bo false)] (Qp (Jq (Jc (Jd (JT [0,0,3] [] [[Sg b1 0 Jd9]] (Je (JN (Jc (Jd (Jb [0,0,0] [(4,I 2)] (Je (WP (Wy (Jf (Jg [0,0,0,0] [(9,Bo false)] (Qp ?_))))))))))))))))))
 refine KX (J1 (J1 (JV (Jc (Jg [2,3,0] [(3,Bo true)] (Jn (Jo [0,0] [.agg Jd9.toArray,Bo true] (Jx (Jh _) ?_))))))))
 rfl
theorem JfJ (G:J4) (b_as:Nat) (hz_as:∀ j v,(Jd9:Bv)[j]? = some v→G b_as (0+j)=some v) (c:Int) (hw_c:0≤c∧c<256) :Q3 260 #[Pt b_as 0,Y c] G (Bo (YF c)):=by
 refine JQ Tryz.func260 10 [(0,Pt b_as 0),(1,Y c)] rfl (fun w0 G0=>?_)
 refine Jg [0] [] (Jf (Jd (Jb [0,0,0] [(6,Y c),(7,Pt b_as 0)] ?_)))
 obtain ⟨kn1,hkn1⟩:∃ k_:Nat,c=(k_:Int):=⟨(c).toNat,by omega⟩
 have e1:c=(kn1:Int):=hkn1
 refine KG 6 (Y (kn1:Int)) (congrArg Y e1) (JlV (b:=b_as) (off:=0) (ik:=.u8) 8 4 1 256 kn1 Kd (JO (o':=0+kn1*1) 9 4 (cs:=[Bo (YF (kn1:Int))]) 0 (Bo (YF (kn1:Int))) (asc_at hz_as rfl Kd) (Jb [0] [(4,Bo (YF (kn1:Int)))] (Je (Jc (Jn (Jo [0] [Bo (YF (kn1:Int))] (Jx (Jh _) (congrArg Bo (?_:(YF c)=(YF (kn1:Int))).symm)))))))))
 rw [hkn1]
theorem Jmu (G:J4) (s:Bb) (hw_s:(s).length≤140737488351232) (b_as:Nat) (hz_as:∀ j v,(Jd9:Bv)[j]? = some v→G b_as (0+j)=some v) :Q3 237 #[Sr s,Pt b_as 0] G (Sr (V0 s)):=by
 refine JQ Tryz.func237 16 [(0,Sr s),(1,Pt b_as 0)] rfl (fun w0 G0=>?_)
 refine Jg [0] [] (Jf (Jy ?_))
 refine Qe (σ:=Bb) (fun q_=>(q_.length≤140737488351232)∧(V0 s=V0 q_)) (fun q_=>[(0,Sr q_),(1,Pt b_as 0)]) (fun q_=>G) (fun q_=>[]) (fun q_=>q_.length) s ⟨hw_s,rfl⟩ (fun q_ hs=>?_)
 revert hs;revert q_;intro t hs
 obtain ⟨ht,hn⟩:=hs
 dsimp only
 refine Jf (Jg [0,0,0] [(7,Bo (decide (((t).length:Int) > 0)))] (Jm (decide (((t).length:Int) > 0)) (fun h1=>?_) (fun h1=>?_)))
 refine Jq (Jc (Jy (Jf (Jf (Jd (Jb [0,0] [(8,Pt b_as 0),(9,Sr t)] ?_))))))
 obtain ⟨y1,hy1⟩:=QQ (l:=t) (k:=0) (by omega)
 have hb_y1:=y1.toNat_lt
 refine Ja9 (ik:=.i64) 10 0 y1 hy1 (Jl 11 (Bo (YF (y1.toNat:Int))) (JfJ G b_as hz_as (y1.toNat:Int) Kd) (Jb [0] [(12,Bo (!(YF (y1.toNat:Int))))] (Je (Jc (Jm (!(YF (y1.toNat:Int))) (fun h2=>?_) (fun h2=>?_))))))
 refine KX (J1 (Vv rfl (Ke (JV (Jc (Jg [0,0] [(4,Sr t)] (Jn (Jo [0] [Sr t] (Jx (Jh _) (congrArg Sr (?_:(V0 s)=t).symm))))))))))
 rw [hn];exact Jmp hy1 (by simp_all [JaR])
 exact Jq (Jc (Jd (Jb [0] [(13,Sr t)] (JlW (l:=t) 14 (some (I 1)) none 1 0 (.inr ⟨_,rfl⟩) (.inl ⟨rfl,rfl⟩) Kd (Jb [0] [(0,Sr (t.drop 1))] (Je (JN (Ql (t.drop 1) ⟨(by (try dsimp only);(try simp only [Hu,Hf]);omega),(by (try dsimp only);rw [hn];exact Jkd hy1 (by simp_all [JaR]))⟩ (by (try dsimp only);(try simp only [Hu,Hf]);omega)))))))))
 refine KX (J1 (Ke (JV (Jc (Jg [0,0] [(4,Sr t)] (Jn (Jo [0] [Sr t] (Jx (Jh _) (congrArg Sr (?_:(V0 s)=t).symm)))))))))
 rw [hn];exact Jmr (by omega)
theorem Jmv (G:J4) (s:Bb) (hw_s:(s).length≤140737488351232) (b_as:Nat) (hz_as:∀ j v,(Jd9:Bv)[j]? = some v→G b_as (0+j)=some v) :Q3 238 #[Sr s,Pt b_as 0] G (Sr (YS s)):=by
 refine JQ Tryz.func238 22 [(0,Sr s),(1,Pt b_as 0)] rfl (fun w0 G0=>?_)
 refine Jg [0] [] (Jf (Jy ?_))
 refine Qe (σ:=Bb) (fun q_=>(q_.length≤140737488351232)∧(YS s=YS q_)) (fun q_=>[(0,Sr q_),(1,Pt b_as 0)]) (fun q_=>G) (fun q_=>[]) (fun q_=>q_.length) s ⟨hw_s,rfl⟩ (fun q_ hs=>?_)
 revert hs;revert q_;intro t hs
 obtain ⟨ht,hn⟩:=hs
 dsimp only
 refine Jf (Jg [0,0,0] [(7,Bo (decide (((t).length:Int) > 0)))] (Jm (decide (((t).length:Int) > 0)) (fun h1=>?_) (fun h1=>?_)))
 refine Jq (Jc (Jy (Jf (Jf (Jd (Jb [0,0,0,0,0] [(8,Pt b_as 0),(9,Sr t),(12,I (Ha.wrap (((t).length:Int)-1)))] ?_))))))
 have e1:Ha.wrap (((t).length:Int)-1)=((t.length-1:Nat):Int):=(Hh _ (by omega)).trans (show ((t).length:Int)-1=((t.length-1:Nat):Int) by omega)
 refine KG 12 (I ((t.length-1:Nat):Int)) (congrArg I e1) ?_
 clear e1
 obtain ⟨y1,hy1⟩:=QQ (l:=t) (k:=t.length-1) (by omega)
 have hb_y1:=y1.toNat_lt
 refine Ja9 (ik:=.i64) 13 (t.length-1) y1 hy1 (Jl 14 (Bo (YF (y1.toNat:Int))) (JfJ G b_as hz_as (y1.toNat:Int) Kd) (Jb [0] [(15,Bo (!(YF (y1.toNat:Int))))] (Je (Jc (Jm (!(YF (y1.toNat:Int))) (fun h2=>?_) (fun h2=>?_))))))
 refine KX (J1 (Vv rfl (Ke (JV (Jc (Jg [0,0] [(4,Sr t)] (Jn (Jo [0] [Sr t] (Jx (Jh _) (congrArg Sr (?_:(YS s)=t).symm))))))))))
 rw [hn];exact Jmq hy1 (by simp_all [JaR])
 refine Jq (Jc (Jd (Jb [0,0,0,0] [(16,Sr t),(19,I (Ha.wrap (((t).length:Int)-1)))] ?_)))
 have e2:Ha.wrap (((t).length:Int)-1)=((t.length-1:Nat):Int):=(Hh _ (by omega)).trans (show ((t).length:Int)-1=((t.length-1:Nat):Int) by omega)
 refine KG 19 (I ((t.length-1:Nat):Int)) (congrArg I e2) ?_
 clear e2
 exact JdY (l:=t) 20 none (some (I ((t.length-1:Nat):Int))) 0 (t.length-1) (.inl ⟨rfl,rfl⟩) (.inr ⟨_,rfl⟩) (Hv _) Kd (Jb [0] [(0,Sr (t.take (t.length-1)))] (Je (JN (Ql (t.take (t.length-1)) ⟨(by (try dsimp only);(try simp only [Hu,Hf]);omega),(by (try dsimp only);rw [hn];exact Jke hy1 (by simp_all [JaR]))⟩ (by (try dsimp only);(try simp only [Hu,Hf]);omega)))))
 refine KX (J1 (Ke (JV (Jc (Jg [0,0] [(4,Sr t)] (Jn (Jo [0] [Sr t] (Jx (Jh _) (congrArg Sr (?_:(YS s)=t).symm)))))))))
 rw [hn];exact Jms (by omega)
theorem Jmw (G:J4) (s:Bb) (hw_s:(s).length≤140737488351232) :Q3 199 #[Sr s,Sr ([48,49])] G (Sr (Jbe s)):=by
 refine JQ Tryz.func199 43 [(0,Sr s),(1,Sr ([48,49]))] rfl (fun w0 G0=>?_)
 refine Jg [0] [] (Jf (Jf (Jd (Jb [0,0,0] [(9,Bo ((B s).toList == (B ([])).toList))] (KG 9 (Bo (s == [])) (show (Bo ((B s).toList == (B ([])).toList):Value)=Bo (s == []) by simp only [QY]) (Kr (s == []) [9] [1,1,0] [0,0,0] (fun bb=>[(12,Bo (bb || false))]) (Je (Jc (Jm ((s == []) || false) (fun h1=>?_) (fun h1=>?_))))))))))
 refine Jg [0,0] [(4,Sr s)] (Jn (Jj (Jo [0] [Sr s] (Jx (Jh _) (congrArg Sr (?_:(Jbe s)=s).symm)))))
 (simp_all;rfl)
 refine Jq (Jc (Jf (Jg [0,0,0,0,1,1,1,0] [(21,Bo false)] (Qp (Jq (Jc (Jf (Jf (Jd (Jb [0] [(30,Sr ([48,49]))] (Jl 31 (.tuple #[.agg Jd9.toArray,Bo true]) (Jkf G) (Jb [0,0,0] [(32,.agg Jd9.toArray),(33,Bo true)] (Jv 5 #[Bo false,Bo false,Bo false,Bo false,Bo false,Bo false,Bo false,Bo false,Bo false,Bo false,Bo false,Bo false,Bo false,Bo false,Bo false,Bo false,Bo false,Bo false,Bo false,Bo false,Bo false,Bo false,Bo false,Bo false,Bo false,Bo false,Bo false,Bo false,Bo false,Bo false,Bo false,Bo false,Bo false,Bo false,Bo false,Bo false,Bo false,Bo false,Bo false,Bo false,Bo false,Bo false,Bo false,Bo false,Bo false,Bo false,Bo false,Bo false,Bo false,Bo false,Bo false,Bo false,Bo false,Bo false,Bo false,Bo false,Bo false,Bo false,Bo false,Bo false,Bo false,Bo false,Bo false,Bo false,Bo false,Bo false,Bo false,Bo false,Bo false,Bo false,Bo false,Bo false,Bo false,Bo false,Bo false,Bo false,Bo false,Bo false,Bo false,Bo false,Bo false,Bo false,Bo false,Bo false,Bo false,Bo false,Bo false,Bo false,Bo false,Bo false,Bo false,Bo false,Bo false,Bo false,Bo false,Bo false,Bo false,Bo false,Bo false,Bo false,Bo false,Bo false,Bo false,Bo false,Bo false,Bo false,Bo false,Bo false,Bo false,Bo false,Bo false,Bo false,Bo false,Bo false,Bo false,Bo false,Bo false,Bo false,Bo false,Bo false,Bo false,Bo false,Bo false,Bo false,Bo false,Bo false,Bo false,Bo false,Bo false,Bo false,Bo false,Bo false,Bo false,Bo false,Bo false,Bo false,Bo false,Bo false,Bo false,Bo false,Bo false,Bo false,Bo false,Bo false,Bo false,Bo false,Bo false,Bo false,Bo false,Bo false,Bo false,Bo false,Bo false,Bo false,Bo false,Bo false,Bo false,Bo false,Bo false,Bo false,Bo false,Bo false,Bo false,Bo false,Bo false,Bo false,Bo false,Bo false,Bo false,Bo false,Bo false,Bo false,Bo false,Bo false,Bo false,Bo false,Bo false,Bo false,Bo false,Bo false,Bo false,Bo false,Bo false,Bo false,Bo false,Bo false,Bo false,Bo false,Bo false,Bo false,Bo false,Bo false,Bo false,Bo false,Bo false,Bo false,Bo false,Bo false,Bo false,Bo false,Bo false,Bo false,Bo false,Bo false,Bo false,Bo false,Bo false,Bo false,Bo false,Bo false,Bo false,Bo false,Bo false,Bo false,Bo false,Bo false,Bo false,Bo false,Bo false,Bo false,Bo false,Bo false,Bo false,Bo false,Bo false,Bo false,Bo false,Bo false,Bo false,Bo false,Bo false,Bo false,Bo false,Bo false,Bo false,Bo false,Bo false,Bo false,Bo false,Bo false,Bo false,Bo false,Bo false,Bo false,Bo false,Bo false,Bo false,Bo false,Bo false,Bo false,Bo false,Bo false,Bo false,Bo false,Bo false,Bo false] 316 (fun b1=>JT [3,0] [(6,Bo true)] [[Sg b1 0 Jd9]] (Je (Jc (Jg [0] [(34,Bo true)] (J0 ?_))))))))))))))))))
 refine Jf (Jd (Jb [0] [(35,Sr s)] (QK (b:=b1) (o:=0) (cs:=Jd9) 0 (fun G1 hl1 hz1=>Jl 36 (Sr (YS s)) (Jmv G1 s ‹_› b1 hz1) (Jl 37 (Sr (V0 (YS s))) (Jmu G1 (YS s) (Hm (Jmt s) hw_s) b1 hz1) (Jb [0] [(4,Sr (V0 (YS s)))] (Je (Jc (Jn (Jj (Jo [0] [Sr (V0 (YS s))] (Jx hl1 (congrArg Sr (?_:(Jbe s)=(V0 (YS s))).symm)))))))))))))
 rfl
theorem Jkg (G:J4) (s:Bb) (q:Bb) :Q3 263 #[Sr s,Sr q] G (Bo (decide (q <+: s))):=by
 refine JQ Tryz.func263 18 [(0,Sr s),(1,Sr q)] rfl (fun w0 G0=>?_)
 refine Jg [0] [] (Jf (Jd (Jb [0,0,0,0,0,0] [(10,Bo (decide (((s).length:Int) ≥ ((q).length:Int))))] (QU [10] (decide (((s).length:Int) ≥ ((q).length:Int))) (fun h1=>?_) (fun h1=>?_)))))
 refine Jb [0,0,0] [(11,Sr s),(13,I ((q).length:Int))] (JdY (l:=s) 14 none (some (I ((q).length:Int))) 0 ((q).length) (.inl ⟨rfl,rfl⟩) (.inr ⟨_,rfl⟩) (Hv _) Kd (Jb [0,0,0,0] [(4,Bo ((B (s.take ((q).length))).toList == (B q).toList))] (KG 4 (Bo (s.take ((q).length) == q)) (show (Bo ((B (s.take ((q).length))).toList == (B q).toList):Value)=Bo (s.take ((q).length) == q) by simp only [QY]) (Je (Jc (Jn (Jo [0] [Bo (s.take ((q).length) == q)] (Jx (Jh _) (congrArg Bo (?_:(decide (q <+: s))=(s.take ((q).length) == q)).symm)))))))))
 (rw [HE];simp only [decide_eq_true_eq,beq_iff_eq,List.prefix_iff_eq_take];exact eq_comm)
 refine Jb [1,1,1,1,1,1,0,0] [(4,Bo false)] (Je (Jc (Jn (Jo [0] [Bo false] (Jx (Jh _) (congrArg Bo (?_:(decide (q <+: s))=false).symm))))))
 (rw [decide_eq_false];intro hp_;have q_:=hp_.length_le;omega)
theorem Jgr (G:J4) (s:Bb) (q:Bb) :Q3 244 #[Sr s,Sr q] G (Bo (decide (q <+: s))):=by
 refine JQ Tryz.func244 8 [(0,Sr s),(1,Sr q)] rfl (fun w0 G0=>?_)
 refine Jg [0] [] (Jf (Jd (Jb [0,0] [(5,Sr s),(6,Sr q)] (Jl 7 (Bo (decide (q <+: s))) (Jkg G s q) (Jb [0] [(4,Bo (decide (q <+: s)))] (Je (Jc (Jn (Jo [0] [Bo (decide (q <+: s))] (Jx (Jh _) (congrArg Bo (?_:(decide (q <+: s))=(decide (q <+: s))).symm)))))))))))
 rfl
theorem isB_bd {b:UInt8} (h:isB b=true):48≤b.toNat∧b.toNat≤49:=by
 unfold isB at h
 simp only [Bool.or_eq_true,beq_iff_eq] at h
 rcases h with rfl | rfl <;> decide
theorem Jkh (name:Bb):∀ b∈YQ name,isB b=true:=by
 intro b hb
 unfold YQ at hb
 obtain ⟨n,hn,rfl⟩:=List.mem_map.1 hb
 have:n=48∨n=49:=by
  simp only [HA,HS,or_false] at hn
  have key:∀ k,JE (Ji name) k=48∨JE (Ji name) k=49:=fun k=>by unfold JE;omega
  rcases hn with rfl | rfl | rfl | rfl | rfl | rfl | rfl | rfl | rfl | rfl | rfl | rfl | rfl | rfl | rfl | rfl <;> exact key _
 rcases this with rfl | rfl <;> decide
theorem Jea {a:Bb} (h:(KM a).2=0):(KM a).1=YQ a:=by
 unfold KM at h ⊢;split at h
 · cases h
 · rename_i h1;rw [if_neg h1]
def Jki (x:Kb):Bb:=(VH [x.name,x.value]).1
def K5 (l:List Kb):Bb:=if l.length=0 then [0] else [1]++(l.map Jki).flatten
theorem Jn9 (x:Kb):(Jki x).length≤600:=Jci _
theorem JiU (l:List Kb):((l.map Jki).flatten).length≤600*l.length:=by
 induction l with
 | nil=>simp
 | cons x l ih=>simp only [List.map_cons,List.flatten_cons,Hc,Hd];have:=Jn9 x;omega
theorem Jbu {l:List Kb} (h:l.length≤24):(K5 l).length≤14401:=by
 unfold K5;split
 · simp
 · rw [Hc];have:=JiU l;simp only [Hd,He];omega
theorem Jmx {l:List Kb} {i:Nat} {x:Kb} (h:l[i]? = some x):([1]++((l.take i).map Jki).flatten)++(VH [x.name,x.value]).1=[1]++((l.take (i+1)).map Jki).flatten:=by rw [Hp,h];simp [Jki]
def entZ:Kb:=⟨[],[]⟩
def Jkj (l:List Kb):Kb:=l[0]?.getD entZ
def Joa (l:List Kb):Kb:=l[l.length-1]?.getD entZ
theorem JfK {l:List Kb} {x:Kb} (h:l[0]? = some x):x=Jkj l:=by unfold Jkj;rw [h];rfl
theorem Jha {l:List Kb} {x:Kb} (h:l[l.length-1]? = some x):x=Joa l:=by unfold Joa;rw [h];rfl
def Kj (l:List Kb):Bb×Int:=if Kn l ≠ 0 then ([],Kn l) else if 0<(l.length:Int)∧¬ way (Jkj l).name=way (Joa l).name then ([],3) else (K5 l,0)
theorem ZZ (l:List Kb):(Kj l).1.length≤14401:=by
 unfold Kj;split
 · simp
 split
 · simp
 · rename_i h _;exact Jbu (Qd.1 (Hj.1 h)).len
def JaC (x:Kb) (w:Bb):Bool:=!(way x.name == w)
def Jbv (m:Int):Bool:=decide (m ≥ 2305843009213693951)
def QL (p:Q4):Int:=if KS p.name=false then 3 else if Kn p.entries ≠ 0 then Kn p.entries else if ((p.entries.any fun x0=>JaC x0 (way p.name))=true∨¬ (p.sides.length:Int)=16)∨(p.sides.any fun x0=>Jbv x0)=true then 3 else 0
def JiV:Bb:=(Kj []).1
def JiW (a b:Int):Bb:=if a=Ji JiV∧b=Ji JiV then JiV else Qk 2 a b
def V1 (w:Bb) (i:Nat) (s:Bb) (side:Int):Bb:=if w[15-i]? = some 49 then JiW side (Ji s) else JiW (Ji s) side
def Jdr (w:Bb):Nat→Bb→List Int→Bs
 | _,s,[]=>[s]
 | i,s,q::qs=>s::Jdr w (i+1) (V1 w i s q) qs
theorem Yy (w:Bb):∀ (qs:List Int) (i:Nat) (s:Bb),(Jdr w i s qs).length=qs.length+1
 | [],_,_=>rfl
 | q::qs,i,s=>by show (Jdr w (i+1) _ qs).length+1=_;rw [Yy w qs];rfl
theorem Job (w:Bb) (qs:List Int) (i:Nat) (s:Bb):(Jdr w i s qs)[0]? = some s:=by cases qs <;> rfl
theorem Jkk (w:Bb) (qs:List Int) (i:Nat) (s:Bb):[s]=(Jdr w i s qs).take 1:=by cases qs <;> rfl
theorem Jhb (w:Bb):∀ (qs:List Int) (i k:Nat) (s a:Bb) (q:Int),(Jdr w i s qs)[k]? = some a→qs[k]? = some q→(Jdr w i s qs)[k+1]? = some (V1 w (i+k) a q)
 | [],_,_,_,_,_,_,h=>by simp at h
 | q::qs,i,0,s,a,q',h1,h2=>by
  have h1:some s=some a:=h1
  have h2:some q=some q':=h2
  rw [← Hr.inj h1,← Hr.inj h2]
  exact Job w qs (i+1) _
 | q::qs,i,k+1,s,a,q',h1,h2=>by
  have:=Jhb w qs (i+1) k (V1 w i s q) a q' h1 h2
  rw [show i+(k+1)=i+1+k by omega];exact this
theorem Vo {w:Bb} {qs:List Int} {s0 s:Bb} {xo:Bs} {i:Nat} {q:Int} (ho:xo=(Jdr w 0 s0 qs).take (i+1)) (hs:(Jdr w 0 s0 qs)[i]? = some s) (hq:qs[i]? = some q):xo++[V1 w i s q]=(Jdr w 0 s0 qs).take (i+1+1)∧(Jdr w 0 s0 qs)[i+1]? = some (V1 w i s q):=by
 have:=Jhb w qs 0 i s0 s q hs hq
 rw [H0] at this
 refine ⟨?_,this⟩
 rw [ho]
 conv=>rhs;rw [Hp,this]
 rfl
def K6 (p:Q4):Bs×Int:=if QL p ≠ 0 then ([],QL p) else (Jdr (way p.name) 0 (Kj p.entries).1 p.sides,0)
theorem JaD {name:Bb} (h:KS name=true):(way name).length=16:=by unfold way KM;rw [if_neg (by rw [h];simp)];exact Jad name
structure JpA (p:Q4):Prop where
 name:KS p.name=true
 ents:ZO p.entries
 ways:∀ x∈p.entries,way x.name=way p.name
 sides:p.sides.length=16
 marks:∀ m∈p.sides,m<2305843009213693951
theorem Wt {p:Q4}:QL p=0 ↔ JpA p:=by
 unfold QL
 constructor
 ·
  intro h
  split at h
  · cases h
  split at h
  · contradiction
  split at h
  · cases h
  ·
   rename_i h1 h2 h3
   refine ⟨by simpa using h1,Qd.1 (Hj.1 h2),fun x hx=>?_,?_,fun m hm=>?_⟩
   ·
    apply Classical.byContradiction;intro hc
    exact h3 (.inl (.inl (Hz.2 ⟨x,hx,by unfold JaC;simpa using hc⟩)))
   ·
    apply Classical.byContradiction;intro hc
    exact h3 (.inl (.inr (by omega)))
   ·
    apply Classical.byContradiction;intro hc
    exact h3 (.inr (Hz.2 ⟨m,hm,by unfold Jbv;simp;omega⟩))
 ·
  rintro ⟨h1,h2,h3,h4,h5⟩
  rw [if_neg (by rw [h1];simp),if_neg (by have:=Qd.2 h2;omega),if_neg]
  rintro ((hc | hc) | hc)
  ·
   obtain ⟨x,hx,e⟩:=Hz.1 hc
   unfold JaC at e;simp at e
   exact e (h3 x hx)
  · omega
  ·
   obtain ⟨m,hm,e⟩:=Hz.1 hc
   have:=h5 m hm
   unfold Jbv at e;simp at e;omega
theorem Jfb {a b:Int} (h:(if b > a then b else a)=Ji (Kj []).1∧a=b):JiW a b=(Kj []).1:=by
 unfold JiW JiV;obtain ⟨h1,rfl⟩:=h;rw [if_pos];split at h1 <;> exact ⟨h1,h1⟩
theorem Jfc {a b:Int} (h:¬ (if b > a then b else a)=Ji (Kj []).1∨¬ a=b):JiW a b=Qk 2 a b:=by
 unfold JiW JiV;rw [if_neg];rintro ⟨rfl,h2⟩
 rcases h with h | h
 · exact h (by split <;> omega)
 · exact h h2.symm
theorem Jfd {w s:Bb} {i k:Nat} {q:Int} {y:UInt8} (h:15-i=k) (hy:w[k]? = some y) (e:(y.toNat:Int)=49):V1 w i s q=JiW q (Ji s):=by
 have:y=49:=Jpr.1 e
 unfold V1;rw [h,hy,this,if_pos rfl]
theorem Jfe {w s:Bb} {i k:Nat} {q:Int} {y:UInt8} (h:15-i=k) (hy:w[k]? = some y) (e:¬ (y.toNat:Int)=49):V1 w i s q=JiW (Ji s) q:=by
 unfold V1;rw [h,hy,if_neg]
 intro hc;apply e;rw [Hr.inj hc];rfl
theorem Jag (G:J4) (a_l:Ba) (c_l:Nat) (l:List Kb) (h_l:RS QE G a_l c_l l) (h24:l.length≤24):Q3 181 #[Sl a_l l.length c_l] G (Sr (K5 l)):=by
 refine JQ Tryz.func181 35 [(0,Sl a_l l.length c_l)] rfl (fun w0 G0=>?_)
 refine Jg [0] [] (Jf (Jg [0,0,0] [(10,Bo (decide ((l.length:Int)=0)))] (Jm (decide ((l.length:Int)=0)) (fun h1=>?_) (fun h1=>?_))))
 refine Jf (Jd (Kq 11 1 #[Y 0] 5 (fun b1=>Jba (b:=b1) (off:=0) (len:=1) (cap:=1) (cs:=List.map (Value.int .u8) [0]) 12 0 [0] rfl (Jak (ns:=[0]) rfl) (Jb [0] [(2,Sr (([0]:List Int).map fun n=>HH n.toNat))] (Je (Jc (Jn (Jj (Jo [0] [Sr (([0]:List Int).map fun n=>HH n.toNat)] (Jx (Jh _) (congrArg Sr (?_:(K5 l)=(([0]:List Int).map fun n=>HH n.toNat)).symm)))))))))))
 unfold K5;(rw [if_pos (by omega)];rfl)
 refine Jq (Jc (Jf (Jd (Kq 13 1 #[Y 1] 5 (fun b2=>Jba (b:=b2) (off:=0) (len:=1) (cap:=1) (cs:=List.map (Value.int .u8) [1]) 14 0 [1] rfl (Jak (ns:=[1]) rfl) (Jb [0] [(3,Sr (([1]:List Int).map fun n=>HH n.toNat))] (Je (Jc (Jf (Jg [0,0,0] [(15,Sl a_l l.length c_l),(16,I (l.length:Int)),(17,I 0)] (Jy ?_)))))))))))
 have hlm_h_l:l.length≤9223372036854775807:=Hm (h_l).le (h_l).max
 refine Qe (σ:=Nat×Bb×J4) (fun q_=>(J4.le G q_.2.2)∧(q_.1≤l.length)∧(q_.2.1=[1]++((l.take q_.1).map Jki).flatten)) (fun q_=>[(3,Sr q_.2.1),(15,Sl a_l l.length c_l),(16,I (l.length:Int)),(17,I (q_.1:Int))]) (fun q_=>q_.2.2) (fun q_=>[[Sg b2 0 [Y 1]]]) (fun q_=>l.length-q_.1) (0,([1]:List Int).map fun n=>HH n.toNat,G) ⟨(Jh _),(by (try dsimp only);exact Hv _),(by (try dsimp only);simp)⟩ (fun q_ hs=>?_)
 obtain ⟨i,o,g⟩:=q_
 obtain ⟨hle,hi,ho⟩:=hs
 dsimp only at hle hi ho
 dsimp only
 refine Jg [0] [(18,Bo (decide ((i:Int)<(l.length:Int))))] (Jf (Jm (decide ((i:Int)<(l.length:Int))) (fun h2=>?_) (fun h2=>?_)))
 refine Jq (Jc (Jf (Jy (Jf (Jd ?_)))))
 obtain ⟨b3,o1,rfl⟩:=RS.addr (h_l.mono hle) (k:=i) (by omega)
 obtain ⟨x1,hx1⟩:=QQ (l:=l) (k:=i) (by omega)
 obtain ⟨_,⟨rfl,w1,w2⟩,hc1⟩:=RS.get (h_l.mono hle) hx1
 refine JW (b:=b3) (off:=o1) (len:=l.length) (cap:=c_l) (ik:=.i64) 19 111 2 i Kd (JO 20 111 (cs:=[Sr x1.name,Sr x1.value]) 0 (.agg #[Sr x1.name,Sr x1.value]) hc1 (Jv 5 #[Sr ([]),Sr ([])] 111 (fun b4=>JT [3] [] [[Sg b4 0 [Sr x1.name,Sr x1.value]],[Sg b2 0 [Y 1]]] (Je (Jc (Jf (Jd (Jb [0,2,0,2] [(23,Sr x1.name),(25,Sr x1.value)] (Kq 26 2 #[Sr x1.name,Sr x1.value] 9 (fun b5=>QK (b:=b5) (o:=0) (cs:=[Sr x1.name,Sr x1.value]) 0 (fun G1 hl1 hz1=>?_)))))))))))
 have hs1:RS ES G1 (At b5 0) 2 [x1.name,x1.value]:=RS.lit [[Sr x1.name],[Sr x1.value]] [x1.name,x1.value] ⟨⟨rfl,w1⟩,⟨⟨rfl,w2⟩,trivial⟩⟩ hz1 (Hb rfl) (Hb rfl)
 exact Jl 27 (.tuple #[Sr ((VH ([x1.name,x1.value])).1),I ((VH ([x1.name,x1.value])).2)]) (JiE G1 (At b5 0) 2 ([x1.name,x1.value]) hs1) (Jb [0,0,0,0,0] [(6,Sr ((VH ([x1.name,x1.value])).1))] (Je (Jc (Jd (Jb [0,0] [(30,Sr o),(31,Sr ((VH ([x1.name,x1.value])).1))] (ZS 32 o ((VH ([x1.name,x1.value])).1) (by have q_:=congrArg Hl ho;have q1_:=JiU (l.take i);have q2_:=Jci [x1.name,x1.value];rw [Hf] at q1_;simp only [Hc,Hd,He] at q_;omega) (Jb [0] [(3,Sr (o++((VH ([x1.name,x1.value])).1)))] (Je (JN (Jc (Jd (Jb [0,0] [(17,I (Ha.wrap ((i:Int)+1)))] (Ku 17 ((i:Int)+1) Kd (Je (QA [[Sg b2 0 [Y 1]]] (Ql (i+1,o++((VH ([x1.name,x1.value])).1),G1) ⟨(Ja hle hl1),Kd,(by (try dsimp only);rw [ho];exact Jmx hx1)⟩ (by (try dsimp only);omega)))))))))))))))))
 refine KX (J1 (Ke (JV (Jc (Jg [0,0] [(2,Sr o)] (Jn (Jo [0] [Sr o] (Jx hle (congrArg Sr (?_:(K5 l)=o).symm)))))))))
 unfold K5;(rw [if_neg (by omega),ho,Hy (by omega)])
theorem Jds (G:J4) (a_l:Ba) (c_l:Nat) (l:List Kb) (h_l:RS QE G a_l c_l l) :Q3 126 #[Sl a_l l.length c_l] G (.tuple #[Sr ((Kj l).1),I ((Kj l).2)]):=by
 refine JQ Tryz.func126 31 [(0,Sl a_l l.length c_l)] rfl (fun w0 G0=>?_)
 refine Jg [0,0] [] (Jf (Jf (Jd (Jb [0] [(5,Sl a_l l.length c_l)] (Jl 6 (I (Kn l)) (Vc G a_l c_l l h_l) (Jb [0] [(4,I (Kn l))] (Je (Jc (Jg [0,0] [(8,Bo (!decide (Kn l=0)))] (Jm (!decide (Kn l=0)) (fun h1=>?_) (fun h1=>?_)))))))))))
 refine Jg [0,0,0] [(2,Sr ([])),(3,I (Kn l))] (Jn (Jj (Jo [0,0] [Sr ([]),I (Kn l)] (Jx (Jh _) ?_))))
 have hf_:(Kj l)=([],(Kn l)):=by
  unfold Kj;(rw [if_pos ‹_›];done)
 · (try rw [hf_]);(simp only [Qy];done)
 refine Jq (Jc (Jf (Jf ?_)))
 rcases Hq (decide ((l.length:Int) > 0)) with h2 | h2
 have h2d:=h2
 try simp only [BB] at h2d
 obtain ⟨b1,o1,rfl⟩:=RS.addr h_l (k:=0) (by omega)
 obtain ⟨x1,hx1⟩:=QQ (l:=l) (k:=0) (by omega)
 obtain ⟨_,⟨rfl,w1,_⟩,hc1⟩:=RS.get h_l hx1
 have e1:Ha.wrap ((l.length:Int)-1)=((l.length-1:Nat):Int):=(Hh _ (by (have q_:=(Qd.1 ‹_›).len;omega))).trans (show (l.length:Int)-1=((l.length-1:Nat):Int) by omega)
 obtain ⟨x2,hx2⟩:=QQ (l:=l) (k:=l.length-1) (by omega)
 obtain ⟨_,⟨rfl,w3,_⟩,hc2⟩:=RS.get h_l hx2
 refine Kv [] (Ws [(0,Sl (At b1 o1) l.length c_l),(1,I (l.length:Int)),(2,Bo true),(3,Bo true),(4,Sl (At b1 o1) l.length c_l),(5,Pt b1 (o1+0*2)),(6,Pt b1 (o1+0*2)),(7,Sr x1.name),(8,Sr (way x1.name)),(9,Sl (At b1 o1) l.length c_l),(10,Sl (At b1 o1) l.length c_l),(11,I (l.length:Int)),(12,I ((l.length-1:Nat):Int)),(13,Pt b1 (o1+(l.length-1)*2)),(14,Pt b1 (o1+(l.length-1)*2)),(15,Sr x2.name),(16,Sr (way x2.name)),(17,Bo (!((B (way x1.name)).toList == (B (way x2.name)).toList))),(18,Bo (!((B (way x1.name)).toList == (B (way x2.name)).toList)))] (Ko [] [(0,0),(1,0),(3,0),(4,0),(6,0),(9,0),(10,0),(11,0),(14,0),(17,0),(18,0)] [2,5,7,8,12,13,15,16] [(0,Sl (At b1 o1) l.length c_l),(28,Bo (!((B (way x1.name)).toList == (B (way x2.name)).toList)))] (Kf ?_ (Kf ?_ (Kf ?_ (Kf ?_ (Kf ?_ (Kf ?_ (Kf ?_ (Kf ?_ KY)))))))) ?_))
 refine Jr 2 12 (Bo true) [(11,I (l.length:Int))] (fun X=>?_)
 exact Qa 12 (Bo (decide ((l.length:Int) > 0))) (Bo true) (by rw [h2]) Jp
 refine Jr 5 15 (Pt b1 (o1+0*2)) [(13,Bo true),(14,Sl (At b1 o1) l.length c_l)] (fun X=>?_)
 exact JW (b:=b1) (off:=o1) (len:=l.length) (cap:=c_l) (ik:=.i64) 15 111 2 0 Kd Jp
 refine Jr 7 17 (Sr x1.name) [(13,Bo true),(16,Pt b1 (o1+0*2))] (fun X=>?_)
 exact JO 17 9 (cs:=[Sr x1.name,Sr x1.value]) 0 (Sr x1.name) hc1 Jp
 refine Jr 8 18 (Sr (way x1.name)) [(13,Bo true),(17,Sr x1.name)] (fun X=>?_)
 exact Jl 18 (Sr (way x1.name)) (Jdn G x1.name w1) Jp
 refine Jr 12 22 (I ((l.length-1:Nat):Int)) [(13,Bo true),(21,I (l.length:Int))] (fun X=>?_)
 exact Qa 22 (I (Ha.wrap ((l.length:Int)-1))) (I ((l.length-1:Nat):Int)) (by simp only [e1]) Jp
 refine Jr 13 23 (Pt b1 (o1+(l.length-1)*2)) [(13,Bo true),(19,Sl (At b1 o1) l.length c_l),(22,I ((l.length-1:Nat):Int))] (fun X=>?_)
 exact JW (b:=b1) (off:=o1) (len:=l.length) (cap:=c_l) (ik:=.i64) 23 111 2 (l.length-1) Kd Jp
 refine Jr 15 25 (Sr x2.name) [(13,Bo true),(24,Pt b1 (o1+(l.length-1)*2))] (fun X=>?_)
 exact JO 25 9 (cs:=[Sr x2.name,Sr x2.value]) 0 (Sr x2.name) hc2 Jp
 refine Jr 16 26 (Sr (way x2.name)) [(13,Bo true),(25,Sr x2.name)] (fun X=>?_)
 exact Jl 26 (Sr (way x2.name)) (Jdn G x2.name w3) Jp
 refine JdR 28 (Bo (!(way x1.name == way x2.name))) (show (Bo (!((B (way x1.name)).toList == (B (way x2.name)).toList)):Value)=Bo (!(way x1.name == way x2.name)) by simp only [QY]) (Jc (Jm (!(way x1.name == way x2.name)) (fun h3=>?_) (fun h3=>?_)))
 refine Jg [0,0] [(2,Sr ([])),(3,I 3)] (Jn (Jj (Jo [0,0] [Sr ([]),I 3] (Jx (Jh _) ?_))))
 have hf_:(Kj l)=([],3):=by
  unfold Kj;(have hf_:=JfK hx1;(have hl_:=Jha hx2;subst hf_;subst hl_;rw [if_neg (by omega)];(rw [if_pos (by simp_all)];done)))
 · (try rw [hf_]);(simp only [Qy];done)
 refine Jq (Jc (Jf (Jd (Jb [0] [(29,Sl (At b1 o1) l.length c_l)] (Jl 30 (Sr (K5 l)) (Jag G (At b1 o1) c_l l h_l (by exact (Qd.1 ‹_›).len)) (Jb [0,0] [(2,Sr (K5 l)),(3,I 0)] (Je (Jc (Jn (Jo [0,0] [Sr (K5 l),I 0] (Jx (Jh _) ?_)))))))))))
 have hf_:(Kj l)=(K5 l,0):=by
  unfold Kj;(have hf_:=JfK hx1;(have hl_:=Jha hx2;subst hf_;subst hl_;rw [if_neg (by omega)];(rw [if_neg (by simp_all)];done)))
 · (try rw [hf_]);(simp only [Qy];done)
 have h2d:=h2
 try simp only [BB] at h2d
 refine Kv [] (Ws [(0,Sl a_l l.length c_l),(1,I (l.length:Int)),(2,Bo false),(3,Bo false),(4,undef),(5,undef),(6,undef),(7,undef),(8,undef),(9,undef),(10,undef),(11,undef),(12,undef),(13,undef),(14,undef),(15,undef),(16,undef),(17,undef),(18,Bo false)] (Ko [] [(0,0),(1,0),(3,0),(4,1),(5,1),(6,1),(7,1),(8,1),(9,1),(10,1),(11,1),(12,1),(13,1),(14,1),(15,1),(16,1),(17,1),(18,0)] [2] [(0,Sl a_l l.length c_l),(28,Bo false)] (Kf ?_ KY) ?_))
 refine Jr 2 12 (Bo false) [(11,I (l.length:Int))] (fun X=>?_)
 exact Qa 12 (Bo (decide ((l.length:Int) > 0))) (Bo false) (by rw [h2]) Jp
 refine Jc (Qp (Jq (Jc (Jf (Jd (Jb [0] [(29,Sl a_l l.length c_l)] (Jl 30 (Sr (K5 l)) (Jag G a_l c_l l h_l (by exact (Qd.1 ‹_›).len)) (Jb [0,0] [(2,Sr (K5 l)),(3,I 0)] (Je (Jc (Jn (Jo [0,0] [Sr (K5 l),I 0] (Jx (Jh _) ?_)))))))))))))
 have hf_:(Kj l)=(K5 l,0):=by
  unfold Kj;(rw [if_neg (by omega),if_neg (by intro hc_;omega)];done)
 · (try rw [hf_]);(simp only [Qy];done)
theorem Jdt (G:J4) (name:Bb) (hw_name:(name).length≤140737488351232) :Q3 127 #[Sr name] G (Sr (way name)):=by
 refine JQ Tryz.func127 11 [(0,Sr name)] rfl (fun w0 G0=>?_)
 refine Jg [0] [] (Jf (Jd (Jb [0] [(6,Sr name)] (Jl 7 (.tuple #[Sr ((KM name).1),I ((KM name).2)]) (JcS G name hw_name) (Jb [0,0,0,0,0] [(3,Sr ((KM name).1))] (Je (Jc (Jg [0,0] [(2,Sr ((KM name).1))] (Jn (Jo [0] [Sr ((KM name).1)] (Jx (Jh _) (congrArg Sr (?_:(way name)=((KM name).1)).symm))))))))))))
 rfl
theorem Jkl (G:J4) (vs_x:Bv) (x:Kb) (h_x:QE.R G vs_x x) (vs_w:Bv) (w:Bb) (h_w:ES.R G vs_w w) (b_w:Nat) (hz_w:∀ j v,(vs_w:Bv)[j]? = some v→G b_w (0+j)=some v) :Q3 178 #[.agg vs_x.toArray,Pt b_w 0] G (Bo (JaC x w)):=by
 obtain ⟨rfl,w1,_⟩:=h_x
 obtain ⟨rfl,_⟩:=h_w
 refine JQ Tryz.func178 9 [(0,.agg #[Sr x.name,Sr x.value]),(1,Pt b_w 0)] rfl (fun w0 G0=>?_)
 refine Jf (Jd (Jv 2 #[Sr x.name,Sr x.value] 111 (fun b1=>Jb [0] [] (Je (Jc (Jf (Kv [] (Ws [(0,Pt b1 0),(1,Sr x.name),(2,Sr (way x.name)),(3,Sr w),(4,Bo (!((B (way x.name)).toList == (B w).toList))),(5,Bo (!((B (way x.name)).toList == (B w).toList)))] (Ko [] [(0,0),(1,2),(4,0),(5,0)] [2,3] [(3,Bo (!((B (way x.name)).toList == (B w).toList)))] (Kf ?_ (Kf ?_ KY)) ?_)))))))))
 refine Jr 2 6 (Sr (way x.name)) [(5,Sr x.name)] (fun X=>?_)
 exact Jl 6 (Sr (way x.name)) (Jdt G x.name w1) Jp
 refine Jr 3 7 (Sr w) [(1,Pt b_w 0)] (fun X=>?_)
 exact JO (o':=0) 7 9 (cs:=[Sr w]) 0 (Sr w) hz_w Jp
 refine JdR 3 (Bo (!(way x.name == w))) (show (Bo (!((B (way x.name)).toList == (B w).toList)):Value)=Bo (!(way x.name == w)) by simp only [QY]) (Jc (Jn (Jo [0] [Bo (!(way x.name == w))] (Jx (Jh _) (congrArg Bo (?_:(JaC x w)=(!(way x.name == w))).symm)))))
 rfl
theorem Jkm (G:J4) (m:Int) :Q3 180 #[U m] G (Bo (Jbv m)):=by
 refine JQ Tryz.func180 5 [(0,U m)] rfl (fun w0 G0=>?_)
 refine Jg [0] [] (Jg [0,0,0] [(2,Bo (decide (m ≥ 2305843009213693951)))] (Jn (Jo [0] [Bo (decide (m ≥ 2305843009213693951))] (Jx (Jh _) (congrArg Bo (?_:(Jbv m)=(decide (m ≥ 2305843009213693951))).symm)))))
 rfl
theorem JfL (G:J4) (vs_p:Bv) (p:Q4) (h_p:Jfy.R G vs_p p) :Q3 125 #[.agg vs_p.toArray] G (I (QL p)):=by
 obtain ⟨a1,c1,a2,c2,rfl,w1,hs1,hs2⟩:=h_p
 refine JQ Tryz.func125 33 [(0,(V6 p a1 c1 a2 c2))] rfl (fun w0 G0=>?_)
 refine Jf (Jd (Jv 1 #[Sr p.name,Sl a1 p.entries.length c1,Sl a2 p.sides.length c2] 47 (fun b1=>Jb [0] [] (Je (Jc (Jf (Jf (Jd (Jb [0,2] [(6,Sr p.name)] (Jl 7 (Bo (KS p.name)) (ZX G p.name) (Jb [0] [(8,Bo (!(KS p.name)))] (Je (Jc (Jm (!(KS p.name)) (fun h1=>?_) (fun h1=>?_)))))))))))))))
 refine Jg [0] [(2,I 3)] (Jn (Jj (Jo [0] [I 3] (Jx (Jh _) (congrArg I (?_:(QL p)=3).symm)))))
 · unfold QL;(rw [if_pos ‹_›];done)
 refine Jq (Jc (Jf (Jf (Jd (Jb [0,2] [(10,Sl a1 p.entries.length c1)] (Jl 11 (I (Kn p.entries)) (Vc G a1 c1 p.entries hs1) (Jb [0] [(3,I (Kn p.entries))] (Je (Jc (Jg [0,0] [(13,Bo (!decide (Kn p.entries=0)))] (Jm (!decide (Kn p.entries=0)) (fun h2=>?_) (fun h2=>?_))))))))))))
 refine Jg [0,0] [(2,I (Kn p.entries))] (Jn (Jj (Jo [0] [I (Kn p.entries)] (Jx (Jh _) (congrArg I (?_:(QL p)=(Kn p.entries)).symm)))))
 · unfold QL;(rw [if_neg (by simp_all),if_pos ‹_›];done)
 refine Jq (Jc (Jf (Jd (Jb [0,2] [(16,Sr p.name)] (Jl 17 (Sr (way p.name)) (Jdt G p.name w1) (Jv 4 #[Sr ([])] 9 (fun b2=>JT [3] [] [[Sg b2 0 [Sr (way p.name)]],[Sg b1 0 (VO p a1 c1 a2 c2)]] (Je (Jc (Jf (Jf (Jd (Jb [0,4,0] [(19,Sl a1 p.entries.length c1),(20,Fv 178 #[Pt b2 0])] (QK (b:=b2) (o:=0) (cs:=[Sr (way p.name)]) 0 (fun G1 hl1 hz1=>Jl 21 (Bo (p.entries.any (fun x0=>JaC x0 (way p.name)))) (Jmh G1 a1 c1 p.entries (hs1.mono hl1) 178 #[Pt b2 0] (fun x0=>JaC x0 (way p.name)) (fun _ _=>by kernel_rfl) (fun vs0 x0 hx0=>by obtain ⟨rfl,w2,w3⟩:=hx0;exact Jkl G1 [Sr x0.name,Sr x0.value] x0 (⟨rfl,w2,w3⟩) [Sr (way p.name)] (way p.name) (⟨rfl,(Hm (Jpw p.name) (by decide))⟩) b2 hz1)) (Jb [0] [(22,Bo (p.entries.any (fun x0=>JaC x0 (way p.name))))] (Kr (p.entries.any (fun x0=>JaC x0 (way p.name))) [22] [1,1,1,1,0] [0,4,0,0,0] (fun bb=>[(27,Bo (bb || (!decide ((p.sides.length:Int)=16))))]) (Jb [0] [(28,Bo ((p.entries.any (fun x0=>JaC x0 (way p.name))) || (!decide ((p.sides.length:Int)=16))))] ?_))))))))))))))))))
 refine QU [28] ((p.entries.any (fun x0=>JaC x0 (way p.name))) || (!decide ((p.sides.length:Int)=16))) (fun h3=>?_) (fun h3=>?_)
 refine Jb [1,1,1,0] [(32,Bo true)] (Je (Jc (J0 (Jg [0] [(2,I 3)] (Jn (Jj (Jo [0] [I 3] (Jx hl1 (congrArg I (?_:(QL p)=3).symm)))))))))
 · unfold QL;(rw [if_neg (by simp_all),if_neg (by omega)];(rw [if_pos (by simp_all)];done))
 refine Jb [0,4] [(30,Sl a2 p.sides.length c2)] (Jl 31 (Bo (p.sides.any (fun x0=>Jbv x0))) (Jpv G1 a2 c2 p.sides (hs2.mono hl1) 180 #[] (fun x0=>Jbv x0) (fun _ _=>by kernel_rfl) (fun x0 hx0=>Jkm G1 x0)) (Jb [0] [(32,Bo (p.sides.any (fun x0=>Jbv x0)))] (Je (Jc (Jm (p.sides.any (fun x0=>Jbv x0)) (fun h4=>?_) (fun h4=>?_))))))
 refine Jg [0] [(2,I 3)] (Jn (Jj (Jo [0] [I 3] (Jx hl1 (congrArg I (?_:(QL p)=3).symm)))))
 · unfold QL;(rw [if_neg (by simp_all),if_neg (by omega)];(rw [if_pos (by simp_all)];done))
 refine Jq (Jc (Jg [0] [(2,I 0)] (Jn (Jo [0] [I 0] (Jx hl1 (congrArg I (?_:(QL p)=0).symm))))))
 · unfold QL;(rw [if_neg (by simp_all),if_neg (by omega)];(rw [if_neg (by simp_all)];done))
set_option maxRecDepth 20000 in
theorem Jgs (G:J4) (vs_p:Bv) (p:Q4) (h_p:Jfy.R G vs_p p) :YL 73 #[.agg vs_p.toArray] G [] (fun u G' L'=>∃ (a1:Ba) (c2:Nat),u=.tuple #[Sl a1 (((K6 p).1).length) c2,I ((K6 p).2)]∧(RS ES G' a1 c2 ((K6 p).1))∧L'=[]):=by
 obtain ⟨a1,c1,a2,c2,rfl,w1,hs1,hs2⟩:=h_p
 refine JQ Tryz.func73 74 [(0,(V6 p a1 c1 a2 c2))] rfl (fun w0 G0=>?_)
 refine Jf (Jd (Jv 1 #[Sr p.name,Sl a1 p.entries.length c1,Sl a2 p.sides.length c2] 47 (fun b1=>Jb [0,0] [] (Je (Jc (Jf (Jf (Jd (Jb [2] [(15,(V6 p a1 c1 a2 c2))] (Jl 16 (I (QL p)) (JfL G (VO p a1 c1 a2 c2) p (⟨a1,c1,a2,c2,rfl,w1,hs1,hs2⟩)) (Jb [0] [(4,I (QL p))] (Je (Jc (Jg [0,0] [(18,Bo (!decide (QL p=0)))] (Jm (!decide (QL p=0)) (fun h1=>?_) (fun h1=>?_))))))))))))))))
 refine Jg [0,0,0] [(2,Sl none 0 0),(3,I (QL p))] (Jn (Jj ?_))
 have hf1:K6 p=([],QL p):=by
  unfold K6;(simp_all;done)
 refine Jo [0,0] [Sl none 0 0,I (QL p)] (JD [] (Jh _) ?_)
 rw [hf1]
 try dsimp only
 exact ⟨none,0,rfl,(J2 ES G),rfl⟩
 refine Jq (Jc (Jf (Jd (Jl 21 (.tuple #[Sr ((Kj ([])).1),I ((Kj ([])).2)]) (Jds G none 0 ([]) (J2 QE G)) (Jb [0,0,0,0,0] [(5,Sr ((Kj ([])).1))] (Je (Jc (Jf (Jd (Jb [0,2] [(26,Sl a1 p.entries.length c1)] (Jl 27 (.tuple #[Sr ((Kj p.entries).1),I ((Kj p.entries).2)]) (Jds G a1 c1 p.entries hs1) (Jb [0,0,0,0,0] [(7,Sr ((Kj p.entries).1))] (Je (Jc (Jf (Jd (Jb [0] [(30,Sr ((Kj p.entries).1))] (Kq 31 1 #[Sr ((Kj p.entries).1)] 9 (fun b2=>Jb [0] [(9,Sl (At b2 0) 1 1)] (Je (Jc (Jf (Jd (Jb [0,4] [(33,Sr p.name)] (Jl 34 (Sr (way p.name)) (Jdt G p.name w1) ?_)))))))))))))))))))))))))
 refine Jb [0] [(10,Sr (way p.name))] (Je (Jc (Jf (Jg [0,4,0,0] [(36,Sl a2 p.sides.length c2),(37,I (p.sides.length:Int)),(38,I 0)] (Jy ?_)))))
 have hlm_hs2:p.sides.length≤9223372036854775807:=Hm (hs2).le (hs2).max
 refine Qe (σ:=Nat×Bb×Ba×Nat×Bg×Bs×J4) (fun q_=>(J4.le G q_.2.2.2.2.2.2)∧(q_.1≤p.sides.length)∧(q_.2.1.length≤14401)∧(JX ES q_.2.2.2.2.2.2 q_.2.2.1 q_.2.2.2.1 q_.2.2.2.2.2.1 q_.2.2.2.2.1)∧(q_.2.2.2.2.2.1=(Jdr (way p.name) 0 (Kj p.entries).1 p.sides).take (q_.1+1))∧((Jdr (way p.name) 0 (Kj p.entries).1 p.sides)[q_.1]? = some q_.2.1)) (fun q_=>[(5,Sr ((Kj ([])).1)),(7,Sr q_.2.1),(9,Sl q_.2.2.1 q_.2.2.2.2.2.1.length q_.2.2.2.1),(10,Sr (way p.name)),(36,Sl a2 p.sides.length c2),(37,I (p.sides.length:Int)),(38,I (q_.1:Int))]) (fun q_=>q_.2.2.2.2.2.2) (fun q_=>[q_.2.2.2.2.1,[Sg b1 0 (VO p a1 c1 a2 c2)]]) (fun q_=>p.sides.length-q_.1) (0,(Kj p.entries).1,At b2 0,1,[Sg b2 0 [Sr ((Kj p.entries).1)]],[(Kj p.entries).1],G) ⟨(Jh _),(by (try dsimp only);exact Hv _),(ZZ _),(JX.of_lit [[Sr ((Kj p.entries).1)]] [(Kj p.entries).1] ⟨⟨rfl,(Hm (ZZ _) (by decide))⟩,trivial⟩ (by simp)),(Jkk _ _ _ _),(Job _ _ _ _)⟩ (fun q_ hs=>?_)
 obtain ⟨i,s,ao,co,ro,xo,g⟩:=q_
 obtain ⟨hle,hi,hs,hro,hxo,hs_⟩:=hs
 dsimp only at hle hi hs hro hxo hs_
 dsimp only
 refine Jg [0] [(39,Bo (decide ((i:Int)<(p.sides.length:Int))))] (Jf (Jm (decide ((i:Int)<(p.sides.length:Int))) (fun h2=>?_) (fun h2=>?_)))
 refine Jq (Jc (Jf (Jy (Jf (Jd (Jb [0] [(40,I (i:Int))] ?_))))))
 obtain ⟨b3,o1,rfl⟩:=RS.addr (hs2.mono hle) (k:=i) (by omega)
 obtain ⟨x1,hx1⟩:=QQ (l:=p.sides) (k:=i) (by omega)
 obtain ⟨_,⟨rfl,_⟩,hc1⟩:=RS.get (hs2.mono hle) hx1
 refine JW (b:=b3) (off:=o1) (len:=p.sides.length) (cap:=c2) (ik:=.i64) 41 41 1 i Kd (JO 42 41 (cs:=[U x1]) 0 (U x1) hc1 (Jb [0,0] [(11,I (i:Int)),(12,U x1)] (Je (Jc (Jf (Jd (Jb [0] [(43,Sr s)] (Jl 44 (U (Ji s)) (Z6 s (JcQ Kd) g) (Jb [0,0,0] [(13,U (Ji s)),(14,U x1)] (Je (Jc (Jf (Jf (Jd (Jb [0,0,0] [(46,Sr (way p.name)),(48,I (Ha.wrap (15-(i:Int))))] (Ku 48 (15-(i:Int)) Kd ?_))))))))))))))))
 obtain ⟨kn1,hkn1⟩:∃ k_:Nat,15-(i:Int)=(k_:Int):=⟨(15-(i:Int)).toNat,by (have q_:=Wt.1 ‹_›;have q1_:=JaD q_.name;have q2_:=q_.sides;omega)⟩
 have e1:15-(i:Int)=(kn1:Int):=hkn1
 refine KG 48 (I (kn1:Int)) (congrArg I e1) ?_
 obtain ⟨y1,hy1⟩:=QQ (l:=way p.name) (k:=kn1) (by (have q_:=Wt.1 ‹_›;have q1_:=JaD q_.name;have q2_:=q_.sides;omega))
 have hb_y1:=y1.toNat_lt
 refine Ja9 (ik:=.i64) 49 kn1 y1 hy1 (Jb [0] [(50,Bo (decide ((y1.toNat:Int)=49)))] (Je (Jc (Jm (decide ((y1.toNat:Int)=49)) (fun h3=>?_) (fun h3=>?_)))))
 refine Jd (Jb [0,0,0,0] [(13,U x1),(14,U (Ji s))] (Je (Jc (Jf (Jg [0,0] [(7,Sr ((Kj ([])).1))] (Jf (Jd (Jb [0,0,0,0] [(56,U (if (Ji s) > x1 then (Ji s) else x1)),(57,Sr ((Kj ([])).1))] (Jl 58 (U (Ji ((Kj ([])).1))) (Z6 ((Kj ([])).1) (JcQ (Hm (ZZ _) (by decide))) g) (Jb [0,0] [(60,Bo (!decide ((if (Ji s) > x1 then (Ji s) else x1)=Ji ((Kj ([])).1))))] (Kr (!decide ((if (Ji s) > x1 then (Ji s) else x1)=Ji ((Kj ([])).1))) [60] [1,1,1,0] [0,0,0,0] (fun bb=>[(64,Bo (bb || (!decide (x1=Ji s))))]) (Je (Jc (Jm ((!decide ((if (Ji s) > x1 then (Ji s) else x1)=Ji ((Kj ([])).1))) || (!decide (x1=Ji s))) (fun h4=>?_) (fun h4=>?_)))))))))))))))
 refine Jd (Jb [0,0] [(65,U x1),(66,U (Ji s))] (Jl 67 (Sr (Qk 2 x1 (Ji s))) (Jbq 2 x1 (Ji s) g) (Jb [0] [(7,Sr (Qk 2 x1 (Ji s)))] (Je (Jc (Jd (Jb [0,0] [(68,Sl ao xo.length co),(69,Sr (Qk 2 x1 (Ji s)))] (Kq 70 1 #[Sr (Qk 2 x1 (Ji s))] 9 (fun b4=>Qm (b:=b4) (cs:=[Sr (Qk 2 x1 (Ji s))]) 71 9 1 0 (E:=ES) (Qk 2 x1 (Ji s)) hro ⟨rfl,(by rw [ZQ];decide)⟩ (by have q_:=Wt.1 ‹_›;have q1_:=JaD q_.name;have q2_:=q_.sides;have q3_:=congrArg Hl hxo;have q4_:=Yy (way p.name) p.sides 0 (Kj p.entries).1;rw [Hf] at q3_;(try simp only [ES,Hc,Hd,He] at *);omega) (by have q_:=Wt.1 ‹_›;have q1_:=JaD q_.name;have q2_:=q_.sides;have q3_:=congrArg Hl hxo;have q4_:=Yy (way p.name) p.sides 0 (Kj p.entries).1;rw [Hf] at q3_;(try simp only [ES,Hc,Hd,He] at *);omega) (fun a3 c3 r1 hr1=>Jb [0] [(9,Sl a3 ((xo++[Qk 2 x1 (Ji s)]).length) c3)] (Je (JN (Jc (Jd (Jb [0,0] [(38,I (Ha.wrap ((i:Int)+1)))] (Ku 38 ((i:Int)+1) Kd (Je ?_)))))))))))))))))
 exact QA [r1,[Sg b1 0 (VO p a1 c1 (At b3 o1) c2)]] (Ql (i+1,Qk 2 x1 (Ji s),a3,c3,r1,xo++[Qk 2 x1 (Ji s)],g) ⟨(Ja hle (Jh _)),Kd,(by have q0_:=ZQ;(rw [q0_];decide)),hr1,(by (try dsimp only);have q0_:=Vo hxo hs_ hx1;have q1_:V1 (way p.name) i s x1=Qk 2 x1 (Ji s):=(by (rw [Jfd Kd hy1 ‹_›]);exact Jfc ‹_›);rw [q1_] at q0_;exact q0_.1),(by (try dsimp only);have q0_:=Vo hxo hs_ hx1;have q1_:V1 (way p.name) i s x1=Qk 2 x1 (Ji s):=(by (rw [Jfd Kd hy1 ‹_›]);exact Jfc ‹_›);rw [q1_] at q0_;exact q0_.2)⟩ (by (try dsimp only);omega))
 exact Jq (Jc (Jd (Jb [0,0] [(68,Sl ao xo.length co),(69,Sr ((Kj ([])).1))] (Kq 70 1 #[Sr ((Kj ([])).1)] 9 (fun b5=>Qm (b:=b5) (cs:=[Sr ((Kj ([])).1)]) 71 9 1 0 (E:=ES) ((Kj ([])).1) hro ⟨rfl,(Hm (ZZ _) (by decide))⟩ (by have q_:=Wt.1 ‹_›;have q1_:=JaD q_.name;have q2_:=q_.sides;have q3_:=congrArg Hl hxo;have q4_:=Yy (way p.name) p.sides 0 (Kj p.entries).1;rw [Hf] at q3_;(try simp only [ES,Hc,Hd,He] at *);omega) (by have q_:=Wt.1 ‹_›;have q1_:=JaD q_.name;have q2_:=q_.sides;have q3_:=congrArg Hl hxo;have q4_:=Yy (way p.name) p.sides 0 (Kj p.entries).1;rw [Hf] at q3_;(try simp only [ES,Hc,Hd,He] at *);omega) (fun a4 c4 r2 hr2=>Jb [0] [(9,Sl a4 ((xo++[(Kj ([])).1]).length) c4)] (Je (JN (Jc (Jd (Jb [0,0] [(38,I (Ha.wrap ((i:Int)+1)))] (Ku 38 ((i:Int)+1) Kd (Je (QA [r2,[Sg b1 0 (VO p a1 c1 (At b3 o1) c2)]] (Ql (i+1,(Kj ([])).1,a4,c4,r2,xo++[(Kj ([])).1],g) ⟨(Ja hle (Jh _)),Kd,(by have q0_:=ZQ;exact ZZ _),hr2,(by (try dsimp only);have q0_:=Vo hxo hs_ hx1;have q1_:V1 (way p.name) i s x1=(Kj ([])).1:=(by (rw [Jfd Kd hy1 ‹_›]);exact Jfb ‹_›);rw [q1_] at q0_;exact q0_.1),(by (try dsimp only);have q0_:=Vo hxo hs_ hx1;have q1_:V1 (way p.name) i s x1=(Kj ([])).1:=(by (rw [Jfd Kd hy1 ‹_›]);exact Jfb ‹_›);rw [q1_] at q0_;exact q0_.2)⟩ (by (try dsimp only);omega))))))))))))))))
 refine Jq (Jc (Jf (Jg [0,0] [(7,Sr ((Kj ([])).1))] (Jf (Jd (Jb [0,0,0,0] [(56,U (if x1 > (Ji s) then x1 else (Ji s))),(57,Sr ((Kj ([])).1))] (Jl 58 (U (Ji ((Kj ([])).1))) (Z6 ((Kj ([])).1) (JcQ (Hm (ZZ _) (by decide))) g) (Jb [0,0] [(60,Bo (!decide ((if x1 > (Ji s) then x1 else (Ji s))=Ji ((Kj ([])).1))))] (Kr (!decide ((if x1 > (Ji s) then x1 else (Ji s))=Ji ((Kj ([])).1))) [60] [1,1,1,0] [0,0,0,0] (fun bb=>[(64,Bo (bb || (!decide (Ji s=x1))))]) (Je (Jc (Jm ((!decide ((if x1 > (Ji s) then x1 else (Ji s))=Ji ((Kj ([])).1))) || (!decide (Ji s=x1))) (fun h5=>?_) (fun h5=>?_)))))))))))))
 refine Jd (Jb [0,0] [(65,U (Ji s)),(66,U x1)] (Jl 67 (Sr (Qk 2 (Ji s) x1)) (Jbq 2 (Ji s) x1 g) (Jb [0] [(7,Sr (Qk 2 (Ji s) x1))] (Je (Jc (Jd (Jb [0,0] [(68,Sl ao xo.length co),(69,Sr (Qk 2 (Ji s) x1))] (Kq 70 1 #[Sr (Qk 2 (Ji s) x1)] 9 (fun b6=>Qm (b:=b6) (cs:=[Sr (Qk 2 (Ji s) x1)]) 71 9 1 0 (E:=ES) (Qk 2 (Ji s) x1) hro ⟨rfl,(by rw [ZQ];decide)⟩ (by have q_:=Wt.1 ‹_›;have q1_:=JaD q_.name;have q2_:=q_.sides;have q3_:=congrArg Hl hxo;have q4_:=Yy (way p.name) p.sides 0 (Kj p.entries).1;rw [Hf] at q3_;(try simp only [ES,Hc,Hd,He] at *);omega) (by have q_:=Wt.1 ‹_›;have q1_:=JaD q_.name;have q2_:=q_.sides;have q3_:=congrArg Hl hxo;have q4_:=Yy (way p.name) p.sides 0 (Kj p.entries).1;rw [Hf] at q3_;(try simp only [ES,Hc,Hd,He] at *);omega) (fun a5 c5 r3 hr3=>Jb [0] [(9,Sl a5 ((xo++[Qk 2 (Ji s) x1]).length) c5)] (Je (JN (Jc (Jd (Jb [0,0] [(38,I (Ha.wrap ((i:Int)+1)))] (Ku 38 ((i:Int)+1) Kd (Je ?_)))))))))))))))))
 exact QA [r3,[Sg b1 0 (VO p a1 c1 (At b3 o1) c2)]] (Ql (i+1,Qk 2 (Ji s) x1,a5,c5,r3,xo++[Qk 2 (Ji s) x1],g) ⟨(Ja hle (Jh _)),Kd,(by have q0_:=ZQ;(rw [q0_];decide)),hr3,(by (try dsimp only);have q0_:=Vo hxo hs_ hx1;have q1_:V1 (way p.name) i s x1=Qk 2 (Ji s) x1:=(by (rw [Jfe Kd hy1 ‹_›]);exact Jfc ‹_›);rw [q1_] at q0_;exact q0_.1),(by (try dsimp only);have q0_:=Vo hxo hs_ hx1;have q1_:V1 (way p.name) i s x1=Qk 2 (Ji s) x1:=(by (rw [Jfe Kd hy1 ‹_›]);exact Jfc ‹_›);rw [q1_] at q0_;exact q0_.2)⟩ (by (try dsimp only);omega))
 exact Jq (Jc (Jd (Jb [0,0] [(68,Sl ao xo.length co),(69,Sr ((Kj ([])).1))] (Kq 70 1 #[Sr ((Kj ([])).1)] 9 (fun b7=>Qm (b:=b7) (cs:=[Sr ((Kj ([])).1)]) 71 9 1 0 (E:=ES) ((Kj ([])).1) hro ⟨rfl,(Hm (ZZ _) (by decide))⟩ (by have q_:=Wt.1 ‹_›;have q1_:=JaD q_.name;have q2_:=q_.sides;have q3_:=congrArg Hl hxo;have q4_:=Yy (way p.name) p.sides 0 (Kj p.entries).1;rw [Hf] at q3_;(try simp only [ES,Hc,Hd,He] at *);omega) (by have q_:=Wt.1 ‹_›;have q1_:=JaD q_.name;have q2_:=q_.sides;have q3_:=congrArg Hl hxo;have q4_:=Yy (way p.name) p.sides 0 (Kj p.entries).1;rw [Hf] at q3_;(try simp only [ES,Hc,Hd,He] at *);omega) (fun a6 c6 r4 hr4=>Jb [0] [(9,Sl a6 ((xo++[(Kj ([])).1]).length) c6)] (Je (JN (Jc (Jd (Jb [0,0] [(38,I (Ha.wrap ((i:Int)+1)))] (Ku 38 ((i:Int)+1) Kd (Je (QA [r4,[Sg b1 0 (VO p a1 c1 (At b3 o1) c2)]] (Ql (i+1,(Kj ([])).1,a6,c6,r4,xo++[(Kj ([])).1],g) ⟨(Ja hle (Jh _)),Kd,(by have q0_:=ZQ;exact ZZ _),hr4,(by (try dsimp only);have q0_:=Vo hxo hs_ hx1;have q1_:V1 (way p.name) i s x1=(Kj ([])).1:=(by (rw [Jfe Kd hy1 ‹_›]);exact Jfb ‹_›);rw [q1_] at q0_;exact q0_.1),(by (try dsimp only);have q0_:=Vo hxo hs_ hx1;have q1_:V1 (way p.name) i s x1=(Kj ([])).1:=(by (rw [Jfe Kd hy1 ‹_›]);exact Jfb ‹_›);rw [q1_] at q0_;exact q0_.2)⟩ (by (try dsimp only);omega))))))))))))))))
 refine KX (J1 (Ke (JV (Jc (Jg [0,0,0] [(2,Sl ao xo.length co),(3,I 0)] (Jn (Wv (E:=ES) 0 hro (by have q_:=Wt.1 ‹_›;have q1_:=JaD q_.name;have q2_:=q_.sides;have q3_:=congrArg Hl hxo;have q4_:=Yy (way p.name) p.sides 0 (Kj p.entries).1;rw [Hf] at q3_;(try simp only [ES,Hc,Hd,He] at *);omega) (fun G1 hl1 hs3=>?_))))))))
 have hf2:K6 p=(xo,0):=by
  unfold K6;(rw [if_neg (by omega),hxo,Hy (by rw [Yy];omega)])
 refine Jo [0,0] [Sl ao xo.length co,I 0] (JD [] (Ja hle hl1) ?_)
 rw [hf2]
 try dsimp only
 exact ⟨ao,co,rfl,hs3,rfl⟩
theorem Jmy {l xo:List Kb} {p:Kb→Bool} {i j:Nat} {x:Kb} (h1:xo.take i=(l.take j).filter (fun y=>!p y)) (hx:l[j]? = some x) (hp:p x=true):xo.take i=(l.take (j+1)).filter (fun y=>!p y):=by
 rw [Hp,hx,HP,← h1];simp [hp]
theorem Joc {l xo:List Kb} {p:Kb→Bool} {i j:Nat} {x:Kb} (h1:xo.take i=(l.take j).filter (fun y=>!p y)) (hx:l[j]? = some x) (hp:p x=false) (hi:i<xo.length):(xo.set i x).take (i+1)=(l.take (j+1)).filter (fun y=>!p y):=by
 have e:l.take (j+1)=l.take j++[x]:=by rw [Hp,hx];rfl
 rw [e,HP,← h1,Hp,List.getElem?_set_self hi,List.take_set_of_le (Nat.le_refl _)];simp [hp]
theorem Jod {l xo:List Kb} {i j:Nat} {x:Kb} (h:xo.drop j=l.drop j) (hij:i<j):(xo.set i x).drop (j+1)=l.drop (j+1):=by
 rw [List.drop_set_of_lt (by omega),← HM,h,HM]
theorem Jmz {l xo:List Kb} {j:Nat} (h:xo.drop j=l.drop j):xo.drop (j+1)=l.drop (j+1):=by
 rw [← HM,h,HM]
theorem JiX {l xo:List Kb} {j:Nat} {x:Kb} (h:xo.drop j=l.drop j) (hx:xo[j]? = some x):l[j]? = some x:=by
 have:=congrArg (fun z=>z[0]?) h
 simp only [HO,Nat.add_zero] at this
 rw [← this];exact hx
theorem JmA {l:List Kb} {p:Kb→Bool} {k:Nat} (h:QR p l=(k:Int)):l.take k=(l.take (k+1)).filter (fun y=>!p y):=by
 unfold QR at h
 cases hh:l.findIdx? p with
 | none=>rw [hh] at h;simp at h
 | some m =>
  rw [hh] at h
  have:m=k:=by simp at h;omega
  subst this
  rw [List.findIdx?_eq_some_iff_getElem] at hh
  obtain ⟨h1,h2,h3⟩:=hh
  rw [Hp,Ho h1,HP]
  have e1:(l.take m).filter (fun y=>!p y)=l.take m:=by
   rw [List.filter_eq_self]
   intro y hy
   obtain ⟨n,hn⟩:=HI hy
   rw [List.getElem?_take] at hn
   split at hn
   ·
    rename_i hlt
    have:=h3 n hlt
    obtain ⟨hn',e⟩:=Hg.1 hn
    rw [e] at this;simpa using this
   · cases hn
  rw [e1];simp [h2]
theorem Joe {l:List Kb} {p:Kb→Bool} (h:QR p l=-1):l=l.filter (fun y=>!p y):=by
 unfold QR at h
 cases hh:l.findIdx? p with
 | some m=>rw [hh] at h;simp at h
 | none =>
  rw [List.findIdx?_eq_none_iff] at hh
  symm
  rw [List.filter_eq_self]
  intro y hy;simpa using hh y hy
theorem JpB (p:Kb→Bool) (l:List Kb):-1≤QR p l∧QR p l≤l.length∧(0≤QR p l→QR p l<l.length):=by
 by_cases h:QR p l<0
 ·
  refine ⟨?_,by omega,by omega⟩
  unfold QR;split <;> omega
 ·
  obtain ⟨k,hk⟩:∃ k:Nat,QR p l=k:=⟨_,(HL (by omega)).symm⟩
  obtain ⟨x,hx,_⟩:=JhI hk
  have:=(Hg.1 hx).1
  omega
def JcU (x:Kb) (q:Bb):Bool:=!decide (q <+: way x.name)
def K7 (l:List Kb) (q:Bb):List Kb:=l.filter fun x=>!JcU x q
theorem Y2 (l:List Kb) (q:Bb):(K7 l q).length≤l.length:=HW ..
def Jdu:Int:=Ji (K5 [])
def atG:Nat→List Kb→Bb→Int
 | 0,l,_=>Ji (K5 l)
 | n+1,l,q=>if l.length=0 then Ji (K5 l) else if atG n (K7 l (q++[48])) (q++[48])=Jdu∧atG n (K7 l (q++[49])) (q++[49])=Jdu then Jdu else Ji (Qk 2 (atG n (K7 l (q++[48])) (q++[48])) (atG n (K7 l (q++[49])) (q++[49])))
def WA (l:List Kb) (q:Bb):Int:=atG (16-q.length) l q
theorem JiY {l:List Kb} {q:Bb} (h:(l.length:Int)=0∨(q.length:Int)=16):WA l q=Ji (K5 l):=by
 unfold WA
 rcases h with h | h
 ·
  cases hn:16-q.length with
  | zero=>rfl
  | succ n=>rw [atG,if_pos (by omega)]
 · rw [show 16-q.length=0 by omega];rfl
theorem JeF {l:List Kb} {q:Bb} (h1:¬ (l.length:Int)=0) (h2:q.length<16):WA l q=if WA (K7 l (q++[48])) (q++[48])=Jdu∧WA (K7 l (q++[49])) (q++[49])=Jdu then Jdu else Ji (Qk 2 (WA (K7 l (q++[48])) (q++[48])) (WA (K7 l (q++[49])) (q++[49]))):=by
 have e:16-q.length=(16-(q++[48]).length)+1:=by simp;omega
 have e2:16-(q++[49]).length=16-(q++[48]).length:=by simp
 conv=>lhs;unfold WA;rw [e,atG,if_neg (by omega)]
 unfold WA;rw [e2]
theorem JmB (l:List Kb) (q:Bb):0≤WA l q∧WA l q<18446744073709551616:=by
 unfold WA
 generalize 16-q.length=n
 cases n with
 | zero=>exact (by have:=QP (K5 l);unfold atG;omega)
 | succ n =>
  rw [atG]
  have h1:=QP (K5 l);have h2:=QP (K5 []);have h3:=fun a b=>QP (Qk 2 a b)
  split
  · omega
  split
  · unfold Jdu;omega
  · have:=h3 (atG n (K7 l (q++[48])) (q++[48])) (atG n (K7 l (q++[49])) (q++[49]));omega
def JY (l:List Kb) (q:Bb):Int×Int:=if ¬ Kn l=0 then (0,Kn l) else if (q.length:Int) > 16∨¬ Jbe q=[] then (0,3) else (WA (K7 l q) q,0)
theorem Vi (l:List Kb) (q:Bb):0≤(JY l q).1∧(JY l q).1<18446744073709551616:=by
 unfold JY;split
 · simp
 split
 · simp
 · exact JmB _ _
set_option maxRecDepth 4000 in
theorem Jkn (G:J4) (a:Ba) (c:Nat) (l:List Kb) (r:Bg) (hr:JX QE G a c l r) (hsm:l.length≤1000) (k_f:FuncId) (caps_f:Array Value) (p_f:Kb→Bool) (hk_f:Jbb Tryz.prog k_f) (h_f:∀ (vs0:Bv) (x0:Kb) (hx0:QE.R G vs0 x0),VG Tryz.prog k_f (#[.agg vs0.toArray]++caps_f) G [] (fun u _ _=>u=Bo (p_f x0))):Jhw Tryz.prog 242 #[Sl a l.length c,.func (.func k_f) #[] caps_f] G [r] (fun u G' L'=>∃ a' c' r',u=Sl a' (l.filter fun y=>!p_f y).length c'∧JX QE G' a' c' (l.filter fun y=>!p_f y) r'∧L'=[r']):=by
 intro Lr
 have hlc:=JX.lec hr
 have hcm:=JX.mx hr
 refine JQ Tryz.func242 42 [(0,Sl a l.length c),(1,Fv k_f caps_f)] rfl (fun w0 G0=>?_)
 show TC _ _ _ _ _ (r::Lr)
 refine Jg [0] [] (Jf (Jd (Jb [0,0] [(8,Sl a l.length c),(9,Fv k_f caps_f)] (Jir (E:=QE) 10 0 hr (by simp only [QE];omega) (I (QR p_f l)) (fun G9 hle9 hs9=>JfE G9 a c l hs9 k_f caps_f p_f hk_f (fun vs0 x0 hx0=>VG.up hle9 (h_f vs0 x0 hx0))) (Jb [0] [(5,I (QR p_f l))] (Je (Jc (Jf (Jg [0,0] [(12,Bo (decide (QR p_f l=(-1))))] (Jm (decide (QR p_f l=(-1))) (fun h1=>?_) (fun h1=>?_)))))))))))
 refine Jg [0,0] [(4,Sl a l.length c)] (Jn (Jj ?_))
 have e_:l=(l.filter fun y=>!p_f y):=Joe (by omega)
 have en_:l.length=(l.filter fun y=>!p_f y).length:=congrArg Hl e_
 exact Jo [0] [Sl a l.length c] (KH (Lr:=Lr) [r] (Jh _) (⟨_,_,_,congrArg (fun n=>Sl a n c) en_,(e_ ▸ hr),rfl⟩))
 refine Jq (Jc (Jf ?_))
 have hib_:=JpB p_f l
 obtain ⟨kn1,hkn1⟩:∃ k_:Nat,QR p_f l=(k_:Int):=⟨(QR p_f l).toNat,by omega⟩
 have e1:QR p_f l=(kn1:Int):=hkn1
 refine QW 5 (I (kn1:Int)) (congrArg I e1) ?_
 have hfi_:=JmA hkn1
 refine Jg [0,0,0] [(6,I (Ha.wrap ((kn1:Int)+1)))] (JkV 6 ((kn1:Int)+1) Kd (Jy ?_))
 refine Qe (σ:=Nat×Nat×Ba×Nat×Bg×List Kb) (fun q_=>(q_.1<q_.2.1∧q_.2.1≤l.length)∧(JX QE G q_.2.2.1 q_.2.2.2.1 q_.2.2.2.2.2 q_.2.2.2.2.1)∧(q_.2.2.2.2.2.length=l.length∧q_.2.2.2.2.2.drop q_.2.1=l.drop q_.2.1∧q_.2.2.2.2.2.take q_.1=(l.take q_.2.1).filter (fun y=>!p_f y))) (fun q_=>[(0,Sl q_.2.2.1 q_.2.2.2.2.2.length q_.2.2.2.1),(1,Fv k_f caps_f),(5,I (q_.1:Int)),(6,I (q_.2.1:Int))]) (fun q_=>G) (fun q_=>(q_.2.2.2.2.1::Lr)) (fun q_=>l.length-q_.2.1) (kn1,(kn1+1),a,c,r,l) ⟨(by (try dsimp only);omega),hr,⟨rfl,rfl,hfi_⟩⟩ (fun q_ hs=>?_)
 obtain ⟨i,j,ao,co,ro,xo⟩:=q_
 obtain ⟨hj,hro,hxo⟩:=hs
 dsimp only at hj hro hxo
 dsimp only
 refine Jf (Jg [0,0,0,0] [(19,Bo (decide ((j:Int)<(xo.length:Int))))] (Jm (decide ((j:Int)<(xo.length:Int))) (fun h2=>?_) (fun h2=>?_)))
 refine Jq (Jc (Jf (Jy (Jf (Jd (Jb [0,0] [(22,Sl ao xo.length co),(23,I (j:Int))] ?_))))))
 obtain ⟨x1,hx1⟩:=QQ (l:=xo) (k:=j) (by omega)
 obtain ⟨b1,o1,_,_,⟨rfl,w1,w2⟩,ha1,hre1,hc1⟩:=JX.ix hro hx1
 refine Qq (b:=b1) (off:=o1) (len:=xo.length) (cap:=co) (ik:=.i64) 24 111 2 j ha1 Kd (W2 (off:=o1) (p:=j*2) (cs:=[Sr x1.name,Sr x1.value]) 25 111 0 0 (.agg #[Sr x1.name,Sr x1.value]) hre1 hc1 (Jv 7 #[Sr ([]),Sr ([])] 111 (fun b2=>JT [3] [] ([Sg b2 0 [Sr x1.name,Sr x1.value]]::ro::Lr) (Je (Jc (Jf (Jd (Jb [0,2] [(26,Fv k_f caps_f),(27,.agg #[Sr x1.name,Sr x1.value])] (Z3 (k:=k_f) (caps:=caps_f) (args:=#[.agg #[Sr x1.name,Sr x1.value]]) 28 (Bo (p_f x1)) hk_f (h_f [Sr x1.name,Sr x1.value] x1 (⟨rfl,w1,w2⟩)) (Jb [0] [(29,Bo (!(p_f x1)))] (Je (Jc (Jm (!(p_f x1)) (fun h3=>?_) (fun h3=>?_))))))))))))))
 refine Jf (Jd (Jb [0,0,2] [(30,Sl ao xo.length co),(31,I (i:Int)),(32,.agg #[Sr x1.name,Sr x1.value])] ?_))
 obtain ⟨_,hx2⟩:=QQ (l:=xo) (k:=i) (by omega)
 obtain ⟨b3,o2,_,_,⟨rfl,_,_⟩,ha2,_,hc2⟩:=JX.ix hro hx2
 refine Qq (b:=b3) (off:=o2) (len:=xo.length) (cap:=co) (ik:=.i64) 33 111 2 i ha2 Kd (Yx (b:=b3) (off:=o2) 1 hro i x1 ha2 Kd (.agg #[Sr x1.name,Sr x1.value]) [Sr x1.name,Sr x1.value] ⟨rfl,w1,w2⟩ (fun r1 hr1=>?_))
 have e2:xo.length=(xo.set i x1).length:=(Ht ..).symm
 exact KG 0 (Sl ao ((xo.set i x1).length) co) (congrArg (Sl ao · co) e2) (KG 30 (Sl ao ((xo.set i x1).length) co) (congrArg (Sl ao · co) e2) (Je (Jc (Jd (Jb [0,0,0] [(5,I (Ha.wrap ((i:Int)+1)))] (Ku 5 ((i:Int)+1) Kd (Je (JN (Jc (Jd (Jb [0,0,0] [(6,I (Ha.wrap ((j:Int)+1)))] (Ku 6 ((j:Int)+1) Kd (Je (QA (r1::Lr) (Ql (i+1,j+1,ao,co,r1,xo.set i x1) ⟨(by (try dsimp only);omega),hr1,(by (try dsimp only);exact ⟨by rw [Ht];exact hxo.1,Jod hxo.2.1 hj.1,Joc hxo.2.2 (JiX hxo.2.1 hx1) ‹_› Kd⟩)⟩ (by (try dsimp only);omega))))))))))))))))
 exact Jq (JN (Jc (Jd (Jb [0,0,0] [(6,I (Ha.wrap ((j:Int)+1)))] (Ku 6 ((j:Int)+1) Kd (Je (QA (ro::Lr) (Ql (i,j+1,ao,co,ro,xo) ⟨(by (try dsimp only);omega),hro,(by (try dsimp only);exact ⟨hxo.1,Jmz hxo.2.1,Jmy hxo.2.2 (JiX hxo.2.1 hx1) ‹_›⟩)⟩ (by (try dsimp only);omega)))))))))
 refine KX (J1 (Ke (JV (Jc ?_))))
 obtain ⟨b,off,css,spare,rfl,rfl,hc1,hc2,_,hsp,hle9,hmax,hone⟩:=JX.opened hro (by omega)
 refine Jf (Jd (Jb [0,0] [(36,Sl (At b off) xo.length co),(37,I (i:Int))] (Wx (a:=At b off) (a':=At b (off+(xo.take i).length*2)) (len:=xo.length) (cap:=co) (c':=co-(xo.take i).length) (n:=xo.length-(xo.take i).length) 38 2 (some (I (i:Int))) none i xo.length (.inr ⟨_,rfl⟩) (.inl ⟨rfl,rfl⟩) Kd (by rw [if_neg Kd,Hf,HC (by omega)];simp [WT]) (by rw [Hf,HC (by omega)]) (by rw [Hf,HC (by omega)]) Kd (Jny (b:=b) (off:=off) (m:=xo.length-(xo.take i).length) (c':=co-(xo.take i).length) 0 (JX.tk hro i Kd) rfl (by rw [Hf];omega) (by rw [Hf];omega) (fun r8 hr8=>Je (Jc (Jf (Jd (Jb [0,0] [(39,Sl (At b off) xo.length co),(40,I (i:Int))] (Wx (a:=At b off) (a':=At b off) (len:=xo.length) (cap:=co) (c':=co) (n:=(xo.take i).length) 41 2 none (some (I (i:Int))) 0 i (.inl ⟨rfl,rfl⟩) (.inr ⟨_,rfl⟩) (Hv _) (by split <;> simp [WT]) (Nat.sub_zero _).symm (by rw [Hf];omega) Kd (Jb [0] [(4,Sl (At b off) ((xo.take i).length) co)] (Je (Jc (Jn ?_))))))))))))))
 have e_:xo.take i=(l.filter fun y=>!p_f y):=by have q_:=hxo.2.2;rwa [Hy (by omega:l.length≤j)] at q_
 have en_:(xo.take i).length=(l.filter fun y=>!p_f y).length:=congrArg Hl e_
 exact Jo [0] [Sl (At b off) ((xo.take i).length) co] (KH (Lr:=Lr) [r8] (Jh _) (⟨_,_,_,congrArg (fun n=>Sl (At b off) n co) en_,(e_ ▸ hr8),rfl⟩))
theorem Jko (G:J4) (vs_x:Bv) (x:Kb) (h_x:QE.R G vs_x x) (vs_q:Bv) (q:Bb) (h_q:ES.R G vs_q q) (b_q:Nat) (hz_q:∀ j v,(vs_q:Bv)[j]? = some v→G b_q (0+j)=some v) :Q3 243 #[.agg vs_x.toArray,Pt b_q 0] G (Bo (JcU x q)):=by
 obtain ⟨rfl,w1,_⟩:=h_x
 obtain ⟨rfl,_⟩:=h_q
 refine JQ Tryz.func243 10 [(0,.agg #[Sr x.name,Sr x.value]),(1,Pt b_q 0)] rfl (fun w0 G0=>?_)
 refine Jf (Jd (Jv 2 #[Sr x.name,Sr x.value] 111 (fun b1=>Jb [0] [] (Je (Jc (Jf (Kv [] (Ws [(0,Pt b1 0),(1,Sr x.name),(2,Sr (way x.name)),(3,Sr q),(4,Bo (decide (q <+: way x.name))),(5,Bo (!(decide (q <+: way x.name)))),(6,Bo (!(decide (q <+: way x.name))))] (Ko [] [(0,0),(1,2),(5,0),(6,0)] [2,3,4] [(3,Bo (!(decide (q <+: way x.name))))] (Kf ?_ (Kf ?_ (Kf ?_ KY))) ?_)))))))))
 refine Jr 2 6 (Sr (way x.name)) [(5,Sr x.name)] (fun X=>?_)
 exact Jl 6 (Sr (way x.name)) (Jdn G x.name w1) Jp
 refine Jr 3 7 (Sr q) [(1,Pt b_q 0)] (fun X=>?_)
 exact JO (o':=0) 7 9 (cs:=[Sr q]) 0 (Sr q) hz_q Jp
 refine Jr 4 8 (Bo (decide (q <+: way x.name))) [(6,Sr (way x.name)),(7,Sr q)] (fun X=>?_)
 exact Jl 8 (Bo (decide (q <+: way x.name))) (Jgr G (way x.name) q) Jp
 refine Jc (Jn (Jo [0] [Bo (!(decide (q <+: way x.name)))] (Jx (Jh _) (congrArg Bo (?_:(JcU x q)=(!(decide (q <+: way x.name)))).symm))))
 rfl
theorem JaY (G:J4) (a_l:Ba) (c_l:Nat) (l:List Kb) (h_l:RS QE G a_l c_l l) (q:Bb) (hw_q:(q).length≤140737488351232) (h24:l.length≤24):YL 201 #[Sl a_l l.length c_l,Sr q] G [] (fun u G' L'=>∃ (a1:Ba) (c2:Nat) (r3:Bg),u=Sl a1 ((K7 l q).length) c2∧(JX QE G' a1 c2 (K7 l q) r3)∧L'=[r3]):=by
 refine JQ Tryz.func201 9 [(0,Sl a_l l.length c_l),(1,Sr q)] rfl (fun w0 G0=>?_)
 refine Jf (Jd (Jv 3 #[Sr q] 9 (fun b1=>Jb [0] [] (Je (Jc (Jf (Jd (Jb [0] [(5,Sl a_l l.length c_l)] (JM 6 (YN G a_l c_l l h_l) (fun v G1 L1 hl1 hp=>?_))))))))))
 obtain ⟨a1,c1,r1,rfl,hr1,rfl⟩:=hp
 refine Jb [0] [(7,Fv 243 #[Pt b1 0])] (QK (b:=b1) (o:=0) (cs:=[Sr q]) 1 (fun G2 hl2 hz1=>Jw 0 (Qu (Ls:=[r1]) (Lr:=[[]]) 8 (Jkn G2 a1 c1 l r1 (hr1.mono hl2) Kd 243 #[Pt b1 0] (fun x0=>JcU x0 q) (fun _ _=>by kernel_rfl) (fun vs0 x0 hx0=>by obtain ⟨rfl,w1,w2⟩:=hx0;exact Jko G2 [Sr x0.name,Sr x0.value] x0 (⟨rfl,w1,w2⟩) [Sr q] q (⟨rfl,hw_q⟩) b1 hz1)) (fun v G3 L1 hl3 hp=>?_))))
 obtain ⟨a2,c2,r2,rfl,hr2,rfl⟩:=hp
 refine Jb [0] [(4,Sl a2 ((l.filter fun y=>!((fun x0=>JcU x0 q) y)).length) c2)] (Je (Jc (Jn (Jk 0 ?_))))
 have hf1:K7 l q=l.filter fun y=>!((fun x0=>JcU x0 q) y):=by
  rfl
 refine Jo [0] [Sl a2 ((l.filter fun y=>!((fun x0=>JcU x0 q) y)).length) c2] (JD [r2] (Ja (Ja hl1 hl2) hl3) ?_)
 rw [hf1]
 try dsimp only
 exact ⟨a2,c2,r2,rfl,hr2,rfl⟩
abbrev Jln (l:List Kb) (q:Bb):=Ji (Qk 2 (WA (K7 l (q++([48]))) (q++([48]))) (WA (K7 l (q++([49]))) (q++([49]))))
abbrev Jlo (l:List Kb) (q:Bb):=WA (K7 l (q++([48]))) (q++([48]))
abbrev Jlp (l:List Kb) (q:Bb):=WA (K7 l (q++([49]))) (q++([49]))
theorem JfM (N:Nat):∀ (G:J4) (a_l:Ba) (c_l:Nat) (l:List Kb) (h_l:RS QE G a_l c_l l) (q:Bb) (hw_q:(q).length≤140737488351232) (h24:l.length≤24) (hq:q.length≤16),16-q.length<N→Q3 200 #[Sl a_l l.length c_l,Sr q] G (U (WA l q)):=by
 induction N with
 | zero=>intros;omega
 | succ N ih =>
  intro G a_l c_l l h_l q hw_q h24 hq hN
  refine JQ Tryz.func200 50 [(0,Sl a_l l.length c_l),(1,Sr q)] rfl (fun w0 G0=>?_)
  refine Jg [0] [] (Jf (Jy (Jf (Jd (Jb [0,0,0,0] [(14,Bo (decide ((l.length:Int)=0)))] (Kr (decide ((l.length:Int)=0)) [14] [1,1,1,0] [0,0,0,0] (fun bb=>[(18,Bo (bb || (decide (((q).length:Int)=16))))]) (Jb [0] [(10,Bo ((decide ((l.length:Int)=0)) || (decide (((q).length:Int)=16))))] (Je (Jc (Jm ((decide ((l.length:Int)=0)) || (decide (((q).length:Int)=16))) (fun h1=>?_) (fun h1=>?_)))))))))))
  ·
   refine Jf (Jd (Jb [0] [(19,Sl a_l l.length c_l)] (Jl 20 (Sr (K5 l)) (Jag G a_l c_l l h_l ‹_›) (Jl 21 (U (Ji (K5 l))) (Z6 (K5 l) (JcQ (Hm (Jbu ‹_›) (by decide))) G) (Jb [0] [(4,U (Ji (K5 l)))] (Je (Jc (Jn (Ju (Jj (Jo [0] [U (Ji (K5 l))] (Jx (Jh _) (congrArg U (?_:(WA l q)=(Ji (K5 l))).symm)))))))))))))
   (rw [JiY (by omega)];done)
  ·
   refine Jq (JN (Jc (Jf (Jd (Jb [0] [(22,Sr q)] (ZS 23 q ([48]) (by (simp only [Hc,Hd,He];omega)) (Jb [0] [(24,Sr q)] (ZS 25 q ([49]) (by (simp only [Hc,Hd,He];omega)) (Jb [0,0] [(5,Sr (q++([48]))),(6,Sr (q++([49])))] (Je (Jc (Jf (Jd (Jb [0,0] [(26,Sl a_l l.length c_l),(27,Sr (q++([48])))] (JM 28 (JaY G a_l c_l l h_l (q++([48])) (by (simp;omega)) ‹_›) (fun v G1 L1 hl1 hp=>?_))))))))))))))))
   obtain ⟨a1,c1,_,rfl,hr1,rfl⟩:=hp
   refine Jb [0] [(29,Sr (q++([48])))] (WB (E:=QE) 0 hr1 (by have q_:=Y2 l (q++([48]));(simp only [QE];omega)) (fun G2 hl2 hs1=>Jl 30 (U (Jlo l q)) (ih G2 a1 c1 (K7 l (q++([48]))) hs1 (q++([48])) (by (simp;omega)) (by (have q_:=Y2 l (q++[48]);omega)) (by (simp;omega)) (by simp only [Hc,Hd,He] at *;omega)) (Jb [0,0] [(31,Sl a_l l.length c_l),(32,Sr (q++([49])))] (JM 33 (JaY G2 a_l c_l l (h_l.mono (Ja hl1 hl2)) (q++([49])) (by (simp;omega)) ‹_›) (fun v G3 L1 hl3 hp=>?_)))))
   obtain ⟨a2,c2,_,rfl,hr2,rfl⟩:=hp
   refine Jb [0] [(34,Sr (q++([49])))] (WB (E:=QE) 0 hr2 (by have q_:=Y2 l (q++([49]));(simp only [QE];omega)) (fun G4 hl4 hs2=>Jl 35 (U (Jlp l q)) (ih G4 a2 c2 (K7 l (q++([49]))) hs2 (q++([49])) (by (simp;omega)) (by (have q_:=Y2 l (q++[49]);omega)) (by (simp;omega)) (by simp only [Hc,Hd,He] at *;omega)) (Jb [0,0] [(7,U (Jlo l q)),(8,U (Jlp l q))] (Je (Jc (Jf (Jf (Jd (Jl 36 (Sr (K5 ([]))) (Jag G4 none 0 ([]) (J2 QE G4) (by (simp;done))) (Jl 37 (U (Ji (K5 ([])))) (Z6 (K5 ([])) (JcQ (Hm (Jbu (by simp)) (by decide))) G4) (Jb [0] [(9,U (Ji (K5 ([]))))] (Je (Jc (Jf (Jd (Jb [0,0,0,0] [(41,Bo (decide (WA (K7 l (q++([48]))) (q++([48]))=Ji (K5 ([])))))] (Kr (decide (WA (K7 l (q++([48]))) (q++([48]))=Ji (K5 ([])))) [41] [0,0,0,0] [1,1,1,0] (fun bb=>[(45,Bo (bb && (decide (WA (K7 l (q++([49]))) (q++([49]))=Ji (K5 ([]))))))]) (Je (Jc (Jm ((decide (WA (K7 l (q++([48]))) (q++([48]))=Ji (K5 ([])))) && (decide (WA (K7 l (q++([49]))) (q++([49]))=Ji (K5 ([]))))) (fun h2=>?_) (fun h2=>?_)))))))))))))))))))))
   ·
    refine Jg [0,0] [(4,U (Ji (K5 ([]))))] (Jn (Jj (Jo [0] [U (Ji (K5 ([])))] (Jx (Ja (Ja (Ja hl1 hl2) hl3) hl4) (congrArg U (?_:(WA l q)=(Ji (K5 ([])))).symm)))))
    (rw [JeF (by omega) (by omega)];unfold Jdu;(rw [if_pos ‹_›];done))
   ·
    refine Jq (Jc (Jf (Jd (Jb [0,0] [(47,U (Jlo l q)),(48,U (Jlp l q))] (Jl 49 (U (Jln l q)) (JiA 2 (Jlo l q) (Jlp l q) G4) (Jb [0] [(4,U (Jln l q))] (Je (Jc (Jn (Jo [0] [U (Jln l q)] (Jx (Ja (Ja (Ja hl1 hl2) hl3) hl4) (congrArg U (?_:(WA l q)=(Jln l q)).symm))))))))))))
    (rw [JeF (by omega) (by omega)];unfold Jdu;(rw [if_neg (by intro hc_;have q_:=h2 hc_.1;exact q_ hc_.2)];done))
theorem Jkp (G:J4) (a_l:Ba) (c_l:Nat) (l:List Kb) (h_l:RS QE G a_l c_l l) (q:Bb) (hw_q:(q).length≤140737488351232) (h24:l.length≤24) (hq:q.length≤16):Q3 200 #[Sl a_l l.length c_l,Sr q] G (U (WA l q)):=JfM (16-q.length+1) G a_l c_l l h_l q hw_q h24 hq (Nat.lt_succ_self _)
theorem JeG (G:J4) (a_l:Ba) (c_l:Nat) (l:List Kb) (h_l:RS QE G a_l c_l l) (q:Bb) (hw_q:(q).length≤140737488351232) :Q3 146 #[Sl a_l l.length c_l,Sr q] G (.tuple #[U ((JY l q).1),I ((JY l q).2)]):=by
 refine JQ Tryz.func146 25 [(0,Sl a_l l.length c_l),(1,Sr q)] rfl (fun w0 G0=>?_)
 refine Jg [0,0] [] (Jf (Jf (Jd (Jb [0] [(7,Sl a_l l.length c_l)] (Jl 8 (I (Kn l)) (Vc G a_l c_l l h_l) (Jb [0] [(6,I (Kn l))] (Je (Jc (Jg [0,0] [(10,Bo (!decide (Kn l=0)))] (Jm (!decide (Kn l=0)) (fun h1=>?_) (fun h1=>?_)))))))))))
 refine Jg [0,0,0] [(4,U 0),(5,I (Kn l))] (Jn (Jj (Jo [0,0] [U 0,I (Kn l)] (Jx (Jh _) ?_))))
 have hf_:(JY l q)=(0,(Kn l)):=by
  unfold JY;(rw [if_pos ‹_›];done)
 · (try rw [hf_]);(simp only [Qy];done)
 refine Jq (Jc (Jf (Jf (Jd (Jb [0,0,0,0] [(15,Bo (decide (((q).length:Int) > 16)))] (QU [15] (decide (((q).length:Int) > 16)) (fun h2=>?_) (fun h2=>?_)))))))
 refine Jb [1,1,1,0] [(19,Bo true)] (Je (Jc (J0 (Jg [0,0] [(4,U 0),(5,I 3)] (Jn (Jj (Jo [0,0] [U 0,I 3] (Jx (Jh _) ?_))))))))
 have hf_:(JY l q)=(0,3):=by
  unfold JY;(rw [if_neg (by omega)];(rw [if_pos (by simp_all)];done))
 · (try rw [hf_]);(simp only [Qy];done)
 refine Jb [0] [(16,Sr q)] (Jl 17 (Sr (Jbe q)) (Jmw G q hw_q) (Jb [0,0] [(19,Bo (!((B (Jbe q)).toList == (B ([])).toList)))] (KG 19 (Bo (!(Jbe q == []))) (show (Bo (!((B (Jbe q)).toList == (B ([])).toList)):Value)=Bo (!(Jbe q == [])) by simp only [QY]) (Je (Jc (Jm (!(Jbe q == [])) (fun h3=>?_) (fun h3=>?_)))))))
 refine Jg [0,0] [(4,U 0),(5,I 3)] (Jn (Jj (Jo [0,0] [U 0,I 3] (Jx (Jh _) ?_))))
 have hf_:(JY l q)=(0,3):=by
  unfold JY;(rw [if_neg (by omega)];(rw [if_pos (by simp_all)];done))
 · (try rw [hf_]);(simp only [Qy];done)
 refine Jq (Jc (Jf (Jd (Jb [0,0] [(20,Sl a_l l.length c_l),(21,Sr q)] (JM 22 (JaY G a_l c_l l h_l q ‹_› (by exact (Qd.1 ‹_›).len)) (fun v G1 L1 hl1 hp=>?_))))))
 obtain ⟨a1,c1,_,rfl,hr1,rfl⟩:=hp
 refine Jb [0] [(23,Sr q)] (WB (E:=QE) 0 hr1 (by have q_:=Y2 l q;(have q1_:=(Qd.1 ‹_›).len;simp only [QE];omega)) (fun G2 hl2 hs1=>Jl 24 (U (WA (K7 l q) q)) (Jkp G2 a1 c1 (K7 l q) hs1 q ‹_› (by (have q_:=(Qd.1 ‹_›).len;have q1_:=Y2 l q;omega)) Kd) (Jb [0,0] [(4,U (WA (K7 l q) q)),(5,I 0)] (Je (Jc (Jn (Jo [0,0] [U (WA (K7 l q) q),I 0] (Jx (Ja hl1 hl2) ?_))))))))
 have hf_:(JY l q)=((WA (K7 l q) q),0):=by
  unfold JY;(rw [if_neg (by omega)];(rw [if_neg (by simp_all)];done))
 · (try rw [hf_]);(simp only [Qy];done)
theorem Jbw (G:J4) (a_l:Ba) (c_l:Nat) (l:List Kb) (h_l:RS QE G a_l c_l l) :Q3 95 #[Sl a_l l.length c_l] G (.tuple #[U ((JY l []).1),I ((JY l []).2)]):=by
 refine JQ Tryz.func95 8 [(0,Sl a_l l.length c_l)] rfl (fun w0 G0=>?_)
 refine Jg [0,0] [] (Jf (Jd (Jb [0] [(4,Sl a_l l.length c_l)] (Jl 5 (.tuple #[U ((JY l ([])).1),I ((JY l ([])).2)]) (JeG G a_l c_l l h_l ([]) (Hb rfl)) (Jb [0,0,0,0] [(2,U ((JY l ([])).1)),(3,I ((JY l ([])).2))] (Je (Jc (Jn (Jo [0,0] [U ((JY l ([])).1),I ((JY l ([])).2)] (Jx (Jh _) ?_))))))))))
 have hf_:(JY l [])=(((JY l ([])).1),((JY l ([])).2)):=by
  rfl
 · (try rw [hf_]);(simp only [Qy];done)
theorem JfN {R:Kb→Kb→Prop} (hi:∀ x,¬ R x x) (ha:∀ x y,R x y→¬ R y x):∀ (l m:List Kb),l.Pairwise R→m.Pairwise R→(∀ y,y∈l ↔ y∈m)→l=m
 | [],m,_,_,h=>by
  cases m with
  | nil=>rfl
  | cons y m=>exact absurd ((h y).2 (HF ..)) (HS)
 | x::l,[],_,_,h=>absurd ((h x).1 (HF ..)) (HS)
 | x::l,y::m,h1,h2,h=>by
  rw [List.pairwise_cons] at h1 h2
  have e:x=y:=by
   rcases HA.1 ((h x).1 (HF ..)) with e | e
   · exact e
   rcases HA.1 ((h y).2 (HF ..)) with e' | e'
   · exact e'.symm
   · exact absurd (h1.1 _ e') (ha _ _ (h2.1 _ e))
  subst e
  congr 1
  refine JfN hi ha l m h1.2 h2.2 fun z=>⟨fun hz=>?_,fun hz=>?_⟩
  ·
   rcases HA.1 ((h z).1 (HY _ hz)) with e | e
   · subst e;exact absurd (h1.1 _ hz) (hi _)
   · exact e
  ·
   rcases HA.1 ((h z).2 (HY _ hz)) with e | e
   · subst e;exact absurd (h2.1 _ hz) (hi _)
   · exact e
theorem ZO.pair {l:List Kb} (h:ZO l):l.Pairwise fun x y=>Yn x.name y.name<0:=by
 rw [List.pairwise_iff_getElem]
 intro i j hi hj hij
 exact h.ord i j _ _ hij (Ho hi) (Ho hj)
theorem ZO.ext {l m:List Kb} (h1:ZO l) (h2:ZO m) (h:∀ y,y∈l ↔ y∈m):l=m:=by
 refine JfN (R:=fun x y=>Yn x.name y.name<0) (fun x hx=>?_) (fun x y hx hy=>?_) l m h1.pair h2.pair h
 · have:=YD.2 (rfl:x.name=x.name);omega
 · have:=JcR hx hy;have:=YD.2 (rfl:x.name=x.name);omega
theorem JcV {l:List Kb} {q:Bb} (h:(JY l q).2=0):ZO l∧q.length≤16∧(∀ b∈q,isB b=true)∧(JY l q).1=WA (K7 l q) q:=by
 unfold JY at h ⊢
 split at h
 · contradiction
 rename_i h1
 split at h
 · cases h
 rename_i h2
 rw [if_neg h1,if_neg h2]
 have h3:Jbe q=[]:=Hj.1 fun hc=>h2 (.inr hc)
 have h4:¬ (q.length:Int) > 16:=fun hc=>h2 (.inl hc)
 exact ⟨Qd.1 (Hj.1 h1),by omega,Jg9.1 h3,rfl⟩
theorem JfO {l:List Kb} {q:Bb} (h1:ZO l) (h2:q.length≤16) (h3:∀ b∈q,isB b=true):JY l q=(WA (K7 l q) q,0):=by
 unfold JY
 rw [if_neg (fun hc=>hc (Qd.2 h1)),if_neg]
 rintro (hc | hc)
 · omega
 · exact hc (Jg9.2 h3)
def Yz (b:UInt8):UInt8:=HH (97-(b.toNat:Int)).toNat
theorem JiZ {b:UInt8} (h:48≤b.toNat∧b.toNat≤49):Utf8.encode (97-(b.toNat:Int))=B [Yz b]:=Jhy (by omega) (by omega)
def Jof (l:List Kb) (p:Bb) (k:Nat):Int:=(JY l (p.take k++[Yz (p[k]?.getD 48)])).1
def JcW (l:List Kb) (p:Bb) (n:Nat):List Int:=(List.range n).map fun i=>Jof l p (15-i)
theorem JcX (l:List Kb) (p:Bb) (n:Nat):(JcW l p n).length=n:=by unfold JcW;simp
theorem Ji0 {l:List Kb} {p:Bb} {k:Nat} {y:UInt8} (hy:p[k]? = some y) (hk:k≤15):JcW l p (15-k)++[(JY l (p.take k++[Yz y])).1]=JcW l p (15-k+1):=by
 unfold JcW
 rw [List.range_succ,List.map_append]
 congr 1
 simp only [List.map_cons,List.map_nil]
 unfold Jof
 rw [show 15-(15-k)=k by omega,hy];rfl
def Jeb:Q4:=⟨[],[],[]⟩
def JfP (l:List Kb) (p:Bb):List Kb:=l.filter fun x=>way x.name == p
theorem JmC {l:List Kb} {i:Nat} {x:Kb} {p:Bb} (h:l[i]? = some x) (hp:(way x.name == p)=true):JfP (l.take i) p++[x]=JfP (l.take (i+1)) p:=by unfold JfP;rw [Hp,h];simp [hp]
theorem JmD {l:List Kb} {i:Nat} {x:Kb} {p:Bb} (h:l[i]? = some x) (hp:¬ (way x.name == p)=true):JfP (l.take i) p=JfP (l.take (i+1)) p:=by unfold JfP;rw [Hp,h];simp [hp]
theorem JhT (l:List Kb) (p:Bb):(JfP l p).length≤l.length:=HW ..
def Qb (l:List Kb) (name:Bb):Q4×Int:=if ¬ Kn l=0 then (Jeb,Kn l) else if ¬ (KM name).2=0 then (Jeb,(KM name).2) else (⟨name,JfP l (KM name).1,JcW l (KM name).1 16⟩,0)
set_option maxRecDepth 20000 in
theorem Jgt (G:J4) (a_l:Ba) (c_l:Nat) (l:List Kb) (h_l:RS QE G a_l c_l l) (name:Bb) (hw_name:(name).length≤140737488351232) :YL 194 #[Sl a_l l.length c_l,Sr name] G [] (fun u G' L'=>∃ (a1:Ba) (c2:Nat) (a3:Ba) (c4:Nat),u=.tuple #[.agg #[Sr (((Qb l name).1).name),Sl a1 ((((Qb l name).1).entries).length) c2,Sl a3 ((((Qb l name).1).sides).length) c4],I ((Qb l name).2)]∧((((Qb l name).1).name).length≤140737488351232)∧(RS QE G' a1 c2 (((Qb l name).1).entries))∧(RS EU G' a3 c4 (((Qb l name).1).sides))∧L'=[]):=by
 refine JQ Tryz.func194 78 [(0,Sl a_l l.length c_l),(1,Sr name)] rfl (fun w0 G0=>?_)
 refine Jf (Jd (Jv 4 #[Sr ([]),Sl none 0 0,Sl none 0 0] 47 (fun b1=>Jb [0] [] (Je (Jc (Jf (Jf (Jd (Jb [0] [(16,Sl a_l l.length c_l)] (Jl 17 (I (Kn l)) (Vc G a_l c_l l h_l) (Jb [0] [(6,I (Kn l))] (Je (Jc (Jg [0,0] [(19,Bo (!decide (Kn l=0)))] (Jm (!decide (Kn l=0)) (fun h1=>?_) (fun h1=>?_))))))))))))))))
 refine Jg [0,0,3,0] [(5,I (Kn l))] (Jn (Jj ?_))
 have hf1:Qb l name=((⟨[],[],[]⟩:Q4),Kn l):=by
  unfold Qb Jeb;(rw [if_pos ‹_›];done)
 refine Jo [0,0] [.agg #[Sr ([]),Sl none 0 0,Sl none 0 0],I (Kn l)] (JD [] (Jh _) ?_)
 rw [hf1]
 try dsimp only
 exact ⟨none,0,none,0,rfl,(Hb rfl),(J2 QE G),(J2 EU G),rfl⟩
 refine Jq (Jc (Jf (Jd (Jb [0] [(23,Sr name)] (Jl 24 (.tuple #[Sr ((KM name).1),I ((KM name).2)]) (JcS G name hw_name) (Jb [0,0,0,0,0] [(7,Sr ((KM name).1)),(8,I ((KM name).2))] (Je (Jc (Jf (Jg [0,0] [(28,Bo (!decide ((KM name).2=0)))] (Jm (!decide ((KM name).2=0)) (fun h2=>?_) (fun h2=>?_))))))))))))
 refine Jg [0,0,3,0] [(5,I ((KM name).2))] (Jn (Jj ?_))
 have hf2:Qb l name=((⟨[],[],[]⟩:Q4),(KM name).2):=by
  unfold Qb Jeb;(rw [if_neg (by omega)];(rw [if_pos ‹_›];done))
 refine Jo [0,0] [.agg #[Sr ([]),Sl none 0 0,Sl none 0 0],I ((KM name).2)] (JD [] (Jh _) ?_)
 rw [hf2]
 try dsimp only
 exact ⟨none,0,none,0,rfl,(Hb rfl),(J2 QE G),(J2 EU G),rfl⟩
 refine Jq (Jc (Jf (Jd (Jb [0,0] [(32,.agg #[Sr name,Sl none 0 0,Sl none 0 0])] (Jv 9 #[Sr ([]),Sl none 0 0,Sl none 0 0] 47 (fun b2=>JT [3] [] [[Sg b2 0 [Sr name,Sl none 0 0,Sl none 0 0]],[Sg b1 0 [Sr ([]),Sl none 0 0,Sl none 0 0]]] (Je (Jc (Jf (Jg [0,0,0] [(33,Sl a_l l.length c_l),(34,I (l.length:Int)),(35,I 0)] (Jy (ZU ?_))))))))))))
 have hlm_h_l:l.length≤9223372036854775807:=Hm (h_l).le (h_l).max
 refine Qe (σ:=Nat×Ba×Nat×Bg×List Kb×J4) (fun q_=>(J4.le G q_.2.2.2.2.2)∧(q_.1≤l.length)∧(JX QE q_.2.2.2.2.2 q_.2.1 q_.2.2.1 q_.2.2.2.2.1 q_.2.2.2.1)∧(q_.2.2.2.2.1=JfP (l.take q_.1) (KM name).1)) (fun q_=>[(0,Sl a_l l.length c_l),(4,Pt b1 0),(7,Sr ((KM name).1)),(9,Pt b2 0),(33,Sl a_l l.length c_l),(34,I (l.length:Int)),(35,I (q_.1:Int))]) (fun q_=>q_.2.2.2.2.2) (fun q_=>[q_.2.2.2.1,[Sg b2 0 [Sr name,Sl q_.2.1 q_.2.2.2.2.1.length q_.2.2.1,Sl none 0 0]],[Sg b1 0 [Sr ([]),Sl none 0 0,Sl none 0 0]]]) (fun q_=>l.length-q_.1) (0,none,0,[],[],G) ⟨(Jh _),(by (try dsimp only);exact Hv _),(JX.none QE _),(by (try dsimp only);simp [JfP])⟩ (fun q_ hs=>?_)
 obtain ⟨i,ao,co,ro,xo,g⟩:=q_
 obtain ⟨hle,hi,hro,hxo⟩:=hs
 dsimp only at hle hi hro hxo
 dsimp only
 refine Jg [0] [(36,Bo (decide ((i:Int)<(l.length:Int))))] (Jf (Jm (decide ((i:Int)<(l.length:Int))) (fun h3=>?_) (fun h3=>?_)))
 refine Jq (Jc (Jf (Jy (Jf (Jd ?_)))))
 obtain ⟨b3,o1,rfl⟩:=RS.addr (h_l.mono hle) (k:=i) (by omega)
 obtain ⟨x1,hx1⟩:=QQ (l:=l) (k:=i) (by omega)
 obtain ⟨_,⟨rfl,w1,_⟩,hc1⟩:=RS.get (h_l.mono hle) hx1
 refine JW (b:=b3) (off:=o1) (len:=l.length) (cap:=c_l) (ik:=.i64) 37 111 2 i Kd (JO 38 111 (cs:=[Sr x1.name,Sr x1.value]) 0 (.agg #[Sr x1.name,Sr x1.value]) hc1 (Jv 11 #[Sr ([]),Sr ([])] 111 (fun b4=>JT [3] [] [[Sg b4 0 [Sr x1.name,Sr x1.value]],ro,[Sg b2 0 [Sr name,Sl ao xo.length co,Sl none 0 0]],[Sg b1 0 [Sr ([]),Sl none 0 0,Sl none 0 0]]] (Je (Jc (Jf (Jd (Jb [0,2] [(40,Sr x1.name)] (Jl 41 (Sr (way x1.name)) (Jdt g x1.name w1) (Jb [0,0] [(43,Bo ((B (way x1.name)).toList == (B ((KM name).1)).toList))] (KG 43 (Bo (way x1.name == (KM name).1)) (show (Bo ((B (way x1.name)).toList == (B ((KM name).1)).toList):Value)=Bo (way x1.name == (KM name).1) by simp only [QY]) (Je (Jc (Jm (way x1.name == (KM name).1) (fun h4=>?_) (fun h4=>?_)))))))))))))))
 exact Jd (Jb [0,6,2] [(45,Sl ao xo.length co),(46,.agg #[Sr x1.name,Sr x1.value])] (Kq 47 1 #[Sr x1.name,Sr x1.value] 111 (fun b5=>Qm (b:=b5) (cs:=[Sr x1.name,Sr x1.value]) 48 111 2 0 (E:=QE) x1 hro ⟨rfl,‹_›,‹_›⟩ (by have q_:=(Qd.1 ‹_›).len;(have q2_:=JhT (l.take i) (KM name).1;have q3_:=congrArg Hl hxo;rw [Hf] at q2_;(try simp only [QE,EU,Hc,Hd,He] at *);omega)) (by have q_:=(Qd.1 ‹_›).len;(have q2_:=JhT (l.take i) (KM name).1;have q3_:=congrArg Hl hxo;rw [Hf] at q2_;(try simp only [QE,EU,Hc,Hd,He] at *);omega)) (fun a1 c1 r1 hr1=>JT [0,9] [] [[Sg b5 0 [Sr x1.name,Sr x1.value]],[Sg b4 0 [Sr x1.name,Sr x1.value]],r1,[Sg b2 0 [Sr name,Sl a1 ((xo++[x1]).length) c1,Sl none 0 0]],[Sg b1 0 [Sr ([]),Sl none 0 0,Sl none 0 0]]] (Je (JN (Jc (Jd (Jb [0,0] [(35,I (Ha.wrap ((i:Int)+1)))] (Ku 35 ((i:Int)+1) Kd (Je (QA [r1,[Sg b2 0 [Sr name,Sl a1 ((xo++[x1]).length) c1,Sl none 0 0]],[Sg b1 0 [Sr ([]),Sl none 0 0,Sl none 0 0]]] (Ql (i+1,a1,c1,r1,xo++[x1],g) ⟨(Ja hle (Jh _)),Kd,hr1,(by (try dsimp only);rw [hxo];exact JmC hx1 (by simp_all))⟩ (by (try dsimp only);omega))))))))))))))
 exact Jq (JN (Jc (Jd (Jb [0,0] [(35,I (Ha.wrap ((i:Int)+1)))] (Ku 35 ((i:Int)+1) Kd (Je (QA [ro,[Sg b2 0 [Sr name,Sl ao xo.length co,Sl none 0 0]],[Sg b1 0 [Sr ([]),Sl none 0 0,Sl none 0 0]]] (Ql (i+1,ao,co,ro,xo,g) ⟨(Ja hle (Jh _)),Kd,hro,(by (try dsimp only);rw [hxo];exact JmD hx1 (by simp_all))⟩ (by (try dsimp only);omega)))))))))
 refine KX (J1 (Ke (JV (Jc (Jf (Jg [0] [(12,I 15)] (Jy (ZU ?_))))))))
 have hlm_h_l:l.length≤9223372036854775807:=Hm (h_l).le (h_l).max
 refine Qe (σ:=Int×Ba×Nat×Bg×List Kb×Ba×Nat×Bg×List Int×J4) (fun q_=>(J4.le g q_.2.2.2.2.2.2.2.2.2)∧(-1≤q_.1∧q_.1≤15)∧(JX QE q_.2.2.2.2.2.2.2.2.2 q_.2.1 q_.2.2.1 q_.2.2.2.2.1 q_.2.2.2.1)∧(q_.2.2.2.2.1=JfP l (KM name).1)∧(JX EU q_.2.2.2.2.2.2.2.2.2 q_.2.2.2.2.2.1 q_.2.2.2.2.2.2.1 q_.2.2.2.2.2.2.2.2.1 q_.2.2.2.2.2.2.2.1)∧(q_.2.2.2.2.2.2.2.2.1=JcW l (KM name).1 (15-q_.1).toNat)) (fun q_=>[(0,Sl a_l l.length c_l),(4,Pt b1 0),(7,Sr ((KM name).1)),(9,Pt b2 0),(12,I q_.1)]) (fun q_=>q_.2.2.2.2.2.2.2.2.2) (fun q_=>[q_.2.2.2.2.2.2.2.1,q_.2.2.2.1,[Sg b2 0 [Sr name,Sl q_.2.1 q_.2.2.2.2.1.length q_.2.2.1,Sl q_.2.2.2.2.2.1 q_.2.2.2.2.2.2.2.2.1.length q_.2.2.2.2.2.2.1]],[Sg b1 0 [Sr ([]),Sl none 0 0,Sl none 0 0]]]) (fun q_=>(q_.1+1).toNat) (15,ao,co,ro,xo,none,0,[],[],g) ⟨(Jh _),(by (try dsimp only);omega),hro,(by (try dsimp only);rw [hxo,Hy (by omega)]),(JX.none EU _),rfl⟩ (fun q_ hs=>?_)
 obtain ⟨k,ao,co,ro,xo,am,cm,rm,xm,g1_⟩:=q_
 obtain ⟨hle1_,hk,hro,hxo,hrm,hxm⟩:=hs
 dsimp only at hle1_ hk hro hxo hrm hxm
 dsimp only
 refine Jf (Jg [0,0] [(52,Bo (decide (k ≥ 0)))] (Jm (decide (k ≥ 0)) (fun h5=>?_) (fun h5=>?_)))
 refine Jq (Jc (Jf (Jy ?_)))
 obtain ⟨kn1,hkn1⟩:∃ k_:Nat,k=(k_:Int):=⟨(k).toNat,by omega⟩
 have e1:k=(kn1:Int):=hkn1
 refine QW 12 (I (kn1:Int)) (congrArg I e1) (Jf ?_)
 obtain ⟨y1,hy1⟩:=QQ (l:=(KM name).1) (k:=kn1) (by (have q_:=Jea (a:=name) ‹_›;have q1_:=congrArg Hl q_;rw [Jad] at q1_;omega))
 have hb_y1:=y1.toNat_lt
 have e2:HX.wrap (y1.toNat:Int)=(y1.toNat:Int):=by (rw [IntKind.wrap_i32];omega)
 have e3:HX.wrap (97-(y1.toNat:Int))=97-(y1.toNat:Int):=by (rw [IntKind.wrap_i32];omega)
 refine Kv [] (Ws [(0,Sr ((KM name).1)),(1,I (kn1:Int)),(2,Sr (((KM name).1).take kn1)),(3,Sr ((KM name).1)),(4,I (kn1:Int)),(5,Y (y1.toNat:Int)),(6,.int .i32 (y1.toNat:Int)),(7,.int .i32 (97-(y1.toNat:Int))),(8,Sr ([Yz y1])),(9,Sr ((((KM name).1).take kn1)++([Yz y1]))),(10,Sr ((((KM name).1).take kn1)++([Yz y1])))] (Ko [] [(0,0),(1,0),(3,0),(4,0),(10,0)] [2,5,6,7,8,9] [(0,Sl a_l l.length c_l),(4,Pt b1 0),(7,Sr ((KM name).1)),(9,Pt b2 0),(12,I (kn1:Int)),(13,Sr ((((KM name).1).take kn1)++([Yz y1])))] (Kf ?_ (Kf ?_ (Kf ?_ (Kf ?_ (Kf ?_ (Kf ?_ KY)))))) ?_))
 refine Jr 2 57 (Sr (((KM name).1).take kn1)) [(55,Sr ((KM name).1)),(56,I (kn1:Int))] (fun X=>?_)
 exact JdY (l:=(KM name).1) 57 none (some (I (kn1:Int))) 0 kn1 (.inl ⟨rfl,rfl⟩) (.inr ⟨_,rfl⟩) (Hv _) (by (have q_:=Jea (a:=name) ‹_›;have q1_:=congrArg Hl q_;rw [Jad] at q1_;omega)) Jp
 refine Jr 5 60 (Y (y1.toNat:Int)) [(58,Sr ((KM name).1)),(59,I (kn1:Int))] (fun X=>?_)
 exact Ja9 (ik:=.i64) 60 kn1 y1 hy1 Jp
 refine Jr 6 61 (.int .i32 (y1.toNat:Int)) [(60,Y (y1.toNat:Int))] (fun X=>?_)
 exact Qa 61 (.int .i32 (HX.wrap (y1.toNat:Int))) (.int .i32 (y1.toNat:Int)) (by simp only [e2]) Jp
 refine Jr 7 62 (.int .i32 (97-(y1.toNat:Int))) [(61,.int .i32 (y1.toNat:Int))] (fun X=>?_)
 exact Qa 62 (.int .i32 (HX.wrap (97-(y1.toNat:Int)))) (.int .i32 (97-(y1.toNat:Int))) (by simp only [e3]) Jp
 refine Jr 8 63 (Sr ([Yz y1])) [(62,.int .i32 (97-(y1.toNat:Int)))] (fun X=>?_)
 exact Jnz 63 (97-(y1.toNat:Int)) [Yz y1] (JiZ (isB_bd (Jkh name _ (Hn (by rw [← Jea ‹_›];exact hy1))))) Jp
 refine Jr 9 64 (Sr ((((KM name).1).take kn1)++([Yz y1]))) [(57,Sr (((KM name).1).take kn1)),(63,Sr ([Yz y1]))] (fun X=>?_)
 exact ZS 64 (((KM name).1).take kn1) ([Yz y1]) (by (try simp only [Hc,Hf,Hd,He]);omega) Jp
 refine Jc (Jf (Jd (Jb [0,0] [(66,Sl a_l l.length c_l),(67,Sr ((((KM name).1).take kn1)++([Yz y1])))] (Jl 68 (.tuple #[U ((JY l ((((KM name).1).take kn1)++([Yz y1]))).1),I ((JY l ((((KM name).1).take kn1)++([Yz y1]))).2)]) (JeG g1_ a_l c_l l (h_l.mono (Ja hle hle1_)) ((((KM name).1).take kn1)++([Yz y1])) (by (simp;omega))) (Jb [0,0,0,0,0] [(14,U ((JY l ((((KM name).1).take kn1)++([Yz y1]))).1))] (Je (Jc (Jd (Jb [0,6,0] [(72,Sl am xm.length cm),(73,U ((JY l ((((KM name).1).take kn1)++([Yz y1]))).1))] (Kq 74 1 #[U ((JY l ((((KM name).1).take kn1)++([Yz y1]))).1)] 41 (fun b6=>Qm (b:=b6) (cs:=[U ((JY l ((((KM name).1).take kn1)++([Yz y1]))).1)]) 75 41 1 0 (E:=EU) ((JY l ((((KM name).1).take kn1)++([Yz y1]))).1) hrm ⟨rfl,(Vi _ _)⟩ (by have q_:=(Qd.1 ‹_›).len;(have q3_:=congrArg Hl hxm;rw [JcX] at q3_;(try simp only [QE,EU,Hc,Hd,He] at *);omega)) (by have q_:=(Qd.1 ‹_›).len;(have q3_:=congrArg Hl hxm;rw [JcX] at q3_;(try simp only [QE,EU,Hc,Hd,He] at *);omega)) (fun a2 c2 r2 hr2=>JT [0,9] [] [[Sg b6 0 [U ((JY l ((((KM name).1).take kn1)++([Yz y1]))).1)]],r2,ro,[Sg b2 0 [Sr name,Sl ao xo.length co,Sl a2 ((xm++[(JY l ((((KM name).1).take kn1)++([Yz y1]))).1]).length) c2]],[Sg b1 0 [Sr ([]),Sl none 0 0,Sl none 0 0]]] (Je (JN (Jc (Jd (Jb [0,0,0] [(12,I (Ha.wrap ((kn1:Int)-1)))] (Ku 12 ((kn1:Int)-1) Kd (Je ?_)))))))))))))))))))
 exact QA [r2,ro,[Sg b2 0 [Sr name,Sl ao xo.length co,Sl a2 ((xm++[(JY l ((((KM name).1).take kn1)++([Yz y1]))).1]).length) c2]],[Sg b1 0 [Sr ([]),Sl none 0 0,Sl none 0 0]]] (Ql ((kn1:Int)-1,ao,co,ro,xo,a2,c2,r2,xm++[(JY l ((((KM name).1).take kn1)++([Yz y1]))).1],g1_) ⟨(Ja hle1_ (Jh _)),(by (try dsimp only);omega),hro,hxo,hr2,(by (try dsimp only);rw [hxm,show (15-((kn1:Int)-1)).toNat=15-kn1+1 by omega,show (15-k).toNat=15-kn1 by omega];exact Ji0 hy1 Kd)⟩ (by (try dsimp only);omega))
 refine KX (J1 (Ke (JV (Jc (QB [6,9,0] [(5,I 0)] [rm,ro,[Sg b2 0 [Sr name,Sl ao xo.length co,Sl am xm.length cm]],[Sg b1 0 [Sr name,Sl ao xo.length co,Sl am xm.length cm]]] (Jn (Wv (E:=QE) 1 hro (by have q_:=(Qd.1 ‹_›).len;(have q3_:=congrArg Hl hxo;have q2_:=JhT l (KM name).1;(try simp only [QE,EU,Hc,Hd,He] at *);omega)) (fun G1 hl1 hs1=>Wv (E:=EU) 0 (hrm.mono hl1) (by have q_:=(Qd.1 ‹_›).len;(have q3_:=congrArg Hl hxm;rw [JcX] at q3_;(try simp only [QE,EU,Hc,Hd,He] at *);omega)) (fun G2 hl2 hs2=>?_)))))))))
 have hf3:Qb l name=((⟨name,xo,xm⟩:Q4),0):=by
  unfold Qb Jeb;(rw [if_neg (by omega)];(rw [if_neg (by omega),hxo,hxm,show (15-k).toNat=16 by omega];done))
 refine Jo [3,0] [.agg #[Sr name,Sl ao xo.length co,Sl am xm.length cm],I 0] (JD [] (Ja (Ja (Ja hle hle1_) hl1) hl2) ?_)
 rw [hf3]
 try dsimp only
 exact ⟨ao,co,am,cm,rfl,hw_name,(hs1.mono hl2),hs2,rfl⟩
def Jog (a:Bs):Bb:=a[a.length-1]?.getD []
theorem JmE {a:Bs} {k:Nat} {x:Bb} (hk:k=a.length-1) (h:a[k]? = some x):x=Jog a:=by unfold Jog;rw [← hk,h];rfl
def JaS (x y:JU):Bool:=decide (JB x y.root y.at_=(y,0))
theorem Jec {x y:JU}:JaS x y=true ↔ (JB x y.root y.at_).2=0∧(JB x y.root y.at_).1.epoch=y.epoch∧(JB x y.root y.at_).1.root=y.root∧(JB x y.root y.at_).1.prev=y.prev∧(JB x y.root y.at_).1.at_=y.at_:=by
 unfold JaS
 rw [decide_eq_true_eq]
 constructor
 · intro h;rw [h];simp
 ·
  rintro ⟨h1,h2⟩
  exact Prod.ext (JbR.2 h2) h1
def lnk:List JU→Nat→Int
 | x::y::r,i=>if JaS x y then lnk (y::r) (i+1) else (i:Int)
 | _,_=>-1
def Wr (l:List JU):Int:=lnk l 1
theorem JpC {l:List JU} {i:Nat} (h:l.length≤1):lnk l i=-1:=by
 match l,h with
 | [],_=>rfl
 | [_],_=>rfl
theorem Joh {l:List JU} {i:Nat} {x y:JU} (hi:1≤i) (hx:l[i-1]? = some x) (hy:l[i]? = some y) (h:JaS x y=true):lnk (l.drop (i-1)) i=lnk (l.drop (i+1-1)) (i+1):=by
 obtain ⟨h1,rfl⟩:=Hg.1 hx
 obtain ⟨h2,rfl⟩:=Hg.1 hy
 rw [Hk h1,show i-1+1=i by omega,show i+1-1=i by omega,Hk h2]
 show (if JaS _ _=true then _ else _)=_
 rw [if_pos h]
theorem Joi {l:List JU} {i:Nat} {x y:JU} (hi:1≤i) (hx:l[i-1]? = some x) (hy:l[i]? = some y) (h:¬ JaS x y=true):lnk (l.drop (i-1)) i=(i:Int):=by
 obtain ⟨h1,rfl⟩:=Hg.1 hx
 obtain ⟨h2,rfl⟩:=Hg.1 hy
 rw [Hk h1,show i-1+1=i by omega,Hk h2]
 show (if JaS _ _=true then _ else _)=_
 rw [if_neg h]
theorem Jlq:∀ (l:List JU) (i:Nat),lnk l i<0 ↔ ∀ (k:Nat) x y,l[k]? = some x→l[k+1]? = some y→JaS x y=true
 | [],i=>by simp [lnk]
 | [a],i=>by simp [lnk]
 | a::b::r,i=>by
  have ih:=Jlq (b::r) (i+1)
  unfold lnk
  split
  ·
   rename_i h
   rw [ih]
   constructor
   ·
    intro hh k x y hx hy
    cases k with
    | zero=>simp at hx hy;subst hx hy;exact h
    | succ k=>exact hh k x y hx hy
   ·
    intro hh k x y hx hy
    exact hh (k+1) x y hx hy
  ·
   rename_i h
   constructor
   · intro hh;omega
   · intro hh;exact absurd (hh 0 a b rfl rfl) h
def Vj:List JU→Nat→Int×Int
 | [],_=>(0,0)
 | h::l,i=>if JK h=0 then Vj l (i+1) else (JK h,(i:Int))
theorem Ji1 {l:List JU} {i:Nat} {x:JU} (hx:l[i]? = some x) (h:JK x=0):Vj (l.drop i) i=Vj (l.drop (i+1)) (i+1):=by
 obtain ⟨h1,rfl⟩:=Hg.1 hx
 rw [Hk h1]
 show (if JK _=0 then _ else _)=_
 rw [if_pos h]
theorem JmF {l:List JU} {i:Nat} {x:JU} (hx:l[i]? = some x) (h:¬ JK x=0):Vj (l.drop i) i=(JK x,(i:Int)):=by
 obtain ⟨h1,rfl⟩:=Hg.1 hx
 rw [Hk h1]
 show (if JK _=0 then _ else _)=_
 rw [if_neg h]
theorem JfQ:∀ (l:List JU) (i:Nat),(Vj l i).1=0 ↔ ∀ h∈l,JK h=0
 | [],i=>by simp [Vj]
 | h::l,i=>by
  have ih:=JfQ l (i+1)
  unfold Vj
  split
  · rename_i e;rw [ih];simp [e]
  · rename_i e;simp [e]
def Ki (l:List JU):Int×Int:=if l.length=0 then (5,0) else if 40<l.length then (2,0) else if (Vj l 0).1 ≠ 0 then Vj l 0 else if 0≤Wr l then (8,Wr l) else (0,0)
structure Zk (l:List JU):Prop where
 len1:1≤l.length
 len:l.length≤40
 ok:∀ h∈l,JK h=0
 lnk:∀ (k:Nat) x y,l[k]? = some x→l[k+1]? = some y→JaS x y=true
theorem K8 {l:List JU}:(Ki l).1=0 ↔ Zk l:=by
 unfold Ki
 have e1:=JfQ l 0
 have e2:=Jlq l 1
 constructor
 ·
  intro h
  split at h
  · cases h
  split at h
  · cases h
  split at h
  · contradiction
  split at h
  · cases h
  ·
   rename_i h1 h2 h3 h4
   exact ⟨by omega,by omega,e1.1 (Hj.1 h3),e2.1 (by unfold Wr at h4;omega)⟩
 ·
  rintro ⟨h1,h2,h3,h4⟩
  rw [if_neg (by omega),if_neg (by omega),if_neg (by have:=e1.2 h3;omega),if_neg (by have:=e2.2 h4;unfold Wr;omega)]
def K1:List (List JU)→Int
 | []=>0
 | l::r=>if (Ki l).1=0 then K1 r else (Ki l).1
theorem Jgu {l:List (List JU)} {i:Nat} {x:List JU} (hx:l[i]? = some x) (h:(Ki x).1=0):K1 (l.drop i)=K1 (l.drop (i+1)):=by
 obtain ⟨h1,rfl⟩:=Hg.1 hx
 rw [Hk h1]
 show (if (Ki _).1=0 then _ else _)=_
 rw [if_pos h]
theorem Ji2 {l:List (List JU)} {i:Nat} {x:List JU} (hx:l[i]? = some x) (h:¬ (Ki x).1=0):K1 (l.drop i)=(Ki x).1:=by
 obtain ⟨h1,rfl⟩:=Hg.1 hx
 rw [Hk h1]
 show (if (Ki _).1=0 then _ else _)=_
 rw [if_neg h]
theorem Jdv:∀ (l:List (List JU)),K1 l=0 ↔ ∀ x∈l,Zk x
 | []=>by simp [K1]
 | a::l=>by
  have ih:=Jdv l
  unfold K1
  split
  · rename_i e;rw [ih];simp [K8.1 e]
  ·
   rename_i e;constructor
   · intro h;exact absurd h e
   · intro h;exact absurd (K8.2 (h a (by simp))) e
theorem QF {l:List JU}:K1 [l]=0 ↔ Zk l:=by rw [Jdv];simp
def W8 (l:List JU):JU:=l[l.length-1]?.getD Zy
def W0 (l:List JU):JU:=l[0]?.getD Zy
theorem Ww {l:List JU} {k:Nat} {x:JU} (hk:k=l.length-1) (h:l[k]? = some x):x=W8 l:=by unfold W8;rw [← hk,h];rfl
theorem W1 {l:List JU} {x:JU} (h:l[0]? = some x):x=W0 l:=by unfold W0;rw [h];rfl
def Z7 (l:List JU) (root at_:Int):Int:=if K1 [l] ≠ 0 then K1 [l] else if (l.length:Int)=40 then 7 else (JB (W8 l) root at_).2
def Qz (l:List JU) (root at_:Int):List JU×Int:=if Z7 l root at_ ≠ 0 then ([],Z7 l root at_) else (l++[(JB (W8 l) root at_).1],0)
def cut (l:List JU) (a b:Int):List JU:=(l.take (b-(W0 l).epoch+1).toNat).drop (a-(W0 l).epoch).toNat
def Zb (l:List JU) (a b:Int):List JU×Int:=if K1 [l] ≠ 0 then ([],K1 [l]) else if b<a∨a<(W0 l).epoch∨(W8 l).epoch<b then ([],4) else (cut l a b,0)
def QT (h:JU) (l:List JU):Bool×Int:=if K1 [l] ≠ 0 then (false,K1 [l]) else if JK h ≠ 0 then (false,JK h) else (decide (Wr [h,W0 l]<0),0)
theorem Zk.first {l:List JU} (h:Zk l):l[0]? = some (W0 l):=by
 have:=h.len1
 have e:l[0]? = some (l[0]'(by omega)):=Ho (by omega)
 rw [e];unfold W0;rw [e];rfl
theorem Zk.last {l:List JU} (h:Zk l):l[l.length-1]? = some (W8 l):=by
 have:=h.len1
 have e:l[l.length-1]? = some (l[l.length-1]'(by omega)):=Ho (by omega)
 rw [e];unfold W8;rw [e];rfl
theorem Ji3 {x y:JU} (h:JaS x y=true):y.epoch=x.epoch+1:=by
 unfold JaS at h
 rw [decide_eq_true_eq] at h
 have h0:(JB x y.root y.at_).2=0:=by rw [h]
 have:=(JaQ h0).2.2.2.1
 rw [h] at this
 have:=congrArg (fun p=>p.1.epoch) this
 simpa using this
theorem Zk.epoch {l:List JU} (h:Zk l):∀ (k:Nat) x,l[k]? = some x→x.epoch=(W0 l).epoch+k
 | 0,x,hx=>by rw [h.first] at hx;rw [← Hr.inj hx];simp
 | k+1,x,hx=>by
  have hk:=(Hg.1 hx).1
  have e:l[k]? = some (l[k]'(by omega)):=Ho (by omega)
  have:=h.epoch k _ e
  have:=Ji3 (h.lnk k _ _ e hx)
  omega
theorem Zk.lastE {l:List JU} (h:Zk l):(W8 l).epoch=(W0 l).epoch+l.length-1:=by
 have:=h.epoch _ _ h.last
 have:=h.len1
 omega
theorem Zk.fb {l:List JU} (h:Zk l):0≤(W0 l).epoch∧(W0 l).epoch≤1000000:=by
 have:=Zi (h.ok _ (Hn h.first));omega
theorem Zk.lb {l:List JU} (h:Zk l):0≤(W8 l).epoch∧(W8 l).epoch≤1000000:=by
 have:=Zi (h.ok _ (Hn h.last));omega
theorem Jdw {l:List JU} {r t:Int} (h:(Qz l r t).2=0):Zk l∧l.length<40∧(JB (W8 l) r t).2=0∧Qz l r t=(l++[(JB (W8 l) r t).1],0):=by
 unfold Qz at h ⊢
 split at h
 · contradiction
 ·
  rename_i h1
  rw [if_neg h1]
  unfold Z7 at h1
  by_cases e1:K1 [l]=0
  ·
   rw [if_neg (by omega)] at h1
   have hc:=QF.1 e1
   by_cases e2:(l.length:Int)=40
   · rw [if_pos e2] at h1;omega
   ·
    rw [if_neg e2] at h1
    exact ⟨hc,by have:=hc.len;omega,Hj.1 h1,rfl⟩
  · rw [if_pos e1] at h1;omega
theorem Jgv {l:List JU} {r t:Int} (h:¬ (Qz l r t).2=0):(Qz l r t).1=[]:=by
 revert h;unfold Qz;split <;> simp
theorem Zk.snoc {l:List JU} (h:Zk l) (hl:l.length<40) {n:JU} (hn:JK n=0) (hk:JaS (W8 l) n=true):Zk (l++[n]):=by
 refine ⟨by simp,by simp;omega,fun x hx=>?_,fun k x y hx hy=>?_⟩
 ·
  rcases HD.1 hx with hx | hx
  · exact h.ok x hx
  · rw [Hw.1 hx];exact hn
 ·
  by_cases e:k+1<l.length
  ·
   rw [HB (by omega)] at hx hy
   exact h.lnk k x y hx hy
  ·
   have hy1:=(Hg.1 hy).1
   simp at hy1
   have e2:k=l.length-1:=by have:=h.len1;omega
   have:=h.len1
   rw [HB (by omega),e2,h.last] at hx
   rw [HQ (by omega),show k+1-l.length=0 by omega] at hy
   simp at hy
   rw [← Hr.inj hx,← hy];exact hk
theorem Jkq {x:JU} {r t:Int} (h:(JB x r t).2=0):JaS x (JB x r t).1=true∧JK (JB x r t).1=0:=by
 obtain ⟨h1,h2,h3,h4,h5⟩:=JaQ h
 have e1:(JB x r t).1.root=r:=by rw [h4]
 have e2:(JB x r t).1.at_=t:=by rw [h4]
 refine ⟨?_,by rw [h4];exact h5⟩
 unfold JaS
 rw [decide_eq_true_eq,e1,e2]
 exact Prod.ext rfl h
theorem Yp {x:JU} {r t:Int} (hr:0≤r) (h:(JB x r t).2=0):(0≤(JB x r t).1.epoch∧(JB x r t).1.epoch≤1000000)∧(0≤(JB x r t).1.root∧(JB x r t).1.root<2305843009213693951)∧(0≤(JB x r t).1.prev∧(JB x r t).1.prev<2305843009213693951)∧0≤(JB x r t).1.at_∧(JB x r t).1.at_≤1000000000:=by
 obtain ⟨h1,h2,h3,h4,h5⟩:=JaQ h
 have:=Zi h5
 have:=QP (VY x)
 rw [h4]
 simp only at *
 omega
theorem JbW (G:J4) (a_l:Ba) (c_l:Nat) (l:List JU) (h_l:RS KN G a_l c_l l) :Q3 174 #[Sl a_l l.length c_l] G (I (Wr l)):=by
 refine JQ Tryz.func174 42 [(0,Sl a_l l.length c_l)] rfl (fun w0 G0=>?_)
 refine Jg [0] [] (Jf (Jg [0] [(3,I 1)] (Jy ?_)))
 have hlm_h_l:l.length≤9223372036854775807:=Hm (h_l).le (h_l).max
 refine Qe (σ:=Nat) (fun q_=>(1≤q_∧(q_≤l.length∨q_=1))∧(Wr l=lnk (l.drop (q_-1)) q_)) (fun q_=>[(0,Sl a_l l.length c_l),(3,I (q_:Int))]) (fun q_=>G) (fun q_=>[]) (fun q_=>l.length-q_) 1 ⟨⟨Nat.le_refl _,.inr rfl⟩,rfl⟩ (fun q_ hs=>?_)
 revert hs;revert q_;intro i hs
 obtain ⟨hi,hn⟩:=hs
 dsimp only
 refine Jf (Jg [0,0,0,0] [(9,Bo (decide ((i:Int)<(l.length:Int))))] (Jm (decide ((i:Int)<(l.length:Int))) (fun h1=>?_) (fun h1=>?_)))
 refine Jq (Jc (Jf (Jy (Jf ?_))))
 have e1:Ha.wrap ((i:Int)-1)=((i-1:Nat):Int):=(Hh _ (by omega)).trans (show (i:Int)-1=((i-1:Nat):Int) by omega)
 obtain ⟨b1,o1,rfl⟩:=RS.addr h_l (k:=i-1) (by omega)
 obtain ⟨x1,hx1⟩:=QQ (l:=l) (k:=i-1) (by omega)
 obtain ⟨_,⟨rfl,w1,w2,w3,w4⟩,hc1⟩:=RS.get h_l hx1
 obtain ⟨x2,hx2⟩:=QQ (l:=l) (k:=i) (by omega)
 obtain ⟨_,⟨rfl,_,w6,_,w8⟩,hc2⟩:=RS.get h_l hx2
 refine Kv [19,20] (Ws [(0,Sl (At b1 o1) l.length c_l),(1,I (i:Int)),(2,I ((i-1:Nat):Int)),(3,Pt b1 (o1+(i-1)*4)),(4,.agg #[I x1.epoch,U x1.root,U x1.prev,I x1.at_]),(5,Sl (At b1 o1) l.length c_l),(6,I (i:Int)),(7,Pt b1 (o1+i*4)),(8,Pt b1 (o1+i*4+1)),(9,U x2.root),(10,Sl (At b1 o1) l.length c_l),(11,I (i:Int)),(12,Pt b1 (o1+i*4)),(13,Pt b1 (o1+i*4+3)),(14,I x2.at_),(15,.tuple #[(VJ (JB x1 x2.root x2.at_).1),I ((JB x1 x2.root x2.at_).2)]),(16,.tuple #[(VJ (JB x1 x2.root x2.at_).1),I ((JB x1 x2.root x2.at_).2)]),(17,(VJ (JB x1 x2.root x2.at_).1)),(18,I ((JB x1 x2.root x2.at_).2))] (JF [] [(0,0),(1,0),(5,0),(6,0),(8,0),(10,0),(11,0),(13,0),(16,0),(17,0),(18,0)] [2,3,4,7,9,12,14,15] [19] (Kf ?_ (Kf ?_ (Kf ?_ (Kf ?_ (Kf ?_ (Kf ?_ (Kf ?_ (Kf ?_ KY)))))))) (Kf ?_ KY)))
 refine Jr 2 15 (I ((i-1:Nat):Int)) [(14,I (i:Int))] (fun X=>?_)
 exact Qa 15 (I (Ha.wrap ((i:Int)-1))) (I ((i-1:Nat):Int)) (by simp only [e1]) Jp
 refine Jr 3 16 (Pt b1 (o1+(i-1)*4)) [(13,Sl (At b1 o1) l.length c_l),(15,I ((i-1:Nat):Int))] (fun X=>?_)
 exact JW (b:=b1) (off:=o1) (len:=l.length) (cap:=c_l) (ik:=.i64) 16 43 4 (i-1) Kd Jp
 refine Jr 4 17 (.agg #[I x1.epoch,U x1.root,U x1.prev,I x1.at_]) [(16,Pt b1 (o1+(i-1)*4))] (fun X=>?_)
 exact JO 17 43 (cs:=[I x1.epoch,U x1.root,U x1.prev,I x1.at_]) 0 (.agg #[I x1.epoch,U x1.root,U x1.prev,I x1.at_]) hc1 Jp
 refine Jr 7 20 (Pt b1 (o1+i*4)) [(18,Sl (At b1 o1) l.length c_l),(19,I (i:Int))] (fun X=>?_)
 exact JW (b:=b1) (off:=o1) (len:=l.length) (cap:=c_l) (ik:=.i64) 20 43 4 i Kd Jp
 refine Jr 9 22 (U x2.root) [(21,Pt b1 (o1+i*4+1))] (fun X=>?_)
 exact JO 22 41 (cs:=[I x2.epoch,U x2.root,U x2.prev,I x2.at_]) 1 (U x2.root) hc2 Jp
 refine Jr 12 25 (Pt b1 (o1+i*4)) [(23,Sl (At b1 o1) l.length c_l),(24,I (i:Int))] (fun X=>?_)
 exact JW (b:=b1) (off:=o1) (len:=l.length) (cap:=c_l) (ik:=.i64) 25 43 4 i Kd Jp
 refine Jr 14 27 (I x2.at_) [(26,Pt b1 (o1+i*4+3))] (fun X=>?_)
 exact JO 27 2 (cs:=[I x2.epoch,U x2.root,U x2.prev,I x2.at_]) 3 (I x2.at_) hc2 Jp
 refine Jr 15 28 (.tuple #[(VJ (JB x1 x2.root x2.at_).1),I ((JB x1 x2.root x2.at_).2)]) [(17,.agg #[I x1.epoch,U x1.root,U x1.prev,I x1.at_]),(22,U x2.root),(27,I x2.at_)] (fun X=>?_)
 exact Jl 28 (.tuple #[(VJ (JB x1 x2.root x2.at_).1),I ((JB x1 x2.root x2.at_).2)]) (Jbs G [I x1.epoch,U x1.root,U x1.prev,I x1.at_] x1 (⟨rfl,w1,w2,w3,w4⟩) x2.root w6 x2.at_ w8) Jp
 refine Jz 19 [] (fun X=>?_)
 refine Jv 4 #[I 0,U 0,U 0,I 0] 43 (fun b2=>?_)
 have e2:Ha.wrap ((i:Int)-1)=((i-1:Nat):Int):=(Hh _ (by omega)).trans (show (i:Int)-1=((i-1:Nat):Int) by omega)
 refine JA [(19,Pt b2 0)] (JF [] [(0,0),(1,0),(5,0),(6,0),(8,0),(10,0),(11,0),(13,0),(16,0),(17,0),(18,0)] [2,3,4,7,9,12,14,15] [20] (Kf ?_ (Kf ?_ (Kf ?_ (Kf ?_ (Kf ?_ (Kf ?_ (Kf ?_ (Kf ?_ KY)))))))) (Kf ?_ KY))
 refine Jr 2 15 (I ((i-1:Nat):Int)) [(14,I (i:Int))] (fun X=>?_)
 exact Qa 15 (I (Ha.wrap ((i:Int)-1))) (I ((i-1:Nat):Int)) (by simp only [e2]) Jp
 refine Jr 3 16 (Pt b1 (o1+(i-1)*4)) [(13,Sl (At b1 o1) l.length c_l),(15,I ((i-1:Nat):Int))] (fun X=>?_)
 exact JW (b:=b1) (off:=o1) (len:=l.length) (cap:=c_l) (ik:=.i64) 16 43 4 (i-1) Kd Jp
 refine Jr 4 17 (.agg #[I x1.epoch,U x1.root,U x1.prev,I x1.at_]) [(16,Pt b1 (o1+(i-1)*4))] (fun X=>?_)
 exact JO 17 43 (cs:=[I x1.epoch,U x1.root,U x1.prev,I x1.at_]) 0 (.agg #[I x1.epoch,U x1.root,U x1.prev,I x1.at_]) hc1 Jp
 refine Jr 7 20 (Pt b1 (o1+i*4)) [(18,Sl (At b1 o1) l.length c_l),(19,I (i:Int))] (fun X=>?_)
 exact JW (b:=b1) (off:=o1) (len:=l.length) (cap:=c_l) (ik:=.i64) 20 43 4 i Kd Jp
 refine Jr 9 22 (U x2.root) [(21,Pt b1 (o1+i*4+1))] (fun X=>?_)
 exact JO 22 41 (cs:=[I x2.epoch,U x2.root,U x2.prev,I x2.at_]) 1 (U x2.root) hc2 Jp
 refine Jr 12 25 (Pt b1 (o1+i*4)) [(23,Sl (At b1 o1) l.length c_l),(24,I (i:Int))] (fun X=>?_)
 exact JW (b:=b1) (off:=o1) (len:=l.length) (cap:=c_l) (ik:=.i64) 25 43 4 i Kd Jp
 refine Jr 14 27 (I x2.at_) [(26,Pt b1 (o1+i*4+3))] (fun X=>?_)
 exact JO 27 2 (cs:=[I x2.epoch,U x2.root,U x2.prev,I x2.at_]) 3 (I x2.at_) hc2 Jp
 refine Jr 15 28 (.tuple #[(VJ (JB x1 x2.root x2.at_).1),I ((JB x1 x2.root x2.at_).2)]) [(17,.agg #[I x1.epoch,U x1.root,U x1.prev,I x1.at_]),(22,U x2.root),(27,I x2.at_)] (fun X=>?_)
 exact Jl 28 (.tuple #[(VJ (JB x1 x2.root x2.at_).1),I ((JB x1 x2.root x2.at_).2)]) (Jbs G [I x1.epoch,U x1.root,U x1.prev,I x1.at_] x1 (⟨rfl,w1,w2,w3,w4⟩) x2.root w6 x2.at_ w8) Jp
 refine Jz 20 [(4,Pt b2 0),(29,(VJ (JB x1 x2.root x2.at_).1))] (fun X=>?_)
 refine KA 0 [[Sg b2 0 (Jdh (JB x1 x2.root x2.at_).1)]] (J5 [(21,I ((JB x1 x2.root x2.at_).2))] (Ko [0,1,2,3,4,5,6,7,8,9,10,11,12,13,14,15,16,17] [(18,0),(21,0)] [] [(0,Sl (At b1 o1) l.length c_l),(3,I (i:Int)),(4,Pt b2 0),(5,I ((JB x1 x2.root x2.at_).2))] (Hi _) (Jc (Jf ?_))))
 rcases Hq (!decide ((JB x1 x2.root x2.at_).2=0)) with h2 | h2
 have h2d:=h2
 try simp only [BB] at h2d
 refine Kv [] (Ws [(0,I ((JB x1 x2.root x2.at_).2)),(1,Bo true),(2,Bo true),(3,undef),(4,undef),(5,undef),(6,undef),(7,undef),(8,undef),(9,Bo true)] (Ko [] [(0,0),(2,0),(3,1),(4,1),(5,1),(6,1),(7,1),(8,1),(9,0)] [1] [(0,Sl (At b1 o1) l.length c_l),(3,I (i:Int)),(40,Bo true)] (Kf ?_ KY) ?_))
 refine Jr 1 32 (Bo true) [(31,I ((JB x1 x2.root x2.at_).2))] (fun X=>?_)
 exact Qa 32 (Bo (!decide ((JB x1 x2.root x2.at_).2=0))) (Bo true) (by rw [h2]) Jp
 refine Jc (J0 (Jg [0,0] [(2,I (i:Int))] (Jn (Ju (Jj (Q1 (Ju (Jj (Jo [0] [I (i:Int)] (Jx (Jh _) (congrArg I (?_:(Wr l)=(i:Int)).symm)))))))))))
 rw [hn];exact Joi (by omega) hx1 hx2 (by rw [Jec];simp_all)
 have h2d:=h2
 try simp only [BB] at h2d
 refine Kv [] (Ws [(0,I ((JB x1 x2.root x2.at_).2)),(1,Bo false),(2,Bo false),(3,(VJ (JB x1 x2.root x2.at_).1)),(4,Sl (At b1 o1) l.length c_l),(5,I (i:Int)),(6,Pt b1 (o1+i*4)),(7,.agg #[I x2.epoch,U x2.root,U x2.prev,I x2.at_]),(8,Bo (!(decide (((JB x1 x2.root x2.at_).1).epoch=x2.epoch) && decide (((JB x1 x2.root x2.at_).1).root=x2.root) && decide (((JB x1 x2.root x2.at_).1).prev=x2.prev) && decide (((JB x1 x2.root x2.at_).1).at_=x2.at_)))),(9,Bo (!(decide (((JB x1 x2.root x2.at_).1).epoch=x2.epoch) && decide (((JB x1 x2.root x2.at_).1).root=x2.root) && decide (((JB x1 x2.root x2.at_).1).prev=x2.prev) && decide (((JB x1 x2.root x2.at_).1).at_=x2.at_))))] (Ko [] [(0,0),(2,0),(3,2),(4,0),(5,0),(9,0)] [1,6,7,8] [(0,Sl (At b1 o1) l.length c_l),(3,I (i:Int)),(40,Bo (!(decide (((JB x1 x2.root x2.at_).1).epoch=x2.epoch) && decide (((JB x1 x2.root x2.at_).1).root=x2.root) && decide (((JB x1 x2.root x2.at_).1).prev=x2.prev) && decide (((JB x1 x2.root x2.at_).1).at_=x2.at_))))] (Kf ?_ (Kf ?_ (Kf ?_ (Kf ?_ KY)))) ?_))
 refine Jr 1 32 (Bo false) [(31,I ((JB x1 x2.root x2.at_).2))] (fun X=>?_)
 exact Qa 32 (Bo (!decide ((JB x1 x2.root x2.at_).2=0))) (Bo false) (by rw [h2]) Jp
 refine Jr 6 37 (Pt b1 (o1+i*4)) [(33,Bo false),(35,Sl (At b1 o1) l.length c_l),(36,I (i:Int))] (fun X=>?_)
 exact JW (b:=b1) (off:=o1) (len:=l.length) (cap:=c_l) (ik:=.i64) 37 43 4 i Kd Jp
 refine Jr 7 38 (.agg #[I x2.epoch,U x2.root,U x2.prev,I x2.at_]) [(33,Bo false),(37,Pt b1 (o1+i*4))] (fun X=>?_)
 exact JO 38 43 (cs:=[I x2.epoch,U x2.root,U x2.prev,I x2.at_]) 0 (.agg #[I x2.epoch,U x2.root,U x2.prev,I x2.at_]) hc2 Jp
 refine Jr 8 39 (Bo (!(decide (((JB x1 x2.root x2.at_).1).epoch=x2.epoch) && decide (((JB x1 x2.root x2.at_).1).root=x2.root) && decide (((JB x1 x2.root x2.at_).1).prev=x2.prev) && decide (((JB x1 x2.root x2.at_).1).at_=x2.at_)))) [(33,Bo false),(34,(VJ (JB x1 x2.root x2.at_).1)),(38,.agg #[I x2.epoch,U x2.root,U x2.prev,I x2.at_])] (fun X=>?_)
 exact Jda 39 (Bo (!(decide (((JB x1 x2.root x2.at_).1).epoch=x2.epoch) && (decide (((JB x1 x2.root x2.at_).1).root=x2.root) && (decide (((JB x1 x2.root x2.at_).1).prev=x2.prev) && (decide (((JB x1 x2.root x2.at_).1).at_=x2.at_) && true)))))) (Bo (!(decide (((JB x1 x2.root x2.at_).1).epoch=x2.epoch) && decide (((JB x1 x2.root x2.at_).1).root=x2.root) && decide (((JB x1 x2.root x2.at_).1).prev=x2.prev) && decide (((JB x1 x2.root x2.at_).1).at_=x2.at_)))) (by simp [QY,HN]) Jp
 refine Jc (Jm (!(decide (((JB x1 x2.root x2.at_).1).epoch=x2.epoch) && decide (((JB x1 x2.root x2.at_).1).root=x2.root) && decide (((JB x1 x2.root x2.at_).1).prev=x2.prev) && decide (((JB x1 x2.root x2.at_).1).at_=x2.at_))) (fun h3=>?_) (fun h3=>?_))
 refine Jg [0,0] [(2,I (i:Int))] (Jn (Ju (Jj (Q1 (Ju (Jj (Jo [0] [I (i:Int)] (Jx (Jh _) (congrArg I (?_:(Wr l)=(i:Int)).symm)))))))))
 rw [hn];exact Joi (by omega) hx1 hx2 (by rw [Jec];simp_all)
 exact Jq (JN (Jc (Jd (Jb [0,0,0] [(3,I (Ha.wrap ((i:Int)+1)))] (Ku 3 ((i:Int)+1) Kd (Je (QA [] (Ql (i+1) ⟨⟨by (try dsimp only);omega,.inl (by (try dsimp only);omega)⟩,(by rw [hn];exact Joh Kd hx1 hx2 (Jec.2 (by simp_all)))⟩ (by (try dsimp only);omega)))))))))
 refine KX (J1 (Ke (JV (Jc (Jg [0] [(2,I (-1))] (Jn (Jo [0] [I (-1)] (Jx (Jh _) (congrArg I (?_:(Wr l)=(-1)).symm)))))))))
 rw [hn];exact JpC (by simp;omega)
theorem JaE (G:J4) (a_l:Ba) (c_l:Nat) (l:List JU) (h_l:RS KN G a_l c_l l) :Q3 120 #[Sl a_l l.length c_l] G (.tuple #[I ((Ki l).1),I ((Ki l).2)]):=by
 refine JQ Tryz.func120 35 [(0,Sl a_l l.length c_l)] rfl (fun w0 G0=>?_)
 refine Jg [0,0] [] (Jf (Jy (Jg [0,0,0,0] [(8,Bo (decide ((l.length:Int)=0)))] (Jm (decide ((l.length:Int)=0)) (fun h1=>?_) (fun h1=>?_)))))
 refine Jg [0,0] [(2,I 5),(3,I 0)] (Jn (Ju (Jj (Jo [0,0] [I 5,I 0] (Jx (Jh _) ?_)))))
 have hf_:(Ki l)=(5,0):=by
  unfold Ki;(rw [if_pos (by omega)];done)
 · (try rw [hf_]);(simp only [Qy];done)
 refine Jg [0,0,0,0] [(12,Bo (decide ((l.length:Int) > 40)))] (Jm (decide ((l.length:Int) > 40)) (fun h2=>?_) (fun h2=>?_))
 refine Jg [0,0] [(2,I 2),(3,I 0)] (Jn (Ju (Jj (Jo [0,0] [I 2,I 0] (Jx (Jh _) ?_)))))
 have hf_:(Ki l)=(2,0):=by
  unfold Ki;(rw [if_neg (by omega),if_pos (by omega)];done)
 · (try rw [hf_]);(simp only [Qy];done)
 refine Jq (JN (Jc (Jf (Jg [0,0,0] [(16,Sl a_l l.length c_l),(17,I (l.length:Int)),(18,I 0)] (Jy ?_)))))
 have hlm_h_l:l.length≤9223372036854775807:=Hm (h_l).le (h_l).max
 refine Qe (σ:=Nat) (fun q_=>(q_≤l.length)∧(Vj l 0=Vj (l.drop q_) q_)) (fun q_=>[(0,Sl a_l l.length c_l),(16,Sl a_l l.length c_l),(17,I (l.length:Int)),(18,I (q_:Int))]) (fun q_=>G) (fun q_=>[]) (fun q_=>l.length-q_) 0 ⟨(by (try dsimp only);exact Hv _),rfl⟩ (fun q_ hs=>?_)
 revert hs;revert q_;intro i hs
 obtain ⟨hi,hn⟩:=hs
 dsimp only
 refine Jg [0] [(19,Bo (decide ((i:Int)<(l.length:Int))))] (Jf (Jm (decide ((i:Int)<(l.length:Int))) (fun h3=>?_) (fun h3=>?_)))
 refine Jq (Jc (Jf (Jy (Jf (Jd (Jb [0] [(20,I (i:Int))] ?_))))))
 obtain ⟨b1,o1,rfl⟩:=RS.addr h_l (k:=i) (by omega)
 obtain ⟨x1,hx1⟩:=QQ (l:=l) (k:=i) (by omega)
 obtain ⟨_,⟨rfl,_,_,_,_⟩,hc1⟩:=RS.get h_l hx1
 refine JW (b:=b1) (off:=o1) (len:=l.length) (cap:=c_l) (ik:=.i64) 21 43 4 i Kd (JO 22 43 (cs:=[I x1.epoch,U x1.root,U x1.prev,I x1.at_]) 0 (.agg #[I x1.epoch,U x1.root,U x1.prev,I x1.at_]) hc1 (Jv 5 #[I 0,U 0,U 0,I 0] 43 (fun b2=>JT [0,3] [(4,I (i:Int))] [[Sg b2 0 [I x1.epoch,U x1.root,U x1.prev,I x1.at_]]] (Je (Jc (Jf (Jd (Jb [2] [(23,.agg #[I x1.epoch,U x1.root,U x1.prev,I x1.at_])] (Jl 24 (I (JK x1)) (Z5 x1 G) (Jb [0] [(6,I (JK x1))] (Je (Jc (Jg [0,0] [(26,Bo (!decide (JK x1=0)))] (Jm (!decide (JK x1=0)) (fun h4=>?_) (fun h4=>?_)))))))))))))))
 refine Jg [0,0,0,0] [(2,I (JK x1)),(3,I (i:Int))] (Jn (Ju (Jj (Q1 (Ju (Jj (Jo [0,0] [I (JK x1),I (i:Int)] (Jx (Jh _) ?_))))))))
 have hf_:(Ki l)=((JK x1),(i:Int)):=by
  unfold Ki;(rw [if_neg (by omega),if_neg (by omega)];(have e_:=JmF hx1 ‹_›;rw [← hn] at e_;rw [if_pos (by rw [e_];assumption),e_];done))
 · (try rw [hf_]);(simp only [Qy];done)
 exact Jq (JN (Jc (Jd (Jb [0,0] [(18,I (Ha.wrap ((i:Int)+1)))] (Ku 18 ((i:Int)+1) Kd (Je (QA [] (Ql (i+1) ⟨Kd,(by rw [hn];exact Ji1 hx1 ‹_›)⟩ (by (try dsimp only);omega)))))))))
 refine KX (J1 (Ke (JV (Jc (Jf (Jf (Jd (Jb [0] [(30,Sl a_l l.length c_l)] (Jl 31 (I (Wr l)) (JbW G a_l c_l l h_l) (Jb [0] [(7,I (Wr l))] (Je (Jc (Jg [0,0] [(33,Bo (decide (Wr l ≥ 0)))] (Jm (decide (Wr l ≥ 0)) (fun h5=>?_) (fun h5=>?_)))))))))))))))
 refine Jg [0,0,0] [(2,I 8),(3,I (Wr l))] (Jn (Jj (Jo [0,0] [I 8,I (Wr l)] (Jx (Jh _) ?_))))
 have hf_:(Ki l)=(8,(Wr l)):=by
  unfold Ki;(rw [if_neg (by omega),if_neg (by omega)];(have e_:Vj l 0=(0,0):=(by rw [hn,Hx (by omega)];rfl);rw [if_neg (by rw [e_];simp)];(rw [if_pos (by omega)];done)))
 · (try rw [hf_]);(simp only [Qy];done)
 refine Jq (Jc (Jg [0,0] [(2,I 0),(3,I 0)] (Jn (Jo [0,0] [I 0,I 0] (Jx (Jh _) ?_)))))
 have hf_:(Ki l)=(0,0):=by
  unfold Ki;(rw [if_neg (by omega),if_neg (by omega)];(have e_:Vj l 0=(0,0):=(by rw [hn,Hx (by omega)];rfl);rw [if_neg (by rw [e_];simp)];(rw [if_neg (by omega)];done)))
 · (try rw [hf_]);(simp only [Qy];done)
theorem Jbx (G:J4) (a_l:Ba) (c_l:Nat) (l:List (List JU)) (h_l:RS Je8 G a_l c_l l) :Q3 175 #[Sl a_l l.length c_l] G (I (K1 l)):=by
 refine JQ Tryz.func175 22 [(0,Sl a_l l.length c_l)] rfl (fun w0 G0=>?_)
 refine Jg [0] [] (Jf (Jg [0,0,0] [(7,Sl a_l l.length c_l),(8,I (l.length:Int)),(9,I 0)] (Jy ?_)))
 have hlm_h_l:l.length≤9223372036854775807:=Hm (h_l).le (h_l).max
 refine Qe (σ:=Nat) (fun q_=>(q_≤l.length)∧(K1 l=K1 (l.drop q_))) (fun q_=>[(7,Sl a_l l.length c_l),(8,I (l.length:Int)),(9,I (q_:Int))]) (fun q_=>G) (fun q_=>[]) (fun q_=>l.length-q_) 0 ⟨(by (try dsimp only);exact Hv _),rfl⟩ (fun q_ hs=>?_)
 revert hs;revert q_;intro i hs
 obtain ⟨hi,hn⟩:=hs
 dsimp only
 refine Jg [0] [(10,Bo (decide ((i:Int)<(l.length:Int))))] (Jf (Jm (decide ((i:Int)<(l.length:Int))) (fun h1=>?_) (fun h1=>?_)))
 refine Jq (Jc (Jf (Jy (Jf (Jd ?_)))))
 obtain ⟨b1,o1,rfl⟩:=RS.addr h_l (k:=i) (by omega)
 obtain ⟨x1,hx1⟩:=QQ (l:=l) (k:=i) (by omega)
 obtain ⟨_,⟨a1,c1,rfl,hs1⟩,hc1⟩:=RS.get h_l hx1
 refine JW (b:=b1) (off:=o1) (len:=l.length) (cap:=c_l) (ik:=.i64) 11 40 1 i Kd (JO 12 40 (cs:=[Sl a1 x1.length c1]) 0 (Sl a1 x1.length c1) hc1 (Jb [0] [(4,Sl a1 x1.length c1)] (Je (Jc (Jf (Jd (Jb [0] [(14,Sl a1 x1.length c1)] (Jl 15 (.tuple #[I ((Ki x1).1),I ((Ki x1).2)]) (JaE G a1 c1 x1 hs1) (Jb [0,0,0,0,0] [(5,I ((Ki x1).1))] (Je (Jc (Jg [0,0] [(19,Bo (!decide ((Ki x1).1=0)))] (Jm (!decide ((Ki x1).1=0)) (fun h2=>?_) (fun h2=>?_))))))))))))))
 refine Jg [0,0] [(2,I ((Ki x1).1))] (Jn (Ju (Jj (Q1 (Ju (Jj (Jo [0] [I ((Ki x1).1)] (Jx (Jh _) (congrArg I (?_:(K1 l)=((Ki x1).1)).symm)))))))))
 rw [hn];exact Ji2 hx1 ‹_›
 exact Jq (JN (Jc (Jd (Jb [0,0] [(9,I (Ha.wrap ((i:Int)+1)))] (Ku 9 ((i:Int)+1) Kd (Je (Ql (i+1) ⟨Kd,(by rw [hn];exact Jgu hx1 ‹_›)⟩ (by (try dsimp only);omega))))))))
 refine KX (J1 (Ke (JV (Jc (Jg [0] [(2,I 0)] (Jn (Jo [0] [I 0] (Jx (Jh _) (congrArg I (?_:(K1 l)=0).symm)))))))))
 rw [hn];(rw [Hx (by omega)];rfl)
theorem Jgw (G:J4) (a_l:Ba) (c_l:Nat) (l:List JU) (h_l:RS KN G a_l c_l l) (root:Int) (hw_root:rU root) (a:Int) (hw_a:rI a) :YL 166 #[Sl a_l l.length c_l,U root,I a] G [] (fun u G' L'=>∃ (a1:Ba) (c2:Nat) (r3:Bg),u=.tuple #[Sl a1 (((Qz l root a).1).length) c2,I ((Qz l root a).2)]∧(JX KN G' a1 c2 ((Qz l root a).1) r3)∧L'=[r3]):=by
 refine JQ Tryz.func166 41 [(0,Sl a_l l.length c_l),(1,U root),(2,I a)] rfl (fun w0 G0=>?_)
 refine Jg [0,0] [] (Jf (Jd (Jb [0] [(10,Sl a_l l.length c_l)] (Kq 11 1 #[Sl a_l l.length c_l] 40 (fun b1=>QK (b:=b1) (o:=0) (cs:=[Sl a_l l.length c_l]) 0 (fun G1 hl1 hz1=>?_))))))
 have hs1:RS Je8 G1 (At b1 0) 1 [l]:=RS.lit [[Sl a_l l.length c_l]] [l] ⟨⟨a_l,c_l,rfl,(h_l.mono hl1)⟩,trivial⟩ hz1 (Hb rfl) (Hb rfl)
 refine Jl 12 (I (K1 ([l]))) (Jbx G1 (At b1 0) 1 ([l]) hs1) (Jb [0] [(8,I (K1 ([l])))] (Je (Jc (Jf (Jy (Jg [0,0,0] [(13,Bo (!decide (K1 ([l])=0)))] (Jm (!decide (K1 ([l])=0)) (fun h1=>?_) (fun h1=>?_))))))))
 refine Jg [0,0,0] [(6,Sl none 0 0),(7,I (K1 ([l])))] (Jn (Ju (Jj (ZH (Jk 0 ?_)))))
 have hf1:Qz l root a=([],K1 ([l])):=by
  unfold Qz Z7;(simp_all;done)
 refine Jo [0,0] [Sl none 0 0,I (K1 ([l]))] (JD [[]] hl1 ?_)
 rw [hf1]
 try dsimp only
 exact ⟨none,0,([]),rfl,(JX.none KN _),rfl⟩
 refine Jg [0,0,0,0] [(17,Bo (decide ((l.length:Int)=40)))] (Jm (decide ((l.length:Int)=40)) (fun h2=>?_) (fun h2=>?_))
 refine Jg [0,0] [(6,Sl none 0 0),(7,I 7)] (Jn (Ju (Jj (ZH (Jk 0 ?_)))))
 have hf2:Qz l root a=([],7):=by
  unfold Qz Z7;(simp_all;done)
 refine Jo [0,0] [Sl none 0 0,I 7] (JD [[]] hl1 ?_)
 rw [hf2]
 try dsimp only
 exact ⟨none,0,([]),rfl,(JX.none KN _),rfl⟩
 refine Jq (JN (Jc (Jf (Jd (Jb [0,0,0,0] [(22,Sl a_l l.length c_l),(25,I (Ha.wrap ((l.length:Int)-1)))] ?_)))))
 have e1:Ha.wrap ((l.length:Int)-1)=((l.length-1:Nat):Int):=(Hh _ (by (have q_:=QF.1 ‹_›;have q1_:=q_.len1;have q2_:=q_.len;have q3_:=q_.lastE;have q4_:=q_.fb;have q5_:=q_.lb;omega))).trans (show (l.length:Int)-1=((l.length-1:Nat):Int) by (have q_:=QF.1 ‹_›;have q1_:=q_.len1;have q2_:=q_.len;have q3_:=q_.lastE;have q4_:=q_.fb;have q5_:=q_.lb;omega))
 refine KG 25 (I ((l.length-1:Nat):Int)) (congrArg I e1) ?_
 clear e1
 obtain ⟨b2,o1,rfl⟩:=RS.addr (h_l.mono hl1) (k:=l.length-1) (by (have q_:=QF.1 ‹_›;have q1_:=q_.len1;have q2_:=q_.len;have q3_:=q_.lastE;have q4_:=q_.fb;have q5_:=q_.lb;omega))
 obtain ⟨x1,hx1⟩:=QQ (l:=l) (k:=l.length-1) (by (have q_:=QF.1 ‹_›;have q1_:=q_.len1;have q2_:=q_.len;have q3_:=q_.lastE;have q4_:=q_.fb;have q5_:=q_.lb;omega))
 obtain ⟨_,⟨rfl,w1,w2,w3,w4⟩,hc1⟩:=RS.get (h_l.mono hl1) hx1
 refine JW (b:=b2) (off:=o1) (len:=l.length) (cap:=c_l) (ik:=.i64) 26 43 4 (l.length-1) (by (have q_:=QF.1 ‹_›;have q1_:=q_.len1;have q2_:=q_.len;have q3_:=q_.lastE;have q4_:=q_.fb;have q5_:=q_.lb;omega)) (JO 27 43 (cs:=[I x1.epoch,U x1.root,U x1.prev,I x1.at_]) 0 (.agg #[I x1.epoch,U x1.root,U x1.prev,I x1.at_]) hc1 (Jb [0,0] [(28,U root),(29,I a)] (Jl 30 (.tuple #[(VJ (JB x1 root a).1),I ((JB x1 root a).2)]) (Jbs G1 [I x1.epoch,U x1.root,U x1.prev,I x1.at_] x1 (⟨rfl,w1,w2,w3,w4⟩) root ‹_› a ‹_›) (Jb [0,0,0] [(31,(VJ (JB x1 root a).1)),(32,I ((JB x1 root a).2))] (Jv 9 #[I 0,U 0,U 0,I 0] 43 (fun b3=>JT [3,0] [(8,I ((JB x1 root a).2))] [[Sg b3 0 (Jdh (JB x1 root a).1)],[]] (Je (Jc (Jf (Jg [0,0] [(34,Bo (!decide ((JB x1 root a).2=0)))] (Jm (!decide ((JB x1 root a).2=0)) (fun h3=>?_) (fun h3=>?_))))))))))))
 refine Jg [0,0,0] [(6,Sl none 0 0),(7,I ((JB x1 root a).2))] (Jn (Jj (ZH (Jk 0 ?_))))
 have hf3:Qz l root a=([],(JB x1 root a).2):=by
  unfold Qz Z7;(have hl_:=Ww (l:=l) (k:=l.length-1) rfl ‹_›;subst hl_;(simp_all;done))
 refine Jo [0,0] [Sl none 0 0,I ((JB x1 root a).2)] (JD [[]] hl1 ?_)
 rw [hf3]
 try dsimp only
 exact ⟨none,0,([]),rfl,(JX.none KN _),rfl⟩
 refine Jq (Jc (Jf (Kv [1,3,4] (Ws [(0,Sl (At b2 o1) l.length c_l),(2,(VJ (JB x1 root a).1))] (JF [] [(0,0),(2,2)] [] [1,3] (Hi _) (Kf ?_ (Kf ?_ KY)))))))
 refine Jz 1 [(36,Sl (At b2 o1) l.length c_l)] (fun X=>?_)
 refine JM 37 (Vz G1 (At b2 o1) c_l l (h_l.mono hl1)) (fun v G2 L1 hl2 hp=>?_)
 obtain ⟨a1,c1,_,rfl,hr1,rfl⟩:=hp
 refine JA [(1,Sl a1 l.length c1)] (JF [0] [(2,4)] [] [3] (Hi _) (Kf ?_ KY))
 refine Jz 3 [(38,(VJ (JB x1 root a).1))] (fun X=>?_)
 refine Kq 39 1 #[I (((JB x1 root a).1).epoch),U (((JB x1 root a).1).root),U (((JB x1 root a).1).prev),I (((JB x1 root a).1).at_)] 43 (fun b4=>JA [(3,Sl (At b4 0) 1 1)] (JF [0,2] [] [] [4] (Hi _) (Kf ?_ KY)))
 refine Jz 4 [(37,Sl a1 l.length c1),(39,Sl (At b4 0) 1 1)] (fun X=>?_)
 refine Qm (b:=b4) (cs:=(Jdh (JB x1 root a).1)) 40 43 1 0 (E:=KN) ((JB x1 root a).1) hr1 ⟨rfl,(by have q_:=Yp (x:=x1) (r:=root) (t:=a) Kd ‹_›;omega),(by have q_:=Yp (x:=x1) (r:=root) (t:=a) Kd ‹_›;omega),(by have q_:=Yp (x:=x1) (r:=root) (t:=a) Kd ‹_›;omega),(by have q_:=Yp (x:=x1) (r:=root) (t:=a) Kd ‹_›;omega)⟩ (by have q_:=QF.1 ‹_›;have q1_:=q_.len1;have q2_:=q_.len;have q3_:=q_.lastE;have q4_:=q_.fb;have q5_:=q_.lb;(try simp only [KN,Hc,Hd,He]);omega) (by have q_:=QF.1 ‹_›;have q1_:=q_.len1;have q2_:=q_.len;have q3_:=q_.lastE;have q4_:=q_.fb;have q5_:=q_.lb;(try simp only [KN,Hc,Hd,He]);omega) (fun a2 c2 r2 hr2=>JA [(4,Sl a2 ((l++[((JB x1 root a).1)]).length) c2),(5,Sl a2 ((l++[((JB x1 root a).1)]).length) c2),(6,I 0)] (Ko [0,2] [(5,0),(6,0)] [] [(6,Sl a2 ((l++[((JB x1 root a).1)]).length) c2),(7,I 0)] (Hi _) (Jc (Jn (Jk 1 ?_)))))
 have hf4:Qz l root a=(l++[((JB x1 root a).1)],0):=by
  unfold Qz Z7;(have hl_:=Ww (l:=l) (k:=l.length-1) rfl ‹_›;subst hl_;(simp_all;done))
 refine Jo [0,0] [Sl a2 ((l++[((JB x1 root a).1)]).length) c2,I 0] (JD [r2] (Ja hl1 hl2) ?_)
 rw [hf4]
 try dsimp only
 exact ⟨a2,c2,r2,rfl,hr2,rfl⟩
 refine Jz 3 [(38,(VJ (JB x1 root a).1))] (fun X=>?_)
 refine Kq 39 1 #[I (((JB x1 root a).1).epoch),U (((JB x1 root a).1).root),U (((JB x1 root a).1).prev),I (((JB x1 root a).1).at_)] 43 (fun b5=>JA [(3,Sl (At b5 0) 1 1)] (JF [2] [(0,0)] [] [1] (Hi _) (Kf ?_ KY)))
 refine Jz 1 [(36,Sl (At b2 o1) l.length c_l)] (fun X=>?_)
 refine JM 37 (Vz G1 (At b2 o1) c_l l (h_l.mono hl1)) (fun v G3 L1 hl3 hp=>?_)
 obtain ⟨a3,c3,r3,rfl,hr3,rfl⟩:=hp
 refine JA [(1,Sl a3 l.length c3)] (JF [0,2] [] [] [4] (Hi _) (Kf ?_ KY))
 refine Jz 4 [(37,Sl a3 l.length c3),(39,Sl (At b5 0) 1 1)] (fun X=>?_)
 refine Qm (b:=b5) (cs:=(Jdh (JB x1 root a).1)) 40 43 0 1 (E:=KN) ((JB x1 root a).1) hr3 ⟨rfl,(by have q_:=Yp (x:=x1) (r:=root) (t:=a) Kd ‹_›;omega),(by have q_:=Yp (x:=x1) (r:=root) (t:=a) Kd ‹_›;omega),(by have q_:=Yp (x:=x1) (r:=root) (t:=a) Kd ‹_›;omega),(by have q_:=Yp (x:=x1) (r:=root) (t:=a) Kd ‹_›;omega)⟩ (by have q_:=QF.1 ‹_›;have q1_:=q_.len1;have q2_:=q_.len;have q3_:=q_.lastE;have q4_:=q_.fb;have q5_:=q_.lb;(try simp only [KN,Hc,Hd,He]);omega) (by have q_:=QF.1 ‹_›;have q1_:=q_.len1;have q2_:=q_.len;have q3_:=q_.lastE;have q4_:=q_.fb;have q5_:=q_.lb;(try simp only [KN,Hc,Hd,He]);omega) (fun a4 c4 r4 hr4=>JA [(4,Sl a4 ((l++[((JB x1 root a).1)]).length) c4),(5,Sl a4 ((l++[((JB x1 root a).1)]).length) c4),(6,I 0)] (Ko [0,2] [(5,0),(6,0)] [] [(6,Sl a4 ((l++[((JB x1 root a).1)]).length) c4),(7,I 0)] (Hi _) (Jc (Jn (Jk 0 ?_)))))
 have hf5:Qz l root a=(l++[((JB x1 root a).1)],0):=by
  unfold Qz Z7;(have hl_:=Ww (l:=l) (k:=l.length-1) rfl ‹_›;subst hl_;(simp_all;done))
 refine Jo [0,0] [Sl a4 ((l++[((JB x1 root a).1)]).length) c4,I 0] (JD [r4] (Ja hl1 hl3) ?_)
 rw [hf5]
 try dsimp only
 exact ⟨a4,c4,r4,rfl,hr4,rfl⟩
theorem Jgx (G:J4) (a_l:Ba) (c_l:Nat) (l:List JU) (h_l:RS KN G a_l c_l l) (a:Int) (hw_a:rI a) (b:Int) (hw_b:rI b) :YL 214 #[Sl a_l l.length c_l,I a,I b] G [] (fun u G' L'=>∃ (a1:Ba) (c2:Nat),u=.tuple #[Sl a1 (((Zb l a b).1).length) c2,I ((Zb l a b).2)]∧(RS KN G' a1 c2 ((Zb l a b).1))∧L'=[]):=by
 refine JQ Tryz.func214 51 [(0,Sl a_l l.length c_l),(1,I a),(2,I b)] rfl (fun w0 G0=>?_)
 refine Jg [0,0] [] (Jf (Jf (Jd (Jb [0] [(11,Sl a_l l.length c_l)] (Kq 12 1 #[Sl a_l l.length c_l] 40 (fun b1=>QK (b:=b1) (o:=0) (cs:=[Sl a_l l.length c_l]) 0 (fun G1 hl1 hz1=>?_)))))))
 have hs1:RS Je8 G1 (At b1 0) 1 [l]:=RS.lit [[Sl a_l l.length c_l]] [l] ⟨⟨a_l,c_l,rfl,(h_l.mono hl1)⟩,trivial⟩ hz1 (Hb rfl) (Hb rfl)
 refine Jl 13 (I (K1 ([l]))) (Jbx G1 (At b1 0) 1 ([l]) hs1) (Jb [0] [(8,I (K1 ([l])))] (Je (Jc (Jg [0,0] [(15,Bo (!decide (K1 ([l])=0)))] (Jm (!decide (K1 ([l])=0)) (fun h1=>?_) (fun h1=>?_))))))
 refine Jg [0,0,0] [(6,Sl none 0 0),(7,I (K1 ([l])))] (Jn (Jj ?_))
 have hf1:Zb l a b=([],K1 ([l])):=by
  unfold Zb;(simp_all;done)
 refine Jo [0,0] [Sl none 0 0,I (K1 ([l]))] (JD [] hl1 ?_)
 rw [hf1]
 try dsimp only
 exact ⟨none,0,rfl,(J2 KN G1),rfl⟩
 refine Jq (Jc (Jf ?_))
 obtain ⟨b2,o1,rfl⟩:=RS.addr (h_l.mono hl1) (k:=0) (by (have q_:=QF.1 ‹_›;have q1_:=q_.len1;have q2_:=q_.len;have q3_:=q_.lastE;have q4_:=q_.fb;have q5_:=q_.lb;omega))
 obtain ⟨x1,hx1⟩:=QQ (l:=l) (k:=0) (by (have q_:=QF.1 ‹_›;have q1_:=q_.len1;have q2_:=q_.len;have q3_:=q_.lastE;have q4_:=q_.fb;have q5_:=q_.lb;omega))
 obtain ⟨_,⟨rfl,_,_,_,_⟩,hc1⟩:=RS.get (h_l.mono hl1) hx1
 have e1:Ha.wrap ((l.length:Int)-1)=((l.length-1:Nat):Int):=(Hh _ (by (have q_:=QF.1 ‹_›;have q1_:=q_.len1;have q2_:=q_.len;have q3_:=q_.lastE;have q4_:=q_.fb;have q5_:=q_.lb;omega))).trans (show (l.length:Int)-1=((l.length-1:Nat):Int) by (have q_:=QF.1 ‹_›;have q1_:=q_.len1;have q2_:=q_.len;have q3_:=q_.lastE;have q4_:=q_.fb;have q5_:=q_.lb;omega))
 obtain ⟨x2,hx2⟩:=QQ (l:=l) (k:=l.length-1) (by (have q_:=QF.1 ‹_›;have q1_:=q_.len1;have q2_:=q_.len;have q3_:=q_.lastE;have q4_:=q_.fb;have q5_:=q_.lb;omega))
 obtain ⟨_,⟨rfl,_,_,_,_⟩,hc2⟩:=RS.get (h_l.mono hl1) hx2
 refine Kv [] (Ws [(0,Sl (At b2 o1) l.length c_l),(1,Pt b2 (o1+0*4)),(2,Pt b2 (o1+0*4)),(3,I x1.epoch),(4,Sl (At b2 o1) l.length c_l),(5,Sl (At b2 o1) l.length c_l),(6,I (l.length:Int)),(7,I ((l.length-1:Nat):Int)),(8,Pt b2 (o1+(l.length-1)*4)),(9,Pt b2 (o1+(l.length-1)*4)),(10,I x2.epoch),(11,I x1.epoch),(12,I x2.epoch)] (Ko [] [(0,0),(2,0),(4,0),(5,0),(6,0),(9,0),(11,0),(12,0)] [1,3,7,8,10] [(0,Sl (At b2 o1) l.length c_l),(1,I a),(2,I b),(9,I x1.epoch),(10,I x2.epoch)] (Kf ?_ (Kf ?_ (Kf ?_ (Kf ?_ (Kf ?_ KY))))) ?_))
 refine Jr 1 18 (Pt b2 (o1+0*4)) [(17,Sl (At b2 o1) l.length c_l)] (fun X=>?_)
 exact JW (b:=b2) (off:=o1) (len:=l.length) (cap:=c_l) (ik:=.i64) 18 43 4 0 (by (have hl_:=Ww (l:=l) (k:=l.length-1) rfl hx2;have hf_:=W1 hx1;subst hl_;subst hf_;have q_:=QF.1 ‹_›;have q1_:=q_.len1;have q2_:=q_.len;have q3_:=q_.lastE;have q4_:=q_.fb;have q5_:=q_.lb;omega)) Jp
 refine Jr 3 20 (I x1.epoch) [(19,Pt b2 (o1+0*4))] (fun X=>?_)
 exact JO 20 2 (cs:=[I x1.epoch,U x1.root,U x1.prev,I x1.at_]) 0 (I x1.epoch) hc1 Jp
 refine Jr 7 24 (I ((l.length-1:Nat):Int)) [(23,I (l.length:Int))] (fun X=>?_)
 exact Qa 24 (I (Ha.wrap ((l.length:Int)-1))) (I ((l.length-1:Nat):Int)) (by simp only [e1]) Jp
 refine Jr 8 25 (Pt b2 (o1+(l.length-1)*4)) [(21,Sl (At b2 o1) l.length c_l),(24,I ((l.length-1:Nat):Int))] (fun X=>?_)
 exact JW (b:=b2) (off:=o1) (len:=l.length) (cap:=c_l) (ik:=.i64) 25 43 4 (l.length-1) (by (have hl_:=Ww (l:=l) (k:=l.length-1) rfl hx2;have hf_:=W1 hx1;subst hl_;subst hf_;have q_:=QF.1 ‹_›;have q1_:=q_.len1;have q2_:=q_.len;have q3_:=q_.lastE;have q4_:=q_.fb;have q5_:=q_.lb;omega)) Jp
 refine Jr 10 27 (I x2.epoch) [(26,Pt b2 (o1+(l.length-1)*4))] (fun X=>?_)
 exact JO 27 2 (cs:=[I x2.epoch,U x2.root,U x2.prev,I x2.at_]) 0 (I x2.epoch) hc2 Jp
 refine Jc (Jf (Jf (Jd (Jb [0,0,0,0] [(31,Bo (decide (a > b)))] (Kr (decide (a > b)) [31] [1,1,1,0] [0,0,0,0] (fun bb=>[(35,Bo (bb || (decide (a<x1.epoch))))]) (Jb [0] [(36,Bo ((decide (a > b)) || (decide (a<x1.epoch))))] (Kr ((decide (a > b)) || (decide (a<x1.epoch))) [36] [1,1,1,0] [0,0,0,0] (fun bb=>[(40,Bo (bb || (decide (b > x2.epoch))))]) (Je (Jc (Jm (((decide (a > b)) || (decide (a<x1.epoch))) || (decide (b > x2.epoch))) (fun h2=>?_) (fun h2=>?_)))))))))))
 refine Jg [0,0] [(6,Sl none 0 0),(7,I 4)] (Jn (Jj ?_))
 have hf2:Zb l a b=([],4):=by
  unfold Zb;(have hl_:=Ww (l:=l) (k:=l.length-1) rfl hx2;have hf_:=W1 hx1;subst hl_;subst hf_;rw [if_neg (by omega)];(rw [if_pos (by omega)];done))
 refine Jo [0,0] [Sl none 0 0,I 4] (JD [] hl1 ?_)
 rw [hf2]
 try dsimp only
 exact ⟨none,0,rfl,(J2 KN G1),rfl⟩
 refine Jq (Jc (Jf (Jd (Jb [0,0,0,0,0,0,0,0] [(41,Sl (At b2 o1) l.length c_l),(44,I (Ha.wrap (a-x1.epoch))),(48,I (Ha.wrap ((Ha.wrap (b-x1.epoch))+1)))] ?_))))
 have e2:Ha.wrap (a-x1.epoch)=a-x1.epoch:=Hh _ (by (have hl_:=Ww (l:=l) (k:=l.length-1) rfl hx2;have hf_:=W1 hx1;subst hl_;subst hf_;have q_:=QF.1 ‹_›;have q1_:=q_.len1;have q2_:=q_.len;have q3_:=q_.lastE;have q4_:=q_.fb;have q5_:=q_.lb;omega))
 have e3:Ha.wrap (b-x1.epoch)=b-x1.epoch:=Hh _ (by (have hl_:=Ww (l:=l) (k:=l.length-1) rfl hx2;have hf_:=W1 hx1;subst hl_;subst hf_;have q_:=QF.1 ‹_›;have q1_:=q_.len1;have q2_:=q_.len;have q3_:=q_.lastE;have q4_:=q_.fb;have q5_:=q_.lb;omega))
 have e4:Ha.wrap ((b-x1.epoch)+1)=(b-x1.epoch)+1:=Hh _ (by (have hl_:=Ww (l:=l) (k:=l.length-1) rfl hx2;have hf_:=W1 hx1;subst hl_;subst hf_;have q_:=QF.1 ‹_›;have q1_:=q_.len1;have q2_:=q_.len;have q3_:=q_.lastE;have q4_:=q_.fb;have q5_:=q_.lb;omega))
 refine KG 44 (I (a-x1.epoch)) (congrArg I e2) (KG 48 (I ((b-x1.epoch)+1)) (show (I (Ha.wrap ((Ha.wrap (b-x1.epoch))+1)):Value)=I ((b-x1.epoch)+1) by simp only [e2,e3,e4]) ?_)
 clear e4 e3 e2
 obtain ⟨kn1,hkn1⟩:∃ k_:Nat,a-x1.epoch=(k_:Int):=⟨(a-x1.epoch).toNat,by omega⟩
 have e5:a-x1.epoch=(kn1:Int):=hkn1
 refine KG 44 (I (kn1:Int)) (congrArg I e5) ?_
 obtain ⟨kn2,hkn2⟩:∃ k_:Nat,(b-x1.epoch)+1=(k_:Int):=⟨((b-x1.epoch)+1).toNat,by omega⟩
 have e6:(b-x1.epoch)+1=(kn2:Int):=hkn2
 refine KG 48 (I (kn2:Int)) (congrArg I e6) ?_
 obtain ⟨a1,c1,ea1,ec1,en1,eh1,hs2⟩:=RS.reslX (h_l.mono hl1) kn1 kn2 Kd (by (have hl_:=Ww (l:=l) (k:=l.length-1) rfl hx2;have hf_:=W1 hx1;subst hl_;subst hf_;have q_:=QF.1 ‹_›;have q1_:=q_.len1;have q2_:=q_.len;have q3_:=q_.lastE;have q4_:=q_.fb;have q5_:=q_.lb;omega))
 refine Wx (a:=At b2 o1) (len:=l.length) (cap:=c_l) 49 4 (some (I (kn1:Int))) (some (I (kn2:Int))) kn1 kn2 (.inr ⟨_,rfl⟩) (.inr ⟨_,rfl⟩) Kd ea1 ec1 en1 eh1 (JM 50 (Vz G1 a1 c1 ((l.take kn2).drop kn1) hs2) (fun v G2 L1 hl2 hp=>?_))
 obtain ⟨a2,c2,_,rfl,hr1,rfl⟩:=hp
 refine Jb [0,0] [(6,Sl a2 (((l.take kn2).drop kn1).length) c2),(7,I 0)] (Je (Jc (Jn (Wv (E:=KN) 0 hr1 (by exact (hs2).fit) (fun G3 hl3 hs3=>?_)))))
 have hf3:Zb l a b=((l.take kn2).drop kn1,0):=by
  unfold Zb;(have hl_:=Ww (l:=l) (k:=l.length-1) rfl hx2;have hf_:=W1 hx1;subst hl_;subst hf_;rw [if_neg (by omega)];(rw [if_neg (by omega)];unfold cut;rw [show (a-(W0 l).epoch).toNat=kn1 by omega,show (b-(W0 l).epoch+1).toNat=kn2 by omega];done))
 refine Jo [0,0] [Sl a2 (((l.take kn2).drop kn1).length) c2,I 0] (JD [] (Ja (Ja hl1 hl2) hl3) ?_)
 rw [hf3]
 try dsimp only
 exact ⟨a2,c2,rfl,hs3,rfl⟩
theorem Jed (G:J4) (vs_h:Bv) (h:JU) (h_h:KN.R G vs_h h) (a_l:Ba) (c_l:Nat) (l:List JU) (h_l:RS KN G a_l c_l l) :Q3 121 #[.agg vs_h.toArray,Sl a_l l.length c_l] G (.tuple #[Bo ((QT h l).1),I ((QT h l).2)]):=by
 obtain ⟨rfl,w1,w2,w3,w4⟩:=h_h
 refine JQ Tryz.func121 24 [(0,.agg #[I h.epoch,U h.root,U h.prev,I h.at_]),(1,Sl a_l l.length c_l)] rfl (fun w0 G0=>?_)
 refine Jf (Jd (Jv 2 #[I h.epoch,U h.root,U h.prev,I h.at_] 43 (fun b1=>Jb [0,0] [] (Je (Jc (Jf (Jd (Jb [0] [(7,Sl a_l l.length c_l)] (Kq 8 1 #[Sl a_l l.length c_l] 40 (fun b2=>QK (b:=b2) (o:=0) (cs:=[Sl a_l l.length c_l]) 0 (fun G1 hl1 hz1=>?_)))))))))))
 have hs1:RS Je8 G1 (At b2 0) 1 [l]:=RS.lit [[Sl a_l l.length c_l]] [l] ⟨⟨a_l,c_l,rfl,(h_l.mono hl1)⟩,trivial⟩ hz1 (Hb rfl) (Hb rfl)
 refine Jl 9 (I (K1 ([l]))) (Jbx G1 (At b2 0) 1 ([l]) hs1) (Jb [0] [(6,I (K1 ([l])))] (Je (Jc (Jf (Jg [0,0] [(11,Bo (decide (K1 ([l])=0)))] (Jm (decide (K1 ([l])=0)) (fun h1=>?_) (fun h1=>?_)))))))
 refine Jd (Jb [4] [(12,.agg #[I h.epoch,U h.root,U h.prev,I h.at_])] (Jl 13 (I (JK h)) (Z5 h G1) (Jb [0] [(6,I (JK h))] (Je (Jc (Jf (Jg [0,0] [(15,Bo (!decide (JK h=0)))] (Jm (!decide (JK h=0)) (fun h2=>?_) (fun h2=>?_)))))))))
 refine Jg [0,0,0] [(4,Bo false),(5,I (JK h))] (Jn (Jj (Jo [0,0] [Bo false,I (JK h)] (Jx hl1 ?_))))
 have hf_:(QT h l)=(false,(JK h)):=by
  unfold QT;(simp_all;done)
 · (try rw [hf_]);(simp only [Qy];done)
 refine Jq (Jc (Jf ?_))
 obtain ⟨b3,o1,rfl⟩:=RS.addr (h_l.mono hl1) (k:=0) (by (have q_:=QF.1 ‹_›;have q1_:=q_.len1;have q2_:=q_.len;have q3_:=q_.lastE;have q4_:=q_.fb;have q5_:=q_.lb;omega))
 obtain ⟨x1,hx1⟩:=QQ (l:=l) (k:=0) (by (have q_:=QF.1 ‹_›;have q1_:=q_.len1;have q2_:=q_.len;have q3_:=q_.lastE;have q4_:=q_.fb;have q5_:=q_.lb;omega))
 obtain ⟨_,⟨rfl,w5,w6,w7,w8⟩,hc1⟩:=RS.get (h_l.mono hl1) hx1
 refine Kv [4,5] (Ws [(0,.agg #[I h.epoch,U h.root,U h.prev,I h.at_]),(1,Sl (At b3 o1) l.length c_l),(2,Pt b3 (o1+0*4)),(3,.agg #[I x1.epoch,U x1.root,U x1.prev,I x1.at_])] (JF [] [(0,4),(1,0)] [2,3] [4] (Kf ?_ (Kf ?_ KY)) (Kf ?_ KY)))
 refine Jr 2 19 (Pt b3 (o1+0*4)) [(18,Sl (At b3 o1) l.length c_l)] (fun X=>?_)
 exact JW (b:=b3) (off:=o1) (len:=l.length) (cap:=c_l) (ik:=.i64) 19 43 4 0 (by (have q_:=QF.1 ‹_›;have q1_:=q_.len1;have q2_:=q_.len;have q3_:=q_.lastE;have q4_:=q_.fb;have q5_:=q_.lb;omega)) Jp
 refine Jr 3 20 (.agg #[I x1.epoch,U x1.root,U x1.prev,I x1.at_]) [(19,Pt b3 (o1+0*4))] (fun X=>?_)
 exact JO 20 43 (cs:=[I x1.epoch,U x1.root,U x1.prev,I x1.at_]) 0 (.agg #[I x1.epoch,U x1.root,U x1.prev,I x1.at_]) hc1 Jp
 refine Jz 4 [(17,.agg #[I h.epoch,U h.root,U h.prev,I h.at_]),(20,.agg #[I x1.epoch,U x1.root,U x1.prev,I x1.at_])] (fun X=>?_)
 refine Kq 21 2 #[I h.epoch,U h.root,U h.prev,I h.at_,I x1.epoch,U x1.root,U x1.prev,I x1.at_] 43 (fun b4=>JA [(4,Sl (At b4 0) 2 2)] (JF [0,1,2,3] [] [] [5] (Hi _) (Kf ?_ KY)))
 refine Jz 5 [(21,Sl (At b4 0) 2 2)] (fun X=>?_)
 refine QK (b:=b4) (o:=0) (cs:=[I h.epoch,U h.root,U h.prev,I h.at_,I x1.epoch,U x1.root,U x1.prev,I x1.at_]) 0 (fun G2 hl2 hz2=>?_)
 have hs2:RS KN G2 (At b4 0) 2 [h,x1]:=RS.lit [[I h.epoch,U h.root,U h.prev,I h.at_],[I x1.epoch,U x1.root,U x1.prev,I x1.at_]] [h,x1] ⟨⟨rfl,w1,w2,w3,w4⟩,⟨⟨rfl,w5,w6,w7,w8⟩,trivial⟩⟩ hz2 (Hb rfl) (Hb rfl)
 refine Jl 22 (I (Wr ([h,x1]))) (JbW G2 (At b4 0) 2 ([h,x1]) hs2) (JA [(5,I (Wr ([h,x1]))),(6,Bo (decide (Wr ([h,x1])<0))),(7,Bo (decide (Wr ([h,x1])<0))),(8,I 0)] (Ko [0,1,2,3] [(6,0),(7,0),(8,0)] [] [(4,Bo (decide (Wr ([h,x1])<0))),(5,I 0)] (Hi _) (Jc (Jn (Jo [0,0] [Bo (decide (Wr ([h,x1])<0)),I 0] (Jx (Ja hl1 hl2) ?_))))))
 have hf_:(QT h l)=((decide (Wr ([h,x1])<0)),0):=by
  unfold QT;(have hf_:=W1 hx1;subst hf_;simp_all;done)
 · (try rw [hf_]);(simp only [Qy];done)
 refine Jq (Jc (Jf (Jg [0,0] [(15,Bo (!decide (K1 ([l])=0)))] (Jm (!decide (K1 ([l])=0)) (fun h3=>?_) (fun h3=>?_)))))
 refine Jg [0,0,0] [(4,Bo false),(5,I (K1 ([l])))] (Jn (Jj (Jo [0,0] [Bo false,I (K1 ([l]))] (Jx hl1 ?_))))
 have hf_:(QT h l)=(false,(K1 ([l]))):=by
  unfold QT;(simp_all;done)
 · (try rw [hf_]);(simp only [Qy];done)
 refine Jq (Jc (Jf ?_))
 obtain ⟨b5,o2,rfl⟩:=RS.addr (h_l.mono hl1) (k:=0) (by omega)
 obtain ⟨x2,hx2⟩:=QQ (l:=l) (k:=0) (by omega)
 obtain ⟨_,⟨rfl,w9,w10,w11,w12⟩,hc2⟩:=RS.get (h_l.mono hl1) hx2
 refine Kv [4,5] (Ws [(0,.agg #[I h.epoch,U h.root,U h.prev,I h.at_]),(1,Sl (At b5 o2) l.length c_l),(2,Pt b5 (o2+0*4)),(3,.agg #[I x2.epoch,U x2.root,U x2.prev,I x2.at_])] (JF [] [(0,4),(1,0)] [2,3] [4] (Kf ?_ (Kf ?_ KY)) (Kf ?_ KY)))
 refine Jr 2 19 (Pt b5 (o2+0*4)) [(18,Sl (At b5 o2) l.length c_l)] (fun X=>?_)
 exact JW (b:=b5) (off:=o2) (len:=l.length) (cap:=c_l) (ik:=.i64) 19 43 4 0 Kd Jp
 refine Jr 3 20 (.agg #[I x2.epoch,U x2.root,U x2.prev,I x2.at_]) [(19,Pt b5 (o2+0*4))] (fun X=>?_)
 exact JO 20 43 (cs:=[I x2.epoch,U x2.root,U x2.prev,I x2.at_]) 0 (.agg #[I x2.epoch,U x2.root,U x2.prev,I x2.at_]) hc2 Jp
 refine Jz 4 [(17,.agg #[I h.epoch,U h.root,U h.prev,I h.at_]),(20,.agg #[I x2.epoch,U x2.root,U x2.prev,I x2.at_])] (fun X=>?_)
 refine Kq 21 2 #[I h.epoch,U h.root,U h.prev,I h.at_,I x2.epoch,U x2.root,U x2.prev,I x2.at_] 43 (fun b6=>JA [(4,Sl (At b6 0) 2 2)] (JF [0,1,2,3] [] [] [5] (Hi _) (Kf ?_ KY)))
 refine Jz 5 [(21,Sl (At b6 0) 2 2)] (fun X=>?_)
 refine QK (b:=b6) (o:=0) (cs:=[I h.epoch,U h.root,U h.prev,I h.at_,I x2.epoch,U x2.root,U x2.prev,I x2.at_]) 0 (fun G3 hl3 hz3=>?_)
 have hs3:RS KN G3 (At b6 0) 2 [h,x2]:=RS.lit [[I h.epoch,U h.root,U h.prev,I h.at_],[I x2.epoch,U x2.root,U x2.prev,I x2.at_]] [h,x2] ⟨⟨rfl,w1,w2,w3,w4⟩,⟨⟨rfl,w9,w10,w11,w12⟩,trivial⟩⟩ hz3 (Hb rfl) (Hb rfl)
 refine Jl 22 (I (Wr ([h,x2]))) (JbW G3 (At b6 0) 2 ([h,x2]) hs3) (JA [(5,I (Wr ([h,x2]))),(6,Bo (decide (Wr ([h,x2])<0))),(7,Bo (decide (Wr ([h,x2])<0))),(8,I 0)] (Ko [0,1,2,3] [(6,0),(7,0),(8,0)] [] [(4,Bo (decide (Wr ([h,x2])<0))),(5,I 0)] (Hi _) (Jc (Jn (Jo [0,0] [Bo (decide (Wr ([h,x2])<0)),I 0] (Jx (Ja hl1 hl3) ?_))))))
 have hf_:(QT h l)=((decide (Wr ([h,x2])<0)),0):=by
  unfold QT;(simp_all;done)
 · (try rw [hf_]);(simp only [Qy];done)
def VP:Qn:=⟨[],0,Zy,[],0⟩
def WS (s:Bb):Bool:=decide (s.length > 20)
def Kg (o:Qn):Int:=if KS o.name=false then 3 else if JK o.head ≠ 0 then JK o.head else if 30<(o.wanted.length:Int)∨(o.wanted.any fun x0=>WS x0)=true then 2 else if o.had<0∨(o.wanted.length:Int)<o.had then 4 else 0
def Kk (name:Bb) (key:Int) (h:JU):Qn×Int:=if Kg ⟨name,key,h,[],0⟩ ≠ 0 then (VP,Kg ⟨name,key,h,[],0⟩) else (⟨name,key,h,[],0⟩,0)
def Yt (o:Qn) (v:Bb):Int:=if Kg o ≠ 0 then Kg o else if WS v=true then 2 else if (o.wanted.length:Int)=30 then 7 else 0
def JP (o:Qn) (v:Bb):Qn×Zx×Int:=if Yt o v ≠ 0 then (VP,JiJ,Yt o v) else (⟨o.name,o.key,o.head,o.wanted++[v],o.had⟩,(YP o.key o.name v o.wanted.length).1,0)
theorem K9 {o:Qn}:Kg o=0 ↔ KS o.name=true∧JK o.head=0∧o.wanted.length≤30∧(∀ s∈o.wanted,s.length≤20)∧0≤o.had∧o.had≤o.wanted.length:=by
 unfold Kg
 have e:(o.wanted.any fun x0=>WS x0)=true ↔ ¬ ∀ s∈o.wanted,s.length≤20:=by
  rw [Hz]
  unfold WS
  constructor
  ·
   rintro ⟨x,hx,h⟩ hc
   have:=hc x hx
   simp at h;omega
  ·
   intro h
   apply Classical.byContradiction
   intro hc
   refine h fun s hs=>?_
   apply Classical.byContradiction
   intro h2
   exact hc ⟨s,hs,by simp;omega⟩
 cases hn:KS o.name with
 | false=>simp
 | true =>
  rw [if_neg (by simp)]
  by_cases h1:JK o.head=0
  ·
   rw [if_neg (by omega)]
   by_cases h2:30<(o.wanted.length:Int)∨(o.wanted.any fun x0=>WS x0)=true
   ·
    rw [if_pos h2]
    constructor
    · intro h;cases h
    ·
     rintro ⟨_,_,h3,h4,_⟩
     rcases h2 with h2 | h2
     · omega
     · exact absurd h4 (e.1 h2)
   ·
    rw [if_neg h2]
    have h3:o.wanted.length≤30:=Nat.le_of_not_lt fun h=>h2 (.inl (by omega))
    have h4:∀ s∈o.wanted,s.length≤20:=Hj.1 fun h=>h2 (.inr (e.2 h))
    split
    ·
     constructor
     · intro h;cases h
     · rintro ⟨_,_,_,_,_,_⟩;omega
    · exact ⟨fun _=>⟨rfl,h1,h3,h4,by omega,by omega⟩,fun _=>rfl⟩
  ·
   rw [if_pos h1]
   exact ⟨fun h=>absurd h h1,fun h=>absurd h.2.1 h1⟩
theorem JhU {o:Qn} {v:Bb} (h:(JP o v).2.2=0):Kg o=0∧v.length≤20∧o.wanted.length<30∧JP o v=(⟨o.name,o.key,o.head,o.wanted++[v],o.had⟩,⟨o.name,v,o.wanted.length,VB o.key (Zj o.name v o.wanted.length)⟩,0)∧Kg (JP o v).1=0∧Yi o.key (JP o v).2.1=true∧(JP o v).1.key=o.key∧(JP o v).2.1.n=o.wanted.length∧(JP o v).1.wanted.length=o.wanted.length+1:=by
 have key:Kg o=0∧WS v=false∧¬ (o.wanted.length:Int)=30:=by
  unfold JP at h
  split at h
  · contradiction
  ·
   rename_i h1
   unfold Yt at h1
   by_cases e1:Kg o=0
   ·
    rw [if_neg (by omega)] at h1
    by_cases e2:WS v=true
    · rw [if_pos e2] at h1;omega
    ·
     rw [if_neg e2] at h1
     by_cases e3:(o.wanted.length:Int)=30
     · rw [if_pos e3] at h1;omega
     · exact ⟨e1,by simpa using e2,e3⟩
   · rw [if_pos e1] at h1;omega
 obtain ⟨e1,e2,e3⟩:=key
 have hi:=K9.1 e1
 have hv:v.length≤20:=by unfold WS at e2;simp at e2;omega
 have hE:Yt o v=0:=by unfold Yt;rw [if_neg (by omega),if_neg (by rw [e2];simp),if_neg e3]
 have hr:Wc o.name v=0:=by unfold Wc;rw [if_neg (by rw [hi.1];simp),if_neg (by omega)]
 have ht:YP o.key o.name v o.wanted.length=(⟨o.name,v,o.wanted.length,VB o.key (Zj o.name v o.wanted.length)⟩,0):=by unfold YP;rw [if_neg (by omega)]
 have hw:JP o v=(⟨o.name,o.key,o.head,o.wanted++[v],o.had⟩,⟨o.name,v,o.wanted.length,VB o.key (Zj o.name v o.wanted.length)⟩,0):=by
  unfold JP;rw [if_neg (by omega),ht]
 refine ⟨e1,hv,by omega,hw,?_,?_,?_,?_,?_⟩ <;> rw [hw] <;> simp only
 ·
  rw [K9]
  refine ⟨hi.1,hi.2.1,by simp;omega,fun s hs=>?_,hi.2.2.2.2.1,by simp;omega⟩
  rcases HD.1 hs with hs | hs
  · exact hi.2.2.2.1 s hs
  · rw [Hw.1 hs];exact hv
 · unfold Yi;simp [hr]
 · simp
theorem Jcz (G:J4) (s:Bb) :Q3 70 #[Sr s] G (Bo (WS s)):=by
 refine JQ Tryz.func70 6 [(0,Sr s)] rfl (fun w0 G0=>?_)
 refine Jg [0] [] (Jg [0,0,0,0] [(2,Bo (decide (((s).length:Int) > 20)))] (Jn (Jo [0] [Bo (decide (((s).length:Int) > 20))] (Jx (Jh _) (congrArg Bo (?_:(WS s)=(decide (((s).length:Int) > 20))).symm)))))
 unfold WS;rw [HE];simp;omega
theorem JaF (G:J4) (vs_o:Bv) (o:Qn) (h_o:Q9.R G vs_o o) :Q3 38 #[.agg vs_o.toArray] G (I (Kg o)):=by
 obtain ⟨a1,c1,rfl,_,_,_,_,_,_,hs1,_⟩:=h_o
 refine JQ Tryz.func38 36 [(0,(KC o a1 c1))] rfl (fun w0 G0=>?_)
 refine Jf (Jd (Jv 1 #[Sr o.name,U o.key,I o.head.epoch,U o.head.root,U o.head.prev,I o.head.at_,Sl a1 o.wanted.length c1,I o.had] 76 (fun b1=>Jb [0] [] (Je (Jc (Jf (Jf (Jd (Jb [0,2] [(5,Sr o.name)] (Jl 6 (Bo (KS o.name)) (ZX G o.name) (Jb [0] [(7,Bo (!(KS o.name)))] (Je (Jc (Jm (!(KS o.name)) (fun h1=>?_) (fun h1=>?_)))))))))))))))
 refine Jg [0] [(2,I 3)] (Jn (Jj (Jo [0] [I 3] (Jx (Jh _) (congrArg I (?_:(Kg o)=3).symm)))))
 · unfold Kg;(rw [if_pos (by simp_all)];done)
 refine Jq (Jc (Jf (Jf (Jd (Jb [0,2] [(9,.agg #[I o.head.epoch,U o.head.root,U o.head.prev,I o.head.at_])] (Jl 10 (I (JK o.head)) (Z5 o.head G) (Jb [0] [(3,I (JK o.head))] (Je (Jc (Jg [0,0] [(12,Bo (!decide (JK o.head=0)))] (Jm (!decide (JK o.head=0)) (fun h2=>?_) (fun h2=>?_))))))))))))
 refine Jg [0,0] [(2,I (JK o.head))] (Jn (Jj (Jo [0] [I (JK o.head)] (Jx (Jh _) (congrArg I (?_:(Kg o)=(JK o.head)).symm)))))
 · unfold Kg;(rw [if_neg (by simp_all),if_pos (by omega)];done)
 refine Jq (Jc (Jf (Jy (Jf (Jd (Jb [0,2,0,0,0] [(19,Bo (decide ((o.wanted.length:Int) > 30)))] (QU [19] (decide ((o.wanted.length:Int) > 30)) (fun h3=>?_) (fun h3=>?_))))))))
 refine Jb [1,1,1,0,0] [(14,Bo true)] (Je (Jc (J0 (Jg [0] [(2,I 2)] (Jn (Ju (Jj (Jo [0] [I 2] (Jx (Jh _) (congrArg I (?_:(Kg o)=2).symm))))))))))
 · unfold Kg;(rw [if_neg (by simp_all),if_neg (by omega)];(rw [if_pos (by simp_all)];done))
 refine Jb [0,2] [(21,Sl a1 o.wanted.length c1)] (Jl 22 (Bo (o.wanted.any (fun x0=>WS x0))) (Jps G a1 c1 o.wanted hs1 70 #[] (fun x0=>WS x0) (fun _ _=>by kernel_rfl) (fun x0 hx0=>Jcz G x0)) (Jb [0,0] [(14,Bo (o.wanted.any (fun x0=>WS x0)))] (Je (Jc (Jm (o.wanted.any (fun x0=>WS x0)) (fun h4=>?_) (fun h4=>?_))))))
 refine Jg [0] [(2,I 2)] (Jn (Ju (Jj (Jo [0] [I 2] (Jx (Jh _) (congrArg I (?_:(Kg o)=2).symm))))))
 · unfold Kg;(rw [if_neg (by simp_all),if_neg (by omega)];(rw [if_pos (by simp_all)];done))
 refine Jf (Jd (Jb [0,2,0,0] [(28,Bo (decide (o.had<0)))] (Kr (decide (o.had<0)) [28] [1,1,1,1,1,1,0] [0,2,0,2,0,0,0] (fun bb=>[(35,Bo (bb || (decide (o.had > (o.wanted.length:Int)))))]) (Jb [0] [(24,Bo ((decide (o.had<0)) || (decide (o.had > (o.wanted.length:Int)))))] (Je (Jc (Jm ((decide (o.had<0)) || (decide (o.had > (o.wanted.length:Int)))) (fun h5=>?_) (fun h5=>?_))))))))
 refine Jg [0] [(2,I 4)] (Jn (Ju (Jj (Jo [0] [I 4] (Jx (Jh _) (congrArg I (?_:(Kg o)=4).symm))))))
 · unfold Kg;(rw [if_neg (by simp_all),if_neg (by omega)];(rw [if_neg (by simp_all),if_pos (by omega)];done))
 refine Jq (JN (Jc (Jg [0] [(2,I 0)] (Jn (Jo [0] [I 0] (Jx (Jh _) (congrArg I (?_:(Kg o)=0).symm)))))))
 · unfold Kg;(rw [if_neg (by simp_all),if_neg (by omega)];(rw [if_neg (by simp_all),if_neg (by omega)];done))
theorem Jdx (G:J4) (name:Bb) (hw_name:(name).length≤140737488351232) (key:Int) (hw_key:rU key) (vs_h:Bv) (h:JU) (h_h:KN.R G vs_h h) :YL 57 #[Sr name,U key,.agg vs_h.toArray] G [] (fun u G' L'=>∃ (a1:Ba) (c2:Nat),u=.tuple #[.agg #[Sr (((Kk name key h).1).name),U (((Kk name key h).1).key),I (((Kk name key h).1).head.epoch),U (((Kk name key h).1).head.root),U (((Kk name key h).1).head.prev),I (((Kk name key h).1).head.at_),Sl a1 ((((Kk name key h).1).wanted).length) c2,I (((Kk name key h).1).had)],I ((Kk name key h).2)]∧((((Kk name key h).1).name).length≤140737488351232)∧(rU (((Kk name key h).1).key))∧(rI (((Kk name key h).1).head.epoch))∧(rU (((Kk name key h).1).head.root))∧(rU (((Kk name key h).1).head.prev))∧(rI (((Kk name key h).1).head.at_))∧(RS ES G' a1 c2 (((Kk name key h).1).wanted))∧(rI (((Kk name key h).1).had))∧L'=[]):=by
 obtain ⟨rfl,w1,w2,w3,w4⟩:=h_h
 refine JQ Tryz.func57 21 [(0,Sr name),(1,U key),(2,.agg #[I h.epoch,U h.root,U h.prev,I h.at_])] rfl (fun w0 G0=>?_)
 refine Jf (Jd (Jv 5 #[I h.epoch,U h.root,U h.prev,I h.at_] 43 (fun b1=>Jv 6 #[Sr ([]),U 0,I 0,U 0,U 0,I 0,Sl none 0 0,I 0] 76 (fun b2=>Jb [0] [] (Je (Jc (Jf (Jd (Jb [0,0,4,0] [(13,.agg #[Sr name,U key,I h.epoch,U h.root,U h.prev,I h.at_,Sl none 0 0,I 0])] (Jv 8 #[Sr ([]),U 0,I 0,U 0,U 0,I 0,Sl none 0 0,I 0] 76 (fun b3=>JT [3] [] [[Sg b3 0 [Sr name,U key,I h.epoch,U h.root,U h.prev,I h.at_,Sl none 0 0,I 0]],[Sg b2 0 [Sr ([]),U 0,I 0,U 0,U 0,I 0,Sl none 0 0,I 0]],[Sg b1 0 [I h.epoch,U h.root,U h.prev,I h.at_]]] (Je (Jc (Jf (Jf (Jd (Jb [2] [(14,.agg #[Sr name,U key,I h.epoch,U h.root,U h.prev,I h.at_,Sl none 0 0,I 0])] (Jl 15 (I (Kg (⟨name,key,h,[],0⟩:Qn))) (JaF G [Sr name,U key,I h.epoch,U h.root,U h.prev,I h.at_,Sl none 0 0,I 0] (⟨name,key,h,[],0⟩:Qn) (⟨none,0,rfl,hw_name,hw_key,w1,w2,w3,w4,(J2 ES G),(by (simp;done))⟩)) (Jb [0] [(9,I (Kg (⟨name,key,h,[],0⟩:Qn)))] (Je (Jc (Jg [0,0] [(17,Bo (!decide (Kg (⟨name,key,h,[],0⟩:Qn)=0)))] ?_))))))))))))))))))))))
 refine Jm (!decide (Kg (⟨name,key,h,[],0⟩:Qn)=0)) (fun h1=>?_) (fun h1=>?_)
 refine Jg [0,0,5,0] [(7,I (Kg (⟨name,key,h,[],0⟩:Qn)))] (Jn (Jj ?_))
 have hf1:Kk name key h=((⟨[],0,(⟨0,0,0,0⟩:JU),[],0⟩:Qn),Kg (⟨name,key,h,[],0⟩:Qn)):=by
  unfold Kk VP Zy;simp_all
 refine Jo [1,0] [.agg #[Sr ([]),U 0,I 0,U 0,U 0,I 0,Sl none 0 0,I 0],I (Kg (⟨name,key,h,[],0⟩:Qn))] (JD [] (Jh _) ?_)
 rw [hf1]
 try dsimp only
 exact ⟨none,0,rfl,(Hb rfl),Kd,Kd,Kd,Kd,Kd,(J2 ES G),Kd,rfl⟩
 refine Jq (Jc (QB [2,5,0] [(7,I 0)] [[Sg b3 0 [Sr name,U key,I h.epoch,U h.root,U h.prev,I h.at_,Sl none 0 0,I 0]],[Sg b2 0 [Sr name,U key,I h.epoch,U h.root,U h.prev,I h.at_,Sl none 0 0,I 0]],[Sg b1 0 [I h.epoch,U h.root,U h.prev,I h.at_]]] (Jn ?_)))
 have hf2:Kk name key h=((⟨name,key,h,[],0⟩:Qn),0):=by
  unfold Kk VP Zy;simp_all
 refine Jo [1,0] [.agg #[Sr name,U key,I h.epoch,U h.root,U h.prev,I h.at_,Sl none 0 0,I 0],I 0] (JD [] (Jh _) ?_)
 rw [hf2]
 try dsimp only
 exact ⟨none,0,rfl,hw_name,hw_key,w1,w2,w3,w4,(J2 ES G),Kd,rfl⟩
abbrev JaG (o:Qn) (v:Bb):=YP o.key o.name v (o.wanted.length:Int)
abbrev JbX (o:Qn) (v:Bb):=(⟨o.name,o.key,o.head,(o.wanted++[v]),o.had⟩:Qn)
theorem Vd (G:J4) (vs_o:Bv) (o:Qn) (h_o:Q9.R G vs_o o) (v:Bb) (hw_v:(v).length≤140737488351232) :YL 101 #[.agg vs_o.toArray,Sr v] G [] (fun u G' L'=>∃ (a1:Ba) (c2:Nat),u=.tuple #[.agg #[Sr (((JP o v).1).name),U (((JP o v).1).key),I (((JP o v).1).head.epoch),U (((JP o v).1).head.root),U (((JP o v).1).head.prev),I (((JP o v).1).head.at_),Sl a1 ((((JP o v).1).wanted).length) c2,I (((JP o v).1).had)],.agg #[Sr (((JP o v).2.1).name),Sr (((JP o v).2.1).value),U (((JP o v).2.1).n),U (((JP o v).2.1).tag)],I ((JP o v).2.2)]∧((((JP o v).1).name).length≤140737488351232)∧(rU (((JP o v).1).key))∧(rI (((JP o v).1).head.epoch))∧(rU (((JP o v).1).head.root))∧(rU (((JP o v).1).head.prev))∧(rI (((JP o v).1).head.at_))∧(RS ES G' a1 c2 (((JP o v).1).wanted))∧(rI (((JP o v).1).had))∧((((JP o v).2.1).name).length≤140737488351232)∧((((JP o v).2.1).value).length≤140737488351232)∧(rU (((JP o v).2.1).n))∧(rU (((JP o v).2.1).tag))∧L'=[]):=by
 obtain ⟨a1,c1,rfl,w1,w2,w3,w4,w5,w6,hs1,w7⟩:=h_o
 refine JQ Tryz.func101 52 [(0,(KC o a1 c1)),(1,Sr v)] rfl (fun w0 G0=>?_)
 refine Jf (Jd (Jv 2 #[Sr o.name,U o.key,I o.head.epoch,U o.head.root,U o.head.prev,I o.head.at_,Sl a1 o.wanted.length c1,I o.had] 76 (fun b1=>Jv 4 #[Sr ([]),U 0,I 0,U 0,U 0,I 0,Sl none 0 0,I 0] 76 (fun b2=>Jv 5 #[Sr ([]),Sr ([]),U 0,U 0] 182 (fun b3=>Jb [0] [] (Je (Jc (Jf (Jd (Jb [6] [(10,(KC o a1 c1))] (Jl 11 (I (Kg o)) (JaF G (KU o a1 c1) o (⟨a1,c1,rfl,w1,w2,w3,w4,w5,w6,hs1,w7⟩)) (Jb [0] [(7,I (Kg o))] (Je (Jc (Jf (Jy (Jg [0,0,0] [(12,Bo (!decide (Kg o=0)))] (Jm (!decide (Kg o=0)) (fun h1=>?_) (fun h1=>?_)))))))))))))))))))
 refine Jg [0,0,0,5,3,0] [(6,I (Kg o))] (Jn (Ju (Jj ?_)))
 have hf1:JP o v=((⟨[],0,(⟨0,0,0,0⟩:JU),[],0⟩:Qn),(⟨[],[],0,0⟩:Zx),Kg o):=by
  unfold JP Yt VP JiJ Zy;simp_all
 refine Jo [1,0,0] [.agg #[Sr ([]),U 0,I 0,U 0,U 0,I 0,Sl none 0 0,I 0],.agg #[Sr ([]),Sr ([]),U 0,U 0],I (Kg o)] (JD [] (Jh _) ?_)
 rw [hf1]
 try dsimp only
 exact ⟨none,0,rfl,(Hb rfl),Kd,Kd,Kd,Kd,Kd,(J2 ES G),Kd,(Hb rfl),(Hb rfl),Kd,Kd,rfl⟩
 refine Jf (Jd (Jb [0] [(19,Sr v)] (Jl 20 (Bo (WS v)) (Jcz G v) (Jb [0] [(18,Bo (WS v))] (Je (Jc (Jm (WS v) (fun h2=>?_) (fun h2=>?_))))))))
 refine Jg [0,0,5,3,0] [(6,I 2)] (Jn (Ju (Jj ?_)))
 have hf2:JP o v=((⟨[],0,(⟨0,0,0,0⟩:JU),[],0⟩:Qn),(⟨[],[],0,0⟩:Zx),2):=by
  unfold JP Yt VP JiJ Zy;simp_all
 refine Jo [1,0,0] [.agg #[Sr ([]),U 0,I 0,U 0,U 0,I 0,Sl none 0 0,I 0],.agg #[Sr ([]),Sr ([]),U 0,U 0],I 2] (JD [] (Jh _) ?_)
 rw [hf2]
 try dsimp only
 exact ⟨none,0,rfl,(Hb rfl),Kd,Kd,Kd,Kd,Kd,(J2 ES G),Kd,(Hb rfl),(Hb rfl),Kd,Kd,rfl⟩
 refine Jg [0,6,0,0,0] [(23,Bo (decide ((o.wanted.length:Int)=30)))] (Jm (decide ((o.wanted.length:Int)=30)) (fun h3=>?_) (fun h3=>?_))
 refine Jg [0,0,5,3,0] [(6,I 7)] (Jn (Ju (Jj ?_)))
 have hf3:JP o v=((⟨[],0,(⟨0,0,0,0⟩:JU),[],0⟩:Qn),(⟨[],[],0,0⟩:Zx),7):=by
  unfold JP Yt VP JiJ Zy;simp_all
 refine Jo [1,0,0] [.agg #[Sr ([]),U 0,I 0,U 0,U 0,I 0,Sl none 0 0,I 0],.agg #[Sr ([]),Sr ([]),U 0,U 0],I 7] (JD [] (Jh _) ?_)
 rw [hf3]
 try dsimp only
 exact ⟨none,0,rfl,(Hb rfl),Kd,Kd,Kd,Kd,Kd,(J2 ES G),Kd,(Hb rfl),(Hb rfl),Kd,Kd,rfl⟩
 refine Jq (JN (Jc (Jf (Jd (Jb [0,6,0,6,0,0,6,0,0] [(32,U o.key),(34,Sr o.name),(35,Sr v),(39,U (IntKind.u64.wrap (o.wanted.length:Int)))] (Ja7 39 (o.wanted.length:Int) (by (have q_:=K9.1 ‹_›;omega)) (JM 40 (Jka G o.key o.name ‹_› v ‹_› (o.wanted.length:Int) (by (have q_:=K9.1 ‹_›;omega))) (fun v G1 L1 hl1 hp=>?_))))))))
 obtain ⟨rfl,w8,w9,w10,w11,rfl⟩:=hp
 refine Jb [0,0,0] [(41,(Jj2 (JaG o v).1)),(42,I ((JaG o v).2))] (Jv 8 #[Sr ([]),Sr ([]),U 0,U 0] 182 (fun b4=>JT [3,0] [] [[Sg b4 0 (Jix (JaG o v).1)],[Sg b3 0 [Sr ([]),Sr ([]),U 0,U 0]],[Sg b2 0 [Sr ([]),U 0,I 0,U 0,U 0,I 0,Sl none 0 0,I 0]],[Sg b1 0 (KU o a1 c1)]] (Je (Jc (Jf (Jd (Jb [0,8] [(44,Sl a1 o.wanted.length c1)] (JM 45 (Jch G1 a1 c1 o.wanted (hs1.mono hl1)) (fun v G2 L1 hl2 hp=>?_)))))))))
 obtain ⟨_,c2,_,rfl,hr1,rfl⟩:=hp
 refine Jb [0] [(46,Sr v)] (Kq 47 1 #[Sr v] 9 (fun b5=>Qm (b:=b5) (cs:=[Sr v]) 48 9 1 0 (E:=ES) v hr1 ⟨rfl,‹_›⟩ (by have q_:=K9.1 ‹_›;(try simp only [ES,Hc,Hd,He]);omega) (by have q_:=K9.1 ‹_›;(try simp only [ES,Hc,Hd,He]);omega) (fun a3 c3 r2 hr2=>JT [0,13] [] [[Sg b5 0 [Sr v]],r2,[Sg b4 0 (Jix (JaG o v).1)],[Sg b3 0 [Sr ([]),Sr ([]),U 0,U 0]],[Sg b2 0 [Sr ([]),U 0,I 0,U 0,U 0,I 0,Sl none 0 0,I 0]],[Sg b1 0 (KU (JbX o v) a3 c3)]] (Je (Jc (Jf (Kv [2,3] (Ws [(0,(KC (JbX o v) a3 c3)),(1,(Jj2 (JaG o v).1))] (JF [] [(0,12),(1,6)] [] [2] (Hi _) (Kf ?_ KY))))))))))
 refine Jz 2 [(4,Pt b2 0),(50,(KC (JbX o v) a3 c3))] (fun X=>?_)
 refine KA 4 [[Sg b5 0 [Sr v]],r2,[Sg b4 0 (Jix (JaG o v).1)],[Sg b3 0 [Sr ([]),Sr ([]),U 0,U 0]],[Sg b2 0 (KU (JbX o v) a3 c3)],[Sg b1 0 (KU (JbX o v) a3 c3)]] (J5 [] (JF [0] [(1,6)] [] [3] (Hi _) (Kf ?_ KY)))
 refine Jz 3 [(5,Pt b3 0),(51,(Jj2 (JaG o v).1))] (fun X=>?_)
 refine KA 3 [[Sg b5 0 [Sr v]],r2,[Sg b4 0 (Jix (JaG o v).1)],[Sg b3 0 (Jix (JaG o v).1)],[Sg b2 0 (KU (JbX o v) a3 c3)],[Sg b1 0 (KU (JbX o v) a3 c3)]] (J5 [(4,I 0)] (Ko [0,1] [(4,0)] [] [(4,Pt b2 0),(5,Pt b3 0),(6,I 0)] (Hi _) (Jc (Jn (Wv (E:=ES) 1 hr2 (by have q_:=K9.1 ‹_›;(try simp only [ES,Hc,Hd,He]);omega) (fun G3 hl3 hs2=>?_))))))
 have hf4:JP o v=((⟨o.name,o.key,o.head,o.wanted++[v],o.had⟩:Qn),((JaG o v).1),0):=by
  unfold JP Yt VP JiJ Zy;simp_all
 refine Jo [4,3,0] [(KC (JbX o v) a3 c3),(Jj2 (JaG o v).1),I 0] (JD [] (Ja (Ja hl1 hl2) hl3) ?_)
 rw [hf4]
 try dsimp only
 exact ⟨a3,c3,rfl,‹_›,‹_›,‹_›,‹_›,‹_›,‹_›,hs2,‹_›,w8,w9,w10,w11,rfl⟩
def Wh (p:Q4):Int×Int:=if (K6 p).2 ≠ 0 then (0,(K6 p).2) else (Ji (Jog (K6 p).1),0)
def Zc (root:Int) (p:Q4):Int:=if (Wh p).2=0∧¬ (Wh p).1=root then 8 else (Wh p).2
def ZE (root:Int) (p:Q4):Bb×Bool×Int:=if ¬ Zc root p=0 then ([],false,Zc root p) else YJ p.entries p.name
def JG (r:Q5):Bb×Bool×Int:=if ¬ JK r.head=0 then ([],false,JK r.head) else ZE r.head.root r.proof
theorem Ve {p:Q4} (h:(K6 p).2=0):(K6 p).1.length=17:=by
 unfold K6 at h ⊢
 split at h
 · contradiction
 ·
  rename_i h1
  rw [if_neg h1]
  simp only
  rw [Yy,(Wt.1 (Hj.1 h1)).sides]
def Yj (x h:JU):Bool:=decide (x.epoch=h.epoch) && !decide (x=h)
def K2 (h:JU) (l:List JU):Int:=if ¬ (Ki l).1=0∨(W0 l).epoch > h.epoch+1 then 2 else if (W0 l).epoch=h.epoch+1∧(QT h l).1=false then 2 else if (l.any fun x0=>Yj x0 h)=true then 3 else if (W8 l).epoch≤h.epoch then 1 else 0
def VT (o:Qn):Int:=if 0 > o.had-1 then 0 else o.had-1
def JaH (o:Qn) (w:Bb):Int:=QR (fun x=>decide (w=x)) (o.wanted.drop (VT o).toNat)
def JZ (o:Qn) (l:List JU) (r:Q5):Int×Int:=if ¬ K2 o.head l=0 then (K2 o.head l,0) else if (¬ (JG r).2.2=0∨¬ r.head=W8 l)∨¬ r.proof.name=o.name then (4,0) else if (JG r).2.1=false∧o.had > 0 then (5,0) else if (JG r).2.1=false then (0,0) else if JaH o (JG r).1<0 then (6,0) else (0,VT o+JaH o (JG r).1+1)
def JC (o:Qn) (l:List JU) (r:Q5):Qn×Int×Int:=if ¬ Kg o=0 then (VP,0,Kg o) else if (JZ o l r).1=0 then (⟨o.name,o.key,r.head,o.wanted,(JZ o l r).2⟩,0,0) else (o,(JZ o l r).1,0)
theorem YT {h:JU} {l:List JU} (e:K2 h l=0):Zk l∧h.epoch<(W8 l).epoch:=by
 unfold K2 at e
 split at e
 · cases e
 split at e
 · cases e
 split at e
 · cases e
 split at e
 · cases e
 ·
  rename_i h1 _ _ h4
  exact ⟨K8.1 (Hj.1 fun hc=>h1 (.inl hc)),by omega⟩
theorem Ji4 {h:JU} {l:List JU} {x:JU} (h1:¬ (Ki l).1=0∨(l[0]? = some x∧x.epoch > h.epoch+1)):K2 h l=2:=by
 unfold K2
 rw [if_pos]
 rcases h1 with h1 | ⟨h1,h2⟩
 · exact .inl h1
 · rw [← W1 h1];exact .inr h2
theorem Joj {h:JU} {l:List JU} {x:JU} (h0:(Ki l).1=0) (h1:l[0]? = some x) (h2:x.epoch≤h.epoch+1) (h3:x.epoch=h.epoch+1) (h4:(QT h l).1=false):K2 h l=2:=by
 unfold K2
 rw [← W1 h1,if_neg (by omega),if_pos ⟨h3,h4⟩]
theorem Jbf {h:JU} {l:List JU} {x:JU} (h0:(Ki l).1=0) (h1:l[0]? = some x) (h2:x.epoch≤h.epoch+1) (h3:¬ x.epoch=h.epoch+1∨(QT h l).1=true):K2 h l=if (l.any fun x0=>Yj x0 h)=true then 3 else if (W8 l).epoch≤h.epoch then 1 else 0:=by
 unfold K2
 rw [← W1 h1,if_neg (by omega),if_neg]
 rintro ⟨a,b⟩
 rcases h3 with h3 | h3
 · exact h3 a
 · rw [h3] at b;cases b
theorem Jlr {α:Type} (p:α→Bool) (l:List α):-1≤QR p l∧QR p l<l.length+1:=by
 by_cases h:QR p l<0
 ·
  refine ⟨?_,by omega⟩
  unfold QR;split <;> omega
 ·
  obtain ⟨k,hk⟩:∃ k:Nat,QR p l=k:=⟨_,(HL (by omega)).symm⟩
  obtain ⟨x,hx,_⟩:=JhI hk
  have:=(Hg.1 hx).1
  omega
theorem Jff {o:Qn} {l:List JU} {r:Q5} {x:JU} (h0:K2 o.head l=0) (h1:(JG r).2.2=0) (h2:l[l.length-1]? = some x) (h3:((r.head.epoch=x.epoch∧r.head.root=x.root)∧r.head.prev=x.prev)∧r.head.at_=x.at_) (h4:r.proof.name=o.name) :
  JZ o l r=if (JG r).2.1=false∧o.had > 0 then (5,0) else if (JG r).2.1=false then (0,0) else if JaH o (JG r).1<0 then (6,0) else (0,VT o+JaH o (JG r).1+1):=by
 unfold JZ
 have e:=Ww rfl h2
 have e2:r.head=W8 l:=by rw [← e,JbR];exact ⟨h3.1.1.1,h3.1.1.2,h3.1.2,h3.2⟩
 rw [if_neg (by omega),if_neg]
 rintro ((a | a) | a)
 · exact a h1
 · exact a e2
 · exact a h4
theorem JhV {o:Qn} {l:List JU} {r:Q5} (h0:K2 o.head l=0) (h1:(¬ (JG r).2.2=0∨∃ x,l[l.length-1]? = some x∧(((r.head.epoch=x.epoch∧r.head.root=x.root)∧r.head.prev=x.prev)→¬ r.head.at_=x.at_))∨¬ r.proof.name=o.name):JZ o l r=(4,0):=by
 unfold JZ
 rw [if_neg (by omega),if_pos]
 rcases h1 with (h1 | ⟨x,h1,h2⟩) | h1
 · exact .inl (.inl h1)
 ·
  refine .inl (.inr ?_)
  rw [← Ww rfl h1,JbR]
  rintro ⟨a,b,c,d⟩
  exact h2 ⟨⟨a,b⟩,c⟩ d
 · exact .inr h1
theorem Ji5 {o:Qn} {k:Nat} (w:Bb) (h:(if 0 > o.had-1 then 0 else o.had-1)=(k:Int)):VT o=k∧JaH o w=QR (fun x=>decide (w=x)) (o.wanted.drop k):=by
 have e:VT o=k:=h
 refine ⟨e,?_⟩
 unfold JaH;rw [e];rfl
theorem Ji6 {o:Qn} {w:Bb} (h:¬ JaH o w<0):∃ k:Nat,JaH o w=k∧o.wanted[(VT o).toNat+k]? = some w:=by
 obtain ⟨k,hk⟩:∃ k:Nat,JaH o w=k:=⟨_,(HL (by omega)).symm⟩
 refine ⟨k,hk,?_⟩
 unfold JaH at hk
 obtain ⟨x,hx,hp⟩:=JhI hk
 rw [HO] at hx
 rw [hx,of_decide_eq_true hp]
theorem Jdy {o:Qn} {l:List JU} {r:Q5} (hc:Kg o=0) (h:(JZ o l r).1=0) :
  (JG r).2.2=0∧o.head.epoch<r.head.epoch∧JK r.head=0∧o.had≤(JZ o l r).2∧0≤(JZ o l r).2∧(JZ o l r).2≤o.wanted.length ∧
  ((JG r).2.1=false→(JZ o l r).2=0∧o.had=0)∧((JG r).2.1=true→1≤(JZ o l r).2∧∃ k:Nat,(JZ o l r).2-1=k∧o.wanted[k]? = some (JG r).1):=by
 have ho:=K9.1 hc
 unfold JZ at h ⊢
 by_cases h1:K2 o.head l=0
 ·
  rw [if_neg (by omega)] at h ⊢
  obtain ⟨c1,c2⟩:=YT h1
  by_cases h2:(¬ (JG r).2.2=0∨¬ r.head=W8 l)∨¬ r.proof.name=o.name
  · rw [if_pos h2] at h;cases h
  ·
   rw [if_neg h2] at h ⊢
   have e1:(JG r).2.2=0:=Hj.1 fun hc=>h2 (.inl (.inl hc))
   have e2:r.head=W8 l:=Hj.1 fun hc=>h2 (.inl (.inr hc))
   have e3:JK r.head=0:=by rw [e2];exact c1.ok _ (Hn c1.last)
   by_cases h3:(JG r).2.1=false∧o.had > 0
   · rw [if_pos h3] at h;cases h
   ·
    rw [if_neg h3] at h ⊢
    by_cases h4:(JG r).2.1=false
    ·
     rw [if_pos h4] at h ⊢
     have:¬ o.had > 0:=fun hc=>h3 ⟨h4,hc⟩
     exact ⟨e1,by rw [e2];exact c2,e3,by simp only;omega,by simp,by simp,fun _=>⟨rfl,by omega⟩,fun hc=>by rw [h4] at hc;cases hc⟩
    ·
     rw [if_neg h4] at h ⊢
     by_cases h5:JaH o (JG r).1<0
     · rw [if_pos h5] at h;cases h
     ·
      rw [if_neg h5]
      obtain ⟨k,hk,hw⟩:=Ji6 h5
      have hlt:=(Hg.1 hw).1
      have hf:0≤VT o∧o.had-1≤VT o:=by unfold VT;split <;> omega
      simp only
      refine ⟨e1,by rw [e2];exact c2,e3,by omega,by omega,by omega,fun hc=>absurd hc h4,fun _=>⟨by omega,(VT o).toNat+k,by omega,hw⟩⟩
 · rw [if_pos h1] at h;exact absurd h h1
theorem see_ok {o:Qn} {l:List JU} {r:Q5} (h:(JC o l r).2.2=0):Kg o=0∧(JC o l r).2.1=(JZ o l r).1∧((JZ o l r).1=0→(JC o l r).1=⟨o.name,o.key,r.head,o.wanted,(JZ o l r).2⟩)∧(¬ (JZ o l r).1=0→(JC o l r).1=o):=by
 unfold JC at h ⊢
 by_cases h1:Kg o=0
 ·
  rw [if_neg (by omega)] at h ⊢
  by_cases h2:(JZ o l r).1=0
  · rw [if_pos h2];exact ⟨h1,h2.symm,fun _=>rfl,fun hc=>absurd h2 hc⟩
  · rw [if_neg h2];exact ⟨h1,rfl,fun hc=>absurd hc h2,fun _=>rfl⟩
 · rw [if_pos h1] at h;exact absurd h h1
theorem Jok {o:Qn} {l:List JU} {r:Q5} (h:(JC o l r).2.2=0) (hv:(JC o l r).2.1=0):(JG r).2.2=0∧(JC o l r).1.head=r.head∧o.head.epoch<(JC o l r).1.head.epoch∧o.had≤(JC o l r).1.had∧Kg (JC o l r).1=0∧((JG r).2.1=false→(JC o l r).1.had=0∧o.had=0)∧((JG r).2.1=true→1≤(JC o l r).1.had∧(JC o l r).1.had≤o.wanted.length∧∃ k:Nat,(JC o l r).1.had-1=k∧o.wanted[k]? = some (JG r).1):=by
 obtain ⟨h1,h2,h3,_⟩:=see_ok h
 have hv0:(JZ o l r).1=0:=by rw [← h2];exact hv
 have hx:=h3 hv0
 have ho:=K9.1 h1
 obtain ⟨a1,a2,a3,a4,a5,a6,a7,a8⟩:=Jdy h1 hv0
 rw [hx]
 refine ⟨a1,rfl,a2,a4,K9.2 ⟨ho.1,a3,ho.2.2.1,ho.2.2.2.1,a5,a6⟩,a7,fun hi=>⟨(a8 hi).1,a6,(a8 hi).2⟩⟩
theorem Jgy (G:J4) (vs_p:Bv) (p:Q4) (h_p:Jfy.R G vs_p p) :Q3 124 #[.agg vs_p.toArray] G (.tuple #[U ((Wh p).1),I ((Wh p).2)]):=by
 obtain ⟨a1,c1,a2,c2,rfl,w1,hs1,hs2⟩:=h_p
 refine JQ Tryz.func124 21 [(0,(V6 p a1 c1 a2 c2))] rfl (fun w0 G0=>?_)
 refine Jf (Jd (Jv 1 #[Sr p.name,Sl a1 p.entries.length c1,Sl a2 p.sides.length c2] 47 (fun b1=>Jb [0,0] [] (Je (Jc (Jf (Jd (Jb [2] [(7,(V6 p a1 c1 a2 c2))] (JM 8 (Jgs G (VO p a1 c1 a2 c2) p (⟨a1,c1,a2,c2,rfl,w1,hs1,hs2⟩)) (fun v G1 L1 hl1 hp=>?_))))))))))
 obtain ⟨a3,c3,rfl,hs3,rfl⟩:=hp
 refine Jb [0,0,0,0,0] [(4,Sl a3 (((K6 p).1).length) c3),(5,I ((K6 p).2))] (Je (Jc (Jf (Jg [0,0] [(12,Bo (!decide ((K6 p).2=0)))] (Jm (!decide ((K6 p).2=0)) (fun h1=>?_) (fun h1=>?_))))))
 refine Jg [0,0,0] [(2,U 0),(3,I ((K6 p).2))] (Jn (Jj (Jo [0,0] [U 0,I ((K6 p).2)] (Jx hl1 ?_))))
 have hf_:(Wh p)=(0,((K6 p).2)):=by
  unfold Wh;(rw [if_pos ‹_›];done)
 · (try rw [hf_]);(simp only [Qy];done)
 refine Jq (Jc (Jf (Jd (Jb [0,0,0,0] [(14,Sl a3 (((K6 p).1).length) c3),(17,I (Ha.wrap ((((K6 p).1).length:Int)-1)))] ?_))))
 have e1:Ha.wrap ((((K6 p).1).length:Int)-1)=((((K6 p).1).length-1:Nat):Int):=(Hh _ (by (have q_:=Ve (p:=p) ‹_›;omega))).trans (show (((K6 p).1).length:Int)-1=((((K6 p).1).length-1:Nat):Int) by (have q_:=Ve (p:=p) ‹_›;omega))
 refine KG 17 (I ((((K6 p).1).length-1:Nat):Int)) (congrArg I e1) ?_
 clear e1
 obtain ⟨b2,o1,rfl⟩:=RS.addr hs3 (k:=((K6 p).1).length-1) (by (have q_:=Ve (p:=p) ‹_›;omega))
 obtain ⟨x1,hx1⟩:=QQ (l:=(K6 p).1) (k:=((K6 p).1).length-1) (by (have q_:=Ve (p:=p) ‹_›;omega))
 obtain ⟨_,⟨rfl,w2⟩,hc1⟩:=RS.get hs3 hx1
 refine JW (b:=b2) (off:=o1) (len:=((K6 p).1).length) (cap:=c3) (ik:=.i64) 18 9 1 (((K6 p).1).length-1) (by (have q_:=Ve (p:=p) ‹_›;omega)) (JO 19 9 (cs:=[Sr x1]) 0 (Sr x1) hc1 (Jl 20 (U (Ji x1)) (Z6 x1 (JcQ w2) G1) (Jb [0,0] [(2,U (Ji x1)),(3,I 0)] (Je (Jc (Jn (Jo [0,0] [U (Ji x1),I 0] (Jx hl1 ?_))))))))
 have hf_:(Wh p)=((Ji x1),0):=by
  unfold Wh;(rw [if_neg (by omega)];have hl_:=JmE (a:=(K6 p).1) rfl hx1;rw [← hl_];done)
 · (try rw [hf_]);(simp only [Qy];done)
theorem Jgz (G:J4) (root:Int) (vs_p:Bv) (p:Q4) (h_p:Jfy.R G vs_p p) :Q3 72 #[U root,.agg vs_p.toArray] G (I (Zc root p)):=by
 obtain ⟨a1,c1,a2,c2,rfl,w1,hs1,hs2⟩:=h_p
 refine JQ Tryz.func72 20 [(0,U root),(1,(V6 p a1 c1 a2 c2))] rfl (fun w0 G0=>?_)
 refine Jf (Jd (Jv 3 #[Sr p.name,Sl a1 p.entries.length c1,Sl a2 p.sides.length c2] 47 (fun b1=>Jb [0] [] (Je (Jc (Jf (Jd (Jb [2] [(8,(V6 p a1 c1 a2 c2))] (Jl 9 (.tuple #[U ((Wh p).1),I ((Wh p).2)]) (Jgy G (VO p a1 c1 a2 c2) p (⟨a1,c1,a2,c2,rfl,w1,hs1,hs2⟩)) (Jb [0,0,0,0,0] [(5,U ((Wh p).1)),(6,I ((Wh p).2))] (Je (Jc (Jf (Jf (Jd (Jb [0,0,0] [(14,Bo (decide ((Wh p).2=0)))] (Kr (decide ((Wh p).2=0)) [14] [0,0,0,0] [1,1,1,0] (fun bb=>[(18,Bo (bb && (!decide ((Wh p).1=root))))]) (Je (Jc (Jm ((decide ((Wh p).2=0)) && (!decide ((Wh p).1=root))) (fun h1=>?_) (fun h1=>?_)))))))))))))))))))))
 refine Jd (Jb [0] [(6,I 8)] (Je (Jc (Jg [0,0] [(4,I 8)] (Jn (Jo [0] [I 8] (Jx (Jh _) (congrArg I (?_:(Zc root p)=8).symm))))))))
 · unfold Zc;(rw [if_pos (by simp_all)];done)
 refine Jq (Jc (Jg [0,0] [(4,I ((Wh p).2))] (Jn (Jo [0] [I ((Wh p).2)] (Jx (Jh _) (congrArg I (?_:(Zc root p)=((Wh p).2)).symm))))))
 · unfold Zc;(rw [if_neg (by simp_all)];done)
abbrev Jby (p:Q4):=YJ p.entries p.name
theorem JgA (G:J4) (root:Int) (vs_p:Bv) (p:Q4) (h_p:Jfy.R G vs_p p) :YL 42 #[U root,.agg vs_p.toArray] G [] (fun u G' L'=>u=.tuple #[Sr ((ZE root p).1),Bo ((ZE root p).2.1),I ((ZE root p).2.2)]∧(((ZE root p).1).length≤140737488351232)∧L'=[]):=by
 obtain ⟨a1,c1,a2,c2,rfl,w1,hs1,hs2⟩:=h_p
 refine JQ Tryz.func42 22 [(0,U root),(1,(V6 p a1 c1 a2 c2))] rfl (fun w0 G0=>?_)
 refine Jf (Jd (Jv 3 #[Sr p.name,Sl a1 p.entries.length c1,Sl a2 p.sides.length c2] 47 (fun b1=>Jb [0,0,0] [] (Je (Jc (Jf (Jf (Jd (Jb [0,2] [(8,U root),(9,(V6 p a1 c1 a2 c2))] (Jl 10 (I (Zc root p)) (Jgz G root (VO p a1 c1 a2 c2) p (⟨a1,c1,a2,c2,rfl,w1,hs1,hs2⟩)) (Jb [0] [(7,I (Zc root p))] (Je (Jc (Jg [0,0] [(12,Bo (!decide (Zc root p=0)))] (Jm (!decide (Zc root p=0)) (fun h1=>?_) (fun h1=>?_))))))))))))))))
 refine Jg [0,0,0,0] [(4,Sr ([])),(5,Bo false),(6,I (Zc root p))] (Jn (Jj ?_))
 have hf1:ZE root p=([],false,Zc root p):=by
  unfold ZE;(rw [if_pos ‹_›];done)
 refine Jo [0,0,0] [Sr ([]),Bo false,I (Zc root p)] (JD [] (Jh _) ?_)
 rw [hf1]
 try dsimp only
 exact ⟨rfl,(Hb rfl),rfl⟩
 refine Jq (Jc (Jf (Jd (Jb [0,2,0,2] [(15,Sl a1 p.entries.length c1),(17,Sr p.name)] (JM 18 (JiQ G a1 c1 p.entries hs1 p.name w1) (fun v G1 L1 hl1 hp=>?_))))))
 obtain ⟨rfl,w2,rfl⟩:=hp
 refine Jb [0,0,0,0,0,0] [(4,Sr ((Jby p).1)),(5,Bo ((Jby p).2.1)),(6,I ((Jby p).2.2))] (Je (Jc (Jn ?_)))
 have hf2:ZE root p=((Jby p).1,(Jby p).2.1,(Jby p).2.2):=by
  unfold ZE;(rw [if_neg (by simp_all)];done)
 refine Jo [0,0,0] [Sr ((Jby p).1),Bo ((Jby p).2.1),I ((Jby p).2.2)] (JD [] hl1 ?_)
 rw [hf2]
 try dsimp only
 exact ⟨rfl,w2,rfl⟩
abbrev Jbz (r:Q5):=ZE r.head.root r.proof
theorem JcA (G:J4) (vs_r:Bv) (r:Q5) (h_r:JjZ.R G vs_r r) :YL 24 #[.agg vs_r.toArray] G [] (fun u G' L'=>u=.tuple #[Sr ((JG r).1),Bo ((JG r).2.1),I ((JG r).2.2)]∧(((JG r).1).length≤140737488351232)∧L'=[]):=by
 obtain ⟨a1,c1,a2,c2,rfl,_,_,_,_,w5,hs1,hs2⟩:=h_r
 refine JQ Tryz.func24 21 [(0,(WU r a1 c1 a2 c2))] rfl (fun w0 G0=>?_)
 refine Jf (Jd (Jv 1 #[I r.head.epoch,U r.head.root,U r.head.prev,I r.head.at_,Sr r.proof.name,Sl a1 r.proof.entries.length c1,Sl a2 r.proof.sides.length c2] 49 (fun b1=>Jb [0,0,0] [] (Je (Jc (Jf (Jf (Jd (Jb [0,2] [(7,.agg #[I r.head.epoch,U r.head.root,U r.head.prev,I r.head.at_])] (Jl 8 (I (JK r.head)) (Z5 r.head G) (Jb [0] [(5,I (JK r.head))] (Je (Jc (Jg [0,0] [(10,Bo (!decide (JK r.head=0)))] (Jm (!decide (JK r.head=0)) (fun h1=>?_) (fun h1=>?_))))))))))))))))
 refine Jg [0,0,0,0] [(2,Sr ([])),(3,Bo false),(4,I (JK r.head))] (Jn (Jj ?_))
 have hf1:JG r=([],false,JK r.head):=by
  unfold JG;(rw [if_pos ‹_›];done)
 refine Jo [0,0,0] [Sr ([]),Bo false,I (JK r.head)] (JD [] (Jh _) ?_)
 rw [hf1]
 try dsimp only
 exact ⟨rfl,(Hb rfl),rfl⟩
 refine Jq (Jc (Jf (Jd (Jb [0,0,2,0,2] [(14,U r.head.root),(16,(V6 r.proof a1 c1 a2 c2))] (JM 17 (JgA G r.head.root (VO r.proof a1 c1 a2 c2) r.proof (⟨a1,c1,a2,c2,rfl,w5,hs1,hs2⟩)) (fun v G1 L1 hl1 hp=>?_))))))
 obtain ⟨rfl,w6,rfl⟩:=hp
 refine Jb [0,0,0,0,0,0] [(2,Sr ((Jbz r).1)),(3,Bo ((Jbz r).2.1)),(4,I ((Jbz r).2.2))] (Je (Jc (Jn ?_)))
 have hf2:JG r=((Jbz r).1,(Jbz r).2.1,(Jbz r).2.2):=by
  unfold JG;(rw [if_neg (by simp_all)];done)
 refine Jo [0,0,0] [Sr ((Jbz r).1),Bo ((Jbz r).2.1),I ((Jbz r).2.2)] (JD [] hl1 ?_)
 rw [hf2]
 try dsimp only
 exact ⟨rfl,w6,rfl⟩
theorem Jdz (G:J4) (vs_x:Bv) (x:JU) (h_x:KN.R G vs_x x) (vs_h:Bv) (h:JU) (h_h:KN.R G vs_h h) (b_h:Nat) (hz_h:∀ j v,(vs_h:Bv)[j]? = some v→G b_h (0+j)=some v) :Q3 123 #[.agg vs_x.toArray,Pt b_h 0] G (Bo (Yj x h)):=by
 obtain ⟨rfl,_,_,_,_⟩:=h_x
 obtain ⟨rfl,_,_,_,_⟩:=h_h
 refine JQ Tryz.func123 14 [(0,.agg #[I x.epoch,U x.root,U x.prev,I x.at_]),(1,Pt b_h 0)] rfl (fun w0 G0=>?_)
 refine Jf (Jd (Jv 2 #[I x.epoch,U x.root,U x.prev,I x.at_] 43 (fun b1=>Jb [0] [] (Je (Jc (Jf (Jd (Jb [0,2,0] [(5,I x.epoch),(6,Pt b_h 0)] (JO (o':=0) 7 2 (cs:=[I h.epoch,U h.root,U h.prev,I h.at_]) 0 (I h.epoch) hz_h (Jb [0,0] [(9,Bo (decide (x.epoch=h.epoch)))] (QU [9] (decide (x.epoch=h.epoch)) (fun h1=>?_) (fun h1=>?_))))))))))))
 refine Jb [2] [(10,.agg #[I x.epoch,U x.root,U x.prev,I x.at_])] (JO (o':=0) 11 43 (cs:=[I h.epoch,U h.root,U h.prev,I h.at_]) 0 (.agg #[I h.epoch,U h.root,U h.prev,I h.at_]) hz_h (Jda 12 (Bo (!(decide (x.epoch=h.epoch) && (decide (x.root=h.root) && (decide (x.prev=h.prev) && (decide (x.at_=h.at_) && true)))))) (Bo (!(decide (x.epoch=h.epoch) && decide (x.root=h.root) && decide (x.prev=h.prev) && decide (x.at_=h.at_)))) (by simp [QY,HN]) (Jb [0,0] [(3,Bo (!(decide (x.epoch=h.epoch) && decide (x.root=h.root) && decide (x.prev=h.prev) && decide (x.at_=h.at_))))] (Je (Jc (Jn (Jo [0] [Bo (!(decide (x.epoch=h.epoch) && decide (x.root=h.root) && decide (x.prev=h.prev) && decide (x.at_=h.at_)))] (Jx (Jh _) (congrArg Bo (?_:(Yj x h)=(!(decide (x.epoch=h.epoch) && decide (x.root=h.root) && decide (x.prev=h.prev) && decide (x.at_=h.at_)))).symm)))))))))
 unfold Yj;rw [HE];simp [JbR];grind
 refine Jb [1,1,1,0,0] [(3,Bo false)] (Je (Jc (Jn (Jo [0] [Bo false] (Jx (Jh _) (congrArg Bo (?_:(Yj x h)=false).symm))))))
 unfold Yj;rw [HE];simp [JbR];grind
set_option maxRecDepth 20000 in
theorem JfR (G:J4) (vs_h:Bv) (h:JU) (h_h:KN.R G vs_h h) (a_l:Ba) (c_l:Nat) (l:List JU) (h_l:RS KN G a_l c_l l) (hh:JK h=0):Q3 71 #[.agg vs_h.toArray,Sl a_l l.length c_l] G (I (K2 h l)):=by
 obtain ⟨rfl,w1,w2,w3,w4⟩:=h_h
 refine JQ Tryz.func71 55 [(0,.agg #[I h.epoch,U h.root,U h.prev,I h.at_]),(1,Sl a_l l.length c_l)] rfl (fun w0 G0=>?_)
 refine Jf (Jd (Jv 2 #[I h.epoch,U h.root,U h.prev,I h.at_] 43 (fun b1=>Jb [0] [] (Je (Jc (Jf (Jf (Jd (Jb [0] [(10,Sl a_l l.length c_l)] (Jl 11 (.tuple #[I ((Ki l).1),I ((Ki l).2)]) (JaE G a_l c_l l h_l) (Jb [0,0,0,0,0] [(5,I ((Ki l).1))] (Je (Jc (Jf ?_))))))))))))))
 rcases Hq (!decide ((Ki l).1=0)) with h1 | h1
 have h1d:=h1
 try simp only [BB] at h1d
 refine Kv [] (Ws [(0,I ((Ki l).1)),(1,Bo true),(2,Bo true),(3,undef),(4,undef),(5,undef),(6,undef),(7,undef),(8,undef),(9,undef),(10,undef),(11,Bo true)] (Ko [] [(0,0),(2,0),(3,1),(4,1),(5,1),(6,1),(7,1),(8,1),(9,1),(10,1),(11,0)] [1] [(1,Sl a_l l.length c_l),(2,Pt b1 0),(25,Bo true)] (Kf ?_ KY) ?_))
 refine Jr 1 15 (Bo true) [(14,I ((Ki l).1))] (fun X=>?_)
 exact Qa 15 (Bo (!decide ((Ki l).1=0))) (Bo true) (by rw [h1]) Jp
 refine Jc (J0 (Jg [0] [(4,I 2)] (Jn (Jj (Jo [0] [I 2] (Jx (Jh _) (congrArg I (?_:(K2 h l)=2).symm)))))))
 exact Ji4 (x:=Zy) (.inl ‹_›)
 have h1d:=h1
 try simp only [BB] at h1d
 obtain ⟨b2,o1,rfl⟩:=RS.addr h_l (k:=0) (by (have q_:=(K8.1 ‹_›);have q1_:=q_.len1;have q2_:=q_.len;omega))
 obtain ⟨x1,hx1⟩:=QQ (l:=l) (k:=0) (by (have q_:=(K8.1 ‹_›);have q1_:=q_.len1;have q2_:=q_.len;omega))
 obtain ⟨_,⟨rfl,_,_,_,_⟩,hc1⟩:=RS.get h_l hx1
 have e1:Ha.wrap (h.epoch+1)=h.epoch+1:=Hh _ (by (have q0_:=Zi hh;omega))
 refine Kv [] (Ws [(0,I ((Ki l).1)),(1,Bo false),(2,Bo false),(3,Sl (At b2 o1) l.length c_l),(4,Pt b2 (o1+0*4)),(5,Pt b2 (o1+0*4)),(6,I x1.epoch),(7,Pt b1 0),(8,I h.epoch),(9,I (h.epoch+1)),(10,Bo (decide (x1.epoch > h.epoch+1))),(11,Bo (decide (x1.epoch > h.epoch+1)))] (Ko [] [(0,0),(2,0),(3,0),(5,0),(7,0),(8,2),(10,0),(11,0)] [1,4,6,9] [(1,Sl (At b2 o1) l.length c_l),(2,Pt b1 0),(25,Bo (decide (x1.epoch > h.epoch+1)))] (Kf ?_ (Kf ?_ (Kf ?_ (Kf ?_ KY)))) ?_))
 refine Jr 1 15 (Bo false) [(14,I ((Ki l).1))] (fun X=>?_)
 exact Qa 15 (Bo (!decide ((Ki l).1=0))) (Bo false) (by rw [h1]) Jp
 refine Jr 4 18 (Pt b2 (o1+0*4)) [(16,Bo false),(17,Sl (At b2 o1) l.length c_l)] (fun X=>?_)
 exact JW (b:=b2) (off:=o1) (len:=l.length) (cap:=c_l) (ik:=.i64) 18 43 4 0 (by (have q_:=(K8.1 ‹_›);have q1_:=q_.len1;have q2_:=q_.len;omega)) Jp
 refine Jr 6 20 (I x1.epoch) [(16,Bo false),(19,Pt b2 (o1+0*4))] (fun X=>?_)
 exact JO 20 2 (cs:=[I x1.epoch,U x1.root,U x1.prev,I x1.at_]) 0 (I x1.epoch) hc1 Jp
 refine Jr 9 23 (I (h.epoch+1)) [(16,Bo false),(22,I h.epoch)] (fun X=>?_)
 exact Qa 23 (I (Ha.wrap (h.epoch+1))) (I (h.epoch+1)) (by simp only [e1]) Jp
 refine Jc (Jm (decide (x1.epoch > h.epoch+1)) (fun h2=>?_) (fun h2=>?_))
 refine Jg [0] [(4,I 2)] (Jn (Jj (Jo [0] [I 2] (Jx (Jh _) (congrArg I (?_:(K2 h l)=2).symm)))))
 exact Ji4 (.inr ⟨hx1,by assumption⟩)
 refine Jq (Jc (Jf (Jf ?_)))
 have e2:Ha.wrap (h.epoch+1)=h.epoch+1:=Hh _ (by (have q0_:=Zi hh;omega))
 refine Kv [] (Ws [(0,Sl (At b2 o1) l.length c_l),(1,Pt b2 (o1+0*4)),(2,Pt b2 (o1+0*4)),(3,I x1.epoch),(4,Pt b1 0),(5,I h.epoch),(6,I (h.epoch+1)),(7,Bo (decide (x1.epoch=h.epoch+1)))] (Ko [] [(0,0),(2,0),(4,0),(5,2),(7,0)] [1,3,6] [(1,Sl (At b2 o1) l.length c_l),(2,Pt b1 0),(33,Bo (decide (x1.epoch=h.epoch+1)))] (Kf ?_ (Kf ?_ (Kf ?_ KY))) ?_))
 refine Jr 1 27 (Pt b2 (o1+0*4)) [(26,Sl (At b2 o1) l.length c_l)] (fun X=>?_)
 exact JW (b:=b2) (off:=o1) (len:=l.length) (cap:=c_l) (ik:=.i64) 27 43 4 0 (by (have q_:=(K8.1 ‹_›);have q1_:=q_.len1;have q2_:=q_.len;omega)) Jp
 refine Jr 3 29 (I x1.epoch) [(28,Pt b2 (o1+0*4))] (fun X=>?_)
 exact JO 29 2 (cs:=[I x1.epoch,U x1.root,U x1.prev,I x1.at_]) 0 (I x1.epoch) hc1 Jp
 refine Jr 6 32 (I (h.epoch+1)) [(31,I h.epoch)] (fun X=>?_)
 exact Qa 32 (I (Ha.wrap (h.epoch+1))) (I (h.epoch+1)) (by simp only [e2]) Jp
 refine Jc (Jm (decide (x1.epoch=h.epoch+1)) (fun h3=>?_) (fun h3=>?_))
 refine Jf (Jd (Jb [2,0] [(35,.agg #[I h.epoch,U h.root,U h.prev,I h.at_]),(36,Sl (At b2 o1) l.length c_l)] (Jl 37 (.tuple #[Bo ((QT h l).1),I ((QT h l).2)]) (Jed G [I h.epoch,U h.root,U h.prev,I h.at_] h (⟨rfl,w1,w2,w3,w4⟩) (At b2 o1) c_l l h_l) (Jb [0,0,0,0,0] [(7,Bo ((QT h l).1))] (Je (Jc (Jg [0,0] [(41,Bo (!((QT h l).1)))] (Jm (!((QT h l).1)) (fun h4=>?_) (fun h4=>?_)))))))))
 refine Jg [0] [(4,I 2)] (Jn (Jj (Jo [0] [I 2] (Jx (Jh _) (congrArg I (?_:(K2 h l)=2).symm)))))
 exact Joj ‹_› hx1 ‹_› ‹_› ‹_›
 refine Jq (Jc (Jf (Jf (Jd (Jb [0,0] [(42,Sl (At b2 o1) l.length c_l),(43,Fv 123 #[Pt b1 0])] (QK (b:=b1) (o:=0) (cs:=[I h.epoch,U h.root,U h.prev,I h.at_]) 0 (fun G1 hl1 hz1=>Jl 44 (Bo (l.any (fun x0=>Yj x0 h))) (JfD G1 (At b2 o1) c_l l (h_l.mono hl1) 123 #[Pt b1 0] (fun x0=>Yj x0 h) (fun _ _=>by kernel_rfl) (fun vs0 x0 hx0=>by obtain ⟨rfl,w9,w10,w11,w12⟩:=hx0;exact Jdz G1 [I x0.epoch,U x0.root,U x0.prev,I x0.at_] x0 (⟨rfl,w9,w10,w11,w12⟩) [I h.epoch,U h.root,U h.prev,I h.at_] h (⟨rfl,w1,w2,w3,w4⟩) b1 hz1)) (Je (Jc (Jm (l.any (fun x0=>Yj x0 h)) (fun h5=>?_) (fun h5=>?_)))))))))))
 refine Jg [0] [(4,I 3)] (Jn (Jj (Jo [0] [I 3] (Jx hl1 (congrArg I (?_:(K2 h l)=3).symm)))))
 · (rw [Jbf ‹_› hx1 ‹_› (by exact .inr ‹_›)];(rw [if_pos ‹_›];done))
 refine Jq (Jc (Jf (Jf ?_)))
 have e3:Ha.wrap ((l.length:Int)-1)=((l.length-1:Nat):Int):=(Hh _ (by (have q_:=(K8.1 ‹_›);have q1_:=q_.len1;have q2_:=q_.len;omega))).trans (show (l.length:Int)-1=((l.length-1:Nat):Int) by (have q_:=(K8.1 ‹_›);have q1_:=q_.len1;have q2_:=q_.len;omega))
 obtain ⟨x2,hx2⟩:=QQ (l:=l) (k:=l.length-1) (by (have q_:=(K8.1 ‹_›);have q1_:=q_.len1;have q2_:=q_.len;omega))
 obtain ⟨_,⟨rfl,_,_,_,_⟩,hc2⟩:=RS.get (h_l.mono hl1) hx2
 refine Kv [] (Ws [(0,Sl (At b2 o1) l.length c_l),(1,Sl (At b2 o1) l.length c_l),(2,I (l.length:Int)),(3,I ((l.length-1:Nat):Int)),(4,Pt b2 (o1+(l.length-1)*4)),(5,Pt b2 (o1+(l.length-1)*4)),(6,I x2.epoch),(7,Pt b1 0),(8,I h.epoch),(9,Bo (decide (x2.epoch≤h.epoch)))] (Ko [] [(0,0),(1,0),(2,0),(5,0),(7,0),(9,0)] [3,4,6,8] [(54,Bo (decide (x2.epoch≤h.epoch)))] (Kf ?_ (Kf ?_ (Kf ?_ (Kf ?_ KY)))) ?_))
 refine Jr 3 48 (I ((l.length-1:Nat):Int)) [(47,I (l.length:Int))] (fun X=>?_)
 exact Qa 48 (I (Ha.wrap ((l.length:Int)-1))) (I ((l.length-1:Nat):Int)) (by simp only [e3]) Jp
 refine Jr 4 49 (Pt b2 (o1+(l.length-1)*4)) [(45,Sl (At b2 o1) l.length c_l),(48,I ((l.length-1:Nat):Int))] (fun X=>?_)
 exact JW (b:=b2) (off:=o1) (len:=l.length) (cap:=c_l) (ik:=.i64) 49 43 4 (l.length-1) (by (have q_:=(K8.1 ‹_›);have q1_:=q_.len1;have q2_:=q_.len;omega)) Jp
 refine Jr 6 51 (I x2.epoch) [(50,Pt b2 (o1+(l.length-1)*4))] (fun X=>?_)
 exact JO 51 2 (cs:=[I x2.epoch,U x2.root,U x2.prev,I x2.at_]) 0 (I x2.epoch) hc2 Jp
 refine Jr 8 53 (I h.epoch) [(52,Pt b1 0)] (fun X=>?_)
 exact JO (o':=0) 53 2 (cs:=[I h.epoch,U h.root,U h.prev,I h.at_]) 0 (I h.epoch) hz1 Jp
 refine Jc (Jm (decide (x2.epoch≤h.epoch)) (fun h6=>?_) (fun h6=>?_))
 refine Jg [0] [(4,I 1)] (Jn (Jj (Jo [0] [I 1] (Jx hl1 (congrArg I (?_:(K2 h l)=1).symm)))))
 · (rw [Jbf ‹_› hx1 ‹_› (by exact .inr ‹_›)];(have el_:=Ww (l:=l) (k:=l.length-1) rfl ‹_›;subst el_;rw [if_neg (by simp_all)];(rw [if_pos ‹_›];done)))
 refine Jq (Jc (Jg [0] [(4,I 0)] (Jn (Jo [0] [I 0] (Jx hl1 (congrArg I (?_:(K2 h l)=0).symm))))))
 · (rw [Jbf ‹_› hx1 ‹_› (by exact .inr ‹_›)];(have el_:=Ww (l:=l) (k:=l.length-1) rfl ‹_›;subst el_;rw [if_neg (by simp_all)];(rw [if_neg (by omega)];done)))
 refine Jq (Jc (Jf (Jf (Jd (Jb [0,0] [(42,Sl (At b2 o1) l.length c_l),(43,Fv 123 #[Pt b1 0])] (QK (b:=b1) (o:=0) (cs:=[I h.epoch,U h.root,U h.prev,I h.at_]) 0 (fun G2 hl2 hz2=>Jl 44 (Bo (l.any (fun x0=>Yj x0 h))) (JfD G2 (At b2 o1) c_l l (h_l.mono hl2) 123 #[Pt b1 0] (fun x0=>Yj x0 h) (fun _ _=>by kernel_rfl) (fun vs0 x0 hx0=>by obtain ⟨rfl,w17,w18,w19,w20⟩:=hx0;exact Jdz G2 [I x0.epoch,U x0.root,U x0.prev,I x0.at_] x0 (⟨rfl,w17,w18,w19,w20⟩) [I h.epoch,U h.root,U h.prev,I h.at_] h (⟨rfl,w1,w2,w3,w4⟩) b1 hz2)) (Je (Jc (Jm (l.any (fun x0=>Yj x0 h)) (fun h7=>?_) (fun h7=>?_)))))))))))
 refine Jg [0] [(4,I 3)] (Jn (Jj (Jo [0] [I 3] (Jx hl2 (congrArg I (?_:(K2 h l)=3).symm)))))
 · (rw [Jbf ‹_› hx1 ‹_› (by exact .inl ‹_›)];(rw [if_pos ‹_›];done))
 refine Jq (Jc (Jf (Jf ?_)))
 have e4:Ha.wrap ((l.length:Int)-1)=((l.length-1:Nat):Int):=(Hh _ (by (have q_:=(K8.1 ‹_›);have q1_:=q_.len1;have q2_:=q_.len;omega))).trans (show (l.length:Int)-1=((l.length-1:Nat):Int) by (have q_:=(K8.1 ‹_›);have q1_:=q_.len1;have q2_:=q_.len;omega))
 obtain ⟨x3,hx3⟩:=QQ (l:=l) (k:=l.length-1) (by (have q_:=(K8.1 ‹_›);have q1_:=q_.len1;have q2_:=q_.len;omega))
 obtain ⟨_,⟨rfl,_,_,_,_⟩,hc3⟩:=RS.get (h_l.mono hl2) hx3
 refine Kv [] (Ws [(0,Sl (At b2 o1) l.length c_l),(1,Sl (At b2 o1) l.length c_l),(2,I (l.length:Int)),(3,I ((l.length-1:Nat):Int)),(4,Pt b2 (o1+(l.length-1)*4)),(5,Pt b2 (o1+(l.length-1)*4)),(6,I x3.epoch),(7,Pt b1 0),(8,I h.epoch),(9,Bo (decide (x3.epoch≤h.epoch)))] (Ko [] [(0,0),(1,0),(2,0),(5,0),(7,0),(9,0)] [3,4,6,8] [(54,Bo (decide (x3.epoch≤h.epoch)))] (Kf ?_ (Kf ?_ (Kf ?_ (Kf ?_ KY)))) ?_))
 refine Jr 3 48 (I ((l.length-1:Nat):Int)) [(47,I (l.length:Int))] (fun X=>?_)
 exact Qa 48 (I (Ha.wrap ((l.length:Int)-1))) (I ((l.length-1:Nat):Int)) (by simp only [e4]) Jp
 refine Jr 4 49 (Pt b2 (o1+(l.length-1)*4)) [(45,Sl (At b2 o1) l.length c_l),(48,I ((l.length-1:Nat):Int))] (fun X=>?_)
 exact JW (b:=b2) (off:=o1) (len:=l.length) (cap:=c_l) (ik:=.i64) 49 43 4 (l.length-1) (by (have q_:=(K8.1 ‹_›);have q1_:=q_.len1;have q2_:=q_.len;omega)) Jp
 refine Jr 6 51 (I x3.epoch) [(50,Pt b2 (o1+(l.length-1)*4))] (fun X=>?_)
 exact JO 51 2 (cs:=[I x3.epoch,U x3.root,U x3.prev,I x3.at_]) 0 (I x3.epoch) hc3 Jp
 refine Jr 8 53 (I h.epoch) [(52,Pt b1 0)] (fun X=>?_)
 exact JO (o':=0) 53 2 (cs:=[I h.epoch,U h.root,U h.prev,I h.at_]) 0 (I h.epoch) hz2 Jp
 refine Jc (Jm (decide (x3.epoch≤h.epoch)) (fun h8=>?_) (fun h8=>?_))
 refine Jg [0] [(4,I 1)] (Jn (Jj (Jo [0] [I 1] (Jx hl2 (congrArg I (?_:(K2 h l)=1).symm)))))
 · (rw [Jbf ‹_› hx1 ‹_› (by exact .inl ‹_›)];(have el_:=Ww (l:=l) (k:=l.length-1) rfl ‹_›;subst el_;rw [if_neg (by simp_all)];(rw [if_pos ‹_›];done)))
 refine Jq (Jc (Jg [0] [(4,I 0)] (Jn (Jo [0] [I 0] (Jx hl2 (congrArg I (?_:(K2 h l)=0).symm))))))
 · (rw [Jbf ‹_› hx1 ‹_› (by exact .inl ‹_›)];(have el_:=Ww (l:=l) (k:=l.length-1) rfl ‹_›;subst el_;rw [if_neg (by simp_all)];(rw [if_neg (by omega)];done)))
theorem Ji7 (G:J4) (vs_o:Bv) (o:Qn) (h_o:Q9.R G vs_o o) :YL 39 #[.agg vs_o.toArray] G [] (fun u G' L'=>∃ (a1:Ba) (c2:Nat),u=.agg #[Sr o.name,U o.key,I o.head.epoch,U o.head.root,U o.head.prev,I o.head.at_,Sl a1 o.wanted.length c2,I o.had]∧((o.name).length≤140737488351232)∧(rU o.key)∧(rI o.head.epoch)∧(rU o.head.root)∧(rU o.head.prev)∧(rI o.head.at_)∧(RS ES G' a1 c2 o.wanted)∧(rI o.had)∧L'=[]):=by
 obtain ⟨a1,c1,rfl,w1,w2,w3,w4,w5,w6,hs1,w7⟩:=h_o
 refine JQ Tryz.func39 8 [(0,(KC o a1 c1))] rfl (fun w0 G0=>?_)
 refine Jf (Jd (Jv 1 #[Sr o.name,U o.key,I o.head.epoch,U o.head.root,U o.head.prev,I o.head.at_,Sl a1 o.wanted.length c1,I o.had] 76 (fun b1=>Jv 2 #[Sr ([]),U 0,I 0,U 0,U 0,I 0,Sl none 0 0,I 0] 76 (fun b2=>Je (Jc (Jf (Jd (Jb [0,4] [(4,Sl a1 o.wanted.length c1)] (JM 5 (Jch G a1 c1 o.wanted hs1) (fun v G1 L1 hl1 hp=>?_))))))))))
 obtain ⟨a2,c2,r1,rfl,hr1,rfl⟩:=hp
 refine JT [0,7] [] [r1,[Sg b2 0 [Sr ([]),U 0,I 0,U 0,U 0,I 0,Sl none 0 0,I 0]],[Sg b1 0 (KU o a2 c2)]] (Je (Jc (QB [6,5] [] [r1,[Sg b2 0 (KU o a2 c2)],[Sg b1 0 (KU o a2 c2)]] (Jn (Wv (E:=ES) 0 hr1 (by exact (hs1).fit) (fun G2 hl2 hs2=>?_))))))
 have hf1:o=o:=by
  rfl
 refine Jo [1] [(KC o a2 c2)] (JD [] (Ja hl1 hl2) ?_)
 rw [hf1]
 try dsimp only
 exact ⟨a2,c2,rfl,w1,w2,w3,w4,w5,w6,hs2,w7,rfl⟩
set_option maxRecDepth 20000 in
theorem Jee (G:J4) (vs_o:Bv) (o:Qn) (h_o:Q9.R G vs_o o) (a_l:Ba) (c_l:Nat) (l:List JU) (h_l:RS KN G a_l c_l l) (vs_r:Bv) (r:Q5) (h_r:JjZ.R G vs_r r) (ho:Kg o=0):Q3 40 #[.agg vs_o.toArray,Sl a_l l.length c_l,.agg vs_r.toArray] G (.tuple #[I ((JZ o l r).1),I ((JZ o l r).2)]):=by
 obtain ⟨a1,c1,rfl,_,_,w3,w4,w5,w6,hs1,_⟩:=h_o
 obtain ⟨a2,c2,a3,c3,rfl,w8,w9,w10,w11,w12,hs2,hs3⟩:=h_r
 refine JQ Tryz.func40 76 [(0,(KC o a1 c1)),(1,Sl a_l l.length c_l),(2,(WU r a2 c2 a3 c3))] rfl (fun w0 G0=>?_)
 refine Jf (Jd (Jv 3 #[Sr o.name,U o.key,I o.head.epoch,U o.head.root,U o.head.prev,I o.head.at_,Sl a1 o.wanted.length c1,I o.had] 76 (fun b1=>Jv 5 #[I r.head.epoch,U r.head.root,U r.head.prev,I r.head.at_,Sr r.proof.name,Sl a2 r.proof.entries.length c2,Sl a3 r.proof.sides.length c3] 49 (fun b2=>Jb [0,0] [] (Je (Jc (Jf (Jf (Jd (Jb [0,4,0] [(15,.agg #[I o.head.epoch,U o.head.root,U o.head.prev,I o.head.at_]),(16,Sl a_l l.length c_l)] (Jl 17 (I (K2 o.head l)) (JfR G [I o.head.epoch,U o.head.root,U o.head.prev,I o.head.at_] o.head (⟨rfl,w3,w4,w5,w6⟩) a_l c_l l h_l (K9.1 ho).2.1) (Jb [0] [(8,I (K2 o.head l))] (Je (Jc (Jg [0,0] [(19,Bo (!decide (K2 o.head l=0)))] (Jm (!decide (K2 o.head l=0)) (fun h1=>?_) (fun h1=>?_)))))))))))))))))
 refine Jg [0,0,0] [(6,I (K2 o.head l)),(7,I 0)] (Jn (Jj (Jo [0,0] [I (K2 o.head l),I 0] (Jx (Jh _) ?_))))
 have hf_:(JZ o l r)=((K2 o.head l),0):=by
  (unfold JZ;rw [if_pos ‹_›];done)
 · (try rw [hf_]);(simp only [Qy];done)
 refine Jq (Jc (Jf (Jd (Jb [2] [(22,(WU r a2 c2 a3 c3))] (JM 23 (JcA G (ZI r a2 c2 a3 c3) r (⟨a2,c2,a3,c3,rfl,w8,w9,w10,w11,w12,hs2,hs3⟩)) (fun v G1 L1 hl1 hp=>?_))))))
 obtain ⟨rfl,_,rfl⟩:=hp
 refine Jb [0,0,0,0,0,0,0] [(9,Sr ((JG r).1)),(10,Bo ((JG r).2.1)),(11,I ((JG r).2.2))] (Je (Jc (Jf (Jy (Jf ?_)))))
 rcases Hq (!decide ((JG r).2.2=0)) with h2 | h2
 have h2d:=h2
 try simp only [BB] at h2d
 refine Kv [] (Ws [(0,I ((JG r).2.2)),(1,Bo true),(2,Bo true),(3,undef),(4,undef),(5,undef),(6,undef),(7,undef),(8,undef),(9,undef),(10,undef),(11,undef),(12,Bo true),(13,Bo true),(14,undef),(15,undef),(16,undef),(17,undef),(18,undef),(19,undef),(20,Bo true),(21,Bo true)] (Ko [] [(0,0),(2,0),(3,1),(4,1),(5,1),(6,1),(7,1),(8,1),(9,1),(10,1),(11,1),(12,0),(13,0),(14,1),(15,1),(16,1),(17,1),(18,1),(19,1),(20,0),(21,0)] [1] [(3,Pt b1 0),(9,Sr ((JG r).1)),(10,Bo ((JG r).2.1)),(27,Bo true)] (Kf ?_ KY) ?_))
 refine Jr 1 29 (Bo true) [(28,I ((JG r).2.2))] (fun X=>?_)
 exact Qa 29 (Bo (!decide ((JG r).2.2=0))) (Bo true) (by rw [h2]) Jp
 refine Jc (J0 (Jg [0,0] [(6,I 4),(7,I 0)] (Jn (Ju (Jj (Jo [0,0] [I 4,I 0] (Jx hl1 ?_)))))))
 have hf_:(JZ o l r)=(4,0):=by
  exact JhV ‹_› (.inl (.inl ‹_›))
 · (try rw [hf_]);(simp only [Qy];done)
 have h2d:=h2
 try simp only [BB] at h2d
 have e1:Ha.wrap ((l.length:Int)-1)=((l.length-1:Nat):Int):=(Hh _ (by (have q_:=(YT ‹_›).1;have q1_:=q_.len1;have q2_:=q_.len;omega))).trans (show (l.length:Int)-1=((l.length-1:Nat):Int) by (have q_:=(YT ‹_›).1;have q1_:=q_.len1;have q2_:=q_.len;omega))
 obtain ⟨b3,o1,rfl⟩:=RS.addr (h_l.mono hl1) (k:=l.length-1) (by (have q_:=(YT ‹_›).1;have q1_:=q_.len1;have q2_:=q_.len;omega))
 obtain ⟨x1,hx1⟩:=QQ (l:=l) (k:=l.length-1) (by (have q_:=(YT ‹_›).1;have q1_:=q_.len1;have q2_:=q_.len;omega))
 obtain ⟨_,⟨rfl,_,_,_,_⟩,hc1⟩:=RS.get (h_l.mono hl1) hx1
 rcases Hq (!(decide (r.head.epoch=x1.epoch) && decide (r.head.root=x1.root) && decide (r.head.prev=x1.prev) && decide (r.head.at_=x1.at_))) with h3 | h3
 have h3d:=h3
 try simp only [BB] at h3d
 have e2:Ha.wrap ((l.length:Int)-1)=((l.length-1:Nat):Int):=(Hh _ (by (have q_:=(YT ‹_›).1;have q1_:=q_.len1;have q2_:=q_.len;omega))).trans (show (l.length:Int)-1=((l.length-1:Nat):Int) by (have q_:=(YT ‹_›).1;have q1_:=q_.len1;have q2_:=q_.len;omega))
 refine Kv [] (Ws [(0,I ((JG r).2.2)),(1,Bo false),(2,Bo false),(3,Pt b2 0),(4,.agg #[I r.head.epoch,U r.head.root,U r.head.prev,I r.head.at_]),(5,Sl (At b3 o1) l.length c_l),(6,Sl (At b3 o1) l.length c_l),(7,I (l.length:Int)),(8,I ((l.length-1:Nat):Int)),(9,Pt b3 (o1+(l.length-1)*4)),(10,.agg #[I x1.epoch,U x1.root,U x1.prev,I x1.at_]),(11,Bo (!(decide (r.head.epoch=x1.epoch) && decide (r.head.root=x1.root) && decide (r.head.prev=x1.prev) && decide (r.head.at_=x1.at_)))),(12,Bo true),(13,Bo true),(14,undef),(15,undef),(16,undef),(17,undef),(18,undef),(19,undef),(20,Bo true),(21,Bo true)] (Ko [] [(0,0),(2,0),(3,0),(4,2),(5,0),(6,0),(7,0),(13,0),(14,1),(15,1),(16,1),(17,1),(18,1),(19,1),(20,0),(21,0)] [1,8,9,10,11,12] [(3,Pt b1 0),(9,Sr ((JG r).1)),(10,Bo ((JG r).2.1)),(27,Bo true)] (Kf ?_ (Kf ?_ (Kf ?_ (Kf ?_ (Kf ?_ (Kf ?_ KY)))))) ?_))
 refine Jr 1 29 (Bo false) [(28,I ((JG r).2.2))] (fun X=>?_)
 exact Qa 29 (Bo (!decide ((JG r).2.2=0))) (Bo false) (by rw [h2]) Jp
 refine Jr 8 36 (I ((l.length-1:Nat):Int)) [(30,Bo false),(35,I (l.length:Int))] (fun X=>?_)
 exact Qa 36 (I (Ha.wrap ((l.length:Int)-1))) (I ((l.length-1:Nat):Int)) (by simp only [e2]) Jp
 refine Jr 9 37 (Pt b3 (o1+(l.length-1)*4)) [(30,Bo false),(33,Sl (At b3 o1) l.length c_l),(36,I ((l.length-1:Nat):Int))] (fun X=>?_)
 exact JW (b:=b3) (off:=o1) (len:=l.length) (cap:=c_l) (ik:=.i64) 37 43 4 (l.length-1) (by (have q_:=(YT ‹_›).1;have q1_:=q_.len1;have q2_:=q_.len;omega)) Jp
 refine Jr 10 38 (.agg #[I x1.epoch,U x1.root,U x1.prev,I x1.at_]) [(30,Bo false),(37,Pt b3 (o1+(l.length-1)*4))] (fun X=>?_)
 exact JO 38 43 (cs:=[I x1.epoch,U x1.root,U x1.prev,I x1.at_]) 0 (.agg #[I x1.epoch,U x1.root,U x1.prev,I x1.at_]) hc1 Jp
 refine Jr 11 39 (Bo (!(decide (r.head.epoch=x1.epoch) && decide (r.head.root=x1.root) && decide (r.head.prev=x1.prev) && decide (r.head.at_=x1.at_)))) [(30,Bo false),(32,.agg #[I r.head.epoch,U r.head.root,U r.head.prev,I r.head.at_]),(38,.agg #[I x1.epoch,U x1.root,U x1.prev,I x1.at_])] (fun X=>?_)
 exact Jda 39 (Bo (!(decide (r.head.epoch=x1.epoch) && (decide (r.head.root=x1.root) && (decide (r.head.prev=x1.prev) && (decide (r.head.at_=x1.at_) && true)))))) (Bo (!(decide (r.head.epoch=x1.epoch) && decide (r.head.root=x1.root) && decide (r.head.prev=x1.prev) && decide (r.head.at_=x1.at_)))) (by simp [QY,HN]) Jp
 refine Jr 12 40 (Bo true) [(30,Bo false),(39,Bo (!(decide (r.head.epoch=x1.epoch) && decide (r.head.root=x1.root) && decide (r.head.prev=x1.prev) && decide (r.head.at_=x1.at_))))] (fun X=>?_)
 exact Qa 40 (Bo (!(decide (r.head.epoch=x1.epoch) && decide (r.head.root=x1.root) && decide (r.head.prev=x1.prev) && decide (r.head.at_=x1.at_)))) (Bo true) (by rw [h3]) Jp
 refine Jc (J0 (Jg [0,0] [(6,I 4),(7,I 0)] (Jn (Ju (Jj (Jo [0,0] [I 4,I 0] (Jx hl1 ?_)))))))
 have hf_:(JZ o l r)=(4,0):=by
  exact JhV ‹_› (.inl (.inr ⟨_,hx1,by assumption⟩))
 · (try rw [hf_]);(simp only [Qy];done)
 have h3d:=h3
 try simp only [BB] at h3d
 have e3:Ha.wrap ((l.length:Int)-1)=((l.length-1:Nat):Int):=(Hh _ (by (have q_:=(YT ‹_›).1;have q1_:=q_.len1;have q2_:=q_.len;omega))).trans (show (l.length:Int)-1=((l.length-1:Nat):Int) by (have q_:=(YT ‹_›).1;have q1_:=q_.len1;have q2_:=q_.len;omega))
 refine Kv [] (Ws [(0,I ((JG r).2.2)),(1,Bo false),(2,Bo false),(3,Pt b2 0),(4,.agg #[I r.head.epoch,U r.head.root,U r.head.prev,I r.head.at_]),(5,Sl (At b3 o1) l.length c_l),(6,Sl (At b3 o1) l.length c_l),(7,I (l.length:Int)),(8,I ((l.length-1:Nat):Int)),(9,Pt b3 (o1+(l.length-1)*4)),(10,.agg #[I x1.epoch,U x1.root,U x1.prev,I x1.at_]),(11,Bo (!(decide (r.head.epoch=x1.epoch) && decide (r.head.root=x1.root) && decide (r.head.prev=x1.prev) && decide (r.head.at_=x1.at_)))),(12,Bo false),(13,Bo false),(14,Pt b2 4),(15,Pt b2 4),(16,Sr r.proof.name),(17,Pt b1 0),(18,Sr o.name),(19,Bo (!((B r.proof.name).toList == (B o.name).toList))),(20,Bo (!((B r.proof.name).toList == (B o.name).toList))),(21,Bo (!((B r.proof.name).toList == (B o.name).toList)))] (Ko [] [(0,0),(2,0),(3,0),(4,2),(5,0),(6,0),(7,0),(13,0),(14,0),(15,0),(16,2),(17,0),(18,4),(19,0),(20,0),(21,0)] [1,8,9,10,11,12] [(3,Pt b1 0),(9,Sr ((JG r).1)),(10,Bo ((JG r).2.1)),(27,Bo (!((B r.proof.name).toList == (B o.name).toList)))] (Kf ?_ (Kf ?_ (Kf ?_ (Kf ?_ (Kf ?_ (Kf ?_ KY)))))) ?_))
 refine Jr 1 29 (Bo false) [(28,I ((JG r).2.2))] (fun X=>?_)
 exact Qa 29 (Bo (!decide ((JG r).2.2=0))) (Bo false) (by rw [h2]) Jp
 refine Jr 8 36 (I ((l.length-1:Nat):Int)) [(30,Bo false),(35,I (l.length:Int))] (fun X=>?_)
 exact Qa 36 (I (Ha.wrap ((l.length:Int)-1))) (I ((l.length-1:Nat):Int)) (by simp only [e3]) Jp
 refine Jr 9 37 (Pt b3 (o1+(l.length-1)*4)) [(30,Bo false),(33,Sl (At b3 o1) l.length c_l),(36,I ((l.length-1:Nat):Int))] (fun X=>?_)
 exact JW (b:=b3) (off:=o1) (len:=l.length) (cap:=c_l) (ik:=.i64) 37 43 4 (l.length-1) (by (have q_:=(YT ‹_›).1;have q1_:=q_.len1;have q2_:=q_.len;omega)) Jp
 refine Jr 10 38 (.agg #[I x1.epoch,U x1.root,U x1.prev,I x1.at_]) [(30,Bo false),(37,Pt b3 (o1+(l.length-1)*4))] (fun X=>?_)
 exact JO 38 43 (cs:=[I x1.epoch,U x1.root,U x1.prev,I x1.at_]) 0 (.agg #[I x1.epoch,U x1.root,U x1.prev,I x1.at_]) hc1 Jp
 refine Jr 11 39 (Bo (!(decide (r.head.epoch=x1.epoch) && decide (r.head.root=x1.root) && decide (r.head.prev=x1.prev) && decide (r.head.at_=x1.at_)))) [(30,Bo false),(32,.agg #[I r.head.epoch,U r.head.root,U r.head.prev,I r.head.at_]),(38,.agg #[I x1.epoch,U x1.root,U x1.prev,I x1.at_])] (fun X=>?_)
 exact Jda 39 (Bo (!(decide (r.head.epoch=x1.epoch) && (decide (r.head.root=x1.root) && (decide (r.head.prev=x1.prev) && (decide (r.head.at_=x1.at_) && true)))))) (Bo (!(decide (r.head.epoch=x1.epoch) && decide (r.head.root=x1.root) && decide (r.head.prev=x1.prev) && decide (r.head.at_=x1.at_)))) (by simp [QY,HN]) Jp
 refine Jr 12 40 (Bo false) [(30,Bo false),(39,Bo (!(decide (r.head.epoch=x1.epoch) && decide (r.head.root=x1.root) && decide (r.head.prev=x1.prev) && decide (r.head.at_=x1.at_))))] (fun X=>?_)
 exact Qa 40 (Bo (!(decide (r.head.epoch=x1.epoch) && decide (r.head.root=x1.root) && decide (r.head.prev=x1.prev) && decide (r.head.at_=x1.at_)))) (Bo false) (by rw [h3]) Jp
 refine JdR 27 (Bo (!(r.proof.name == o.name))) (show (Bo (!((B r.proof.name).toList == (B o.name).toList)):Value)=Bo (!(r.proof.name == o.name)) by simp only [QY]) (Jc (Jm (!(r.proof.name == o.name)) (fun h4=>?_) (fun h4=>?_)))
 refine Jg [0,0] [(6,I 4),(7,I 0)] (Jn (Ju (Jj (Jo [0,0] [I 4,I 0] (Jx hl1 ?_)))))
 have hf_:(JZ o l r)=(4,0):=by
  exact JhV ‹_› (.inr ‹_›)
 · (try rw [hf_]);(simp only [Qy];done)
 refine Jf (Jd (Jb [0,0,0] [(52,Bo (!((JG r).2.1)))] (Kr (!((JG r).2.1)) [52] [0,4,0,0] [1,1,1,0] (fun bb=>[(56,Bo (bb && (decide (o.had > 0))))]) (Jb [0] [(49,Bo ((!((JG r).2.1)) && (decide (o.had > 0))))] (Je (Jc (Jm ((!((JG r).2.1)) && (decide (o.had > 0))) (fun h5=>?_) (fun h5=>?_))))))))
 refine Jg [0,0] [(6,I 5),(7,I 0)] (Jn (Ju (Jj (Jo [0,0] [I 5,I 0] (Jx hl1 ?_)))))
 have hf_:(JZ o l r)=(5,0):=by
  (rw [Jff ‹_› ‹_› hx1 ‹_› ‹_›];(rw [if_pos ‹_›];done))
 · (try rw [hf_]);(simp only [Qy];done)
 refine Jg [0,0,0] [(57,Bo (!((JG r).2.1)))] (Jm (!((JG r).2.1)) (fun h6=>?_) (fun h6=>?_))
 refine Jg [0,0] [(6,I 0),(7,I 0)] (Jn (Ju (Jj (Jo [0,0] [I 0,I 0] (Jx hl1 ?_)))))
 have hf_:(JZ o l r)=(0,0):=by
  (rw [Jff ‹_› ‹_› hx1 ‹_› ‹_›];(rw [if_neg (by simp_all)];(rw [if_pos ‹_›];done)))
 · (try rw [hf_]);(simp only [Qy];done)
 refine Jq (JN (Jc (Jg [0,4,0,0,0] [(12,I (if 0 > (Ha.wrap (o.had-1)) then 0 else (Ha.wrap (o.had-1))))] ?_)))
 have e4:Ha.wrap (o.had-1)=o.had-1:=Hh _ (by (have q_:=K9.1 ho;omega))
 refine QW 12 (I (if 0 > (o.had-1) then 0 else (o.had-1))) (show (I (if 0 > (Ha.wrap (o.had-1)) then 0 else (Ha.wrap (o.had-1))):Value)=I (if 0 > (o.had-1) then 0 else (o.had-1)) by simp only [e4]) ?_
 clear e4
 refine Jf (Jd (Jb [0,4,0] [(65,Sl a1 o.wanted.length c1),(66,I (if 0 > (o.had-1) then 0 else (o.had-1)))] ?_))
 obtain ⟨kn1,hkn1⟩:∃ k_:Nat,(if 0 > (o.had-1) then 0 else (o.had-1))=(k_:Int):=⟨(if 0 > (o.had-1) then 0 else (o.had-1)).toNat,by omega⟩
 have e5:(if 0 > (o.had-1) then 0 else (o.had-1))=(kn1:Int):=hkn1
 refine KG 12 (I (kn1:Int)) (congrArg I e5) (KG 66 (I (kn1:Int)) (congrArg I e5) ?_)
 obtain ⟨a4,c4,ea1,ec1,en1,eh1,hs4⟩:=RS.reslXD (hs1.mono hl1) kn1 (by (have q_:=K9.1 ho;omega))
 refine Wx (a:=a1) (len:=o.wanted.length) (cap:=c1) 67 1 (some (I (kn1:Int))) none kn1 o.wanted.length (.inr ⟨_,rfl⟩) (.inl ⟨rfl,rfl⟩) (by (have q_:=K9.1 ho;omega)) ea1 ec1 en1 eh1 (Jb [0] [(68,Sr ((JG r).1))] (Jl 69 (I (QR (fun x=>decide ((JG r).1=x)) (o.wanted.drop kn1))) (Jlg G1 a4 c4 (o.wanted.drop kn1) hs4 ((JG r).1)) (Jb [0] [(13,I (QR (fun x=>decide ((JG r).1=x)) (o.wanted.drop kn1)))] (Je (Jc (Jf (Jg [0,0] [(71,Bo (decide (QR (fun x=>decide ((JG r).1=x)) (o.wanted.drop kn1)<0)))] (Jm (decide (QR (fun x=>decide ((JG r).1=x)) (o.wanted.drop kn1)<0)) (fun h7=>?_) (fun h7=>?_)))))))))
 refine Jg [0,0] [(6,I 6),(7,I 0)] (Jn (Jj (Jo [0,0] [I 6,I 0] (Jx hl1 ?_))))
 have hf_:(JZ o l r)=(6,0):=by
  (rw [Jff ‹_› ‹_› hx1 ‹_› ‹_›];(rw [if_neg (by simp_all)];(rw [if_neg (by simp_all)];obtain ⟨q1_,q2_⟩:=Ji5 (JG r).1 hkn1;rw [q1_,q2_];(rw [if_pos ‹_›];done))))
 · (try rw [hf_]);(simp only [Qy];done)
 refine Jq (Jc (Jg [0,0,0,0,0,0] [(6,I 0),(7,I (Ha.wrap ((Ha.wrap ((kn1:Int)+(QR (fun x=>decide ((JG r).1=x)) (o.wanted.drop kn1))))+1)))] ?_))
 have e6:Ha.wrap ((kn1:Int)+(QR (fun x=>decide ((JG r).1=x)) (o.wanted.drop kn1)))=(kn1:Int)+(QR (fun x=>decide ((JG r).1=x)) (o.wanted.drop kn1)):=Hh _ (by (have q_:=K9.1 ho;have q1_:=Jlr (fun x=>decide ((JG r).1=x)) (o.wanted.drop kn1);rw [Hu] at q1_;omega))
 have e7:Ha.wrap (((kn1:Int)+(QR (fun x=>decide ((JG r).1=x)) (o.wanted.drop kn1)))+1)=((kn1:Int)+(QR (fun x=>decide ((JG r).1=x)) (o.wanted.drop kn1)))+1:=Hh _ (by (have q_:=K9.1 ho;have q1_:=Jlr (fun x=>decide ((JG r).1=x)) (o.wanted.drop kn1);rw [Hu] at q1_;omega))
 refine QW 7 (I (((kn1:Int)+(QR (fun x=>decide ((JG r).1=x)) (o.wanted.drop kn1)))+1)) (show (I (Ha.wrap ((Ha.wrap ((kn1:Int)+(QR (fun x=>decide ((JG r).1=x)) (o.wanted.drop kn1))))+1)):Value)=I (((kn1:Int)+(QR (fun x=>decide ((JG r).1=x)) (o.wanted.drop kn1)))+1) by simp only [e6,e7]) ?_
 clear e7 e6
 refine Jn (Jo [0,0] [I 0,I (((kn1:Int)+(QR (fun x=>decide ((JG r).1=x)) (o.wanted.drop kn1)))+1)] (Jx hl1 ?_))
 have hf_:(JZ o l r)=(0,(((kn1:Int)+(QR (fun x=>decide ((JG r).1=x)) (o.wanted.drop kn1)))+1)):=by
  (rw [Jff ‹_› ‹_› hx1 ‹_› ‹_›];(rw [if_neg (by simp_all)];(rw [if_neg (by simp_all)];obtain ⟨q1_,q2_⟩:=Ji5 (JG r).1 hkn1;rw [q1_,q2_];(rw [if_neg (by omega)];done))))
 · (try rw [hf_]);(simp only [Qy];done)
theorem JdA (G:J4) (vs_o:Bv) (o:Qn) (h_o:Q9.R G vs_o o) (a_l:Ba) (c_l:Nat) (l:List JU) (h_l:RS KN G a_l c_l l) (vs_r:Bv) (r:Q5) (h_r:JjZ.R G vs_r r) :YL 23 #[.agg vs_o.toArray,Sl a_l l.length c_l,.agg vs_r.toArray] G [] (fun u G' L'=>∃ (a1:Ba) (c2:Nat),u=.tuple #[.agg #[Sr (((JC o l r).1).name),U (((JC o l r).1).key),I (((JC o l r).1).head.epoch),U (((JC o l r).1).head.root),U (((JC o l r).1).head.prev),I (((JC o l r).1).head.at_),Sl a1 ((((JC o l r).1).wanted).length) c2,I (((JC o l r).1).had)],I ((JC o l r).2.1),I ((JC o l r).2.2)]∧((((JC o l r).1).name).length≤140737488351232)∧(rU (((JC o l r).1).key))∧(rI (((JC o l r).1).head.epoch))∧(rU (((JC o l r).1).head.root))∧(rU (((JC o l r).1).head.prev))∧(rI (((JC o l r).1).head.at_))∧(RS ES G' a1 c2 (((JC o l r).1).wanted))∧(rI (((JC o l r).1).had))∧L'=[]):=by
 obtain ⟨a1,c1,rfl,w1,w2,w3,w4,w5,w6,hs1,w7⟩:=h_o
 obtain ⟨a2,c2,a3,c3,rfl,w8,w9,w10,w11,w12,hs2,hs3⟩:=h_r
 refine JQ Tryz.func23 36 [(0,(KC o a1 c1)),(1,Sl a_l l.length c_l),(2,(WU r a2 c2 a3 c3))] rfl (fun w0 G0=>?_)
 refine Jf (Jd (Jv 3 #[Sr o.name,U o.key,I o.head.epoch,U o.head.root,U o.head.prev,I o.head.at_,Sl a1 o.wanted.length c1,I o.had] 76 (fun b1=>Jv 5 #[I r.head.epoch,U r.head.root,U r.head.prev,I r.head.at_,Sr r.proof.name,Sl a2 r.proof.entries.length c2,Sl a3 r.proof.sides.length c3] 49 (fun b2=>Jv 6 #[Sr ([]),U 0,I 0,U 0,U 0,I 0,Sl none 0 0,I 0] 76 (fun b3=>Jb [0,0] [] (Je (Jc (Jf (Jf (Jd (Jb [6] [(12,(KC o a1 c1))] (Jl 13 (I (Kg o)) (JaF G (KU o a1 c1) o (⟨a1,c1,rfl,w1,w2,w3,w4,w5,w6,hs1,w7⟩)) (Jb [0] [(9,I (Kg o))] (Je (Jc (Jg [0,0] [(15,Bo (!decide (Kg o=0)))] (Jm (!decide (Kg o=0)) (fun h1=>?_) (fun h1=>?_))))))))))))))))))
 refine Jg [0,0,3,0,0] [(7,I 0),(8,I (Kg o))] (Jn (Jj ?_))
 have hf1:JC o l r=((⟨[],0,(⟨0,0,0,0⟩:JU),[],0⟩:Qn),0,Kg o):=by
  unfold JC VP Zy;simp_all
 refine Jo [0,0,0] [.agg #[Sr ([]),U 0,I 0,U 0,U 0,I 0,Sl none 0 0,I 0],I 0,I (Kg o)] (JD [] (Jh _) ?_)
 rw [hf1]
 try dsimp only
 exact ⟨none,0,rfl,(Hb rfl),Kd,Kd,Kd,Kd,Kd,(J2 ES G),Kd,rfl⟩
 refine Jq (Jc (Jf (Jd (Jb [6] [(18,(KC o a1 c1))] (JM 19 (Ji7 G (KU o a1 c1) o (⟨a1,c1,rfl,w1,w2,w3,w4,w5,w6,hs1,w7⟩)) (fun v G1 L1 hl1 hp=>?_))))))
 obtain ⟨a4,c4,rfl,w13,w14,w15,w16,w17,w18,hs4,w19,rfl⟩:=hp
 refine JT [7] [] [[Sg b3 0 [Sr ([]),U 0,I 0,U 0,U 0,I 0,Sl none 0 0,I 0]],[Sg b2 0 (ZI r a2 c2 a3 c3)],[Sg b1 0 (KU o a4 c4)]] (Je (Jc (Jf (Jd (Jb [6,0,4] [(21,(KC o a4 c4)),(22,Sl a_l l.length c_l),(23,(WU r a2 c2 a3 c3))] (Jl 24 (.tuple #[I ((JZ o l r).1),I ((JZ o l r).2)]) (Jee G1 (KU o a4 c4) o (⟨a4,c4,rfl,w13,w14,w15,w16,w17,w18,hs4,w19⟩) a_l c_l l (h_l.mono hl1) (ZI r a2 c2 a3 c3) r (⟨a2,c2,a3,c3,rfl,w8,w9,w10,w11,w12,(hs2.mono hl1),(hs3.mono hl1)⟩) ‹_›) (Jb [0,0,0,0,0] [(10,I ((JZ o l r).1)),(11,I ((JZ o l r).2))] (Je (Jc (Jf (Jg [0,0] [(28,Bo (decide ((JZ o l r).1=0)))] (Jm (decide ((JZ o l r).1=0)) (fun h2=>?_) (fun h2=>?_)))))))))))))
 refine Jd (JT [0,4,0,0,7,0,7] [] [[Sg b3 0 [Sr ([]),U 0,I 0,U 0,U 0,I 0,Sl none 0 0,I 0]],[Sg b2 0 (ZI r a2 c2 a3 c3)],[Sg b1 0 [Sr o.name,U o.key,I r.head.epoch,U r.head.root,U r.head.prev,I r.head.at_,Sl a4 o.wanted.length c4,I ((JZ o l r).2)]]] (Je (Jc (QB [6,0,3,0,0] [(7,I ((JZ o l r).1)),(8,I 0)] [[Sg b3 0 [Sr o.name,U o.key,I r.head.epoch,U r.head.root,U r.head.prev,I r.head.at_,Sl a4 o.wanted.length c4,I ((JZ o l r).2)]],[Sg b2 0 (ZI r a2 c2 a3 c3)],[Sg b1 0 [Sr o.name,U o.key,I r.head.epoch,U r.head.root,U r.head.prev,I r.head.at_,Sl a4 o.wanted.length c4,I ((JZ o l r).2)]]] (Jn ?_)))))
 have hf2:JC o l r=((⟨o.name,o.key,r.head,o.wanted,(JZ o l r).2⟩:Qn),(JZ o l r).1,0):=by
  unfold JC VP Zy;simp_all
 refine Jo [0,0,0] [.agg #[Sr o.name,U o.key,I r.head.epoch,U r.head.root,U r.head.prev,I r.head.at_,Sl a4 o.wanted.length c4,I ((JZ o l r).2)],I ((JZ o l r).1),I 0] (JD [] hl1 ?_)
 rw [hf2]
 try dsimp only
 exact ⟨a4,c4,rfl,w13,w14,w8,w9,w10,w11,hs4,(by (have q_:=Jdy ‹_› ‹_›;have q1_:=K9.1 ‹_›;omega)),rfl⟩
 refine Jq (Jc (QB [6,0,3,0,0] [(7,I ((JZ o l r).1)),(8,I 0)] [[Sg b3 0 (KU o a4 c4)],[Sg b2 0 (ZI r a2 c2 a3 c3)],[Sg b1 0 (KU o a4 c4)]] (Jn ?_)))
 have hf3:JC o l r=(o,(JZ o l r).1,0):=by
  unfold JC VP Zy;simp_all
 refine Jo [0,0,0] [(KC o a4 c4),I ((JZ o l r).1),I 0] (JD [] hl1 ?_)
 rw [hf3]
 try dsimp only
 exact ⟨a4,c4,rfl,w13,w14,w15,w16,w17,w18,hs4,w19,rfl⟩
theorem Jol {n v:Bb} (h:KJ n v=0):n.length≤12∧v.length≤20∧KS n=true:=by
 unfold KJ at h
 split at h
 · cases h
 rename_i h1
 split at h
 · cases h
 have h2:KS n=true:=by simpa using h1
 have:=(JhG.1 h2).2.1
 exact ⟨this,by omega,h2⟩
theorem JeH (l:List Kb) (q:Bb):0≤WA l q∧WA l q<2305843009213693951:=by
 unfold WA
 generalize 16-q.length=n
 cases n with
 | zero=>exact QP _
 | succ n =>
  rw [atG]
  split
  · exact QP _
  split
  · exact QP _
  · exact QP _
end Go.Proofs.YteaampgpgokjmaaGreatDoor
namespace Go.Tx
open Go.RowKit Go.Proofs Go.Shelf
open _root_.List renaming getElem?_eq_some_iff → Ha, getElem?_eq_getElem → Hb, mem_singleton → Hc, eq_nil_of_length_eq_zero → Hd, replicate → He, getElem_mem → Hg, mem_flatten → Hh, length_replicate → Hi, getElem?_append_right → Hj, getElem?_append_left → Hk, all_eq_true → Hl, getElem?_replicate → Hm, drop_eq_nil_of_le → Hn
open _root_.Array renaming getElem?_eq_some_iff → Hf
open _root_.Nat renaming le_of_ble_eq_true → Ho, zero_add → Hp
open _root_.Option renaming some → Hq
def Jef (P:Program) (k e:TypeId) (o:Obj) (n:Nat) (D:DataW Unit):Prop :=
 JdO o=true∧∀ (w:World) (b:Nat),w.heap[b]? = some o→w.ownsMap P k (plainElem P e) b n D
theorem Jef.of {P:Program} {k e:TypeId} {w:World} {b n:Nat} {D:DataW Unit} (h:w.ownsMap P k (plainElem P e) b n D):∃ o,w.heap[b]? = some o∧Jef P k e o n D:=by
 obtain ⟨es,clock,hb,F,hs,hD⟩:=h
 exact ⟨_,hb,rfl,fun w' b' h'=>⟨es,clock,h',F,hs,hD⟩⟩
theorem Jef.empty (P:Program) (k e:TypeId):Jef P k e (.map #[] 0) 0 (.map []) :=
 ⟨rfl,fun w b h=>by
  obtain ⟨es,clock,hb,F,hs,hD⟩:=World.ownsMap_made (H:=Unit) default P k (plainElem P e)
  have:es=#[]∧clock=0:=by
   rw [World.alloc_heap_new] at hb;cases hb;exact ⟨rfl,rfl⟩
  obtain ⟨rfl,rfl⟩:=this
  exact ⟨_,_,h,F,hs,hD⟩⟩
def Jls (a:Bs) (s:Bb):Bs:=if s∈a then a else a++[s]
def dd (l:Bs):Bs:=l.foldl Jls []
def nn (l:Bs):Nat:=(dd l).length
theorem Jlt {α:Type} {P:List α→Prop} (h0:P []) (hs:∀ l x,P l→P (l++[x])) (l:List α):P l:=by
 rw [← List.reverse_reverse l]
 induction l.reverse with
 | nil=>exact h0
 | cons x t ih=>rw [List.reverse_cons];exact hs _ _ ih
theorem Jlu (l:Bs) (s:Bb):dd (l++[s])=Jls (dd l) s:=by simp [dd,List.foldl_append]
theorem YU (l:Bs):(∀ s,s∈dd l ↔ s∈l)∧(dd l).Nodup:=by
 induction l using Jlt with
 | h0=>simp [dd]
 | hs l x ih =>
  rw [Jlu];unfold Jls
  split
  ·
   rename_i h
   refine ⟨fun s=>?_,ih.2⟩
   rw [ih.1 s];simp only [List.mem_append,Hc]
   exact ⟨.inl,fun h'=>h'.elim id (fun e=>e ▸ (ih.1 x).1 h)⟩
  ·
   rename_i h
   refine ⟨fun s=>by simp [ih.1 s],List.nodup_append.2 ⟨ih.2,by simp,fun a ha b hb=>by simp at hb;subst hb;exact fun e=>h (by rw [← e];exact ha)⟩⟩
theorem Jah:∀ (a b:Bs),a.Nodup→(∀ x∈a,x∈b)→a.length≤b.length
 | [],b,_,_=>Nat.zero_le _
 | x::a,b,h,hm=>by
  have hx:=hm x (by simp)
  have h1:=List.nodup_cons.1 h
  have:=Jah a (b.erase x) h1.2 (fun y hy=>(List.mem_erase_of_ne (fun e=>h1.1 (by subst e;exact hy))).2 (hm y (by simp [hy])))
  rw [List.length_erase_of_mem hx] at this
  have:0<b.length:=List.length_pos_of_mem hx
  simp only [List.length_cons];omega
theorem JdB {a b:Bs} (h:∀ x∈a,x∈b):nn a≤nn b :=
 Jah _ _ (YU a).2 (fun x hx=>((YU b).1 x).2 (h x (((YU a).1 x).1 hx)))
theorem nn_le (a:Bs):nn a≤a.length:=Jah _ _ (YU a).2 (fun x hx=>((YU a).1 x).1 hx)
theorem Jom {a:Bs} (h:a.Nodup):nn a=a.length :=
 Nat.le_antisymm (nn_le a) (Jah _ _ h (fun x hx=>((YU a).1 x).2 hx))
def Dn (l:Bs):DataW Unit:=l.foldl (fun D s=>D.put (.string s) (.lit (.bool true))) (.map [])
theorem Jfg (l:Bs) (s:Bb):Dn (l++[s])=(Dn l).put (.string s) (.lit (.bool true)):=by simp [Dn,List.foldl_append]
theorem Jlv (l:Bs):Maps.Tidy (Dn l)∧(∀ s,Maps.has (Dn l) (.string s)=decide (s∈l))∧Maps.size (Dn l)=nn l:=by
 induction l using Jlt with
 | h0=>exact ⟨Maps.tidy_empty,fun s=>by simp [Dn,Maps.has],rfl⟩
 | hs l x ih =>
  obtain ⟨h1,h2,h3⟩:=ih
  have hk:WideAt.IsKeyLit (.string x):=by trivial
  rw [Jfg]
  refine ⟨h1.put hk _,fun s=>?_,?_⟩
  ·
   by_cases e:s=x
   · subst e;rw [Maps.has_put_same h1.isMap hk];simp
   · rw [Maps.has_put_other (by simpa using e),h2 s];simp [e]
  ·
   rw [Maps.size_put h1,h2 x,h3]
   unfold nn;rw [Jlu];unfold Jls
   by_cases e:x∈l
   · rw [if_pos (by simpa using e),if_pos (((YU l).1 x).2 e)]
   · rw [if_neg (by simpa using e),if_neg (fun h=>e (((YU l).1 x).1 h))];simp
theorem JpD (l:Bs):(strKeys (Dn l)).length=nn l:=by
 obtain ⟨⟨es,he,_⟩,_,h3⟩:=Jlv l
 rw [← h3,he];simp [strKeys,Maps.size]
theorem St.grewO {w0 w w':World} {G0 G:J4} {L:Bl} {i b:Nat} {x y:Obj} (h:St w0 G0 w G L) (hi:L[i]? = some [Ob b x]) (hg:w.grownBy w' (some b)) (hyb:w'.heap[b]? = some y) (hy:JdO y=true) :
  St w0 G0 w' G (L.set i [Ob b y]):=by
 obtain ⟨A,B,rfl,hset⟩:=Y9 hi
 rw [hset]
 have hm:(Ob b x)∈(A++[Ob b x]::B).flatten:=by simp
 obtain ⟨hB,_,hob,_⟩:=h.own _ hm
 obtain ⟨p1,p2,_,_⟩:=hob x rfl
 simp only at hB p2
 have hlt:=(Hf.1 p2).1
 have hne:∀ b' o v,w.cell? ⟨b',o,none⟩=some v→b ≠ b':=fun b' o v hv e=>by
  have:=JbM hv (e ▸ p2)
  rw [p1] at this;cases this
 have hget:∀ k,k<w.heap.size→k ≠ b→w'.heap[k]? = w.heap[k]?:=fun k hl hk=>hg.block k hl (fun e=>hk (Hq.inj e))
 refine St.upd h ((Below.refl w0.heap.size w).grown hg h.below.size (fun k e=>by cases e;exact hB)) ?_ ?_ ?_ ?_ ?_ (by simp)
 ·
  intro b' o v hv _
  have hn:=hne b' o v hv
  have hl:=WD hv
  unfold World.cell? World.frozen? at *
  simp only at *
  rw [hget b' hl (fun e=>hn e.symm)]
  exact ⟨hv,rfl⟩
 ·
  intro b' z hz
  obtain ⟨c,hh,_⟩:=YB.1 hz
  have hn:b' ≠ b:=fun e=>by
   subst e
   rw [p2] at hh
   cases x <;> simp [JdO] at p1 hh
  unfold shp at hz ⊢
  rw [hget b' (Hf.1 hh).1 hn];exact hz
 ·
  intro b' z hz _ hno
  have:b' ≠ b:=fun e=>hno _ (Hc.2 rfl) ⟨e.symm,Nat.le_refl _,by simp [Y8.len]⟩
  rw [hget b' (Hf.1 hz).1 this];exact hz
 ·
  intro s hs
  obtain rfl:s=_:=by simpa using hs
  refine ⟨hB,by simp,fun z hz=>?_,by simp⟩
  cases hz
  exact ⟨hy,hyb,rfl,rfl⟩
 ·
  intro s hs b' o hh
  obtain rfl:s=_:=by simpa using hs
  exact .inl ⟨_,Hc.2 rfl,hh⟩
theorem St.below_ {w0 w w':World} {G0 G:J4} {L:Bl} (h:St w0 G0 w G L) (hb:Below w.heap.size w w'):St w0 G0 w' G L:=by
 have hS':St w G w' G []:=⟨hb,fun b o v hv=>by
  have hc:=h.mem b o v hv
  have hl:=WD hc
  unfold World.cell? at *
  simp only at *
  rw [hb.block b hl];exact hc,Jh _,fun b o v hv=>.inl hv,by simp,by simp⟩
 exact h.call hS'
section
variable {C:Cx} {Q:Bq} {fr:Bf} {G:J4} {L:Bl} {ops:Bp} {rest:List Oper} {o:Oper}
theorem JdC {e:Exit} (i:Nat) {b o:Nat} {cs:Bv} (h:∀ G',J4.le G G'→(∀ j v,cs[j]? = some v→G' b (o+j)=some v)→TQ C Q e fr G' (L.set i []))
  (hi:L[i]? = some [Sg b o cs]:=by rfl):TQ C Q e fr G L :=
 Jnl i (by simp) hi (fun G' h1 h2=>h G' h1 (fun j v hv=>h2 _ (Hc.2 rfl) j v hv))
theorem Jkr (d:Nat) (k e:TypeId) (h:∀ b ob,Jef C.P k e ob 0 (.map [])→Kz C ops Q rest ((d,.map (some b))::fr) G ([Ob b ob]::L))
  (hb:base C.n ops fr o d=true:=by as_aux_lemma=>kernel_rfl)
  (hc:∀ w,(execOp (W7 fr) o).run C.P w=.ok (.value (.map (some w.heap.size))) (w.alloc (.map #[] 0)):=by intro _;as_aux_lemma=>kernel_rfl):Kz C ops Q (o::rest) fr G L :=
 QI d hb (fun w hw=>⟨_,w.alloc (.map #[] 0),G,_,hc w,hw.allocO _ rfl,h w.heap.size _ (Jef.empty _ _ _)⟩)
def Jlw (fr:Bf) (o:Oper):Option (TypeId×Value×Value×Value):=match o.op with
 | .mapUpdate t m x v=>some (t,W7 fr m,W7 fr x,W7 fr v)
 | _=>none
theorem JmG (hb:Jg0 C.n ops fr o=true)
  (hx:∀ w,St C.w0 C.G0 w G L→∃ w' G' L',(execOp (W7 fr) o).run C.P w=.ok .skip w'∧St C.w0 C.G0 w' G' L'∧Kz C ops Q rest fr G' L') :
  Kz C ops Q (o::rest) fr G L:=by
 intro a w ha hw
 unfold Jg0 at hb
 simp only [Bool.and_eq_true,Option.isNone_iff_eq_none] at hb
 obtain ⟨⟨⟨hd,hwt⟩,hsel⟩,hcov⟩:=hb
 have hE:execOp a.eval o=execOp (W7 fr) o:=Wo _ _ _ (fun cs b e=>by rw [e] at hsel;simp [Zh] at hsel)
  (fun x hx=>ha.eval x (Hl.1 hcov x (by simpa using hx)))
 have hwant:Qs ops fr o=some true:=by
  cases hx:Qs ops fr o with
  | none=>rw [hx] at hwt;simp [YI] at hwt
  | some b=>rw [hx] at hwt;simp [YI] at hwt;rw [← hwt]
 obtain ⟨w',G',L',hr,hS,hk⟩:=hx w hw
 unfold wpList
 rw [if_pos (Wp ha hwant)]
 refine .inl ?_
 unfold Oper.wp
 rw [hE,hr]
 show wpList C.P ops Q rest (a.put o.dst _) _
 rw [hd]
 exact hk _ _ ha hS
theorem Jeg (i:Nat) (t k e:TypeId) {b n:Nat} {ob:Obj} {D:DataW Unit} {s:Bb} (x:Bool) (hm:Jef C.P k e ob n D) (K:Maps.Keyed C.P k) (ht:C.P.underlying t=some (.map k e)) (hks:C.P.underlying k=some .string) (he:C.P.underlying e=some .bool)
  (hs:s.length≤maxLen) (hn:n<maxLen)
  (h:∀ ob',Jef C.P k e ob' (n+1) (D.put (.string s) (.lit (.bool x)))→Kz C ops Q rest fr G (L.set i [Ob b ob']))
  (hL:L[i]? = some [Ob b ob]:=by rfl)
  (hb:Jg0 C.n ops fr o=true:=by as_aux_lemma=>kernel_rfl)
  (hc:Jlw fr o=some (t,.map (some b),Sr s,Bo x):=by as_aux_lemma=>kernel_rfl):Kz C ops Q (o::rest) fr G L:=by
 refine JmG hb (fun w hw=>?_)
 unfold Jlw at hc
 split at hc
 case h_2=>cases hc
 rename_i t' m' x' v' hop
 simp only [Hq.injEq,Prod.mk.injEq] at hc
 obtain ⟨rfl,c1,c2,c3⟩:=hc
 have hmem:(Ob b ob)∈L.flatten:=by
  obtain ⟨hl,he⟩:=Ha.1 hL
  exact Hh.2 ⟨_,Hg hl,by rw [he];simp⟩
 obtain ⟨_,_,hob,_⟩:=hw.own _ hmem
 obtain ⟨p1,p2,_,_⟩:=hob ob rfl
 have hown:=hm.2 w b p2
 have hkey:keyOf C.P k (Sr s)=some (.string s):=by
  have:=WideMaps.keyOf_string_mk (P:=C.P) hks (s:=B s) (by show s.toArray.size≤maxLen;simpa using hs)
  simpa using this
 obtain ⟨w',hrun,hown',hg⟩:=hown.update K ht hn hkey (plainElem_bool (H:=Unit) he x)
 obtain ⟨ob',q1,q2⟩:=Jef.of hown'
 refine ⟨w',G,_,?_,hw.grewO hL hg q1 q2.1,h ob' q2⟩
 unfold execOp
 simp only [hop,c1,c2,c3,Sem.run_bind,Bo,hrun,Result.andThen_ok,Sem.run_pure]
theorem JmH (d:Nat) {ρ:Ren} (L7:SlLaysZ.n7 C.P ρ) {b:Nat} (h:∀ bk,Kz C ops Q rest ((d,.func (.func (ρ.f 10)) #[] #[Pt bk 0])::fr) G ([Sg bk 0 [.map (some b)]]::L))
  (hw:Qs ops fr o=some true:=by rfl) (hd:o.dst=some d:=by rfl) (hn:Nat.blt d C.n=true:=by rfl) (hsel:Zh o.op=false:=by rfl)
  (hcov:o.op.operands.toList.all (cov fr)=true:=by as_aux_lemma=>kernel_rfl) (hrun:∀ w,(execOp (W7 fr) o).run C.P w=.ok (.enter (ρ.f 7) #[.map (some b)]) w:=by intro _;as_aux_lemma=>kernel_rfl) :
  Kz C ops Q (o::rest) fr G L:=by
 intro a w ha hwS
 have hE:execOp a.eval o=execOp (W7 fr) o:=Wo _ _ _ (fun cs b e=>by rw [e] at hsel;simp [Zh] at hsel)
  (fun x hx=>ha.eval x (Hl.1 hcov x (by simpa using hx)))
 unfold wpList
 rw [if_pos (Wp ha hw)]
 refine .inl ?_
 unfold Oper.wp
 rw [hE,hrun]
 refine (callsIn_wide.1 (AnyZ.keys_in L7 Fence.wide 0 trivial rfl (some b) w)).mono ?_
 rintro e w' ⟨rfl,rfl⟩
 show wpList C.P ops Q rest (a.put o.dst _) _
 rw [hd]
 exact h _ _ _ (ha.put d _ (Ho hn)) (hwS.alloc _ _)
theorem JhW (d i j:Nat) {ρ:Ren} (L8:SlLaysZ.n8 C.P ρ) (L10:SlLaysZ.n10 C.P ρ) {b bk n:Nat} {e:TypeId} {ob:Obj} {D:DataW Unit} (hm:Jef C.P (ρ.t 26) e ob n D) (hsz:Maps.size D≤1000000)
  (h:∀ a c,Kz C ops Q rest ((d,Sl a (strKeys D).length c)::fr) G L)
  (hi:L[i]? = some [Ob b ob]:=by rfl) (hj:L[j]? = some [Sg bk 0 [.map (some b)]]:=by rfl)
  (hw:Qs ops fr o=some true:=by rfl) (hd:o.dst=some d:=by rfl) (hn:Nat.blt d C.n=true:=by rfl) (hsel:Zh o.op=false:=by rfl)
  (hcov:o.op.operands.toList.all (cov fr)=true:=by as_aux_lemma=>kernel_rfl) (hrun:∀ w,(execOp (W7 fr) o).run C.P w=.ok (.enter (ρ.f 8) #[.func (.func (ρ.f 10)) #[] #[Pt bk 0]]) w:=by intro _;as_aux_lemma=>kernel_rfl) :
  Kz C ops Q (o::rest) fr G L:=by
 intro a w ha hwS
 have hE:execOp a.eval o=execOp (W7 fr) o:=Wo _ _ _ (fun cs b e=>by rw [e] at hsel;simp [Zh] at hsel)
  (fun x hx=>ha.eval x (Hl.1 hcov x (by simpa using hx)))
 unfold wpList
 rw [if_pos (Wp ha hw)]
 refine .inl ?_
 unfold Oper.wp
 rw [hE,hrun]
 have m1:(Ob b ob)∈L.flatten:=by
  obtain ⟨hl,he⟩:=Ha.1 hi
  exact Hh.2 ⟨_,Hg hl,by rw [he];simp⟩
 have m2:(Sg bk 0 [.map (some b)])∈L.flatten:=by
  obtain ⟨hl,he⟩:=Ha.1 hj
  exact Hh.2 ⟨_,Hg hl,by rw [he];simp⟩
 obtain ⟨_,_,hob,_⟩:=hwS.own _ m1
 obtain ⟨_,p2,_,_⟩:=hob ob rfl
 have hown:=hm.2 w b p2
 have hcell:=((hwS.own _ m2).2.1 0 _ rfl).1
 simp only [Nat.add_zero] at hcell
 have hseq:SeqGives Fence.wide (3-1-1) C.P (ρ.f 10) #[.pointer (some ⟨bk,0,none⟩)] encStr (fun ss=>ss.Perm (strKeys D)) (Maps.size D) w :=
  AnyZ.keys_gives L10 Fence.wide (3-1-1) trivial rfl (by decide) bk b n D w (WD hcell) hcell hown
 refine (callsIn_wide.1 (AnyZ.collect_in L8 Fence.wide 3 trivial trivial rfl (by decide) (ρ.f 10) #[.pointer (some ⟨bk,0,none⟩)] trivial (L10.f10.enters rfl) _ (Maps.size D) (Nat.le_trans hsz (by decide)) (by omega) w hseq)).mono ?_
 rintro e w' ⟨v,ss,rfl,hS,hrow,hnil,hb⟩
 have hlen:ss.length=(strKeys D).length:=hS.length_eq
 obtain ⟨aa,c,rfl⟩:∃ aa c,v=Sl aa (strKeys D).length c:=by
  rw [← hlen]
  rcases hrow.2 with ⟨rfl,h0⟩ | ⟨g,cap,cur,rfl,_⟩
  · exact ⟨none,0,by rw [h0]⟩
  · exact ⟨_,_,rfl⟩
 show wpList C.P ops Q rest (a.put o.dst _) w'
 rw [hd]
 exact h _ _ _ _ (ha.put d _ (Ho hn)) (hwS.below_ hb)
theorem JfS {α:Type} {E:Y0 α} (d t e n:Nat) {z:Value} {lo co:Operand} {bytes:Nat} (x0:α) (hE:E.sz=1∧z.cells=#[z]∧(∀ G,E.R G [z] x0)) (h63:n≤9223372036854775807) (hby:n*bytes≤281474976710656)
  (hi:(C.P.info? e).map (fun i=>(i.zero,i.size,i.bytes))=some (some z,1,bytes))
  (h:∀ a r,JX E G a n (He n x0) r→Kz C ops Q rest ((d,Sl a (He n x0).length n)::fr) G (r::L))
  (hb:base C.n ops fr o d=true:=by as_aux_lemma=>kernel_rfl)
  (hop:o.op=.makeSlice t lo co:=by rfl) (ht:C.P.underlying t=some (.slice e):=by as_aux_lemma=>kernel_rfl)
  (hlo:W7 fr lo=I (n:Int):=by as_aux_lemma=>kernel_rfl) (hco:W7 fr co=I (n:Int):=by as_aux_lemma=>kernel_rfl):Kz C ops Q (o::rest) fr G L:=by
 simp only [Hi] at h
 refine QI d hb (fun w hw=>?_)
 obtain ⟨inf,hinf,hz,hsz,hbs⟩:=info_parts hi
 have hbn:(inf.bytes:Int)*(n:Int)≤281474976710656:=by
  have h2:(inf.bytes:Int)*n=((n*bytes:Nat):Int):=by rw [Int.natCast_mul,Int.mul_comm,hbs]
  omega
 have hm:=run_make (P:=C.P) w t e inf z ht hinf hz .i64 .i64 n n (by omega) (Int.le_refl _) hbn (by omega)
 simp only [Int.toNat_natCast,hsz,Nat.mul_one] at hm
 have hmc:(madeCells z.cells n).toList=He n z:=by
  apply List.ext_getElem
  · simp [size_madeCells]
  ·
   intro k h1 h2
   simp only [madeCells,Array.toList_map,List.getElem_map,List.getElem_replicate,hE.2.1]
   simp [Nat.mod_one]
 refine ⟨_,_,G,_,?_,hw.alloc (madeCells z.cells n) e,h (At w.heap.size 0) _ ⟨⟨He n [z],by simp,fun k x hx=>?_,?_⟩⟩⟩
 ·
  unfold execOp
  simp only [hop,hlo,hco,Sem.run_bind,hm,Result.andThen_ok,Sem.run_pure]
 ·
  have hk:=(Ha.1 hx).1
  simp only [Hi] at hk
  rw [Hm,if_pos hk] at hx
  rw [← Hq.inj hx]
  exact ⟨[z],by rw [Hm,if_pos hk],hE.2.2 G⟩
 ·
  have hf:(He n [z]).flatten=He n z:=by simp [List.flatten_replicate_singleton]
  rw [hf,hmc,Hi,hE.1]
  exact Row.lit (by simp) h63
theorem RS.cellsR {α:Type} {E:Y0 α} {G:J4} {ax:Ba} {capx:Nat} {ys:List α} (hy:RS E G ax capx ys):∃ dss:List Bv,dss.length=ys.length∧(∀ (k:Nat) y,ys[k]? = some y→∃ cs,dss[k]? = some cs∧E.R G cs y) ∧
  ∀ w:World,(∀ b o v,G b o=some v→w.cell? ⟨b,o,none⟩=some v)→Jk0 E.sz w ax ys.length dss.flatten:=by
 have hcell:∃ dss:List Bv,dss.length=ys.length∧(∀ (k:Nat) y,ys[k]? = some y→∃ cs,dss[k]? = some cs∧E.R G cs y) ∧
   (∀ ad,ax=some ad→∀ (k:Nat) cs (j:Nat) v,dss[k]? = some cs→cs[j]? = some v→G ad.block (ad.off+k*E.sz+j)=some v):=by
  cases ax with
  | none =>
   have:ys=[]:=Hd (by have:=hy.nil rfl;have:=hy.le;omega)
   subst this
   exact ⟨[],rfl,by simp,by simp⟩
  | some ad =>
   have hch:∀ k:Nat,∃ cs,∀ y,ys[k]? = some y→E.R G cs y∧∀ j v,cs[j]? = some v→G ad.block (ad.off+k*E.sz+j)=some v:=by
    intro k
    cases hk:ys[k]? with
    | none=>exact ⟨[],by simp⟩
    | some y=>obtain ⟨cs,p1,p2⟩:=hy.elem ad rfl k y hk;exact ⟨cs,fun y' hy'=>by cases hy';exact ⟨p1,p2⟩⟩
   let f:Nat→Bv:=fun k=>Classical.choose (hch k)
   have hf:∀ (k:Nat) y,ys[k]? = some y→E.R G (f k) y∧∀ j v,(f k)[j]? = some v→G ad.block (ad.off+k*E.sz+j)=some v:=fun k=>Classical.choose_spec (hch k)
   refine ⟨(List.range ys.length).map f,by simp,?_,?_⟩
   ·
    intro k y hk
    have hlt:=(Ha.1 hk).1
    exact ⟨f k,by simp [hlt],(hf k y hk).1⟩
   ·
    intro ad' had k cs j v hk hv
    cases had
    have hlt:k<ys.length:=by have:=(Ha.1 hk).1;simpa using this
    have hcs:f k=cs:=by simpa [hlt] using hk
    rw [← hcs] at hv
    exact (hf k _ (Hb hlt)).2 j v hv
 obtain ⟨dss,d1,d2,d3⟩:=hcell
 have dsz:=Jaq d1 d2
 refine ⟨dss,d1,d2,fun w hmem=>⟨by rw [QN dsz,d1],fun ha=>by have:=hy.nil ha;have:=hy.le;omega,fun ad ha j v hv=>?_⟩⟩
 have hsp:=hy.spot ad ha (by
  have hj:=(Ha.1 hv).1
  rw [QN dsz] at hj
  have h0:0<ys.length:=by
   rcases Nat.eq_zero_or_pos ys.length with h0 | h0
   · rw [d1,h0] at hj;omega
   · exact h0
  have:=hy.le;omega)
 obtain ⟨ab,ao,asp⟩:=ad
 simp only at hsp
 subst hsp
 rw [WT]
 refine hmem _ _ _ ?_
 have hj:=(Ha.1 hv).1
 rw [QN dsz] at hj
 have hpos:0<E.sz:=by
  rcases Nat.eq_zero_or_pos E.sz with h0 | h0
  · rw [h0] at hj;omega
  · exact h0
 have hk:j / E.sz<dss.length:=(Nat.div_lt_iff_lt_mul hpos).2 hj
 have hmod:=Nat.mod_lt j hpos
 have hcs:=dsz _ (Hg hk)
 have hget:(dss[j / E.sz])[j % E.sz]? = some v:=by
  have:=JaN dsz (j / E.sz) _ (j % E.sz) ((dss[j / E.sz])[j % E.sz]'(by omega)) (Hb hk) (Hb (by omega))
  rw [Nat.div_add_mod' j E.sz,hv] at this
  rw [Hb (by omega)];exact this.symm
 have:=d3 _ ha (j / E.sz) _ (j % E.sz) v (Hb hk) hget
 simp only at this
 rwa [Nat.add_assoc,Nat.div_add_mod' j E.sz] at this
theorem Jks {α:Type} {E:Y0 α} {a:Ba} {l:List α} (d e j:Nat) {b:Nat} {cs:Bv} (x:α) (hr:RS E G a l.length l) (hx:E.R G cs x)
  (h63:l.length+1≤9223372036854775807) (hby:(l.length+1)*E.bytes≤140737488355328)
  (h:∀ a' cap' r',JX E G a' cap' (l++[x]) r'→Kz C ops Q rest ((d,Sl a' (l++[x]).length cap')::fr) G (r'::L))
  (hj:L[j]? = some [Sg b 0 cs]:=by rfl)
  (hb:base C.n ops fr o d=true:=by as_aux_lemma=>kernel_rfl)
  (hc:Jbl C.P fr o e E.sz E.bytes=some (Sl a l.length l.length,Sl (At b 0) 1 1):=by as_aux_lemma=>kernel_rfl):Kz C ops Q (o::rest) fr G L:=by
 obtain ⟨t,ty,inf,z,hu,hi,hz,hzs,hsz,hbs,hrun⟩:=Jhs hc
 obtain ⟨dss,d1,d2,d3⟩:=hr.cellsR
 refine QI d hb (fun w hw=>?_)
 have hms:(Sg b 0 cs)∈L.flatten:=by
  obtain ⟨hi',he⟩:=Ha.1 hj
  exact Hh.2 ⟨_,he ▸ Hg hi',by simp⟩
 have hown:=(hw.own _ hms).2.1
 simp only [Hp] at hown
 have hnl:cs.length=1*inf.size:=by rw [E.len hx,hsz];simp
 have hnews:∀ k v,cs[k]? = some v→w.cell? ((⟨b,0,none⟩:Addr).add k)=some v:=fun k v hv=>by
  rw [WT,Hp];exact (hown k v hv).1
 obtain ⟨r1,r2,r3⟩:=d3 w hw.mem
 rw [← hsz] at r1
 have hby2:(l.length+1)*inf.bytes≤140737488355328:=by rw [hbs];exact hby
 have hnx:Builtin.nextslicecap (l.length+1) l.length*inf.bytes≤281474976710656:=growslice_fits (by omega) hby2
 have fin:∀ (old:Nat) (res:Result Value),res=.ok (.slice (some ⟨w.heap.size,0,none⟩) (l.length+1) (grownCap w (l.length+1) old e)) (w.drew.alloc (.cells (dss.flatten.toArray++cs.toArray++Builtin.zeroCells z.cells (grownCap w (l.length+1) old e-(l.length+1))) e)) →
   (Builtin.append_ #[t,t] ty #[.slice a l.length l.length,.slice (At b 0) 1 1]).run C.P w=res →
   ∃ v w' G' L',(execOp (W7 fr) o).run C.P w=.ok (.value v) w'∧St C.w0 C.G0 w' G' L'∧Kz C ops Q rest ((d,v)::fr) G' L':=by
  intro old res hres hap
  have hlen:(l++[x]).length=l.length+1:=by simp
  refine ⟨_,_,G,_,by rw [hrun,hap,hres];rfl,(hw.drew).alloc _ e,?_⟩
  rw [← hlen]
  refine h _ _ _ ⟨⟨dss++[cs],by simp [d1],?_,?_⟩⟩
  ·
   intro k y hy
   by_cases hlt:k<l.length
   ·
    rw [Hk hlt] at hy
    obtain ⟨cs',p1,p2⟩:=d2 k y hy
    exact ⟨cs',by rw [Hk (by omega)];exact p1,p2⟩
   ·
    rw [Hj (by omega)] at hy
    have hk:k-l.length=0:=by
     have:=(Ha.1 hy).1;simp at this;omega
    rw [hk] at hy
    obtain rfl:x=y:=by simpa using hy
    exact ⟨cs,by rw [Hj (by omega),d1,hk];rfl,hx⟩
  ·
   rw [List.flatten_append,hlen,← hsz]
   refine ⟨by rw [List.length_append,r1];simp [hnl,Nat.add_mul],grownCap_ge w _ old e,?_,.inr ⟨w.heap.size,0,(Builtin.zeroCells z.cells (grownCap w (l.length+1) old e-(l.length+1))).toList,rfl,by simp,?_⟩⟩
   ·
    have:=grownCap_le_maxLen w (l.length+1) old e (by simp only [maxLen];omega)
    simp only [maxLen] at this;omega
   · rw [Array.length_toList,Ye,hzs]
 cases a with
 | none =>
  have h0:l.length=0:=hr.nil rfl
  have hl:l=[]:=Hd h0
  subst hl
  have hd0:dss=[]:=Hd (by simpa using d1)
  subst hd0
  have hap:=run_append_nil (P:=C.P) w t ty e inf z hu hi hz ⟨b,0,none⟩ 1 1 cs hnl hnews (by omega) (by omega) (by have h9:=hby2;simp only [List.length_nil,Hp] at h9;omega)
  exact fin 0 _ (by simp) hap
 | some ad =>
  have hap:=run_append_grow (P:=C.P) w t ty e inf z hu hi hz ad l.length l.length dss.flatten r1 (r3 ad rfl) ⟨b,0,none⟩ 1 1 cs hnl hnews (by omega) (by omega) hnx
  exact fin l.length _ rfl hap
def Shr (r r':Bg):Prop:=r'=r∨∃ b off F m,r=[Sg b off F]∧(r'=[Sg b (off+m) (F.drop m)]∨r'=[Sg b off []])
theorem St.shr {w0 w:World} {G0 G:J4} {L:Bl} {i:Nat} {r r':Bg} (h:St w0 G0 w G L) (hi:L[i]? = some r) (hs:Shr r r'):St w0 G0 w G (L.set i r'):=by
 rcases hs with rfl | ⟨b,off,F,m,rfl,hr⟩
 ·
  have:L.set i r'=L:=by
   obtain ⟨hi',he⟩:=Ha.1 hi
   rw [← he];exact List.set_getElem_self hi'
  rw [this];exact h
 ·
  obtain ⟨A,B,rfl,hset⟩:=Y9 hi
  rw [hset]
  have hm:(Sg b off F)∈(A++[Sg b off F]::B).flatten:=by simp
  obtain ⟨hB,hc,_,_⟩:=h.own _ hm
  simp only at hB hc
  refine St.upd h (Below.refl _ _) (fun _ _ _ hv _=>⟨hv,rfl⟩) (fun _ _ hx=>hx) (fun _ _ hx _ _=>hx) ?_ ?_ ?_
  ·
   intro s hs
   rcases hr with rfl | rfl
   ·
    obtain rfl:s=_:=by simpa using hs
    refine ⟨hB,fun j v hv=>?_,by simp,by simp⟩
    simp only [List.getElem?_drop] at hv
    have:=hc _ _ hv
    rw [show off+(m+j)=off+m+j by omega] at this
    exact this
   ·
    obtain rfl:s=_:=by simpa using hs
    exact ⟨hB,by simp,by simp,by simp⟩
  ·
   intro s hs b' o hh
   rcases hr with rfl | rfl
   ·
    obtain rfl:s=_:=by simpa using hs
    obtain ⟨e,h1,h2⟩:=hh
    simp only [Y8.len,List.length_drop] at e h1 h2
    exact .inl ⟨_,Hc.2 rfl,e,by simp only;omega,by simp only [Y8.len];omega⟩
   ·
    obtain rfl:s=_:=by simpa using hs
    obtain ⟨e,h1,h2⟩:=hh
    simp [Y8.len] at h2;simp only at h1;omega
  · rcases hr with rfl | rfl <;> simp
theorem JX.dropX {α:Type} {E:Y0 α} {G:J4} {a:Ba} {cap:Nat} {l:List α} {r:Bg} (h:JX E G a cap l r) (k:Nat) (hk:k≤l.length) :
  ∃ r',JX E G (if cap=k then a else a.map (·.add (k*E.sz))) (cap-k) (l.drop k) r'∧Shr r r':=by
 obtain ⟨css,c1,c2,c3⟩:=h.ex
 have hsz:=Jaq c1 c2
 have hd:(css.drop k).flatten=css.flatten.drop (k*E.sz):=by
  have h1:css.flatten=(css.take k).flatten++(css.drop k).flatten:=by rw [← List.flatten_append,List.take_append_drop]
  have h2:(css.take k).flatten.length=k*E.sz:=by
   rw [QN (fun cs hc=>hsz cs (List.mem_of_mem_take hc)),List.length_take];congr 1;omega
  rw [h1,← h2,List.drop_left]
 have hA:(css.drop k).length=(l.drop k).length∧∀ (i:Nat) x,(l.drop k)[i]? = some x→∃ cs,(css.drop k)[i]? = some cs∧E.R G cs x:=by
  refine ⟨by simp [c1],fun i x hx=>?_⟩
  rw [List.getElem?_drop] at hx ⊢
  exact c2 _ x hx
 have hlen:(css.drop k).flatten.length=(l.drop k).length*E.sz:=by
  rw [QN (fun cs hc=>hsz cs (List.mem_of_mem_drop hc)),hA.1]
 have hle:=c3.le;have hmx:=c3.max
 rcases c3.shape with ⟨rfl,rfl,rfl⟩ | ⟨b,off,spare,rfl,rfl,hsp⟩
 ·
  have hk0:k=0:=by omega
  subst hk0
  exact ⟨[],by simpa using h,.inl rfl⟩
 ·
  by_cases e:cap=k
  ·
   rw [if_pos e]
   have hl0:l.drop k=[]:=Hn (by omega)
   have hc0:css.drop k=[]:=Hn (by omega)
   refine ⟨[Sg b off []],⟨⟨css.drop k,hA.1,hA.2,⟨hlen,by rw [hl0];simp,by omega,.inr ⟨b,off,[],rfl,?_,?_⟩⟩⟩⟩,.inr ⟨b,off,_,0,rfl,.inr rfl⟩⟩
   · rw [hc0];simp
   · rw [hl0,e];simp
  ·
   rw [if_neg e]
   refine ⟨[Sg b (off+k*E.sz) ((css.flatten++spare).drop (k*E.sz))],⟨⟨css.drop k,hA.1,hA.2,⟨hlen,by simp;omega,by omega,.inr ⟨b,off+k*E.sz,spare,?_,?_,?_⟩⟩⟩⟩,.inr ⟨b,off,_,k*E.sz,rfl,.inl rfl⟩⟩
   · simp [WT]
   ·
    rw [hd,List.drop_append_of_le_length]
    rw [QN hsz,c1];exact Nat.mul_le_mul_right _ hk
   · rw [hsp,List.length_drop];congr 1;omega
theorem tq_shr {e:Exit} (i:Nat) {r r':Bg} (hs:Shr r r') (h:TQ C Q e fr G (L.set i r')) (hi:L[i]? = some r:=by rfl):TQ C Q e fr G L:=fun a w ha hw=>h a w ha (hw.shr hi hs)
end
end Go.Tx
