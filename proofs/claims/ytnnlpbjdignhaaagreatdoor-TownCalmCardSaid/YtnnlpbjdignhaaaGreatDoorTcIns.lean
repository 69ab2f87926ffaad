import Derived.Test.YtnnlpbjdignhaaaGreatDoorTcTree
import Derived.Test.YtnnlpbjdignhaaaGreatDoorTcRow
namespace Go.Proofs.YtnnlpbjdignhaaaGreatDoor
open Go.Tx
set_option linter.unusedVariables false
set_option linter.unusedSimpArgs false
def Zm (l:List JV) (i:Nat) (x:JV):List JV:=l.take i++[x]++l.drop i
theorem VG {l:List JV} {i:Nat} {x:JV} (h:i≤l.length):(Zm l i x).length=l.length+1:=by unfold Zm;simp;omega
theorem Jlg {l:List JV} {i:Nat} {x:JV} (h:i=l.length):l++[x]=Zm l i x:=by subst h;simp [Zm]
theorem one2 {a b:Value} (ha:a.oneCell'=true) (hb:b.oneCell'=true):∀ u∈[a,b],u.oneCell'=true:=by
 intro u hu
 rcases List.mem_cons.1 hu with rfl | hu
 ·
  exact ha
 ·
  rw [List.mem_singleton.1 hu];exact hb
def WW (l:List JV) (name value:List UInt8):Int:=if (Jq l name).2.2 ≠ 0 then (Jq l name).2.2 else if KC name value ≠ 0 then KC name value else if (Jq l name).2.1=false∧(l.length:Int)=24 then 7 else 0
def KN (l:List JV) (name value:List UInt8):List JV×Int:=if WW l name value ≠ 0 then ([],WW l name value) else (if (Jq l name).2.1=true then l.set (Jq l name).1.toNat ⟨name,value⟩ else (Zm l (Jq l name).1.toNat ⟨[],[]⟩).set (Jq l name).1.toNat ⟨name,value⟩,0)
theorem Jlh {l:List JV} {i:Nat} {x y:JV} (h:i≤l.length):(Zm l i x).set i y=Zm l i y:=by
 unfold Zm
 rw [List.append_assoc,List.set_append_right _ _ (by rw [List.length_take];omega),List.length_take,Nat.min_eq_left h,Nat.sub_self]
 simp
theorem Jli {l:List JV} {i:Nat} {x:JV} (h:i≤l.length) (p:Nat):(Zm l i x)[p]? = if p<i then l[p]? else if p=i then some x else l[p-1]?:=by
 unfold Zm
 rw [List.append_assoc]
 by_cases h1:p<i
 ·
  rw [if_pos h1,List.getElem?_append_left (by rw [List.length_take];omega),List.getElem?_take,if_pos h1]
 ·
  rw [if_neg h1,List.getElem?_append_right (by rw [List.length_take];omega),List.length_take,Nat.min_eq_left h]
  by_cases h2:p=i
  ·
   rw [if_pos h2,h2,Nat.sub_self];rfl
  ·
   rw [if_neg h2]
   obtain ⟨m,hm⟩:∃ m,p-i=m+1:=⟨p-i-1,by omega⟩
   rw [hm]
   show (l.drop i)[m]? = _
   rw [List.getElem?_drop];congr 1;omega
theorem Jc0 {l:List JV} {name:List UInt8} (h:(Jq l name).2.2=0):QP l∧Kt name=true∧Jq l name=((bsF l name QE).1,(bsF l name QE).2,0):=by
 unfold Jq at h ⊢
 split at h
 ·
  contradiction
 split at h
 ·
  cases h
 ·
  rename_i h1 h2
  rw [if_neg h1,if_neg h2]
  exact ⟨KJ.1 (Decidable.not_not.1 h1),by simpa using h2,rfl⟩
theorem WX {l:List JV} {name:List UInt8} (h:(Jq l name).2.2=0):0≤(Jq l name).1∧(Jq l name).1≤l.length∧l.length≤24:=by
 obtain ⟨h1,_,h3⟩:=Jc0 h
 have:=Jk8 (fun x=>QE x name) l
 have:=h1.len
 rw [h3];unfold bsF;simp only;omega
theorem JjQ {l:List JV} {name value:List UInt8} (h:(KN l name value).2=0):(Jq l name).2.2=0∧KC name value=0∧((Jq l name).2.1=true∨l.length<24):=by
 have h1:WW l name value=0:=by
  unfold KN at h;split at h
  ·
   contradiction
  ·
   rename_i h1;exact Decidable.not_not.1 h1
 unfold WW at h1
 by_cases e1:(Jq l name).2.2=0
 ·
  rw [if_neg (by omega)] at h1
  by_cases e2:KC name value=0
  ·
   rw [if_neg (by omega)] at h1
   refine ⟨e1,e2,?_⟩
   by_cases e3:(Jq l name).2.1=false∧(l.length:Int)=24
   ·
    rw [if_pos e3] at h1;cases h1
   ·
    cases hb:(Jq l name).2.1 with
    | true=>exact .inl rfl
    | false =>
     refine .inr ?_
     have:=(WX e1).2.2
     have:¬ (l.length:Int)=24:=fun hc=>e3 ⟨hb,hc⟩
     omega
  ·
   rw [if_pos e2] at h1;exact absurd h1 e2
 ·
  rw [if_pos e1] at h1;exact absurd h1 e1
theorem Jg1 {l:List JV} {name value:List UInt8} (h:¬ (KN l name value).2=0):(KN l name value).1=[]:=by
 revert h;unfold KN;split <;> simp
theorem VH {l:List JV} {name value:List UInt8} (h:(KN l name value).2=0):QP l∧Kt name=true∧QP (KN l name value).1∧(∀ y,y∈(KN l name value).1 ↔ y=⟨name,value⟩∨(y∈l∧y.name ≠ name)):=by
 obtain ⟨e1,e2,e3⟩:=JjQ h
 obtain ⟨hok,hp,hf⟩:=Jc0 e1
 have hs:=JdY hok name
 have hbd:=Jk8 (fun x=>QE x name) l
 have hi:(Jq l name).1.toNat=bsI (fun x=>QE x name) l:=by rw [hf];unfold bsF;simp
 have hE:WW l name value=0:=by
  unfold KN at h;split at h
  ·
   contradiction
  ·
   rename_i h1;exact Decidable.not_not.1 h1
 have hval:KN l name value=(if (Jq l name).2.1=true then l.set (Jq l name).1.toNat ⟨name,value⟩ else (Zm l (Jq l name).1.toNat ⟨[],[]⟩).set (Jq l name).1.toNat ⟨name,value⟩,0):=by
  unfold KN;rw [if_neg (by omega)]
 rw [hval,hi]
 generalize hk:bsI (fun x=>QE x name) l=k at *
 refine ⟨hok,hp,?_⟩
 cases hb:(Jq l name).2.1 with
 | true =>
  rw [if_pos rfl]
  have hb2:(bsF l name QE).2=true:=by rw [hf] at hb;exact hb
  obtain ⟨x,hx,hxn⟩:=JhU hb2
  rw [hk] at hx
  have hkl:=(List.getElem?_eq_some_iff.1 hx).1
  have huni:∀ p y,l[p]? = some y→y.name=name→p=k:=by
   intro p y hy hyn
   rcases Nat.lt_trichotomy p k with hc | hc | hc
   ·
    have:=hok.ord p k y x hc hy hx;rw [hyn,← hxn,Zi.2 rfl] at this;omega
   ·
    exact hc
   ·
    have:=hok.ord k p x y hc hx hy;rw [hyn,hxn,Zi.2 rfl] at this;omega
  refine ⟨⟨by rw [List.length_set];exact hok.len,fun y hy=>?_,fun p q y z hpq hy hz=>?_⟩,fun y=>?_⟩
  ·
   rcases List.mem_or_eq_of_mem_set hy with hy | rfl
   ·
    exact hok.ok y hy
   ·
    exact e2
  ·
   rw [List.getElem?_set] at hy hz
   have gy:∃ y',l[p]? = some y'∧y'.name=y.name:=by
    split at hy
    ·
     rename_i e;subst e
     (try rw [if_pos hkl] at hy)
     exact ⟨x,hx,by rw [← Option.some.inj hy];exact hxn⟩
    ·
     exact ⟨y,hy,rfl⟩
   have gz:∃ z',l[q]? = some z'∧z'.name=z.name:=by
    split at hz
    ·
     rename_i e;subst e
     (try rw [if_pos hkl] at hz)
     exact ⟨x,hx,by rw [← Option.some.inj hz];exact hxn⟩
    ·
     exact ⟨z,hz,rfl⟩
   obtain ⟨y',gy1,gy2⟩:=gy
   obtain ⟨z',gz1,gz2⟩:=gz
   rw [← gy2,← gz2];exact hok.ord p q y' z' hpq gy1 gz1
  ·
   constructor
   ·
    intro hy
    obtain ⟨p,hp2⟩:=List.getElem?_of_mem hy
    rw [List.getElem?_set] at hp2
    split at hp2
    ·
     rename_i e;subst e;(try rw [if_pos hkl] at hp2);exact .inl (Option.some.inj hp2).symm
    ·
     rename_i e
     exact .inr ⟨List.mem_of_getElem? hp2,fun hc=>e (huni p y hp2 hc).symm⟩
   ·
    rintro (rfl | ⟨hy,hne⟩)
    ·
     exact List.mem_of_getElem? (i:=k) (by rw [List.getElem?_set,if_pos rfl,if_pos hkl])
    ·
     obtain ⟨p,hp2⟩:=List.getElem?_of_mem hy
     exact List.mem_of_getElem? (i:=p) (by rw [List.getElem?_set,if_neg (fun e=>hne (by subst e;rw [hx] at hp2;rw [← Option.some.inj hp2];exact hxn))];exact hp2)
 | false =>
  rw [if_neg (by simp),Jlh hbd]
  have hb3:(bsF l name QE).2=false:=by rw [hf] at hb;exact hb
  have hb2:¬ (bsF l name QE).2=true:=by rw [hb3];simp
  have hno:∀ y∈l,y.name ≠ name:=fun y hy hc=>hb2 ((Jf0 hok name).2 ⟨y,hy,hc⟩)
  have hlt:∀ p y,p<k→l[p]? = some y→ZK y.name name<0:=hs.1
  have hgt:∀ p y,k≤p→l[p]? = some y→ZK name y.name<0:=by
   intro p y hp2 hy
   have h1:=hs.2 p y hp2 hy
   have h2:ZK y.name name ≠ 0:=fun hc=>hno y (List.mem_of_getElem? hy) (Zi.1 hc)
   exact Jmu.1 (by omega)
  have hl24:l.length<24:=by rcases e3 with e3 | e3;rw [e3] at hb;cases hb;exact e3
  refine ⟨⟨by rw [VG hbd];omega,fun y hy=>?_,fun p q y z hpq hy hz=>?_⟩,fun y=>?_⟩
  ·
   unfold Zm at hy
   simp only [List.mem_append,List.mem_singleton] at hy
   rcases hy with (hy | rfl) | hy
   ·
    exact hok.ok y (List.mem_of_mem_take hy)
   ·
    exact e2
   ·
    exact hok.ok y (List.mem_of_mem_drop hy)
  ·
   rw [Jli hbd] at hy hz
   by_cases p1:p<k
   ·
    rw [if_pos p1] at hy
    by_cases q1:q<k
    ·
     rw [if_pos q1] at hz;exact hok.ord p q y z hpq hy hz
    ·
     rw [if_neg q1] at hz
     by_cases q2:q=k
     ·
      rw [if_pos q2] at hz;rw [← Option.some.inj hz];exact hlt p y p1 hy
     ·
      rw [if_neg q2] at hz;exact hok.ord p (q-1) y z (by omega) hy hz
   ·
    rw [if_neg p1] at hy
    rw [if_neg (by omega),if_neg (by omega)] at hz
    by_cases p2:p=k
    ·
     rw [if_pos p2] at hy;rw [← Option.some.inj hy];exact hgt (q-1) z (by omega) hz
    ·
     rw [if_neg p2] at hy;exact hok.ord (p-1) (q-1) y z (by omega) hy hz
  ·
   unfold Zm
   simp only [List.mem_append,List.mem_singleton]
   constructor
   ·
    rintro ((hy | rfl) | hy)
    ·
     exact .inr ⟨List.mem_of_mem_take hy,hno y (List.mem_of_mem_take hy)⟩
    ·
     exact .inl rfl
    ·
     exact .inr ⟨List.mem_of_mem_drop hy,hno y (List.mem_of_mem_drop hy)⟩
   ·
    rintro (rfl | ⟨hy,_⟩)
    ·
     exact .inl (.inr rfl)
    ·
     rw [← List.take_append_drop k l] at hy
     rcases List.mem_append.1 hy with hy | hy
     ·
      exact .inl (.inl hy)
     ·
      exact .inr hy
theorem VI {l:List JV} (h:QP l) {x:JV} (hx:x∈l) (hp:Kt x.name=true):K7 l x.name=(x.value,true,0):=by
 have hb:(bsF l x.name QE).2=true:=(Jf0 h x.name).2 ⟨x,hx,rfl⟩
 have hf:Jq l x.name=((bsF l x.name QE).1,true,0):=by
  unfold Jq;rw [if_neg (by have:=KJ.2 h;omega),if_neg (by rw [hp];simp),hb]
 obtain ⟨y,hy,hyn⟩:=JhU hb
 have hyx:y=x:=by
  obtain ⟨p,hp2⟩:=List.getElem?_of_mem hx
  have:=(List.getElem?_eq_some_iff.1 hy).1
  rcases Nat.lt_trichotomy p (bsI (fun z=>QE z x.name) l) with hc | hc | hc
  ·
   have:=h.ord _ _ x y hc hp2 hy;rw [hyn,Zi.2 rfl] at this;omega
  ·
   rw [← hc,hp2] at hy;exact (Option.some.inj hy).symm
  ·
   have:=h.ord _ _ y x hc hy hp2;rw [hyn,Zi.2 rfl] at this;omega
 unfold K7
 rw [hf,if_neg (by simp)]
 unfold bsF
 simp only [Int.toNat_natCast]
 rw [hy,hyx];rfl
theorem VJ {l:List JV} (h:QP l) {m:List UInt8} (hp:Kt m=true) (hn:∀ y∈l,y.name ≠ m):K7 l m=([],false,0):=by
 have hb:(bsF l m QE).2=false:=by
  cases hb:(bsF l m QE).2 with
  | false=>rfl
  | true=>obtain ⟨y,hy,e⟩:=(Jf0 h m).1 hb;exact absurd e (hn y hy)
 have hf:Jq l m=((bsF l m QE).1,false,0):=by
  unfold Jq;rw [if_neg (by have:=KJ.2 h;omega),if_neg (by rw [hp];simp),hb]
 unfold K7;rw [hf,if_pos rfl]
theorem Jc1 {l:List JV} (h:QP l) {m:List UInt8} (hp:Kt m=false):K7 l m=([],false,3):=by
 have hf:Jq l m=(0,false,3):=by
  unfold Jq;rw [if_neg (by have:=KJ.2 h;omega),if_pos hp]
 unfold K7;rw [hf,if_pos rfl]
theorem JdZ {l l':List JV} (h:QP l) (h':QP l') {m:List UInt8} (hm:∀ y,y.name=m→(y∈l ↔ y∈l')):K7 l m=K7 l' m:=by
 cases hp:Kt m with
 | false=>rw [Jc1 h hp,Jc1 h' hp]
 | true =>
  by_cases hx:∃ x∈l,x.name=m
  ·
   obtain ⟨x,hx,rfl⟩:=hx
   rw [VI h hx hp,VI h' ((hm x rfl).1 hx) hp]
  ·
   rw [VJ h hp (fun y hy e=>hx ⟨y,hy,e⟩),VJ h' hp (fun y hy e=>hx ⟨y,(hm y e).2 hy,e⟩)]
theorem Jf2 {l:List JV} {name value other:List UInt8} (h:(KN l name value).2=0):K7 (KN l name value).1 name=(value,true,0)∧(other=name∨K7 (KN l name value).1 other=K7 l other)∧(K7 (KN l name value).1 other).2.2=(K7 l other).2.2∧Kg (KN l name value).1=0:=by
 obtain ⟨h1,h2,h3,h4⟩:=VH h
 have g1:K7 (KN l name value).1 name=(value,true,0):=VI h3 (x:=⟨name,value⟩) ((h4 _).2 (.inl rfl)) h2
 have hne:other ≠ name→K7 (KN l name value).1 other=K7 l other:=fun hn=>(JdZ h1 h3 (fun y hy=>by
  rw [h4]
  constructor
  ·
   intro hyl;exact .inr ⟨hyl,fun hc=>hn (hy ▸ hc)⟩
  ·
   rintro (rfl | ⟨hyl,_⟩)
   ·
    exact absurd hy.symm hn
   ·
    exact hyl)).symm
 refine ⟨g1,?_,?_,KJ.2 h3⟩
 ·
  by_cases e:other=name
  ·
   exact .inl e
  ·
   exact .inr (hne e)
 ·
  by_cases e:other=name
  ·
   subst e
   rw [g1]
   by_cases hx:∃ x∈l,x.name=other
   ·
    obtain ⟨x,hx,rfl⟩:=hx;rw [VI h1 hx h2]
   ·
    rw [VJ h1 h2 (fun y hy e=>hx ⟨y,hy,e⟩)]
  ·
   rw [hne e]
theorem Jg2 (l:List JV) (name value:List UInt8):(KN l name value).1.length≤24:=by
 by_cases h:(KN l name value).2=0
 ·
  exact (VH h).2.2.1.len
 ·
  rw [Jg1 h];simp
theorem JjR {l:List JV} {name value:List UInt8} (h:¬ (Jq l name).2.2=0):KN l name value=([],(Jq l name).2.2):=by
 have:WW l name value=(Jq l name).2.2:=by unfold WW;rw [if_pos h]
 unfold KN;rw [if_pos (by omega),this]
theorem JjS {l:List JV} {name value:List UInt8} (h0:(Jq l name).2.2=0) (h:¬ KC name value=0):KN l name value=([],KC name value):=by
 have:WW l name value=KC name value:=by unfold WW;rw [if_neg (by omega),if_pos h]
 unfold KN;rw [if_pos (by omega),this]
theorem JjT {l:List JV} {name value:List UInt8} (h0:(Jq l name).2.2=0) (h1:KC name value=0) (h:(Jq l name).2.1=false∧(l.length:Int)=24):KN l name value=([],7):=by
 have:WW l name value=7:=by unfold WW;rw [if_neg (by omega),if_neg (by omega),if_pos h]
 unfold KN;rw [if_pos (by omega),this]
theorem JjU {l:List JV} {name value:List UInt8} {k:Nat} (h0:(Jq l name).2.2=0) (h1:KC name value=0) (h:(Jq l name).2.1=true) (hk:(Jq l name).1=(k:Int)):KN l name value=(l.set k ⟨name,value⟩,0):=by
 have:WW l name value=0:=by unfold WW;rw [if_neg (by omega),if_neg (by omega),if_neg (by rw [h];simp)]
 unfold KN;rw [if_neg (by omega),if_pos h,hk,Int.toNat_natCast]
theorem JjV {l:List JV} {name value:List UInt8} {k:Nat} (h0:(Jq l name).2.2=0) (h1:KC name value=0) (h:(Jq l name).2.1=false) (h2:(Jq l name).2.1=false→¬ (l.length:Int)=24) (hk:(Jq l name).1=(k:Int)):KN l name value=((Zm l k ⟨[],[]⟩).set k ⟨name,value⟩,0):=by
 have:WW l name value=0:=by unfold WW;rw [if_neg (by omega),if_neg (by omega),if_neg (fun hc=>h2 hc.1 hc.2)]
 unfold KN;rw [if_neg (by omega),if_neg (by rw [h];simp),hk,Int.toNat_natCast]
set_option maxRecDepth 4000 in
theorem Jfi (G:Jt) (a:Option Addr) (c:Nat) (l:List JV) (r:List Ks) (hr:J9 Qo G a c l r) (bv:Nat) (x:JV) (hx0:(x.name).length≤140737488351232) (hx1:(x.value).length≤140737488351232) (i:Nat) (hi:i≤l.length) (hsm:l.length≤1000):JaR Tryz.prog 100 #[Sl a l.length c,I (i:Int),Sl (At bv 0) 1 1] G [r,[Ye 94 bv 0 [Sr x.name,Sr x.value]]] (fun u G' L'=>∃ a' c' r',u=Sl a' (Zm l i x).length c'∧J9 Qo G' a' c' (Zm l i x) r'∧L'=[r']):=by
 intro Lr
 have hlc:=J9.lec hr
 have hcm:=J9.mx hr
 refine JJ Tryz.func100 95 [(0,Sl a l.length c),(1,I (i:Int)),(2,Sl (At bv 0) 1 1)] rfl (fun w0 G0=>?_)
 show TC _ _ _ _ _ (r::[Ye 94 bv 0 [Sr x.name,Sr x.value]]::Lr)
 refine Jg [0] [(0,Sl a l.length c),(1,I (i:Int)),(2,Sl (At bv 0) 1 1)] (Je (Jb (Jd [0,0] [(0,Sl a l.length c),(1,I (i:Int)),(2,Sl (At bv 0) 1 1),(10,Sl a l.length c),(11,I (i:Int))] (Jk9 (a:=a) (len:=l.length) (cap:=c) 12 2 (some (I (i:Int))) none i l.length (.inr ⟨_,rfl⟩) (.inl ⟨rfl,rfl⟩) hi hlc (fun a9=>Jc (Ja (Jg [0,0,0] [(0,Sl a l.length c),(1,I (i:Int)),(2,Sl (At bv 0) 1 1),(7,I (1:Int))] (Je (Jg [0,0] [(0,Sl a l.length c),(1,I (i:Int)),(2,Sl (At bv 0) 1 1),(7,I (1:Int)),(16,Bo (decide ((1:Int)=0)))] (Jo (decide ((1:Int)=0)) (fun h1=>?_) (fun h1=>?_)))))))))))
 try simp only [BB] at h1
 exfalso;omega
 try simp only [BB] at h1
 refine Jm (Ja (Jg [0,0,0] [(0,Sl a l.length c),(1,I (i:Int)),(2,Sl (At bv 0) 1 1),(7,I (1:Int)),(8,I (l.length:Int))] (Je (Jg [0,0,0] [(0,Sl a l.length c),(1,I (i:Int)),(2,Sl (At bv 0) 1 1),(7,I (1:Int)),(8,I (l.length:Int)),(22,Bo (decide ((i:Int)=(l.length:Int))))] (Jo (decide ((i:Int)=(l.length:Int))) (fun h2=>?_) (fun h2=>?_))))))
 try simp only [BB] at h2
 refine Jcx 1 (Je (Jb (Jd [0,0] [(23,Sl a l.length c),(24,Sl (At bv 0) 1 1)] (QJ (b:=bv) (cs:=[Sr x.name,Sr x.value]) 25 94 0 1 (E:=Qo) x hr ⟨rfl,‹_›,‹_›⟩ (by omega) (by simp only [Qo];omega) (fun a1 c1 r1 hr1=>Jd [0] [(6,Sl a1 ((l++[x]).length) c1)] (Jc (Ja (Jk (Jh ?_)))))))))
 have e_:l++[x]=Zm l i x:=Jlg (by omega)
 have en_:(l++[x]).length=(Zm l i x).length:=by (rw [VG hi];(try simp only [List.length_append,List.length_cons,List.length_nil]) <;> omega)
 exact Jl [0] [Sl a1 ((l++[x]).length) c1] (Q3 (Lr:=Lr) [r1] (.cons_cons _ (.cons _ (List.Sublist.refl _))) (Jt.le_refl _) (⟨_,_,_,congrArg (fun n=>Sl a1 n c1) en_,(by rw [← e_];exact hr1),rfl⟩))
 try simp only [BB] at h2
 refine Jm (Ja (Je ?_))
 obtain ⟨b,off,css,spare,rfl,rfl,hc1,hc2,hc3,hsp,_,hmax,hone⟩:=J9.opened hr (by omega)
 refine Jg [0,0,0,0,0,0] [(0,Sl (At b off) l.length c),(1,I (i:Int)),(2,Sl (At bv 0) 1 1),(7,I (1:Int)),(8,I (l.length:Int)),(31,Bo (decide (IntKind.i64.wrap ((l.length:Int)+(1:Int)) > (c:Int))))] ?_
 have e1:IntKind.i64.wrap ((l.length:Int)+(1:Int))=(l.length:Int)+(1:Int):=IntWalk.i64_in _ (by omega)
 refine KQ (fr':=[(0,Sl (At b off) l.length c),(1,I (i:Int)),(2,Sl (At bv 0) 1 1),(7,I (1:Int)),(8,I (l.length:Int)),(31,Bo (decide ((l.length:Int)+(1:Int) > (c:Int))))]) (L':=([Sg b off (css.flatten++spare)]::[Ye 94 bv 0 [Sr x.name,Sr x.value]]::Lr)) (by simp only [e1]) (by rfl) ?_
 clear e1
 refine Jo (decide ((l.length:Int)+(1:Int) > (c:Int))) (fun h3=>?_) (fun h3=>?_)
 try simp only [BB] at h3
 refine Jcx 1 (Je (Jb (Jd [0,0] [(0,Sl (At b off) l.length c),(1,I (i:Int)),(2,Sl (At bv 0) 1 1),(7,I (1:Int)),(8,I (l.length:Int)),(32,Sl (At b off) l.length c),(33,I (i:Int))] (Jcw (b:=b) (off:=off) (len:=l.length) (cap:=c) 34 2 (some (I (i:Int))) i (.inr ⟨_,rfl⟩) (by omega) (Jd [0,0,0,0,0] [(0,Sl (At b off) l.length c),(1,I (i:Int)),(2,Sl (At bv 0) 1 1),(7,I (1:Int)),(34,Sl (At b off) i c),(39,I (IntKind.i64.wrap ((IntKind.i64.wrap ((l.length:Int)+(1:Int)))-(i:Int))))] ?_)))))
 have e2:IntKind.i64.wrap ((l.length:Int)+(1:Int))=(l.length:Int)+(1:Int):=IntWalk.i64_in _ (by omega)
 have e3:IntKind.i64.wrap (((l.length:Int)+(1:Int))-(i:Int))=((l.length+1-i:Nat):Int):=(IntWalk.i64_in _ (by omega)).trans (show ((l.length:Int)+(1:Int))-(i:Int)=((l.length+1-i:Nat):Int) by omega)
 refine J3 (fr':=[(0,Sl (At b off) l.length c),(1,I (i:Int)),(2,Sl (At bv 0) 1 1),(7,I (1:Int)),(34,Sl (At b off) i c),(39,I ((l.length+1-i:Nat):Int))]) (L':=([Sg b off (css.flatten++spare)]::[Sg bv 0 [Sr x.name,Sr x.value]]::Lr)) (by simp only [e2,e3]) (by rfl) ?_
 clear e3 e2
 refine JhW (b:=b) (off:=off) (cap:=c) (F:=(css.flatten++spare)) 40 0 94 2 32 (l.length+1-i) i (by omega) (by omega) (by omega) (by rw [List.length_append,Qw hc3,hc1];simp only [Qo];omega) (by omega) (fun b9 c9 zs hz1 hz2 hz3=>Jd [0] [(0,Sl (At b off) l.length c),(1,I (i:Int)),(2,Sl (At bv 0) 1 1),(7,I (1:Int)),(9,Sl (At b9 0) (i+(l.length+1-i)) c9)] (Jc (Ja (Je (Jb (Jd [0,0] [(0,Sl (At b off) l.length c),(1,I (i:Int)),(2,Sl (At bv 0) 1 1),(7,I (1:Int)),(9,Sl (At b9 0) (i+(l.length+1-i)) c9),(41,Sl (At b9 0) (i+(l.length+1-i)) c9),(42,I (i:Int))] (Va (b:=b9) (off:=0) (len:=(i+(l.length+1-i))) (cap:=c9) 43 2 (some (I (i:Int))) none i (i+(l.length+1-i)) (.inr ⟨_,rfl⟩) (.inl ⟨rfl,rfl⟩) (by omega) (by omega) (by omega) (Jd [0] [(0,Sl (At b off) l.length c),(1,I (i:Int)),(7,I (1:Int)),(9,Sl (At b9 0) (i+(l.length+1-i)) c9),(43,Sl (At b9 (0+i*2)) ((i+(l.length+1-i))-i) (c9-i)),(44,Sl (At bv 0) 1 1)] (Jaf (b:=b9) (off:=0) (p:=(i*2)) (nd:=(i+(l.length+1-i)-i)) (cd:=(c9-i)) (bs:=bv) (os:=0) (ns:=1) (cs:=1) (F:=((css.flatten++spare).take (i*2)++zs)) 45 0 2 [Sr x.name,Sr x.value] (by rw [show Nat.min 1 (i+(l.length+1-i)-i)=1 from by simp only [Nat.min_def];split <;> omega];rfl) (by rw [hz3];simp only [List.length_cons,List.length_nil];omega) (one2 rfl rfl) (.inr ⟨2,0,[Sr x.name,Sr x.value],0,rfl,rfl,fun j v hv=>by rw [Nat.zero_add];exact hv⟩) (Jc (Ja (Je ?_))))))))))))
 have e4:IntKind.i64.wrap ((i:Int)+(1:Int))=((i+1:Nat):Int):=(IntWalk.i64_in _ (by omega)).trans (show (i:Int)+(1:Int)=((i+1:Nat):Int) by omega)
 refine KB [8] (Wr [(0,Sl (At b9 0) (i+(l.length+1-i)) c9),(1,I (i:Int)),(2,I (1:Int)),(3,I ((i+1:Nat):Int)),(4,Sl (At b9 (0+(i+1)*2)) ((i+(l.length+1-i))-(i+1)) (c9-(i+1))),(5,Sl (At b off) l.length c),(6,I (i:Int)),(7,Sl (At b (off+i*2)) (l.length-i) (c-i))] (J1 [] [(0,0),(1,0),(2,0),(5,0),(6,0)] [3,4,7] [8] (List.forall_mem_cons.2 ⟨?_,(List.forall_mem_cons.2 ⟨?_,(List.forall_mem_cons.2 ⟨?_,List.forall_mem_nil _⟩)⟩)⟩) (List.forall_mem_cons.2 ⟨?_,List.forall_mem_nil _⟩)))
 refine Jr 3 49 (I ((i+1:Nat):Int)) [(47,I (i:Int)),(48,I (1:Int))] (fun X=>?_)
 exact K6 49 (I (IntKind.i64.wrap ((i:Int)+(1:Int)))) (I ((i+1:Nat):Int)) (by simp only [e4]) Jp
 refine Jr 4 50 (Sl (At b9 (0+(i+1)*2)) ((i+(l.length+1-i))-(i+1)) (c9-(i+1))) [(46,Sl (At b9 0) (i+(l.length+1-i)) c9),(49,I ((i+1:Nat):Int))] (fun X=>?_)
 exact Va (b:=b9) (off:=0) (len:=(i+(l.length+1-i))) (cap:=c9) 50 2 (some (I ((i+1:Nat):Int))) none (i+1) (i+(l.length+1-i)) (.inr ⟨_,rfl⟩) (.inl ⟨rfl,rfl⟩) (by omega) (by omega) (by omega) Jp
 refine Jr 7 53 (Sl (At b (off+i*2)) (l.length-i) (c-i)) [(51,Sl (At b off) l.length c),(52,I (i:Int))] (fun X=>?_)
 exact Va (b:=b) (off:=off) (len:=l.length) (cap:=c) 53 2 (some (I (i:Int))) none i l.length (.inr ⟨_,rfl⟩) (.inl ⟨rfl,rfl⟩) (by omega) (by omega) (by omega) Jp
 refine JS 8 [(50,Sl (At b9 (0+(i+1)*2)) ((i+(l.length+1-i))-(i+1)) (c9-(i+1))),(53,Sl (At b (off+i*2)) (l.length-i) (c-i))] (fun X=>?_)
 refine Jaf (b:=b9) (off:=0) (p:=((i+1)*2)) (nd:=(i+(l.length+1-i)-(i+1))) (cd:=(c9-(i+1))) (bs:=b) (os:=(off+i*2)) (ns:=(l.length-i)) (cs:=(c-i)) (F:=(QH ((css.flatten++spare).take (i*2)++zs) (i*2) [Sr x.name,Sr x.value])) 54 0 2 (css.drop i).flatten (by rw [Zl hc3,hc1,show Nat.min (l.length-i) (i+(l.length+1-i)-(i+1))=l.length-i from by simp only [Nat.min_def];split <;> omega];rfl) (by rw [Zt (by rw [hz3];simp only [List.length_cons,List.length_nil];omega),hz3,Zl hc3,hc1];simp only [Qo];omega) (JiY i hone) (.inr ⟨1,off,(css.flatten++spare),i*2,rfl,rfl,Ji0 (sz:=2) hc3 (by omega)⟩) (JW [(8,I ((Nat.min (l.length-i) (i+(l.length+1-i)-(i+1)):Nat):Int))] (KA [0,1,2,3,4,5,6,7] [] [] [(9,Sl (At b9 0) (i+(l.length+1-i)) c9)] (List.forall_mem_nil _) (Ja (Jg [0,0] [(6,Sl (At b9 0) (i+(l.length+1-i)) c9)] (Jk (Jh ?_))))))
 have en_:i+(l.length+1-i)=(Zm l i x).length:=by (rw [VG hi];(try simp only [List.length_append,List.length_cons,List.length_nil]) <;> omega)
 exact Jl [0] [Sl (At b9 0) (i+(l.length+1-i)) c9] (Q3 (Lr:=Lr) [[Sg b9 0 (QH (QH ((css.flatten++spare).take (i*2)++zs) (i*2) [Sr x.name,Sr x.value]) ((i+1)*2) (css.drop i).flatten)]] (.cons_cons _ (.cons _ (.cons _ (List.Sublist.refl _)))) (Jt.le_refl _) (⟨_,_,_,congrArg (fun n=>Sl (At b9 0) n c9) en_,(J9.insG (spare:=spare) i hi hc1 hc2 ⟨rfl,hx0,hx1⟩ hz3 (by omega) hz2),rfl⟩))
 try simp only [BB] at h3
 refine Jm (Ja (Je (Jb (Jd [0,0,0,0] [(0,Sl (At b off) l.length c),(1,I (i:Int)),(2,Sl (At bv 0) 1 1),(7,I (1:Int)),(8,I (l.length:Int)),(56,Sl (At b off) l.length c),(59,I (IntKind.i64.wrap ((l.length:Int)+(1:Int))))] ?_))))
 have e5:IntKind.i64.wrap ((l.length:Int)+(1:Int))=((l.length+1:Nat):Int):=(IntWalk.i64_in _ (by omega)).trans (show (l.length:Int)+(1:Int)=((l.length+1:Nat):Int) by omega)
 refine J3 (fr':=[(0,Sl (At b off) l.length c),(1,I (i:Int)),(2,Sl (At bv 0) 1 1),(7,I (1:Int)),(8,I (l.length:Int)),(56,Sl (At b off) l.length c),(59,I ((l.length+1:Nat):Int))]) (L':=([Sg b off (css.flatten++spare)]::[Ye 94 bv 0 [Sr x.name,Sr x.value]]::Lr)) (by simp only [e5]) (by rfl) ?_
 clear e5
 refine Jcw (b:=b) (off:=off) (len:=l.length) (cap:=c) 60 2 (some (I ((l.length+1:Nat):Int))) (l.length+1) (.inr ⟨_,rfl⟩) (by omega) (Jd [0] [(0,Sl (At b off) (l.length+1) c),(1,I (i:Int)),(2,Sl (At bv 0) 1 1),(7,I (1:Int)),(8,I (l.length:Int))] (Jc (Ja (Je (Je (Jb (Jd [0,0,0,0,0] [(0,Sl (At b off) (l.length+1) c),(1,I (i:Int)),(2,Sl (At bv 0) 1 1),(7,I (1:Int)),(8,I (l.length:Int)),(61,Sl (At bv 0) 1 1),(62,Sl (At b off) (l.length+1) c),(65,I (IntKind.i64.wrap ((i:Int)+(1:Int))))] ?_)))))))
 have e6:IntKind.i64.wrap ((i:Int)+(1:Int))=((i+1:Nat):Int):=(IntWalk.i64_in _ (by omega)).trans (show (i:Int)+(1:Int)=((i+1:Nat):Int) by omega)
 refine J3 (fr':=[(0,Sl (At b off) (l.length+1) c),(1,I (i:Int)),(2,Sl (At bv 0) 1 1),(7,I (1:Int)),(8,I (l.length:Int)),(61,Sl (At bv 0) 1 1),(62,Sl (At b off) (l.length+1) c),(65,I ((i+1:Nat):Int))]) (L':=([Sg b off (css.flatten++spare)]::[Ye 94 bv 0 [Sr x.name,Sr x.value]]::Lr)) (by simp only [e6]) (by rfl) ?_
 clear e6
 refine Va (b:=b) (off:=off) (len:=(l.length+1)) (cap:=c) 66 2 (some (I ((i+1:Nat):Int))) none (i+1) (l.length+1) (.inr ⟨_,rfl⟩) (.inl ⟨rfl,rfl⟩) (by omega) (by omega) (by omega) ?_
 refine JjM (f:=135) (args:=#[Sl (At bv 0) 1 1,Sl (At b (off+(i+1)*2)) ((l.length+1)-(i+1)) (c-(i+1))]) 67 (Bo false) (fun w hw=>?_) ?_
 rw [run_callFunc_extern (e:=Extern.SlicesOverlaps.overlaps #[66,66] #[4]) Tryz.func135 (by kernel_rfl) (by kernel_rfl) (by kernel_rfl) (by kernel_rfl),JjN hw (i:=1) (j:=0) rfl (by simp) rfl (by rw [List.length_append,Qw hc3,hc1,hsp];simp only [Qo];omega) (by decide) 66 4 94 2 (by kernel_rfl) (fun w=>by kernel_rfl)]
 rfl
 refine Jd [0] [(0,Sl (At b off) (l.length+1) c),(1,I (i:Int)),(2,Sl (At bv 0) 1 1),(7,I (1:Int)),(8,I (l.length:Int)),(68,Bo true)] (Jc (Ja (JZ (Jcx 1 (Je ?_)))))
 have e7:IntKind.i64.wrap ((i:Int)+(1:Int))=((i+1:Nat):Int):=(IntWalk.i64_in _ (by omega)).trans (show (i:Int)+(1:Int)=((i+1:Nat):Int) by omega)
 refine KB [8] (Wr [(0,Sl (At b off) (l.length+1) c),(1,I (i:Int)),(2,I (1:Int)),(3,I ((i+1:Nat):Int)),(4,Sl (At b (off+(i+1)*2)) ((l.length+1)-(i+1)) (c-(i+1))),(5,Sl (At b off) (l.length+1) c),(6,I (i:Int)),(7,Sl (At b (off+i*2)) ((l.length+1)-i) (c-i))] (J1 [] [(0,0),(1,0),(2,0),(5,0),(6,0)] [3,4,7] [8] (List.forall_mem_cons.2 ⟨?_,(List.forall_mem_cons.2 ⟨?_,(List.forall_mem_cons.2 ⟨?_,List.forall_mem_nil _⟩)⟩)⟩) (List.forall_mem_cons.2 ⟨?_,List.forall_mem_nil _⟩)))
 refine Jr 3 72 (I ((i+1:Nat):Int)) [(70,I (i:Int)),(71,I (1:Int))] (fun X=>?_)
 exact K6 72 (I (IntKind.i64.wrap ((i:Int)+(1:Int)))) (I ((i+1:Nat):Int)) (by simp only [e7]) Jp
 refine Jr 4 73 (Sl (At b (off+(i+1)*2)) ((l.length+1)-(i+1)) (c-(i+1))) [(69,Sl (At b off) (l.length+1) c),(72,I ((i+1:Nat):Int))] (fun X=>?_)
 exact Va (b:=b) (off:=off) (len:=(l.length+1)) (cap:=c) 73 2 (some (I ((i+1:Nat):Int))) none (i+1) (l.length+1) (.inr ⟨_,rfl⟩) (.inl ⟨rfl,rfl⟩) (by omega) (by omega) (by omega) Jp
 refine Jr 7 76 (Sl (At b (off+i*2)) ((l.length+1)-i) (c-i)) [(74,Sl (At b off) (l.length+1) c),(75,I (i:Int))] (fun X=>?_)
 exact Va (b:=b) (off:=off) (len:=(l.length+1)) (cap:=c) 76 2 (some (I (i:Int))) none i (l.length+1) (.inr ⟨_,rfl⟩) (.inl ⟨rfl,rfl⟩) (by omega) (by omega) (by omega) Jp
 refine JS 8 [(73,Sl (At b (off+(i+1)*2)) ((l.length+1)-(i+1)) (c-(i+1))),(76,Sl (At b (off+i*2)) ((l.length+1)-i) (c-i))] (fun X=>?_)
 refine Jaf (b:=b) (off:=off) (p:=((i+1)*2)) (nd:=(l.length+1-(i+1))) (cd:=(c-(i+1))) (bs:=b) (os:=(off+i*2)) (ns:=(l.length+1-i)) (cs:=(c-i)) (F:=(css.flatten++spare)) 77 0 2 (css.drop i).flatten (by rw [Zl hc3,hc1,show Nat.min (l.length+1-i) (l.length+1-(i+1))=l.length-i from by simp only [Nat.min_def];split <;> omega];rfl) (by rw [List.length_append,Qw hc3,hc1,hsp];simp only [Qo];rw [Zl hc3,hc1];simp only [Qo];omega) (JiY i hone) (.inr ⟨0,off,(css.flatten++spare),i*2,rfl,rfl,Ji0 (sz:=2) hc3 (by omega)⟩) (JW [(8,I ((Nat.min (l.length+1-i) (l.length+1-(i+1)):Nat):Int))] (KA [0,1,2,3,4,5,6,7] [] [] [(0,Sl (At b off) (l.length+1) c),(1,I (i:Int)),(2,Sl (At bv 0) 1 1)] (List.forall_mem_nil _) (Ja (Je (Jb (Jd [0,0] [(0,Sl (At b off) (l.length+1) c),(2,Sl (At bv 0) 1 1),(78,Sl (At b off) (l.length+1) c),(79,I (i:Int))] (Va (b:=b) (off:=off) (len:=(l.length+1)) (cap:=c) 80 2 (some (I (i:Int))) none i (l.length+1) (.inr ⟨_,rfl⟩) (.inl ⟨rfl,rfl⟩) (by omega) (by omega) (by omega) (Jd [0] [(0,Sl (At b off) (l.length+1) c),(80,Sl (At b (off+i*2)) ((l.length+1)-i) (c-i)),(81,Sl (At bv 0) 1 1)] (Jaf (b:=b) (off:=off) (p:=(i*2)) (nd:=(l.length+1-i)) (cd:=(c-i)) (bs:=bv) (os:=0) (ns:=1) (cs:=1) (F:=(QH (css.flatten++spare) ((i+1)*2) (css.drop i).flatten)) 82 0 2 [Sr x.name,Sr x.value] (by rw [show Nat.min 1 (l.length+1-i)=1 from by simp only [Nat.min_def];split <;> omega];rfl) (by rw [Zt (by rw [List.length_append,Qw hc3,hc1,hsp];simp only [Qo];rw [Zl hc3,hc1];simp only [Qo];omega)];rw [List.length_append,Qw hc3,hc1,hsp];simp only [Qo];simp only [List.length_cons,List.length_nil];omega) (one2 rfl rfl) (.inr ⟨1,0,[Sr x.name,Sr x.value],0,rfl,rfl,fun j v hv=>by rw [Nat.zero_add];exact hv⟩) (Jc (Ja (Jg [0,0] [(6,Sl (At b off) (l.length+1) c)] (Jk (Jh ?_))))))))))))))
 have en_:l.length+1=(Zm l i x).length:=by (rw [VG hi];done)
 exact Jl [0] [Sl (At b off) (l.length+1) c] (Q3 (Lr:=Lr) [[Sg b off (QH (QH (css.flatten++spare) ((i+1)*2) (css.drop i).flatten) (i*2) [Sr x.name,Sr x.value])]] (.cons_cons _ (.cons _ (List.Sublist.refl _))) (Jt.le_refl _) (⟨_,_,_,congrArg (fun n=>Sl (At b off) n c) en_,(J9.insP i hi hc1 hc2 ⟨rfl,hx0,hx1⟩ hsp (by omega) hcm),rfl⟩))
set_option maxRecDepth 20000 in
theorem Jg3 (G:Jt) (a_l:Option Addr) (c_l:Nat) (l:List JV) (h_l:RS Qo G a_l c_l l) (name:List UInt8) (hw_name:(name).length≤140737488351232) (value:List UInt8) (hw_value:(value).length≤140737488351232) :QF Tryz.prog 61 #[Sl a_l l.length c_l,Sr name,Sr value] G [] (fun u G' L'=>∃ (a1:Option Addr) (c2:Nat) (r3:List Ks),u=.tuple #[Sl a1 (((KN l name value).1).length) c2,I ((KN l name value).2)]∧(J9 Qo G' a1 c2 ((KN l name value).1) r3)∧L'=[r3]):=by
 refine JJ Tryz.func61 52 [(0,Sl a_l l.length c_l),(1,Sr name),(2,Sr value)] rfl (fun w0 G0=>?_)
 refine Jg [0,0] [(0,Sl a_l l.length c_l),(1,Sr name),(2,Sr value)] (Je (Jb (Jd [0,0] [(0,Sl a_l l.length c_l),(1,Sr name),(2,Sr value),(13,Sl a_l l.length c_l),(14,Sr name)] (Ji 15 (.tuple #[I ((Jq l name).1),Bo ((Jq l name).2.1),I ((Jq l name).2.2)]) (JbY G a_l c_l l h_l name hw_name) (Jd [0,0,0,0,0,0,0] [(0,Sl a_l l.length c_l),(1,Sr name),(2,Sr value),(8,I ((Jq l name).1)),(9,Bo ((Jq l name).2.1)),(10,I ((Jq l name).2.2))] (Jc (Ja (Je (Jg [0,0] [(0,Sl a_l l.length c_l),(1,Sr name),(2,Sr value),(8,I ((Jq l name).1)),(9,Bo ((Jq l name).2.1)),(10,I ((Jq l name).2.2)),(20,Bo (decide ((Jq l name).2.2=0)))] (Jo (decide ((Jq l name).2.2=0)) (fun h1=>?_) (fun h1=>?_)))))))))))
 try simp only [BB] at h1
 refine Jb (Jd [0,0] [(0,Sl a_l l.length c_l),(1,Sr name),(2,Sr value),(8,I ((Jq l name).1)),(9,Bo ((Jq l name).2.1)),(10,I ((Jq l name).2.2)),(21,Sr name),(22,Sr value)] (Ji 23 (I (KC name value)) (Jbr G name value) (Jd [0] [(0,Sl a_l l.length c_l),(1,Sr name),(2,Sr value),(8,I ((Jq l name).1)),(9,Bo ((Jq l name).2.1)),(10,I (KC name value))] (Jc (Ja (Je (Jz (Jg [0,0,0] [(0,Sl a_l l.length c_l),(1,Sr name),(2,Sr value),(8,I ((Jq l name).1)),(9,Bo ((Jq l name).2.1)),(10,I (KC name value)),(24,Bo (!decide (KC name value=0)))] (Jo (!decide (KC name value=0)) (fun h2=>?_) (fun h2=>?_))))))))))
 try simp only [BB] at h2
 refine Jg [0,0,0] [(6,Sl none 0 0),(7,I (KC name value))] (Jk (Js (Jh (Zb (Jj 0 ?_)))))
 have hf1:KN l name value=([],KC name value):=by
  exact JjS ‹_› ‹_›
 refine Jl [0,0] [Sl none 0 0,I (KC name value)] (JY [[]] (.cons_cons _ .slnil) (Jt.le_refl _) ?_)
 rw [hf1]
 try dsimp only
 exact ⟨none,0,([]),rfl,(J9.none Qo _),rfl⟩
 try simp only [BB] at h2
 refine Je (Jb (Jd [0,0,0] [(0,Sl a_l l.length c_l),(1,Sr name),(2,Sr value),(8,I ((Jq l name).1)),(9,Bo ((Jq l name).2.1)),(31,Bo (!((Jq l name).2.1)))] (KD (!((Jq l name).2.1)) (fun bb=>[(0,Sl a_l l.length c_l),(1,Sr name),(2,Sr value),(8,I ((Jq l name).1)),(9,Bo ((Jq l name).2.1)),(31,Bo bb)]) [0,0,0,0] [1,1,1,0] (fun bb=>[(0,Sl a_l l.length c_l),(1,Sr name),(2,Sr value),(8,I ((Jq l name).1)),(9,Bo ((Jq l name).2.1)),(35,Bo (bb && (decide ((l.length:Int)=24))))]) (Jd [0] [(0,Sl a_l l.length c_l),(1,Sr name),(2,Sr value),(8,I ((Jq l name).1)),(9,Bo ((Jq l name).2.1)),(28,Bo ((!((Jq l name).2.1)) && (decide ((l.length:Int)=24))))] (Jc (Ja (Jo ((!((Jq l name).2.1)) && (decide ((l.length:Int)=24))) (fun h3=>?_) (fun h3=>?_))))))))
 try simp only [BB] at h3
 refine Jg [0,0] [(6,Sl none 0 0),(7,I 7)] (Jk (Js (Jh (Zb (Jj 0 ?_)))))
 have hf2:KN l name value=([],7):=by
  exact JjT ‹_› ‹_› ‹_›
 refine Jl [0,0] [Sl none 0 0,I 7] (JY [[]] (.cons_cons _ .slnil) (Jt.le_refl _) ?_)
 rw [hf2]
 try dsimp only
 exact ⟨none,0,([]),rfl,(J9.none Qo _),rfl⟩
 try simp only [BB] at h3
 refine Jm (JM (Ja (Je (Jb (Jd [0] [(1,Sr name),(2,Sr value),(8,I ((Jq l name).1)),(9,Bo ((Jq l name).2.1)),(36,Sl a_l l.length c_l)] (JQ 37 (Z3 G a_l c_l l h_l) (fun v G1 L1 hl1 hp=>?_)))))))
 obtain ⟨a1,c1,r1,rfl,hr1,rfl⟩:=hp
 refine Jd [0] [(1,Sr name),(2,Sr value),(8,I ((Jq l name).1)),(9,Bo ((Jq l name).2.1)),(11,Sl a1 l.length c1)] (Jc (Ja (Je (Jg [0,0] [(1,Sr name),(2,Sr value),(8,I ((Jq l name).1)),(11,Sl a1 l.length c1),(39,Bo (!((Jq l name).2.1)))] (Jo (!((Jq l name).2.1)) (fun h4=>?_) (fun h4=>?_))))))
 try simp only [BB] at h4
 refine Jb (Jd [0,0,0] [(1,Sr name),(2,Sr value),(8,I ((Jq l name).1)),(11,Sl a1 l.length c1),(40,Sl a1 l.length c1),(41,I ((Jq l name).1)),(42,.agg #[Sr ([]),Sr ([])])] (Jfg 43 1 #[Sr ([]),Sr ([])] 94 (fun b1=>?_)))
 obtain ⟨kn1,hkn1⟩:∃ k_:Nat,(Jq l name).1=(k_:Int):=⟨((Jq l name).1).toNat,by (have q_:=WX (l:=l) (name:=name) ‹_›;omega)⟩
 have e1:(Jq l name).1=(kn1:Int):=hkn1
 refine Jd [] [(1,Sr name),(2,Sr value),(8,I ((Jq l name).1)),(11,Sl a1 l.length c1),(40,Sl a1 l.length c1),(41,I ((Jq l name).1)),(42,.agg #[Sr ([]),Sr ([])]),(43,Sl (At b1 0) 1 1)] (J3 (fr':=[(1,Sr name),(2,Sr value),(8,I (kn1:Int)),(11,Sl a1 l.length c1),(40,Sl a1 l.length c1),(41,I (kn1:Int)),(42,.agg #[Sr ([]),Sr ([])]),(43,Sl (At b1 0) 1 1)]) (L':=[[Ye 94 b1 0 [Sr ([]),Sr ([])]],r1]) (by (simp only [e1];done)) (by rfl) (JG 0 (JG 1 (Qr (Ls:=[r1,[Ye 94 b1 0 [Sr ([]),Sr ([])]]]) (Lr:=[]) 44 (Jfi G1 a1 c1 l r1 hr1 b1 (⟨[],[]⟩:JV) (Nat.le_of_ble_eq_true rfl) (Nat.le_of_ble_eq_true rfl) kn1 (by (have q_:=WX (l:=l) (name:=name) ‹_›;omega)) (by (have q_:=WX (l:=l) (name:=name) ‹_›;omega))) (fun v G2 L1 hl2 hp=>?_)))))
 obtain ⟨a2,c2,_,rfl,hr2,rfl⟩:=hp
 refine Jd [0] [(1,Sr name),(2,Sr value),(8,I (kn1:Int)),(11,Sl a2 ((Zm l kn1 (⟨[],[]⟩:JV)).length) c2)] (Jc (Ja (Je (Jb (Jd [0,0,0,0,0] [(11,Sl a2 ((Zm l kn1 (⟨[],[]⟩:JV)).length) c2),(45,Sl a2 ((Zm l kn1 (⟨[],[]⟩:JV)).length) c2),(46,I (kn1:Int)),(49,.agg #[Sr name,Sr value])] ?_)))))
 obtain ⟨_,hx1⟩:=Wh (l:=Zm l kn1 (⟨[],[]⟩:JV)) (k:=kn1) (by (have q_:=WX (l:=l) (name:=name) ‹_›;(rw [VG (by omega)];omega)))
 obtain ⟨b2,o1,_,_,⟨rfl,_,_⟩,ha1,_,_⟩:=J9.ix hr2 hx1
 refine Qz (b:=b2) (off:=o1) (len:=(Zm l kn1 (⟨[],[]⟩:JV)).length) (cap:=c2) (ik:=.i64) 50 94 2 kn1 ha1 (by (have q_:=WX (l:=l) (name:=name) ‹_›;(rw [VG (by omega)];omega))) (Jd [] [(11,Sl a2 ((Zm l kn1 (⟨[],[]⟩:JV)).length) c2),(49,.agg #[Sr name,Sr value]),(50,Pt b2 (o1+kn1*2))] (Ys (b:=b2) (off:=o1) 0 hr2 kn1 (⟨name,value⟩:JV) ha1 (by (have q_:=WX (l:=l) (name:=name) ‹_›;(rw [VG (by omega)];omega))) (.agg #[Sr name,Sr value]) [Sr name,Sr value] ⟨rfl,hw_name,hw_value⟩ (fun r3 hr3=>?_)))
 have e2:(Zm l kn1 (⟨[],[]⟩:JV)).length=((Zm l kn1 (⟨[],[]⟩:JV)).set kn1 (⟨name,value⟩:JV)).length:=(List.length_set ..).symm
 refine J3 (fr':=[(11,Sl a2 (((Zm l kn1 (⟨[],[]⟩:JV)).set kn1 (⟨name,value⟩:JV)).length) c2),(49,.agg #[Sr name,Sr value]),(50,Pt b2 (o1+kn1*2))]) (L':=[r3]) (by simp only [e2]) (by rfl) (Jc (Ja (Jg [0,0,0] [(6,Sl a2 (((Zm l kn1 (⟨[],[]⟩:JV)).set kn1 (⟨name,value⟩:JV)).length) c2),(7,I 0)] (Jk (Jj 0 ?_)))))
 have hf3:KN l name value=((Zm l kn1 (⟨[],[]⟩:JV)).set kn1 (⟨name,value⟩:JV),0):=by
  exact JjV ‹_› ‹_› ‹_› ‹_› ‹_›
 refine Jl [0,0] [Sl a2 (((Zm l kn1 (⟨[],[]⟩:JV)).set kn1 (⟨name,value⟩:JV)).length) c2,I 0] (JY [r3] (.cons_cons _ .slnil) (Jt.le_trans hl1 hl2) ?_)
 rw [hf3]
 try dsimp only
 exact ⟨a2,c2,r3,rfl,hr3,rfl⟩
 try simp only [BB] at h4
 refine Jm (Ja (Je (Jb (Jd [0,0,0,0,0] [(11,Sl a1 l.length c1),(45,Sl a1 l.length c1),(46,I ((Jq l name).1)),(49,.agg #[Sr name,Sr value])] ?_))))
 obtain ⟨kn2,hkn2⟩:∃ k_:Nat,(Jq l name).1=(k_:Int):=⟨((Jq l name).1).toNat,by (have q_:=WX (l:=l) (name:=name) ‹_›;omega)⟩
 have e3:(Jq l name).1=(kn2:Int):=hkn2
 refine Jd [] [(11,Sl a1 l.length c1),(45,Sl a1 l.length c1),(46,I ((Jq l name).1)),(49,.agg #[Sr name,Sr value])] (J3 (fr':=[(11,Sl a1 l.length c1),(45,Sl a1 l.length c1),(46,I (kn2:Int)),(49,.agg #[Sr name,Sr value])]) (L':=[r1]) (by (simp only [e3];done)) (by rfl) ?_)
 obtain ⟨_,hx2⟩:=Wh (l:=l) (k:=kn2) (by (have q_:=WX (l:=l) (name:=name) ‹_›;(have q1_:=Z6 (l:=l) (name:=name) ‹_›;omega)))
 obtain ⟨b3,o2,_,_,⟨rfl,_,_⟩,ha2,_,_⟩:=J9.ix hr1 hx2
 refine Qz (b:=b3) (off:=o2) (len:=l.length) (cap:=c1) (ik:=.i64) 50 94 2 kn2 ha2 (by (have q_:=WX (l:=l) (name:=name) ‹_›;(have q1_:=Z6 (l:=l) (name:=name) ‹_›;omega))) (Jd [] [(11,Sl a1 l.length c1),(49,.agg #[Sr name,Sr value]),(50,Pt b3 (o2+kn2*2))] (Ys (b:=b3) (off:=o2) 0 hr1 kn2 (⟨name,value⟩:JV) ha2 (by (have q_:=WX (l:=l) (name:=name) ‹_›;(have q1_:=Z6 (l:=l) (name:=name) ‹_›;omega))) (.agg #[Sr name,Sr value]) [Sr name,Sr value] ⟨rfl,hw_name,hw_value⟩ (fun r4 hr4=>?_)))
 have e4:l.length=(l.set kn2 (⟨name,value⟩:JV)).length:=(List.length_set ..).symm
 refine J3 (fr':=[(11,Sl a1 ((l.set kn2 (⟨name,value⟩:JV)).length) c1),(49,.agg #[Sr name,Sr value]),(50,Pt b3 (o2+kn2*2))]) (L':=[r4]) (by simp only [e4]) (by rfl) (Jc (Ja (Jg [0,0,0] [(6,Sl a1 ((l.set kn2 (⟨name,value⟩:JV)).length) c1),(7,I 0)] (Jk (Jj 0 ?_)))))
 have hf4:KN l name value=(l.set kn2 (⟨name,value⟩:JV),0):=by
  exact JjU ‹_› ‹_› ‹_› ‹_›
 refine Jl [0,0] [Sl a1 ((l.set kn2 (⟨name,value⟩:JV)).length) c1,I 0] (JY [r4] (.cons_cons _ .slnil) hl1 ?_)
 rw [hf4]
 try dsimp only
 exact ⟨a1,c1,r4,rfl,hr4,rfl⟩
 try simp only [BB] at h1
 refine Jm (Ja (Je (Jz (Jg [0,0,0] [(0,Sl a_l l.length c_l),(1,Sr name),(2,Sr value),(8,I ((Jq l name).1)),(9,Bo ((Jq l name).2.1)),(10,I ((Jq l name).2.2)),(24,Bo (!decide ((Jq l name).2.2=0)))] (Jo (!decide ((Jq l name).2.2=0)) (fun h5=>?_) (fun h5=>?_))))))
 try simp only [BB] at h5
 refine Jg [0,0,0] [(6,Sl none 0 0),(7,I ((Jq l name).2.2))] (Jk (Js (Jh (Zb (Jj 0 ?_)))))
 have hf5:KN l name value=([],(Jq l name).2.2):=by
  exact JjR ‹_›
 refine Jl [0,0] [Sl none 0 0,I ((Jq l name).2.2)] (JY [[]] (.cons_cons _ .slnil) (Jt.le_refl _) ?_)
 rw [hf5]
 try dsimp only
 exact ⟨none,0,([]),rfl,(J9.none Qo _),rfl⟩
 try simp only [BB] at h5
 refine Je (Jb (Jd [0,0,0] [(0,Sl a_l l.length c_l),(1,Sr name),(2,Sr value),(8,I ((Jq l name).1)),(9,Bo ((Jq l name).2.1)),(31,Bo (!((Jq l name).2.1)))] (KD (!((Jq l name).2.1)) (fun bb=>[(0,Sl a_l l.length c_l),(1,Sr name),(2,Sr value),(8,I ((Jq l name).1)),(9,Bo ((Jq l name).2.1)),(31,Bo bb)]) [0,0,0,0] [1,1,1,0] (fun bb=>[(0,Sl a_l l.length c_l),(1,Sr name),(2,Sr value),(8,I ((Jq l name).1)),(9,Bo ((Jq l name).2.1)),(35,Bo (bb && (decide ((l.length:Int)=24))))]) (Jd [0] [(0,Sl a_l l.length c_l),(1,Sr name),(2,Sr value),(8,I ((Jq l name).1)),(9,Bo ((Jq l name).2.1)),(28,Bo ((!((Jq l name).2.1)) && (decide ((l.length:Int)=24))))] (Jc (Ja (Jo ((!((Jq l name).2.1)) && (decide ((l.length:Int)=24))) (fun h6=>?_) (fun h6=>?_))))))))
 try simp only [BB] at h6
 refine Jg [0,0] [(6,Sl none 0 0),(7,I 7)] (Jk (Js (Jh (Zb (Jj 0 ?_)))))
 have hf6:KN l name value=([],7):=by
  (exfalso;omega)
 refine Jl [0,0] [Sl none 0 0,I 7] (JY [[]] (.cons_cons _ .slnil) (Jt.le_refl _) ?_)
 rw [hf6]
 try dsimp only
 exact ⟨none,0,([]),rfl,(J9.none Qo _),rfl⟩
 try simp only [BB] at h6
 refine Jm (JM (Ja (Je (Jb (Jd [0] [(1,Sr name),(2,Sr value),(8,I ((Jq l name).1)),(9,Bo ((Jq l name).2.1)),(36,Sl a_l l.length c_l)] (JQ 37 (Z3 G a_l c_l l h_l) (fun v G3 L1 hl3 hp=>?_)))))))
 obtain ⟨a3,c3,r5,rfl,hr5,rfl⟩:=hp
 refine Jd [0] [(1,Sr name),(2,Sr value),(8,I ((Jq l name).1)),(9,Bo ((Jq l name).2.1)),(11,Sl a3 l.length c3)] (Jc (Ja (Je (Jg [0,0] [(1,Sr name),(2,Sr value),(8,I ((Jq l name).1)),(11,Sl a3 l.length c3),(39,Bo (!((Jq l name).2.1)))] (Jo (!((Jq l name).2.1)) (fun h7=>?_) (fun h7=>?_))))))
 try simp only [BB] at h7
 refine Jb (Jd [0,0,0] [(1,Sr name),(2,Sr value),(8,I ((Jq l name).1)),(11,Sl a3 l.length c3),(40,Sl a3 l.length c3),(41,I ((Jq l name).1)),(42,.agg #[Sr ([]),Sr ([])])] (Jfg 43 1 #[Sr ([]),Sr ([])] 94 (fun b4=>?_)))
 obtain ⟨kn3,hkn3⟩:∃ k_:Nat,(Jq l name).1=(k_:Int):=⟨((Jq l name).1).toNat,by omega⟩
 have e5:(Jq l name).1=(kn3:Int):=hkn3
 refine Jd [] [(1,Sr name),(2,Sr value),(8,I ((Jq l name).1)),(11,Sl a3 l.length c3),(40,Sl a3 l.length c3),(41,I ((Jq l name).1)),(42,.agg #[Sr ([]),Sr ([])]),(43,Sl (At b4 0) 1 1)] (J3 (fr':=[(1,Sr name),(2,Sr value),(8,I (kn3:Int)),(11,Sl a3 l.length c3),(40,Sl a3 l.length c3),(41,I (kn3:Int)),(42,.agg #[Sr ([]),Sr ([])]),(43,Sl (At b4 0) 1 1)]) (L':=[[Ye 94 b4 0 [Sr ([]),Sr ([])]],r5]) (by (simp only [e5];done)) (by rfl) (JG 0 (JG 1 (Qr (Ls:=[r5,[Ye 94 b4 0 [Sr ([]),Sr ([])]]]) (Lr:=[]) 44 (Jfi G3 a3 c3 l r5 hr5 b4 (⟨[],[]⟩:JV) (Nat.le_of_ble_eq_true rfl) (Nat.le_of_ble_eq_true rfl) kn3 (by omega) (by omega)) (fun v G4 L1 hl4 hp=>?_)))))
 obtain ⟨a4,c4,_,rfl,hr6,rfl⟩:=hp
 refine Jd [0] [(1,Sr name),(2,Sr value),(8,I (kn3:Int)),(11,Sl a4 ((Zm l kn3 (⟨[],[]⟩:JV)).length) c4)] (Jc (Ja (Je (Jb (Jd [0,0,0,0,0] [(11,Sl a4 ((Zm l kn3 (⟨[],[]⟩:JV)).length) c4),(45,Sl a4 ((Zm l kn3 (⟨[],[]⟩:JV)).length) c4),(46,I (kn3:Int)),(49,.agg #[Sr name,Sr value])] ?_)))))
 obtain ⟨_,hx3⟩:=Wh (l:=Zm l kn3 (⟨[],[]⟩:JV)) (k:=kn3) (by omega)
 obtain ⟨b5,o3,_,_,⟨rfl,_,_⟩,ha3,_,_⟩:=J9.ix hr6 hx3
 refine Qz (b:=b5) (off:=o3) (len:=(Zm l kn3 (⟨[],[]⟩:JV)).length) (cap:=c4) (ik:=.i64) 50 94 2 kn3 ha3 (by omega) (Jd [] [(11,Sl a4 ((Zm l kn3 (⟨[],[]⟩:JV)).length) c4),(49,.agg #[Sr name,Sr value]),(50,Pt b5 (o3+kn3*2))] (Ys (b:=b5) (off:=o3) 0 hr6 kn3 (⟨name,value⟩:JV) ha3 (by omega) (.agg #[Sr name,Sr value]) [Sr name,Sr value] ⟨rfl,hw_name,hw_value⟩ (fun r7 hr7=>?_)))
 have e6:(Zm l kn3 (⟨[],[]⟩:JV)).length=((Zm l kn3 (⟨[],[]⟩:JV)).set kn3 (⟨name,value⟩:JV)).length:=(List.length_set ..).symm
 refine J3 (fr':=[(11,Sl a4 (((Zm l kn3 (⟨[],[]⟩:JV)).set kn3 (⟨name,value⟩:JV)).length) c4),(49,.agg #[Sr name,Sr value]),(50,Pt b5 (o3+kn3*2))]) (L':=[r7]) (by simp only [e6]) (by rfl) (Jc (Ja (Jg [0,0,0] [(6,Sl a4 (((Zm l kn3 (⟨[],[]⟩:JV)).set kn3 (⟨name,value⟩:JV)).length) c4),(7,I 0)] (Jk (Jj 0 ?_)))))
 have hf7:KN l name value=((Zm l kn3 (⟨[],[]⟩:JV)).set kn3 (⟨name,value⟩:JV),0):=by
  (exfalso;omega)
 refine Jl [0,0] [Sl a4 (((Zm l kn3 (⟨[],[]⟩:JV)).set kn3 (⟨name,value⟩:JV)).length) c4,I 0] (JY [r7] (.cons_cons _ .slnil) (Jt.le_trans hl3 hl4) ?_)
 rw [hf7]
 try dsimp only
 exact ⟨a4,c4,r7,rfl,hr7,rfl⟩
 try simp only [BB] at h7
 refine Jm (Ja (Je (Jb (Jd [0,0,0,0,0] [(11,Sl a3 l.length c3),(45,Sl a3 l.length c3),(46,I ((Jq l name).1)),(49,.agg #[Sr name,Sr value])] ?_))))
 obtain ⟨kn4,hkn4⟩:∃ k_:Nat,(Jq l name).1=(k_:Int):=⟨((Jq l name).1).toNat,by omega⟩
 have e7:(Jq l name).1=(kn4:Int):=hkn4
 refine Jd [] [(11,Sl a3 l.length c3),(45,Sl a3 l.length c3),(46,I ((Jq l name).1)),(49,.agg #[Sr name,Sr value])] (J3 (fr':=[(11,Sl a3 l.length c3),(45,Sl a3 l.length c3),(46,I (kn4:Int)),(49,.agg #[Sr name,Sr value])]) (L':=[r5]) (by (simp only [e7];done)) (by rfl) ?_)
 obtain ⟨_,hx4⟩:=Wh (l:=l) (k:=kn4) (by omega)
 obtain ⟨b6,o4,_,_,⟨rfl,_,_⟩,ha4,_,_⟩:=J9.ix hr5 hx4
 refine Qz (b:=b6) (off:=o4) (len:=l.length) (cap:=c3) (ik:=.i64) 50 94 2 kn4 ha4 (by omega) (Jd [] [(11,Sl a3 l.length c3),(49,.agg #[Sr name,Sr value]),(50,Pt b6 (o4+kn4*2))] (Ys (b:=b6) (off:=o4) 0 hr5 kn4 (⟨name,value⟩:JV) ha4 (by omega) (.agg #[Sr name,Sr value]) [Sr name,Sr value] ⟨rfl,hw_name,hw_value⟩ (fun r8 hr8=>?_)))
 have e8:l.length=(l.set kn4 (⟨name,value⟩:JV)).length:=(List.length_set ..).symm
 refine J3 (fr':=[(11,Sl a3 ((l.set kn4 (⟨name,value⟩:JV)).length) c3),(49,.agg #[Sr name,Sr value]),(50,Pt b6 (o4+kn4*2))]) (L':=[r8]) (by simp only [e8]) (by rfl) (Jc (Ja (Jg [0,0,0] [(6,Sl a3 ((l.set kn4 (⟨name,value⟩:JV)).length) c3),(7,I 0)] (Jk (Jj 0 ?_)))))
 have hf8:KN l name value=(l.set kn4 (⟨name,value⟩:JV),0):=by
  (exfalso;omega)
 refine Jl [0,0] [Sl a3 ((l.set kn4 (⟨name,value⟩:JV)).length) c3,I 0] (JY [r8] (.cons_cons _ .slnil) hl3 ?_)
 rw [hf8]
 try dsimp only
 exact ⟨a3,c3,r8,rfl,hr8,rfl⟩
end Go.Proofs.YtnnlpbjdignhaaaGreatDoor
