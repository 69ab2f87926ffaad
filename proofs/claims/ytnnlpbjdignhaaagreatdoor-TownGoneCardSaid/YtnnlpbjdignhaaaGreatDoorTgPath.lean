import Derived.Test.YtnnlpbjdignhaaaGreatDoorTgHeadN
namespace Go.Proofs.YtnnlpbjdignhaaaGreatDoor
open Go.Tx
set_option linter.unusedVariables false
set_option linter.unusedSimpArgs false
theorem JbM {n:Nat} (h:n≤140737488351232):n≤140737488355328:=by omega
def JB (m:Int) (k:Nat):Int:=48+m / 2 ^ k % 2
theorem and1 {x:Int} (h:0≤x∧x<18446744073709551616):IntKind.u64.wrap ((BitVec.ofInt 64 x &&& BitVec.ofInt 64 1).toNat:Int)=x % 2:=by
 obtain ⟨m,rfl⟩:=Int.eq_ofNat_of_zero_le h.1
 have e:(1:Int)=((1:Nat):Int):=rfl
 rw [e,BitVec.toNat_and,BitVec.ofInt_natCast,BitVec.ofInt_natCast,BitVec.toNat_ofNat,BitVec.toNat_ofNat,Nat.mod_eq_of_lt (by omega),Nat.mod_eq_of_lt (by omega),Nat.and_one_is_mod,Wf (by omega) (by omega)]
 omega
theorem ZC (m:Int) (k:Nat) (h:0≤m∧m<18446744073709551616):IntKind.u8.wrap (48+IntKind.u8.wrap (IntKind.u64.wrap ((BitVec.ofInt 64 (m.fdiv (2 ^ k)) &&& BitVec.ofInt 64 (1)).toNat:Int)))=JB m k:=by
 have hp:(0:Int)<2 ^ k:=Int.pow_pos (by decide)
 have h1:0≤m / 2 ^ k:=Int.ediv_nonneg h.1 (Int.le_of_lt hp)
 have h2:m / 2 ^ k≤m:=Int.ediv_le_self _ h.1
 rw [Int.fdiv_eq_ediv_of_nonneg _ (Int.le_of_lt hp),and1 (by omega),JfO,JfO]
 unfold JB
 omega
def Z9 (name:List UInt8):List UInt8:=([JB (Jf name) 15,JB (Jf name) 14,JB (Jf name) 13,JB (Jf name) 12,JB (Jf name) 11,JB (Jf name) 10,JB (Jf name) 9,JB (Jf name) 8,JB (Jf name) 7,JB (Jf name) 6,JB (Jf name) 5,JB (Jf name) 4,JB (Jf name) 3,JB (Jf name) 2,JB (Jf name) 1,JB (Jf name) 0]:List Int).map fun n=>UInt8.ofNat n.toNat
theorem Vp (name:List UInt8):(Z9 name).length=16:=rfl
def Ke (name:List UInt8):List UInt8×Int:=if Kt name=false then ([],3) else (Z9 name,0)
theorem Jh1 (name:List UInt8):(Ke name).1.length≤16:=by
 unfold Ke;split
 ·
  simp
 ·
  rw [Vp];exact Nat.le_refl _
def Zh (x y:List UInt8):Int:=if Go.Op.bytesLess x y=true then -1 else if x=y then 0 else 1
def orI:List Int→Int
 | []=>0
 | a::l=>if a=0 then orI l else a
theorem Jlf {l:List Int} {i:Nat} {x:Int} (hx:l[i]? = some x) (h:x=0):orI (l.drop i)=orI (l.drop (i+1)):=by
 obtain ⟨h1,rfl⟩:=List.getElem?_eq_some_iff.1 hx
 rw [List.drop_eq_getElem_cons h1]
 show (if _ then _ else _)=_
 rw [if_pos h]
theorem orI_at {l:List Int} {i:Nat} {x:Int} (hx:l[i]? = some x) (h:¬ x=0):orI (l.drop i)=x:=by
 obtain ⟨h1,rfl⟩:=List.getElem?_eq_some_iff.1 hx
 rw [List.drop_eq_getElem_cons h1]
 show (if _ then _ else _)=_
 rw [if_neg h]
theorem JcE:∀ x:List UInt8,Go.Op.bytesLess x x=false
 | []=>rfl
 | a::x=>by
  show (decide (a<a) || (a == a && Go.Op.bytesLess x x))=false
  rw [JcE x];simp
theorem Jg2:∀ x y:List UInt8,Go.Op.bytesLess x y=true∨x=y∨Go.Op.bytesLess y x=true
 | [],[]=>.inr (.inl rfl)
 | [],_::_=>.inl rfl
 | _::_,[]=>.inr (.inr rfl)
 | a::x,b::y=>by
  show (decide (a<b) || (a == b && Go.Op.bytesLess x y))=true∨_∨(decide (b<a) || (b == a && Go.Op.bytesLess y x))=true
  simp only [Bool.or_eq_true,Bool.and_eq_true,decide_eq_true_eq,beq_iff_eq]
  rcases UInt8.lt_or_lt_of_ne (a:=a) (b:=b) |> fun f=>(Classical.em (a=b)).imp id f with h | h | h
  ·
   subst h
   rcases Jg2 x y with h1 | h1 | h1
   ·
    exact .inl (.inr ⟨rfl,h1⟩)
   ·
    exact .inr (.inl (by rw [h1]))
   ·
    exact .inr (.inr (.inr ⟨rfl,h1⟩))
  ·
   exact .inl (.inl h)
  ·
   exact .inr (.inr (.inl h))
theorem Jb4:∀ {x y z:List UInt8},Go.Op.bytesLess x y=true→Go.Op.bytesLess y z=true→Go.Op.bytesLess x z=true
 | _,_,[],_,h=>by simp [Go.Op.bytesLess] at h
 | _,[],_::_,h,_=>by simp [Go.Op.bytesLess] at h
 | [],_::_,_::_,_,_=>rfl
 | a::x,b::y,c::z,h1,h2=>by
  have k1:(decide (a<b) || (a == b && Go.Op.bytesLess x y))=true:=h1
  have k2:(decide (b<c) || (b == c && Go.Op.bytesLess y z))=true:=h2
  show (decide (a<c) || (a == c && Go.Op.bytesLess x z))=true
  simp only [Bool.or_eq_true,Bool.and_eq_true,decide_eq_true_eq,beq_iff_eq] at k1 k2 ⊢
  rcases k1 with k1 | ⟨e1,k1⟩ <;> rcases k2 with k2 | ⟨e2,k2⟩
  ·
   exact .inl (UInt8.lt_trans k1 k2)
  ·
   exact .inl (e2 ▸ k1)
  ·
   exact .inl (e1 ▸ k2)
  ·
   exact .inr ⟨e1.trans e2,Jb4 k1 k2⟩
theorem Ji2 {x y:List UInt8}:Zh x y<0 ↔ Go.Op.bytesLess x y=true:=by
 unfold Zh
 split
 ·
  rename_i h;simp [h]
 ·
  rename_i h;split <;> simp [h]
theorem VB {x y:List UInt8}:Zh x y=0 ↔ x=y:=by
 unfold Zh
 split
 ·
  rename_i h
  constructor
  ·
   intro hc;cases hc
  ·
   rintro rfl;rw [JcE] at h;cases h
 ·
  split <;> simp_all
theorem Ji3 {x y:List UInt8}:0<Zh x y ↔ Go.Op.bytesLess y x=true:=by
 unfold Zh
 split
 ·
  rename_i h
  constructor
  ·
   intro hc;omega
  ·
   intro hc;have:=Jb4 h hc;rw [JcE] at this;cases this
 ·
  rename_i h
  split
  ·
   rename_i h2;subst h2;rw [JcE];simp
  ·
   rename_i h2
   constructor
   ·
    intro _;rcases Jg2 x y with h3 | h3 | h3
    ·
     exact absurd h3 h
    ·
     exact absurd h3 h2
    ·
     exact h3
   ·
    intro _;decide
def way (name:List UInt8):List UInt8:=(Ke name).1
theorem JmB (name:List UInt8):(way name).length≤16:=Jh1 name
def ZN (a b:List UInt8):Int:=orI [Zh (way a) (way b),Zh a b]
theorem Jf7 (a b:List UInt8):ZN a b=if Zh (way a) (way b)=0 then Zh a b else Zh (way a) (way b):=by
 by_cases h:Zh (way a) (way b)=0 <;> by_cases h2:Zh a b=0 <;> simp [ZN,orI,h,h2]
theorem Zk {a b:List UInt8}:ZN a b=0 ↔ a=b:=by
 rw [Jf7]
 split
 ·
  exact VB
 ·
  rename_i h
  constructor
  ·
   intro hc;exact absurd hc h
  ·
   rintro rfl;exact absurd (VB.2 rfl) h
theorem Ji4 {a b:List UInt8}:ZN a b<0 ↔ Go.Op.bytesLess (way a) (way b)=true∨(way a=way b∧Go.Op.bytesLess a b=true):=by
 rw [Jf7]
 split
 ·
  rename_i h
  rw [Ji2]
  have e:=VB.1 h
  rw [e,JcE];simp
 ·
  rename_i h
  rw [Ji2]
  constructor
  ·
   exact .inl
  ·
   rintro (h1 | ⟨h1,_⟩)
   ·
    exact h1
   ·
    exact absurd (VB.2 h1) h
theorem JmC {a b:List UInt8}:0<ZN a b ↔ ZN b a<0:=by
 rw [Jf7,Ji4]
 split
 ·
  rename_i h
  rw [Ji3]
  have e:=VB.1 h
  rw [e,JcE];simp
 ·
  rename_i h
  rw [Ji3]
  constructor
  ·
   exact .inl
  ·
   rintro (h1 | ⟨h1,_⟩)
   ·
    exact h1
   ·
    exact absurd (VB.2 h1.symm) h
theorem JbN {a b c:List UInt8} (h1:ZN a b<0) (h2:ZN b c<0):ZN a c<0:=by
 rw [Ji4] at *
 rcases h1 with h1 | ⟨e1,h1⟩ <;> rcases h2 with h2 | ⟨e2,h2⟩
 ·
  exact .inl (Jb4 h1 h2)
 ·
  exact .inl (e2 ▸ h1)
 ·
  exact .inl (e1 ▸ h2)
 ·
  exact .inr ⟨e1.trans e2,Jb4 h1 h2⟩
set_option maxRecDepth 20000 in
theorem Jf8 (G:Jt) (name:List UInt8) (hw_name:(name).length≤140737488351232) :QI Tryz.prog 157 #[Sr name] G [] (fun u G' L'=>u=Sr (Z9 name)):=by
 refine JK Tryz.func157 23 [(0,Sr name)] rfl (fun w0 G0=>?_)
 refine Jg [0] [(0,Sr name)] (Je (Jb (Jd [0] [(6,Sr name)] (Ji 7 (U (Jf name)) (Zx name (JbM hw_name) G) (Jd [0] [(3,U (Jf name))] (Jc (Ja (Je (Jb (Ju 4 #[Y 0,Y 0,Y 0,Y 0,Y 0,Y 0,Y 0,Y 0,Y 0,Y 0,Y 0,Y 0,Y 0,Y 0,Y 0,Y 0] 278 (fun b1=>Jc (Ja (Je (Jg [0] [(3,U (Jf name)),(4,Pt b1 0),(8,I 0)] (Jz (Jcu 17 (Q7 (Jg [0] [(3,U (Jf name)),(4,Pt b1 0),(8,I 0),(9,Bo true)] (Je (JZ ?_))))))))))))))))))))
 refine Jn (Ja (Je (Jz (Jg [0,0] [(3,U (Jf name)),(4,Pt b1 0),(5,I 0),(8,I 0)] (Jb (Kd [0,0,0,0,0,0,0,0,0,3] [(3,U (Jf name)),(4,Pt b1 0),(8,I 0)] [[Sg b1 0 [Y (IntKind.u8.wrap (48+(IntKind.u8.wrap (IntKind.u64.wrap ((BitVec.ofInt 64 ((Jf name).fdiv (2 ^ 15)) &&& BitVec.ofInt 64 1).toNat:Int))))),Y 0,Y 0,Y 0,Y 0,Y 0,Y 0,Y 0,Y 0,Y 0,Y 0,Y 0,Y 0,Y 0,Y 0,Y 0]]] ?_))))))
 have e1:IntKind.u8.wrap (48+(IntKind.u8.wrap (IntKind.u64.wrap ((BitVec.ofInt 64 ((Jf name).fdiv (2 ^ 15)) &&& BitVec.ofInt 64 1).toNat:Int))))=JB (Jf name) 15:=ZC (Jf name) 15 (by have:=Qz name;omega)
 refine J4 (fr':=[(3,U (Jf name)),(4,Pt b1 0),(8,I 0)]) (L':=[[Sg b1 0 [Y (JB (Jf name) 15),Y 0,Y 0,Y 0,Y 0,Y 0,Y 0,Y 0,Y 0,Y 0,Y 0,Y 0,Y 0,Y 0,Y 0,Y 0]]]) (by rfl) (by simp only [e1]) ?_
 clear e1
 refine Jc (JN (Ja (Jb (Jd [0,0] [(3,U (Jf name)),(4,Pt b1 0),(8,I 1)] (Jc (Wm (Q7 (Jg [0] [(3,U (Jf name)),(4,Pt b1 0),(8,I 1),(9,Bo true)] (Je (JZ (Jn (Ja (Je (Jz (Jg [0,0] [(3,U (Jf name)),(4,Pt b1 0),(5,I 1),(8,I 1)] (Jb (Kd [0,0,0,0,0,0,0,0,0,3] [(3,U (Jf name)),(4,Pt b1 0),(8,I 1)] [[Sg b1 0 [Y (JB (Jf name) 15),Y (IntKind.u8.wrap (48+(IntKind.u8.wrap (IntKind.u64.wrap ((BitVec.ofInt 64 ((Jf name).fdiv (2 ^ 14)) &&& BitVec.ofInt 64 1).toNat:Int))))),Y 0,Y 0,Y 0,Y 0,Y 0,Y 0,Y 0,Y 0,Y 0,Y 0,Y 0,Y 0,Y 0,Y 0]]] ?_)))))))))))))))))
 have e2:IntKind.u8.wrap (48+(IntKind.u8.wrap (IntKind.u64.wrap ((BitVec.ofInt 64 ((Jf name).fdiv (2 ^ 14)) &&& BitVec.ofInt 64 1).toNat:Int))))=JB (Jf name) 14:=ZC (Jf name) 14 (by have:=Qz name;omega)
 refine J4 (fr':=[(3,U (Jf name)),(4,Pt b1 0),(8,I 1)]) (L':=[[Sg b1 0 [Y (JB (Jf name) 15),Y (JB (Jf name) 14),Y 0,Y 0,Y 0,Y 0,Y 0,Y 0,Y 0,Y 0,Y 0,Y 0,Y 0,Y 0,Y 0,Y 0]]]) (by rfl) (by simp only [e2]) ?_
 clear e2
 refine Jc (JN (Ja (Jb (Jd [0,0] [(3,U (Jf name)),(4,Pt b1 0),(8,I 2)] (Jc (Wm (Q7 (Jg [0] [(3,U (Jf name)),(4,Pt b1 0),(8,I 2),(9,Bo true)] (Je (JZ (Jn (Ja (Je (Jz (Jg [0,0] [(3,U (Jf name)),(4,Pt b1 0),(5,I 2),(8,I 2)] (Jb (Kd [0,0,0,0,0,0,0,0,0,3] [(3,U (Jf name)),(4,Pt b1 0),(8,I 2)] [[Sg b1 0 [Y (JB (Jf name) 15),Y (JB (Jf name) 14),Y (IntKind.u8.wrap (48+(IntKind.u8.wrap (IntKind.u64.wrap ((BitVec.ofInt 64 ((Jf name).fdiv (2 ^ 13)) &&& BitVec.ofInt 64 1).toNat:Int))))),Y 0,Y 0,Y 0,Y 0,Y 0,Y 0,Y 0,Y 0,Y 0,Y 0,Y 0,Y 0,Y 0]]] ?_)))))))))))))))))
 have e3:IntKind.u8.wrap (48+(IntKind.u8.wrap (IntKind.u64.wrap ((BitVec.ofInt 64 ((Jf name).fdiv (2 ^ 13)) &&& BitVec.ofInt 64 1).toNat:Int))))=JB (Jf name) 13:=ZC (Jf name) 13 (by have:=Qz name;omega)
 refine J4 (fr':=[(3,U (Jf name)),(4,Pt b1 0),(8,I 2)]) (L':=[[Sg b1 0 [Y (JB (Jf name) 15),Y (JB (Jf name) 14),Y (JB (Jf name) 13),Y 0,Y 0,Y 0,Y 0,Y 0,Y 0,Y 0,Y 0,Y 0,Y 0,Y 0,Y 0,Y 0]]]) (by rfl) (by simp only [e3]) ?_
 clear e3
 refine Jc (JN (Ja (Jb (Jd [0,0] [(3,U (Jf name)),(4,Pt b1 0),(8,I 3)] (Jc (Wm (Q7 (Jg [0] [(3,U (Jf name)),(4,Pt b1 0),(8,I 3),(9,Bo true)] (Je (JZ (Jn (Ja (Je (Jz (Jg [0,0] [(3,U (Jf name)),(4,Pt b1 0),(5,I 3),(8,I 3)] (Jb (Kd [0,0,0,0,0,0,0,0,0,3] [(3,U (Jf name)),(4,Pt b1 0),(8,I 3)] [[Sg b1 0 [Y (JB (Jf name) 15),Y (JB (Jf name) 14),Y (JB (Jf name) 13),Y (IntKind.u8.wrap (48+(IntKind.u8.wrap (IntKind.u64.wrap ((BitVec.ofInt 64 ((Jf name).fdiv (2 ^ 12)) &&& BitVec.ofInt 64 1).toNat:Int))))),Y 0,Y 0,Y 0,Y 0,Y 0,Y 0,Y 0,Y 0,Y 0,Y 0,Y 0,Y 0]]] ?_)))))))))))))))))
 have e4:IntKind.u8.wrap (48+(IntKind.u8.wrap (IntKind.u64.wrap ((BitVec.ofInt 64 ((Jf name).fdiv (2 ^ 12)) &&& BitVec.ofInt 64 1).toNat:Int))))=JB (Jf name) 12:=ZC (Jf name) 12 (by have:=Qz name;omega)
 refine J4 (fr':=[(3,U (Jf name)),(4,Pt b1 0),(8,I 3)]) (L':=[[Sg b1 0 [Y (JB (Jf name) 15),Y (JB (Jf name) 14),Y (JB (Jf name) 13),Y (JB (Jf name) 12),Y 0,Y 0,Y 0,Y 0,Y 0,Y 0,Y 0,Y 0,Y 0,Y 0,Y 0,Y 0]]]) (by rfl) (by simp only [e4]) ?_
 clear e4
 refine Jc (JN (Ja (Jb (Jd [0,0] [(3,U (Jf name)),(4,Pt b1 0),(8,I 4)] (Jc (Wm (Q7 (Jg [0] [(3,U (Jf name)),(4,Pt b1 0),(8,I 4),(9,Bo true)] (Je (JZ (Jn (Ja (Je (Jz (Jg [0,0] [(3,U (Jf name)),(4,Pt b1 0),(5,I 4),(8,I 4)] (Jb (Kd [0,0,0,0,0,0,0,0,0,3] [(3,U (Jf name)),(4,Pt b1 0),(8,I 4)] [[Sg b1 0 [Y (JB (Jf name) 15),Y (JB (Jf name) 14),Y (JB (Jf name) 13),Y (JB (Jf name) 12),Y (IntKind.u8.wrap (48+(IntKind.u8.wrap (IntKind.u64.wrap ((BitVec.ofInt 64 ((Jf name).fdiv (2 ^ 11)) &&& BitVec.ofInt 64 1).toNat:Int))))),Y 0,Y 0,Y 0,Y 0,Y 0,Y 0,Y 0,Y 0,Y 0,Y 0,Y 0]]] ?_)))))))))))))))))
 have e5:IntKind.u8.wrap (48+(IntKind.u8.wrap (IntKind.u64.wrap ((BitVec.ofInt 64 ((Jf name).fdiv (2 ^ 11)) &&& BitVec.ofInt 64 1).toNat:Int))))=JB (Jf name) 11:=ZC (Jf name) 11 (by have:=Qz name;omega)
 refine J4 (fr':=[(3,U (Jf name)),(4,Pt b1 0),(8,I 4)]) (L':=[[Sg b1 0 [Y (JB (Jf name) 15),Y (JB (Jf name) 14),Y (JB (Jf name) 13),Y (JB (Jf name) 12),Y (JB (Jf name) 11),Y 0,Y 0,Y 0,Y 0,Y 0,Y 0,Y 0,Y 0,Y 0,Y 0,Y 0]]]) (by rfl) (by simp only [e5]) ?_
 clear e5
 refine Jc (JN (Ja (Jb (Jd [0,0] [(3,U (Jf name)),(4,Pt b1 0),(8,I 5)] (Jc (Wm (Q7 (Jg [0] [(3,U (Jf name)),(4,Pt b1 0),(8,I 5),(9,Bo true)] (Je (JZ (Jn (Ja (Je (Jz (Jg [0,0] [(3,U (Jf name)),(4,Pt b1 0),(5,I 5),(8,I 5)] (Jb (Kd [0,0,0,0,0,0,0,0,0,3] [(3,U (Jf name)),(4,Pt b1 0),(8,I 5)] [[Sg b1 0 [Y (JB (Jf name) 15),Y (JB (Jf name) 14),Y (JB (Jf name) 13),Y (JB (Jf name) 12),Y (JB (Jf name) 11),Y (IntKind.u8.wrap (48+(IntKind.u8.wrap (IntKind.u64.wrap ((BitVec.ofInt 64 ((Jf name).fdiv (2 ^ 10)) &&& BitVec.ofInt 64 1).toNat:Int))))),Y 0,Y 0,Y 0,Y 0,Y 0,Y 0,Y 0,Y 0,Y 0,Y 0]]] ?_)))))))))))))))))
 have e6:IntKind.u8.wrap (48+(IntKind.u8.wrap (IntKind.u64.wrap ((BitVec.ofInt 64 ((Jf name).fdiv (2 ^ 10)) &&& BitVec.ofInt 64 1).toNat:Int))))=JB (Jf name) 10:=ZC (Jf name) 10 (by have:=Qz name;omega)
 refine J4 (fr':=[(3,U (Jf name)),(4,Pt b1 0),(8,I 5)]) (L':=[[Sg b1 0 [Y (JB (Jf name) 15),Y (JB (Jf name) 14),Y (JB (Jf name) 13),Y (JB (Jf name) 12),Y (JB (Jf name) 11),Y (JB (Jf name) 10),Y 0,Y 0,Y 0,Y 0,Y 0,Y 0,Y 0,Y 0,Y 0,Y 0]]]) (by rfl) (by simp only [e6]) ?_
 clear e6
 refine Jc (JN (Ja (Jb (Jd [0,0] [(3,U (Jf name)),(4,Pt b1 0),(8,I 6)] (Jc (Wm (Q7 (Jg [0] [(3,U (Jf name)),(4,Pt b1 0),(8,I 6),(9,Bo true)] (Je (JZ (Jn (Ja (Je (Jz (Jg [0,0] [(3,U (Jf name)),(4,Pt b1 0),(5,I 6),(8,I 6)] (Jb (Kd [0,0,0,0,0,0,0,0,0,3] [(3,U (Jf name)),(4,Pt b1 0),(8,I 6)] [[Sg b1 0 [Y (JB (Jf name) 15),Y (JB (Jf name) 14),Y (JB (Jf name) 13),Y (JB (Jf name) 12),Y (JB (Jf name) 11),Y (JB (Jf name) 10),Y (IntKind.u8.wrap (48+(IntKind.u8.wrap (IntKind.u64.wrap ((BitVec.ofInt 64 ((Jf name).fdiv (2 ^ 9)) &&& BitVec.ofInt 64 1).toNat:Int))))),Y 0,Y 0,Y 0,Y 0,Y 0,Y 0,Y 0,Y 0,Y 0]]] ?_)))))))))))))))))
 have e7:IntKind.u8.wrap (48+(IntKind.u8.wrap (IntKind.u64.wrap ((BitVec.ofInt 64 ((Jf name).fdiv (2 ^ 9)) &&& BitVec.ofInt 64 1).toNat:Int))))=JB (Jf name) 9:=ZC (Jf name) 9 (by have:=Qz name;omega)
 refine J4 (fr':=[(3,U (Jf name)),(4,Pt b1 0),(8,I 6)]) (L':=[[Sg b1 0 [Y (JB (Jf name) 15),Y (JB (Jf name) 14),Y (JB (Jf name) 13),Y (JB (Jf name) 12),Y (JB (Jf name) 11),Y (JB (Jf name) 10),Y (JB (Jf name) 9),Y 0,Y 0,Y 0,Y 0,Y 0,Y 0,Y 0,Y 0,Y 0]]]) (by rfl) (by simp only [e7]) ?_
 clear e7
 refine Jc (JN (Ja (Jb (Jd [0,0] [(3,U (Jf name)),(4,Pt b1 0),(8,I 7)] (Jc (Wm (Q7 (Jg [0] [(3,U (Jf name)),(4,Pt b1 0),(8,I 7),(9,Bo true)] (Je (JZ (Jn (Ja (Je (Jz (Jg [0,0] [(3,U (Jf name)),(4,Pt b1 0),(5,I 7),(8,I 7)] (Jb (Kd [0,0,0,0,0,0,0,0,0,3] [(3,U (Jf name)),(4,Pt b1 0),(8,I 7)] [[Sg b1 0 [Y (JB (Jf name) 15),Y (JB (Jf name) 14),Y (JB (Jf name) 13),Y (JB (Jf name) 12),Y (JB (Jf name) 11),Y (JB (Jf name) 10),Y (JB (Jf name) 9),Y (IntKind.u8.wrap (48+(IntKind.u8.wrap (IntKind.u64.wrap ((BitVec.ofInt 64 ((Jf name).fdiv (2 ^ 8)) &&& BitVec.ofInt 64 1).toNat:Int))))),Y 0,Y 0,Y 0,Y 0,Y 0,Y 0,Y 0,Y 0]]] ?_)))))))))))))))))
 have e8:IntKind.u8.wrap (48+(IntKind.u8.wrap (IntKind.u64.wrap ((BitVec.ofInt 64 ((Jf name).fdiv (2 ^ 8)) &&& BitVec.ofInt 64 1).toNat:Int))))=JB (Jf name) 8:=ZC (Jf name) 8 (by have:=Qz name;omega)
 refine J4 (fr':=[(3,U (Jf name)),(4,Pt b1 0),(8,I 7)]) (L':=[[Sg b1 0 [Y (JB (Jf name) 15),Y (JB (Jf name) 14),Y (JB (Jf name) 13),Y (JB (Jf name) 12),Y (JB (Jf name) 11),Y (JB (Jf name) 10),Y (JB (Jf name) 9),Y (JB (Jf name) 8),Y 0,Y 0,Y 0,Y 0,Y 0,Y 0,Y 0,Y 0]]]) (by rfl) (by simp only [e8]) ?_
 clear e8
 refine Jc (JN (Ja (Jb (Jd [0,0] [(3,U (Jf name)),(4,Pt b1 0),(8,I 8)] (Jc (Wm (Q7 (Jg [0] [(3,U (Jf name)),(4,Pt b1 0),(8,I 8),(9,Bo true)] (Je (JZ (Jn (Ja (Je (Jz (Jg [0,0] [(3,U (Jf name)),(4,Pt b1 0),(5,I 8),(8,I 8)] (Jb (Kd [0,0,0,0,0,0,0,0,0,3] [(3,U (Jf name)),(4,Pt b1 0),(8,I 8)] [[Sg b1 0 [Y (JB (Jf name) 15),Y (JB (Jf name) 14),Y (JB (Jf name) 13),Y (JB (Jf name) 12),Y (JB (Jf name) 11),Y (JB (Jf name) 10),Y (JB (Jf name) 9),Y (JB (Jf name) 8),Y (IntKind.u8.wrap (48+(IntKind.u8.wrap (IntKind.u64.wrap ((BitVec.ofInt 64 ((Jf name).fdiv (2 ^ 7)) &&& BitVec.ofInt 64 1).toNat:Int))))),Y 0,Y 0,Y 0,Y 0,Y 0,Y 0,Y 0]]] ?_)))))))))))))))))
 have e9:IntKind.u8.wrap (48+(IntKind.u8.wrap (IntKind.u64.wrap ((BitVec.ofInt 64 ((Jf name).fdiv (2 ^ 7)) &&& BitVec.ofInt 64 1).toNat:Int))))=JB (Jf name) 7:=ZC (Jf name) 7 (by have:=Qz name;omega)
 refine J4 (fr':=[(3,U (Jf name)),(4,Pt b1 0),(8,I 8)]) (L':=[[Sg b1 0 [Y (JB (Jf name) 15),Y (JB (Jf name) 14),Y (JB (Jf name) 13),Y (JB (Jf name) 12),Y (JB (Jf name) 11),Y (JB (Jf name) 10),Y (JB (Jf name) 9),Y (JB (Jf name) 8),Y (JB (Jf name) 7),Y 0,Y 0,Y 0,Y 0,Y 0,Y 0,Y 0]]]) (by rfl) (by simp only [e9]) ?_
 clear e9
 refine Jc (JN (Ja (Jb (Jd [0,0] [(3,U (Jf name)),(4,Pt b1 0),(8,I 9)] (Jc (Wm (Q7 (Jg [0] [(3,U (Jf name)),(4,Pt b1 0),(8,I 9),(9,Bo true)] (Je (JZ (Jn (Ja (Je (Jz (Jg [0,0] [(3,U (Jf name)),(4,Pt b1 0),(5,I 9),(8,I 9)] (Jb (Kd [0,0,0,0,0,0,0,0,0,3] [(3,U (Jf name)),(4,Pt b1 0),(8,I 9)] [[Sg b1 0 [Y (JB (Jf name) 15),Y (JB (Jf name) 14),Y (JB (Jf name) 13),Y (JB (Jf name) 12),Y (JB (Jf name) 11),Y (JB (Jf name) 10),Y (JB (Jf name) 9),Y (JB (Jf name) 8),Y (JB (Jf name) 7),Y (IntKind.u8.wrap (48+(IntKind.u8.wrap (IntKind.u64.wrap ((BitVec.ofInt 64 ((Jf name).fdiv (2 ^ 6)) &&& BitVec.ofInt 64 1).toNat:Int))))),Y 0,Y 0,Y 0,Y 0,Y 0,Y 0]]] ?_)))))))))))))))))
 have e10:IntKind.u8.wrap (48+(IntKind.u8.wrap (IntKind.u64.wrap ((BitVec.ofInt 64 ((Jf name).fdiv (2 ^ 6)) &&& BitVec.ofInt 64 1).toNat:Int))))=JB (Jf name) 6:=ZC (Jf name) 6 (by have:=Qz name;omega)
 refine J4 (fr':=[(3,U (Jf name)),(4,Pt b1 0),(8,I 9)]) (L':=[[Sg b1 0 [Y (JB (Jf name) 15),Y (JB (Jf name) 14),Y (JB (Jf name) 13),Y (JB (Jf name) 12),Y (JB (Jf name) 11),Y (JB (Jf name) 10),Y (JB (Jf name) 9),Y (JB (Jf name) 8),Y (JB (Jf name) 7),Y (JB (Jf name) 6),Y 0,Y 0,Y 0,Y 0,Y 0,Y 0]]]) (by rfl) (by simp only [e10]) ?_
 clear e10
 refine Jc (JN (Ja (Jb (Jd [0,0] [(3,U (Jf name)),(4,Pt b1 0),(8,I 10)] (Jc (Wm (Q7 (Jg [0] [(3,U (Jf name)),(4,Pt b1 0),(8,I 10),(9,Bo true)] (Je (JZ (Jn (Ja (Je (Jz (Jg [0,0] [(3,U (Jf name)),(4,Pt b1 0),(5,I 10),(8,I 10)] (Jb (Kd [0,0,0,0,0,0,0,0,0,3] [(3,U (Jf name)),(4,Pt b1 0),(8,I 10)] [[Sg b1 0 [Y (JB (Jf name) 15),Y (JB (Jf name) 14),Y (JB (Jf name) 13),Y (JB (Jf name) 12),Y (JB (Jf name) 11),Y (JB (Jf name) 10),Y (JB (Jf name) 9),Y (JB (Jf name) 8),Y (JB (Jf name) 7),Y (JB (Jf name) 6),Y (IntKind.u8.wrap (48+(IntKind.u8.wrap (IntKind.u64.wrap ((BitVec.ofInt 64 ((Jf name).fdiv (2 ^ 5)) &&& BitVec.ofInt 64 1).toNat:Int))))),Y 0,Y 0,Y 0,Y 0,Y 0]]] ?_)))))))))))))))))
 have e11:IntKind.u8.wrap (48+(IntKind.u8.wrap (IntKind.u64.wrap ((BitVec.ofInt 64 ((Jf name).fdiv (2 ^ 5)) &&& BitVec.ofInt 64 1).toNat:Int))))=JB (Jf name) 5:=ZC (Jf name) 5 (by have:=Qz name;omega)
 refine J4 (fr':=[(3,U (Jf name)),(4,Pt b1 0),(8,I 10)]) (L':=[[Sg b1 0 [Y (JB (Jf name) 15),Y (JB (Jf name) 14),Y (JB (Jf name) 13),Y (JB (Jf name) 12),Y (JB (Jf name) 11),Y (JB (Jf name) 10),Y (JB (Jf name) 9),Y (JB (Jf name) 8),Y (JB (Jf name) 7),Y (JB (Jf name) 6),Y (JB (Jf name) 5),Y 0,Y 0,Y 0,Y 0,Y 0]]]) (by rfl) (by simp only [e11]) ?_
 clear e11
 refine Jc (JN (Ja (Jb (Jd [0,0] [(3,U (Jf name)),(4,Pt b1 0),(8,I 11)] (Jc (Wm (Q7 (Jg [0] [(3,U (Jf name)),(4,Pt b1 0),(8,I 11),(9,Bo true)] (Je (JZ (Jn (Ja (Je (Jz (Jg [0,0] [(3,U (Jf name)),(4,Pt b1 0),(5,I 11),(8,I 11)] (Jb (Kd [0,0,0,0,0,0,0,0,0,3] [(3,U (Jf name)),(4,Pt b1 0),(8,I 11)] [[Sg b1 0 [Y (JB (Jf name) 15),Y (JB (Jf name) 14),Y (JB (Jf name) 13),Y (JB (Jf name) 12),Y (JB (Jf name) 11),Y (JB (Jf name) 10),Y (JB (Jf name) 9),Y (JB (Jf name) 8),Y (JB (Jf name) 7),Y (JB (Jf name) 6),Y (JB (Jf name) 5),Y (IntKind.u8.wrap (48+(IntKind.u8.wrap (IntKind.u64.wrap ((BitVec.ofInt 64 ((Jf name).fdiv (2 ^ 4)) &&& BitVec.ofInt 64 1).toNat:Int))))),Y 0,Y 0,Y 0,Y 0]]] ?_)))))))))))))))))
 have e12:IntKind.u8.wrap (48+(IntKind.u8.wrap (IntKind.u64.wrap ((BitVec.ofInt 64 ((Jf name).fdiv (2 ^ 4)) &&& BitVec.ofInt 64 1).toNat:Int))))=JB (Jf name) 4:=ZC (Jf name) 4 (by have:=Qz name;omega)
 refine J4 (fr':=[(3,U (Jf name)),(4,Pt b1 0),(8,I 11)]) (L':=[[Sg b1 0 [Y (JB (Jf name) 15),Y (JB (Jf name) 14),Y (JB (Jf name) 13),Y (JB (Jf name) 12),Y (JB (Jf name) 11),Y (JB (Jf name) 10),Y (JB (Jf name) 9),Y (JB (Jf name) 8),Y (JB (Jf name) 7),Y (JB (Jf name) 6),Y (JB (Jf name) 5),Y (JB (Jf name) 4),Y 0,Y 0,Y 0,Y 0]]]) (by rfl) (by simp only [e12]) ?_
 clear e12
 refine Jc (JN (Ja (Jb (Jd [0,0] [(3,U (Jf name)),(4,Pt b1 0),(8,I 12)] (Jc (Wm (Q7 (Jg [0] [(3,U (Jf name)),(4,Pt b1 0),(8,I 12),(9,Bo true)] (Je (JZ (Jn (Ja (Je (Jz (Jg [0,0] [(3,U (Jf name)),(4,Pt b1 0),(5,I 12),(8,I 12)] (Jb (Kd [0,0,0,0,0,0,0,0,0,3] [(3,U (Jf name)),(4,Pt b1 0),(8,I 12)] [[Sg b1 0 [Y (JB (Jf name) 15),Y (JB (Jf name) 14),Y (JB (Jf name) 13),Y (JB (Jf name) 12),Y (JB (Jf name) 11),Y (JB (Jf name) 10),Y (JB (Jf name) 9),Y (JB (Jf name) 8),Y (JB (Jf name) 7),Y (JB (Jf name) 6),Y (JB (Jf name) 5),Y (JB (Jf name) 4),Y (IntKind.u8.wrap (48+(IntKind.u8.wrap (IntKind.u64.wrap ((BitVec.ofInt 64 ((Jf name).fdiv (2 ^ 3)) &&& BitVec.ofInt 64 1).toNat:Int))))),Y 0,Y 0,Y 0]]] ?_)))))))))))))))))
 have e13:IntKind.u8.wrap (48+(IntKind.u8.wrap (IntKind.u64.wrap ((BitVec.ofInt 64 ((Jf name).fdiv (2 ^ 3)) &&& BitVec.ofInt 64 1).toNat:Int))))=JB (Jf name) 3:=ZC (Jf name) 3 (by have:=Qz name;omega)
 refine J4 (fr':=[(3,U (Jf name)),(4,Pt b1 0),(8,I 12)]) (L':=[[Sg b1 0 [Y (JB (Jf name) 15),Y (JB (Jf name) 14),Y (JB (Jf name) 13),Y (JB (Jf name) 12),Y (JB (Jf name) 11),Y (JB (Jf name) 10),Y (JB (Jf name) 9),Y (JB (Jf name) 8),Y (JB (Jf name) 7),Y (JB (Jf name) 6),Y (JB (Jf name) 5),Y (JB (Jf name) 4),Y (JB (Jf name) 3),Y 0,Y 0,Y 0]]]) (by rfl) (by simp only [e13]) ?_
 clear e13
 refine Jc (JN (Ja (Jb (Jd [0,0] [(3,U (Jf name)),(4,Pt b1 0),(8,I 13)] (Jc (Wm (Q7 (Jg [0] [(3,U (Jf name)),(4,Pt b1 0),(8,I 13),(9,Bo true)] (Je (JZ (Jn (Ja (Je (Jz (Jg [0,0] [(3,U (Jf name)),(4,Pt b1 0),(5,I 13),(8,I 13)] (Jb (Kd [0,0,0,0,0,0,0,0,0,3] [(3,U (Jf name)),(4,Pt b1 0),(8,I 13)] [[Sg b1 0 [Y (JB (Jf name) 15),Y (JB (Jf name) 14),Y (JB (Jf name) 13),Y (JB (Jf name) 12),Y (JB (Jf name) 11),Y (JB (Jf name) 10),Y (JB (Jf name) 9),Y (JB (Jf name) 8),Y (JB (Jf name) 7),Y (JB (Jf name) 6),Y (JB (Jf name) 5),Y (JB (Jf name) 4),Y (JB (Jf name) 3),Y (IntKind.u8.wrap (48+(IntKind.u8.wrap (IntKind.u64.wrap ((BitVec.ofInt 64 ((Jf name).fdiv (2 ^ 2)) &&& BitVec.ofInt 64 1).toNat:Int))))),Y 0,Y 0]]] ?_)))))))))))))))))
 have e14:IntKind.u8.wrap (48+(IntKind.u8.wrap (IntKind.u64.wrap ((BitVec.ofInt 64 ((Jf name).fdiv (2 ^ 2)) &&& BitVec.ofInt 64 1).toNat:Int))))=JB (Jf name) 2:=ZC (Jf name) 2 (by have:=Qz name;omega)
 refine J4 (fr':=[(3,U (Jf name)),(4,Pt b1 0),(8,I 13)]) (L':=[[Sg b1 0 [Y (JB (Jf name) 15),Y (JB (Jf name) 14),Y (JB (Jf name) 13),Y (JB (Jf name) 12),Y (JB (Jf name) 11),Y (JB (Jf name) 10),Y (JB (Jf name) 9),Y (JB (Jf name) 8),Y (JB (Jf name) 7),Y (JB (Jf name) 6),Y (JB (Jf name) 5),Y (JB (Jf name) 4),Y (JB (Jf name) 3),Y (JB (Jf name) 2),Y 0,Y 0]]]) (by rfl) (by simp only [e14]) ?_
 clear e14
 refine Jc (JN (Ja (Jb (Jd [0,0] [(3,U (Jf name)),(4,Pt b1 0),(8,I 14)] (Jc (Wm (Q7 (Jg [0] [(3,U (Jf name)),(4,Pt b1 0),(8,I 14),(9,Bo true)] (Je (JZ (Jn (Ja (Je (Jz (Jg [0,0] [(3,U (Jf name)),(4,Pt b1 0),(5,I 14),(8,I 14)] (Jb (Kd [0,0,0,0,0,0,0,0,0,3] [(3,U (Jf name)),(4,Pt b1 0),(8,I 14)] [[Sg b1 0 [Y (JB (Jf name) 15),Y (JB (Jf name) 14),Y (JB (Jf name) 13),Y (JB (Jf name) 12),Y (JB (Jf name) 11),Y (JB (Jf name) 10),Y (JB (Jf name) 9),Y (JB (Jf name) 8),Y (JB (Jf name) 7),Y (JB (Jf name) 6),Y (JB (Jf name) 5),Y (JB (Jf name) 4),Y (JB (Jf name) 3),Y (JB (Jf name) 2),Y (IntKind.u8.wrap (48+(IntKind.u8.wrap (IntKind.u64.wrap ((BitVec.ofInt 64 ((Jf name).fdiv (2 ^ 1)) &&& BitVec.ofInt 64 1).toNat:Int))))),Y 0]]] ?_)))))))))))))))))
 have e15:IntKind.u8.wrap (48+(IntKind.u8.wrap (IntKind.u64.wrap ((BitVec.ofInt 64 ((Jf name).fdiv (2 ^ 1)) &&& BitVec.ofInt 64 1).toNat:Int))))=JB (Jf name) 1:=ZC (Jf name) 1 (by have:=Qz name;omega)
 refine J4 (fr':=[(3,U (Jf name)),(4,Pt b1 0),(8,I 14)]) (L':=[[Sg b1 0 [Y (JB (Jf name) 15),Y (JB (Jf name) 14),Y (JB (Jf name) 13),Y (JB (Jf name) 12),Y (JB (Jf name) 11),Y (JB (Jf name) 10),Y (JB (Jf name) 9),Y (JB (Jf name) 8),Y (JB (Jf name) 7),Y (JB (Jf name) 6),Y (JB (Jf name) 5),Y (JB (Jf name) 4),Y (JB (Jf name) 3),Y (JB (Jf name) 2),Y (JB (Jf name) 1),Y 0]]]) (by rfl) (by simp only [e15]) ?_
 clear e15
 refine Jc (JN (Ja (Jb (Jd [0,0] [(3,U (Jf name)),(4,Pt b1 0),(8,I 15)] (Jc (Wm (Q7 (Jg [0] [(3,U (Jf name)),(4,Pt b1 0),(8,I 15),(9,Bo true)] (Je (JZ (Jn (Ja (Je (Jz (Jg [0,0] [(3,U (Jf name)),(4,Pt b1 0),(5,I 15),(8,I 15)] (Jb (Kd [0,0,0,0,0,0,0,0,0,3] [(3,U (Jf name)),(4,Pt b1 0),(8,I 15)] [[Sg b1 0 [Y (JB (Jf name) 15),Y (JB (Jf name) 14),Y (JB (Jf name) 13),Y (JB (Jf name) 12),Y (JB (Jf name) 11),Y (JB (Jf name) 10),Y (JB (Jf name) 9),Y (JB (Jf name) 8),Y (JB (Jf name) 7),Y (JB (Jf name) 6),Y (JB (Jf name) 5),Y (JB (Jf name) 4),Y (JB (Jf name) 3),Y (JB (Jf name) 2),Y (JB (Jf name) 1),Y (IntKind.u8.wrap (48+(IntKind.u8.wrap (IntKind.u64.wrap ((BitVec.ofInt 64 ((Jf name).fdiv (2 ^ 0)) &&& BitVec.ofInt 64 1).toNat:Int)))))]]] ?_)))))))))))))))))
 have e16:IntKind.u8.wrap (48+(IntKind.u8.wrap (IntKind.u64.wrap ((BitVec.ofInt 64 ((Jf name).fdiv (2 ^ 0)) &&& BitVec.ofInt 64 1).toNat:Int))))=JB (Jf name) 0:=ZC (Jf name) 0 (by have:=Qz name;omega)
 refine J4 (fr':=[(3,U (Jf name)),(4,Pt b1 0),(8,I 15)]) (L':=[[Sg b1 0 [Y (JB (Jf name) 15),Y (JB (Jf name) 14),Y (JB (Jf name) 13),Y (JB (Jf name) 12),Y (JB (Jf name) 11),Y (JB (Jf name) 10),Y (JB (Jf name) 9),Y (JB (Jf name) 8),Y (JB (Jf name) 7),Y (JB (Jf name) 6),Y (JB (Jf name) 5),Y (JB (Jf name) 4),Y (JB (Jf name) 3),Y (JB (Jf name) 2),Y (JB (Jf name) 1),Y (JB (Jf name) 0)]]]) (by rfl) (by simp only [e16]) ?_
 clear e16
 refine Jc (JN (Ja (Jb (Jd [0,0] [(3,U (Jf name)),(4,Pt b1 0),(8,I 16)] (Jc (Wm (Q7 (Jg [0] [(3,U (Jf name)),(4,Pt b1 0),(8,I 16),(9,Bo false)] (Je (Qw (K2 (J3 (J3 (JV (Ja (Je (Jb (Jd [0] [(21,Sl (At b1 0) 16 16)] (Jal (b:=b1) (off:=0) (len:=16) (cap:=16) (cs:=List.map (Value.int .u8) [JB (Jf name) 15,JB (Jf name) 14,JB (Jf name) 13,JB (Jf name) 12,JB (Jf name) 11,JB (Jf name) 10,JB (Jf name) 9,JB (Jf name) 8,JB (Jf name) 7,JB (Jf name) 6,JB (Jf name) 5,JB (Jf name) 4,JB (Jf name) 3,JB (Jf name) 2,JB (Jf name) 1,JB (Jf name) 0]) 22 0 [JB (Jf name) 15,JB (Jf name) 14,JB (Jf name) 13,JB (Jf name) 12,JB (Jf name) 11,JB (Jf name) 10,JB (Jf name) 9,JB (Jf name) 8,JB (Jf name) 7,JB (Jf name) 6,JB (Jf name) 5,JB (Jf name) 4,JB (Jf name) 3,JB (Jf name) 2,JB (Jf name) 1,JB (Jf name) 0] rfl (Vz (ns:=[JB (Jf name) 15,JB (Jf name) 14,JB (Jf name) 13,JB (Jf name) 12,JB (Jf name) 11,JB (Jf name) 10,JB (Jf name) 9,JB (Jf name) 8,JB (Jf name) 7,JB (Jf name) 6,JB (Jf name) 5,JB (Jf name) 4,JB (Jf name) 3,JB (Jf name) 2,JB (Jf name) 1,JB (Jf name) 0]) rfl) (Jd [0] [(2,Sr (([JB (Jf name) 15,JB (Jf name) 14,JB (Jf name) 13,JB (Jf name) 12,JB (Jf name) 11,JB (Jf name) 10,JB (Jf name) 9,JB (Jf name) 8,JB (Jf name) 7,JB (Jf name) 6,JB (Jf name) 5,JB (Jf name) 4,JB (Jf name) 3,JB (Jf name) 2,JB (Jf name) 1,JB (Jf name) 0]:List Int).map fun n=>UInt8.ofNat n.toNat))] (Jc (Ja (Jk (Jl [0] [Sr (([JB (Jf name) 15,JB (Jf name) 14,JB (Jf name) 13,JB (Jf name) 12,JB (Jf name) 11,JB (Jf name) 10,JB (Jf name) 9,JB (Jf name) 8,JB (Jf name) 7,JB (Jf name) 6,JB (Jf name) 5,JB (Jf name) 4,JB (Jf name) 3,JB (Jf name) 2,JB (Jf name) 1,JB (Jf name) 0]:List Int).map fun n=>UInt8.ofNat n.toNat)] (Jv (Jt.le_refl _) ?_)))))))))))))))))))))))))
 have hf_:(Z9 name)=([JB (Jf name) 15,JB (Jf name) 14,JB (Jf name) 13,JB (Jf name) 12,JB (Jf name) 11,JB (Jf name) 10,JB (Jf name) 9,JB (Jf name) 8,JB (Jf name) 7,JB (Jf name) 6,JB (Jf name) 5,JB (Jf name) 4,JB (Jf name) 3,JB (Jf name) 2,JB (Jf name) 1,JB (Jf name) 0]:List Int).map fun n=>UInt8.ofNat n.toNat:=by
  rfl
 · (try rw [hf_]);(simp only [JM];done)
theorem JbO (G:Jt) (name:List UInt8) (hw_name:(name).length≤140737488351232) :QI Tryz.prog 122 #[Sr name] G [] (fun u G' L'=>u=.tuple #[Sr ((Ke name).1),I ((Ke name).2)]):=by
 refine JK Tryz.func122 9 [(0,Sr name)] rfl (fun w0 G0=>?_)
 refine Jg [0,0] [(0,Sr name)] (Je (Je (Jb (Jd [0] [(0,Sr name),(4,Sr name)] (Ji 5 (Bo (Kt name)) (Zm G name) (Jd [0] [(0,Sr name),(6,Bo (!(Kt name)))] (Jc (Ja (Jo (!(Kt name)) (fun h1=>?_) (fun h1=>?_))))))))))
 try simp only [BB] at h1
 refine Jg [0,0] [(2,Sr ([])),(3,I 3)] (Jk (Jh (Jl [0,0] [Sr ([]),I 3] (Jv (Jt.le_refl _) ?_))))
 have hf_:(Ke name)=([],3):=by
  unfold Ke;simp_all
 · (try rw [hf_]);(simp only [JM];done)
 try simp only [BB] at h1
 refine Jn (Ja (Je (Jb (Jd [0] [(7,Sr name)] (Ji 8 (Sr (Z9 name)) (Jf8 G name hw_name) (Jd [0,0] [(2,Sr (Z9 name)),(3,I 0)] (Jc (Ja (Jk (Jl [0,0] [Sr (Z9 name),I 0] (Jv (Jt.le_refl _) ?_)))))))))))
 have hf_:(Ke name)=(Z9 name,0):=by
  unfold Ke;simp_all
 · (try rw [hf_]);(simp only [JM];done)
theorem Jfn (G:Jt) (x:List UInt8) :QI Tryz.prog 186 #[Sr x] G [] (fun u G' L'=>u=Bo false):=by
 refine JK Tryz.func186 6 [(0,Sr x)] rfl (fun w0 G0=>?_)
 refine Jg [0] [(0,Sr x)] (Jg [0,0,0,0] [(2,Bo (!((B x).toList == (B x).toList)))] (KP (fr':=[(2,Bo (!(x == x)))]) (L':=[]) (by simp only [Zc]) (by rfl) (Jk (Jl [0] [Bo (!(x == x))] (Jv (Jt.le_refl _) ?_)))))
 have hf_:false=(!(x == x)):=by
  simp
 · (try rw [hf_]);(simp only [JM];done)
theorem Jg3 (G:Jt) (x:List UInt8) (y:List UInt8) :QI Tryz.prog 161 #[Sr x,Sr y] G [] (fun u G' L'=>u=I (Zh x y)):=by
 refine JK Tryz.func161 20 [(0,Sr x),(1,Sr y)] rfl (fun w0 G0=>?_)
 refine Jg [0] [(0,Sr x),(1,Sr y)] (Je (Jb (Jd [0] [(0,Sr x),(1,Sr y),(7,Sr x)] (Ji 8 (Bo false) (Jfn G x) (Jd [0] [(0,Sr x),(1,Sr y),(5,Bo false)] (Jc (Ja (Je (Jb (Jd [0] [(0,Sr x),(1,Sr y),(5,Bo false),(9,Sr y)] (Ji 10 (Bo false) (Jfn G y) (Jd [0] [(0,Sr x),(1,Sr y),(5,Bo false),(6,Bo false)] (Jc (Ja (Je (Jg [0] [(0,Sr x),(1,Sr y),(6,Bo false),(11,Bo false)] (Qw (Jn (Ja (Je (Jg [0] [(0,Sr x),(1,Sr y),(13,Bo false)] ?_)))))))))))))))))))))
 refine Qw (Jn (Ja (Je (Jg [0,0,0] [(0,Sr x),(1,Sr y),(16,Bo (Go.Op.bytesLess (B x).toList (B y).toList))] (KP (fr':=[(0,Sr x),(1,Sr y),(16,Bo (Go.Op.bytesLess x y))]) (L':=[]) (by simp only [Zc]) (by rfl) (Jo (Go.Op.bytesLess x y) (fun h1=>?_) (fun h1=>?_)))))))
 try simp only [BB] at h1
 refine Jg [0] [(4,I (-1))] (Jk (Jh (Jl [0] [I (-1)] (Jv (Jt.le_refl _) ?_))))
 have hf_:(Zh x y)=(-1):=by
  unfold Zh;(rw [if_pos ‹_›];done)
 · (try rw [hf_]);(simp only [JM];done)
 try simp only [BB] at h1
 refine Jn (Ja (Je (Jg [0,0,0] [(19,Bo (!(Go.Op.bytesLess (B x).toList (B y).toList || ((B x).toList == (B y).toList))))] (KP (fr':=[(19,Bo (!(Go.Op.bytesLess x y || (x == y))))]) (L':=[]) (by simp only [Zc]) (by rfl) (Jo (!(Go.Op.bytesLess x y || (x == y))) (fun h2=>?_) (fun h2=>?_))))))
 try simp only [BB] at h2
 refine Jg [0] [(4,I 1)] (Jk (Jh (Jl [0] [I 1] (Jv (Jt.le_refl _) ?_))))
 have hf_:(Zh x y)=1:=by
  unfold Zh;(rw [if_neg (by simp_all)];(rw [if_neg (by simp_all)];done))
 · (try rw [hf_]);(simp only [JM];done)
 try simp only [BB] at h2
 refine Jn (Ja (Jg [0] [(4,I 0)] (Jk (Jl [0] [I 0] (Jv (Jt.le_refl _) ?_)))))
 have hf_:(Zh x y)=0:=by
  unfold Zh;(rw [if_neg (by simp_all)];(rw [if_pos (by simp_all)];done))
 · (try rw [hf_]);(simp only [JM];done)
theorem JmD (G:Jt) (a_l:Option Addr) (c_l:Nat) (l:List Int) (h_l:RS EI G a_l c_l l) :QI Tryz.prog 160 #[Sl a_l l.length c_l] G [] (fun u G' L'=>u=I (orI l)):=by
 refine JK Tryz.func160 18 [(0,Sl a_l l.length c_l)] rfl (fun w0 G0=>?_)
 refine Jg [0] [(0,Sl a_l l.length c_l)] (Jg [0] [(0,Sl a_l l.length c_l),(3,I 0)] (Je (Jg [0,0,0] [(3,I 0),(6,Sl a_l l.length c_l),(7,I (l.length:Int)),(8,I 0)] (Jz ?_))))
 have hlm_h_l:l.length≤9223372036854775807:=Nat.le_trans (h_l).le (h_l).max
 refine Qe (σ:=Nat) (fun q_=>(q_≤l.length)∧(orI l=orI (l.drop q_))) (fun q_=>[(3,I 0),(6,Sl a_l l.length c_l),(7,I (l.length:Int)),(8,I (q_:Int))]) (fun q_=>G) (fun q_=>[]) (fun q_=>l.length-q_) 0 ⟨(by (try dsimp only);exact Nat.zero_le _),rfl⟩ (fun q_ hs=>?_)
 revert hs;revert q_;intro i hs
 obtain ⟨hi,hn⟩:=hs
 refine KP (fr':=[(3,I 0),(6,Sl a_l l.length c_l),(7,I (l.length:Int)),(8,I (i:Int))]) (L':=[]) rfl rfl (Jg [0] [(3,I 0),(6,Sl a_l l.length c_l),(7,I (l.length:Int)),(8,I (i:Int)),(9,Bo (decide ((i:Int)<(l.length:Int))))] (Je (Jo (decide ((i:Int)<(l.length:Int))) (fun h1=>?_) (fun h1=>?_))))
 try simp only [BB] at h1
 refine Jn (Ja (Je (Jz (Je (Jb ?_)))))
 obtain ⟨b1,o1,rfl⟩:=RS.addr h_l (k:=i) (by omega)
 obtain ⟨x1,hx1⟩:=Wj (l:=l) (k:=i) (by omega)
 obtain ⟨_,⟨rfl,_⟩,hc1⟩:=RS.get h_l hx1
 refine Ki (b:=b1) (off:=o1) (len:=l.length) (cap:=c_l) (ik:=.i64) 10 3 1 i (by omega) (Ka 11 3 (cs:=[I x1]) 0 (I x1) hc1 (Jd [0] [(3,I 0),(5,I x1),(6,Sl (At b1 o1) l.length c_l),(7,I (l.length:Int)),(8,I (i:Int))] (Jc (Ja (Jg [0,0,0] [(3,I 0),(5,I x1),(6,Sl (At b1 o1) l.length c_l),(7,I (l.length:Int)),(8,I (i:Int)),(14,Bo (!decide (x1=0)))] (Jo (!decide (x1=0)) (fun h2=>?_) (fun h2=>?_)))))))
 try simp only [BB] at h2
 refine Jg [0,0] [(2,I x1)] (Jk (Js (Jh (QD (Js (Jh (Jl [0] [I x1] (Jv (Jt.le_refl _) ?_))))))))
 have hf_:(orI l)=x1:=by
  rw [hn];exact orI_at hx1 (by simp_all)
 · (try rw [hf_]);(simp only [JM];done)
 try simp only [BB] at h2
 refine Jn (JN (Ja (Jb (Jd [0,0] [(3,I 0),(6,Sl (At b1 o1) l.length c_l),(7,I (l.length:Int)),(8,I (IntKind.i64.wrap ((i:Int)+1)))] ?_))))
 have e1:IntKind.i64.wrap ((i:Int)+1)=(i:Int)+1:=IntWalk.i64_in _ (by omega)
 refine J4 (fr':=[(3,I 0),(6,Sl (At b1 o1) l.length c_l),(7,I (l.length:Int)),(8,I ((i:Int)+1))]) (L':=[]) (by simp only [e1]) (by rfl) ?_
 clear e1
 exact Jc (Qh (i+1) ⟨(by omega),(by rw [hn];exact Jlf hx1 (by simp_all))⟩ (by (try dsimp only);omega))
 try simp only [BB] at h1
 refine K2 (J3 (Kf (JV (Ja (Jg [0,0] [(2,I 0)] (Jk (Jl [0] [I 0] (Jv (Jt.le_refl _) ?_))))))))
 have hf_:(orI l)=0:=by
  rw [hn];(rw [List.drop_eq_nil_of_le (by omega)];rfl)
 · (try rw [hf_]);(simp only [JM];done)
theorem Jb5 (G:Jt) (name:List UInt8) (hw_name:(name).length≤140737488351232) :QI Tryz.prog 162 #[Sr name] G [] (fun u G' L'=>u=Sr (way name)):=by
 refine JK Tryz.func162 11 [(0,Sr name)] rfl (fun w0 G0=>?_)
 refine Jg [0] [(0,Sr name)] (Je (Jb (Jd [0] [(6,Sr name)] (Ji 7 (.tuple #[Sr ((Ke name).1),I ((Ke name).2)]) (JbO G name hw_name) (Jd [0,0,0,0,0] [(3,Sr ((Ke name).1))] (Jc (Ja (Jg [0,0] [(2,Sr ((Ke name).1))] (Jk (Jl [0] [Sr ((Ke name).1)] (Jv (Jt.le_refl _) ?_)))))))))))
 have hf_:(way name)=(Ke name).1:=by
  rfl
 · (try rw [hf_]);(simp only [JM];done)
theorem Jg4 (G:Jt) (a:List UInt8) (hw_a:(a).length≤140737488351232) (b:List UInt8) (hw_b:(b).length≤140737488351232) :QI Tryz.prog 134 #[Sr a,Sr b] G [] (fun u G' L'=>u=I (ZN a b)):=by
 refine JK Tryz.func134 15 [(0,Sr a),(1,Sr b)] rfl (fun w0 G0=>?_)
 refine Jg [0] [(0,Sr a),(1,Sr b)] (Je (Jb (Jd [0] [(0,Sr a),(1,Sr b),(5,Sr a)] (Ji 6 (Sr (way a)) (Jb5 G a hw_a) (Jd [0] [(0,Sr a),(1,Sr b),(6,Sr (way a)),(7,Sr b)] (Ji 8 (Sr (way b)) (Jb5 G b hw_b) (Ji 9 (I (Zh (way a) (way b))) (Jg3 G (way a) (way b)) (Jd [0,0] [(9,I (Zh (way a) (way b))),(10,Sr a),(11,Sr b)] (Ji 12 (I (Zh a b)) (Jg3 G a b) (KG 13 2 #[I (Zh (way a) (way b)),I (Zh a b)] 3 (fun b1=>QS (b:=b1) (o:=0) (cs:=[I (Zh (way a) (way b)),I (Zh a b)]) 0 (fun G1 hl1 hz1=>?_))))))))))))
 have hs1:RS EI G1 (At b1 0) 2 [Zh (way a) (way b),Zh a b]:=RS.lit [[I (Zh (way a) (way b))],[I (Zh a b)]] [Zh (way a) (way b),Zh a b] ⟨⟨rfl,(by (unfold Zh;repeat' split <;> omega))⟩,⟨⟨rfl,(by (unfold Zh;repeat' split <;> omega))⟩,trivial⟩⟩ hz1 (Nat.le_of_ble_eq_true rfl) (Nat.le_of_ble_eq_true rfl)
 refine Ji 14 (I (orI ([Zh (way a) (way b),Zh a b]))) (JmD G1 (At b1 0) 2 ([Zh (way a) (way b),Zh a b]) hs1) (Jd [0] [(4,I (orI ([Zh (way a) (way b),Zh a b])))] (Jc (Ja (Jk (Jl [0] [I (orI ([Zh (way a) (way b),Zh a b]))] (Jv hl1 ?_))))))
 have hf_:(ZN a b)=(orI ([Zh (way a) (way b),Zh a b])):=by
  rfl
 · (try rw [hf_]);(simp only [JM];done)
end Go.Proofs.YtnnlpbjdignhaaaGreatDoor
