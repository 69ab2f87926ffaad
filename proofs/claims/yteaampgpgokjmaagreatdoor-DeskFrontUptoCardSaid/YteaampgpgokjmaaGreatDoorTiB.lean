import Derived.Test.YteaampgpgokjmaaGreatDoorTiA
import Derived.Shelf.Strconv.Itoa3
import Derived.Shelf.Strconv.AtoiAll
import Derived.Shelf.Strings.SplitCore
import Derived.Shelf.Strings.OnBuilder
import Derived.Shelf.Strings.Count
import Derived.Shelf.Strings.Search3
import Derived.Lib.SplitLaws
import Derived.Lib.AtoiErrMem
import Derived.WalkKit
import Derived.BigCall
import Derived.BigGuard
import Derived.Lib.ItoaMem
import Derived.Lib.Hide
import Derived.Lib.AtoiAllCases
import Derived.Lib.ItoaLen
set_option linter.unusedVariables false
set_option linter.unusedSimpArgs false
namespace Go.Proofs.YteaampgpgokjmaaGreatDoor
open Go.Tx
open IntKind renaming u64 → Ha, u8 → Hc, i64 → Hh, signed → HM, bits → HQ
open _root_.BitVec renaming ofInt → Hb, ofInt_natCast → Hu, toNat_ofNat → Hw
open _root_.Nat renaming beq → Hd, zero_le → Hn, le_trans → Ho, le_of_ble_eq_true → Hq, le_refl → Hr, mod_eq_of_lt → Hx
open _root_.List renaming getElem?_eq_some_iff → He, forall_mem_nil → Hg, length_append → Hi, take_of_length_le → Hj, length_cons → Hk, drop_eq_getElem_cons → Hl, length_nil → Hm, getElem?_eq_getElem → Hp, drop_eq_nil_of_le → Hs, length_map → HA, take_add_one → HB, findIdx?_eq_some_iff_getElem → HG, mem_of_getElem? → HH, mem_singleton → HI, getElem?_of_mem → HP, map → HR
open _root_.UInt8 renaming ofNat → Hf
open _root_.Int renaming fdiv_eq_ediv_of_nonneg → Ht, eq_ofNat_of_zero_le → Hy, mul_le_mul_of_nonneg_right → Hz, mul_assoc → HD, tdiv_eq_ediv_of_nonneg → HJ, mul_nonneg → HN
open IntWalk renaming i64_in → Hv, u64_in → HF, rem_in → HO
open _root_.Array renaming size_replicate → HC
open _root_.Option renaming some → HE
open _root_.Bool renaming eq_false_or_eq_true → HK, and_eq_true → HL
abbrev YL (k:FuncId) (args:Array Value) (G:J4) (L:Bl) (p:Value→J4→Bl→Prop):Prop:=VG Tryz.prog k args G L p
abbrev Q3 (k:FuncId) (args:Array Value) (G:J4) (v:Value):Prop:=VG Tryz.prog k args G [] (fun u _ _=>u=v)
theorem JjY {α β:Type} {f:β→α→β} {z:β} {l:List α} {i:Nat} {x:α} (h:l[i]? = some x):(l.take (i+1)).foldl f z=f ((l.take i).foldl f z) x:=by
 rw [HB,h];simp
def numL (n:Int):List Int:=[Hc.wrap (n.fdiv (2 ^ 56)),Hc.wrap (n.fdiv (2 ^ 48)),Hc.wrap (n.fdiv (2 ^ 40)),Hc.wrap (n.fdiv (2 ^ 32)),Hc.wrap (n.fdiv (2 ^ 24)),Hc.wrap (n.fdiv (2 ^ 16)),Hc.wrap (n.fdiv (2 ^ 8)),Hc.wrap (n.fdiv (2 ^ 0))]
def K0 (n:Int):Bb:=(numL n).map fun x=>Hf x.toNat
@[simp] theorem Jiw (n:Int):(K0 n).length=8:=by simp [K0,numL]
theorem WF {x:Int} (h0:0≤x) (h1:x<18446744073709551616):Ha.wrap x=x:=HF _ (by omega)
theorem JhC (x:Int):Hc.wrap x=x % 256:=by
 simp [IntKind.wrap,HM,HQ]
theorem Jcf (x:Int):Ha.wrap x=x % 18446744073709551616:=by
 simp [IntKind.wrap,HM,HQ]
def QR {α:Type} (p:α→Bool) (l:List α):Int:=match l.findIdx? p with | some i=>(i:Int) | none=>-1
theorem VN {α:Type} {p:α→Bool} {l:List α} {i:Nat} {x:α} (h:l[i]? = some x) (hp:p x=true) (hi:(l.take i).any p=false):QR p l=(i:Int):=by
 have:l.findIdx? p=some i:=by
  rw [HG]
  obtain ⟨h1,h2⟩:=He.1 h
  refine ⟨h1,by rw [h2];exact hp,fun j hj=>?_⟩
  have h3:(l.take i)[j]? = some l[j]:=by rw [List.getElem?_take,if_pos hj,Hp (by omega)]
  have:=List.any_eq_false.1 hi _ (HH h3)
  simpa using this
 simp [QR,this]
theorem Jaw {α:Type} {p:α→Bool} {l:List α} {i:Nat} {x:α} (h:l[i]? = some x) (hp:p x=false) (hi:(l.take i).any p=false):(l.take (i+1)).any p=false:=by
 rw [HB,h];simp [hi,hp]
theorem Vn {α:Type} {p:α→Bool} {l:List α} (hi:l.any p=false):QR p l=-1:=by
 have:l.findIdx? p=none:=by
  rw [List.findIdx?_eq_none_iff]
  intro x hx
  simpa using List.any_eq_false.1 hi x hx
 simp [QR,this]
theorem Jax {α:Type} (p:α→Bool) (l:List α):decide (QR p l ≥ 0)=l.any p:=by
 cases h:l.any p with
 | false=>rw [Vn h];rfl
 | true =>
  have:(l.findIdx? p).isSome:=by rw [List.findIdx?_isSome];exact h
  obtain ⟨i,hi⟩:=Option.isSome_iff_exists.1 this
  simp [QR,hi]
theorem Jla {x:Int} (h:0≤x∧x<18446744073709551616):Ha.wrap ((Hb 64 x &&& Hb 64 4294967295).toNat:Int)=x % 4294967296:=by
 obtain ⟨m,rfl⟩:=Hy h.1
 have e:(4294967295:Int)=((4294967295:Nat):Int):=rfl
 rw [e,BitVec.toNat_and,Hu,Hu,Hw,Hw,Hx (by omega),Hx (by omega)]
 have e2:m &&& 4294967295=m % 4294967296:=Nat.and_two_pow_sub_one_eq_mod m 32
 rw [e2,WF (by omega) (by omega)]
 omega
theorem JnH (x:Int):x.fdiv (2 ^ 32)=x / 4294967296:=Ht _ (by decide)
theorem JhD {a b:Int} (ha:0≤a∧a<4294967296) (hb:0≤b∧b<4294967296):0≤a*b∧a*b≤18446744065119617025:=by
 refine ⟨HN ha.1 hb.1,?_⟩
 have h1:a*b≤4294967295*b:=Hz (by omega) hb.1
 omega
theorem JnI {x y:Int} (hx:0≤x∧x<18446744073709551616) (hy:0≤y∧y<18446744073709551616) :
  Ha.wrap (Ha.wrap (Ha.wrap (x.fdiv (2 ^ 32)*y.fdiv (2 ^ 32)) +
   (Ha.wrap (Ha.wrap (x.fdiv (2 ^ 32)*Ha.wrap ((Hb 64 y &&& Hb 64 4294967295).toNat:Int)) +
    (Ha.wrap (Ha.wrap ((Hb 64 x &&& Hb 64 4294967295).toNat:Int)*Ha.wrap ((Hb 64 y &&& Hb 64 4294967295).toNat:Int))).fdiv (2 ^ 32))).fdiv (2 ^ 32)) +
   (Ha.wrap (Ha.wrap ((Hb 64 (Ha.wrap (Ha.wrap (x.fdiv (2 ^ 32)*Ha.wrap ((Hb 64 y &&& Hb 64 4294967295).toNat:Int)) +
    (Ha.wrap (Ha.wrap ((Hb 64 x &&& Hb 64 4294967295).toNat:Int)*Ha.wrap ((Hb 64 y &&& Hb 64 4294967295).toNat:Int))).fdiv (2 ^ 32))) &&& Hb 64 4294967295).toNat:Int) +
    Ha.wrap (Ha.wrap ((Hb 64 x &&& Hb 64 4294967295).toNat:Int)*y.fdiv (2 ^ 32)))).fdiv (2 ^ 32))=x*y / 18446744073709551616:=by
 rw [Jla hx,Jla hy]
 simp only [JnH]
 have hx1:0≤x / 4294967296∧x / 4294967296<4294967296:=by omega
 have hx0:0≤x % 4294967296∧x % 4294967296<4294967296:=by omega
 have hy1:0≤y / 4294967296∧y / 4294967296<4294967296:=by omega
 have hy0:0≤y % 4294967296∧y % 4294967296<4294967296:=by omega
 have ex:x=x / 4294967296*4294967296+x % 4294967296:=by omega
 have ey:y=y / 4294967296*4294967296+y % 4294967296:=by omega
 have exy:x*y=(x / 4294967296*(y / 4294967296))*18446744073709551616+(x / 4294967296*(y % 4294967296)+x % 4294967296*(y / 4294967296))*4294967296+x % 4294967296*(y % 4294967296):=by
  generalize x / 4294967296=x1 at *
  generalize x % 4294967296=x0 at *
  generalize y / 4294967296=y1 at *
  generalize y % 4294967296=y0 at *
  subst ex ey
  simp only [Int.mul_add,Int.add_mul]
  have r:∀ a b:Int,a*4294967296*(b*4294967296)=a*b*18446744073709551616:=fun a b=>by
   rw [HD a,Int.mul_comm 4294967296,HD b,← HD a];rfl
  have r1:∀ a b:Int,a*4294967296*b=a*b*4294967296:=fun a b=>by rw [HD,Int.mul_comm 4294967296,← HD]
  have r2:∀ a b:Int,a*(b*4294967296)=a*b*4294967296:=fun a b=>by rw [HD]
  rw [r,r1,r2]
  omega
 rw [exy]
 have b11:=JhD hx1 hy1
 have b10:=JhD hx1 hy0
 have b01:=JhD hx0 hy1
 have b00:=JhD hx0 hy0
 generalize x / 4294967296*(y / 4294967296)=p11 at *
 generalize x / 4294967296*(y % 4294967296)=p10 at *
 generalize x % 4294967296*(y / 4294967296)=p01 at *
 generalize x % 4294967296*(y % 4294967296)=p00 at *
 clear exy ex ey
 rw [WF (x:=p00) (by omega) (by omega),WF (x:=p10) (by omega) (by omega),WF (x:=p01) (by omega) (by omega),WF (x:=p11) (by omega) (by omega)]
 rw [WF (x:=p10+p00 / 4294967296) (by omega) (by omega),Jla ⟨by omega,by omega⟩]
 rw [WF (x:=(p10+p00 / 4294967296) % 4294967296+p01) (by omega) (by omega)]
 rw [WF (x:=p11+(p10+p00 / 4294967296) / 4294967296) (by omega) (by omega)]
 rw [WF (by omega) (by omega)]
 omega
def WG (hi lo:Int):Int:=Ha.wrap ((Hb 64 (Ha.wrap (hi*2 ^ 3)) ||| Hb 64 (lo.fdiv (2 ^ 61))).toNat:Int)
theorem Jlb {hi lo:Int} (h:0≤hi∧hi<2305843009213693951) (hl:0≤lo∧lo<18446744073709551616):WG hi lo=hi*8+lo / 2305843009213693952:=by
 obtain ⟨a,rfl⟩:=Hy h.1
 obtain ⟨b,rfl⟩:=Hy hl.1
 unfold WG
 have e1:Ha.wrap ((a:Int)*2 ^ 3)=((a*8:Nat):Int):=by rw [WF (by omega) (by omega)];omega
 have e2:(b:Int).fdiv (2 ^ 61)=((b / 2305843009213693952:Nat):Int):=by
  rw [Ht _ (by decide)];omega
 rw [e1,e2,BitVec.toNat_or,Hu,Hu,Hw,Hw,Hx (by omega),Hx (by omega)]
 have e3:a*8 ||| b / 2305843009213693952=a*8+b / 2305843009213693952:=by
  have:=Nat.shiftLeft_add_eq_or_of_lt (i:=3) (b:=b / 2305843009213693952) (by omega) a
  rw [Nat.shiftLeft_eq] at this
  exact this.symm
 rw [e3,WF (by omega) (by omega)]
 omega
structure Jbp (u z q r:Int):Prop where
 u0:0≤u
 u1:u<18446744073709551608
 z0:0≤z
 z1:z<4294967296
 r0:0≤r
 r1:r<4294967296
 q0:0≤q
 e:u=q*4294967295+r
 up:u*4294967296+z<(q+1)*18446744073709551608
theorem Jd1 {u z:Int} (h:0≤u∧u<18446744073709551608) (hz:0≤z∧z<4294967296) :
  Jbp u z (Ha.wrap (u.tdiv 4294967295)) (Ha.wrap (u-Ha.wrap (Ha.wrap (u.tdiv 4294967295)*4294967295))):=by
 have e:u.tdiv 4294967295=u / 4294967295:=HJ h.1
 rw [e,WF (x:=u / 4294967295) (by omega) (by omega),WF (x:=u / 4294967295*4294967295) (by omega) (by omega),WF (by omega) (by omega)]
 exact ⟨h.1,h.2,hz.1,hz.2,by omega,by omega,by omega,by omega,by omega⟩
theorem YM {u z q r:Int} (h:Jbp u z q r) (hc:q ≥ 4294967296∨Ha.wrap (q*4294967288) > Ha.wrap (Ha.wrap (4294967296*r)+z)) :
  0<q∧Ha.wrap (q-1)=q-1∧Ha.wrap (r+4294967295)=r+4294967295∧u*4294967296+z<q*18446744073709551608:=by
 obtain ⟨h1,h2,h3,h4,h5,h6,h7,h8,h9⟩:=h
 have key:u*4294967296+z<q*18446744073709551608:=by
  rcases Int.lt_or_le q 4294967296 with hq | hq
  ·
   rcases hc with hc | hc
   · omega
   ·
    rw [WF (x:=q*4294967288) (by omega) (by omega),WF (x:=4294967296*r) (by omega) (by omega),WF (by omega) (by omega)] at hc
    omega
  · omega
 have hq:0<q:=by omega
 exact ⟨hq,WF (by omega) (by omega),WF (by omega) (by omega),key⟩
theorem Jfw {u z q r:Int} (h:Jbp u z q r) (hc:q ≥ 4294967296∨Ha.wrap (q*4294967288) > Ha.wrap (Ha.wrap (4294967296*r)+z)) (hr:r+4294967295<4294967296) :
  Jbp u z (q-1) (r+4294967295):=by
 have:=YM h hc
 obtain ⟨h1,h2,h3,h4,h5,h6,h7,h8,h9⟩:=h
 exact ⟨h1,h2,h3,h4,by omega,hr,by omega,by omega,by omega⟩
structure Dig (u z q:Int):Prop where
 q0:0≤q
 q1:q<4294967296
 lo:q*18446744073709551608≤u*4294967296+z
 up:u*4294967296+z<(q+1)*18446744073709551608
theorem Jfx {u z q r:Int} (h:Jbp u z q r) (hc:q<4294967296∧Ha.wrap (q*4294967288)≤Ha.wrap (Ha.wrap (4294967296*r)+z)):Dig u z q:=by
 obtain ⟨h1,h2,h3,h4,h5,h6,h7,h8,h9⟩:=h
 have hc2:=hc.2
 rw [WF (x:=q*4294967288) (by omega) (by omega),WF (x:=4294967296*r) (by omega) (by omega),WF (by omega) (by omega)] at hc2
 exact ⟨h7,hc.1,by omega,h9⟩
theorem Jd2 {u z q r:Int} (h:Jbp u z q r) (hc:q ≥ 4294967296∨Ha.wrap (q*4294967288) > Ha.wrap (Ha.wrap (4294967296*r)+z)) (hr:r+4294967295 ≥ 4294967296):Dig u z (q-1):=by
 have:=YM h hc
 obtain ⟨h1,h2,h3,h4,h5,h6,h7,h8,h9⟩:=h
 exact ⟨by omega,by omega,by omega,by omega⟩
def Jdg (lo:Int):Int:=Ha.wrap (lo*2 ^ 3)
def WR (lo:Int):Int:=(Jdg lo).fdiv (2 ^ 32)
def ZW (lo:Int):Int:=Ha.wrap ((Hb 64 (Jdg lo) &&& Hb 64 4294967295).toNat:Int)
def WC (u z q:Int):Int:=Ha.wrap (Ha.wrap (Ha.wrap (u*4294967296)+z)-Ha.wrap (q*18446744073709551608))
theorem Jlc (lo:Int):Jdg lo=lo*8 % 18446744073709551616:=by unfold Jdg;rw [Jcf];omega
theorem Jld (lo:Int):0≤Jdg lo∧Jdg lo<18446744073709551616:=by rw [Jlc];omega
theorem Jle (lo:Int):WR lo=Jdg lo / 4294967296:=JnH _
theorem Jlf (lo:Int):ZW lo=Jdg lo % 4294967296:=Jla (Jld lo)
theorem Je4 {u z q:Int} (h:Dig u z q) (hu:0≤u) (hz:0≤z):WC u z q=u*4294967296+z-q*18446744073709551608∧0≤WC u z q∧WC u z q<18446744073709551608:=by
 obtain ⟨h1,h2,h3,h4⟩:=h
 have:WC u z q=u*4294967296+z-q*18446744073709551608:=by
  unfold WC;simp only [Jcf];omega
 rw [this];omega
theorem Je5 {hi lo:Int} (h:0≤hi∧hi<2305843009213693951) (hl:0≤lo∧lo<18446744073709551616):0≤WG hi lo∧WG hi lo<18446744073709551608:=by
 rw [Jlb h hl];omega
theorem Je6 (lo:Int):0≤WR lo∧WR lo<4294967296:=by rw [Jle];have:=Jld lo;omega
theorem JhE (lo:Int):0≤ZW lo∧ZW lo<4294967296:=by rw [Jlf];omega
theorem Je7 {hi lo q q0:Int} (h:0≤hi∧hi<2305843009213693951) (hl:0≤lo∧lo<18446744073709551616) (h1:Dig (WG hi lo) (WR lo) q) (h2:Dig (WC (WG hi lo) (WR lo) q) (ZW lo) q0) :
  Ha.wrap (Ha.wrap (q*4294967296)+q0)=(hi*18446744073709551616+lo) / 2305843009213693951 ∧
  (WC (WC (WG hi lo) (WR lo) q) (ZW lo) q0).fdiv (2 ^ 3)=(hi*18446744073709551616+lo) % 2305843009213693951:=by
 have e1:=Je4 h1 (Je5 h hl).1 (Je6 lo).1
 have e2:=Je4 h2 e1.2.1 (JhE lo).1
 have e3:=Jlb h hl
 have e4:=Jlc lo
 have e5:=Jle lo
 have e6:=Jlf lo
 rw [Ht _ (by decide),e2.1,e1.1,e3,e5,e6,e4]
 rw [e1.1,e3,e5,e6,e4] at e2
 rw [e5,e3,e4] at e1
 have a1:=h1.q0;have a2:=h1.q1;have b1:=h2.q0;have b2:=h2.q1
 simp only [Jcf]
 clear h1 h2 e3 e4 e5 e6
 omega
theorem Jl7 {a b:Int} (ha:0≤a∧a<18446744073709551616) (hb:0≤b∧b<18446744073709551616):0≤a*b / 18446744073709551616∧a*b / 18446744073709551616<18446744073709551616:=by
 have h0:=HN ha.1 hb.1
 have h1:a*b≤18446744073709551615*b:=Hz (by omega) hb.1
 omega
def WM (a b:Int):Int:=a*b % 2305843009213693951
theorem Jcg (a b:Int):0≤WM a b∧WM a b<2305843009213693951:=by unfold WM;omega
def Jey (m:Int) (b:UInt8):Int:=(WM m 1099511628211+(b.toNat:Int)+1) % 2305843009213693951
def Ji (s:Bb):Int:=s.foldl Jey 1
theorem JnJ (m:Int) (b:UInt8):0≤Jey m b∧Jey m b<2305843009213693951:=by unfold Jey;omega
theorem JnK (s:Bb):∀ m:Int,0≤m∧m<2305843009213693951→0≤s.foldl Jey m∧s.foldl Jey m<2305843009213693951:=by
 induction s with
 | nil=>intro m h;exact h
 | cons b s ih=>intro m h;exact ih _ (JnJ m b)
theorem QP (s:Bb):0≤Ji s∧Ji s<2305843009213693951:=JnK s 1 (by omega)
theorem wf_i64 {n:Int} (h:(Lit.int .i64 n).wf=true):-9223372036854775808≤n∧n<9223372036854775808:=by
 simp [Lit.wf,IntKind.min,IntKind.max,HM,HQ] at h;omega
abbrev Jcw (k:FuncId) (args:Array Value) (G:J4) (L:Bl) (p:Value→J4→Bl→Prop):Prop:=Jhw Tryz.prog k args G L p
structure Kb where
 name:Bb
 value:Bb
deriving DecidableEq
structure Zx where
 name:Bb
 value:Bb
 n:Int
 tag:Int
deriving DecidableEq
structure JU where
 epoch:Int
 root:Int
 prev:Int
 at_:Int
deriving DecidableEq
structure We where
 least:Int
 most:Int
 lost:Int
 gap:Int
 next:Int
 asked:Int
deriving DecidableEq
structure Yg where
 kind:Int
 who:Int
 n:Int
 at_:Int
deriving DecidableEq
structure Q4 where
 name:Bb
 entries:List Kb
 sides:List Int
deriving DecidableEq
structure Q5 where
 head:JU
 proof:Q4
deriving DecidableEq
structure Q2 where
 most:Int
 wait:List Zx
deriving DecidableEq
structure KT where
 queue:Q2
 batch:Int
 every:Int
 now:Int
 heads:List JU
 books:List (List Kb)
deriving DecidableEq
structure Qn where
 name:Bb
 key:Int
 head:JU
 wanted:Bs
 had:Int
deriving DecidableEq
structure JS where
 to_:Int
 from_:Int
 since:Int
 due:Int
 heads:List JU
 reply:Q5
deriving DecidableEq
structure Y7 where
 now:Int
 way:List JS
deriving DecidableEq
structure Kx where
 names:Bs
 keys:List Int
 most:Int
 batch:Int
 every:Int
 least:Int
 top:Int
 lost:Int
 reach:Int
deriving DecidableEq
structure K4 where
 kind:Int
 who:Int
 value:Bb
 fates:List Int
 letter:JS
deriving DecidableEq
structure Wj where
 clerk:KT
 owners:List Qn
 polls:List We
 net:Y7
deriving DecidableEq
def EI:Y0 Int:=⟨1,8,fun G cs x=>cs=[I x]∧(-9223372036854775808≤x∧x<9223372036854775808),fun hle h=>by obtain ⟨rfl,h0⟩:=h;exact ⟨rfl,h0⟩,fun h=>by obtain ⟨rfl,h0⟩:=h;rfl,fun h=>by obtain ⟨rfl,h0⟩:=h;exact Yf rfl⟩
def EU:Y0 Int:=⟨1,8,fun G cs x=>cs=[U x]∧(0≤x∧x<18446744073709551616),fun hle h=>by obtain ⟨rfl,h0⟩:=h;exact ⟨rfl,h0⟩,fun h=>by obtain ⟨rfl,h0⟩:=h;rfl,fun h=>by obtain ⟨rfl,h0⟩:=h;exact Yf rfl⟩
def ES:Y0 (Bb):=⟨1,16,fun G cs x=>cs=[Sr x]∧((x).length≤140737488351232),fun hle h=>by obtain ⟨rfl,h0⟩:=h;exact ⟨rfl,h0⟩,fun h=>by obtain ⟨rfl,h0⟩:=h;rfl,fun h=>by obtain ⟨rfl,h0⟩:=h;exact Yf rfl⟩
def QE:Y0 Kb:=⟨2,32,fun G cs x=>cs=[Sr x.name,Sr x.value]∧((x.name).length≤140737488351232)∧((x.value).length≤140737488351232),fun hle h=>by obtain ⟨rfl,h0,h1⟩:=h;exact ⟨rfl,h0,h1⟩,fun h=>by obtain ⟨rfl,h0,h1⟩:=h;rfl,fun h=>by obtain ⟨rfl,h0,h1⟩:=h;exact Yf rfl⟩
def Q6:Y0 Zx:=⟨4,48,fun G cs x=>cs=[Sr x.name,Sr x.value,U x.n,U x.tag]∧((x.name).length≤140737488351232)∧((x.value).length≤140737488351232)∧(0≤x.n∧x.n<18446744073709551616)∧(0≤x.tag∧x.tag<18446744073709551616),fun hle h=>by obtain ⟨rfl,h0,h1,h2,h3⟩:=h;exact ⟨rfl,h0,h1,h2,h3⟩,fun h=>by obtain ⟨rfl,h0,h1,h2,h3⟩:=h;rfl,fun h=>by obtain ⟨rfl,h0,h1,h2,h3⟩:=h;exact Yf rfl⟩
def KN:Y0 JU:=⟨4,32,fun G cs x=>cs=[I x.epoch,U x.root,U x.prev,I x.at_]∧(-9223372036854775808≤x.epoch∧x.epoch<9223372036854775808)∧(0≤x.root∧x.root<18446744073709551616)∧(0≤x.prev∧x.prev<18446744073709551616)∧(-9223372036854775808≤x.at_∧x.at_<9223372036854775808),fun hle h=>by obtain ⟨rfl,h0,h1,h2,h3⟩:=h;exact ⟨rfl,h0,h1,h2,h3⟩,fun h=>by obtain ⟨rfl,h0,h1,h2,h3⟩:=h;rfl,fun h=>by obtain ⟨rfl,h0,h1,h2,h3⟩:=h;exact Yf rfl⟩
def WJ:Y0 We:=⟨6,48,fun G cs x=>cs=[I x.least,I x.most,I x.lost,I x.gap,I x.next,I x.asked]∧(-9223372036854775808≤x.least∧x.least<9223372036854775808)∧(-9223372036854775808≤x.most∧x.most<9223372036854775808)∧(-9223372036854775808≤x.lost∧x.lost<9223372036854775808)∧(-9223372036854775808≤x.gap∧x.gap<9223372036854775808)∧(-9223372036854775808≤x.next∧x.next<9223372036854775808)∧(-9223372036854775808≤x.asked∧x.asked<9223372036854775808),fun hle h=>by obtain ⟨rfl,h0,h1,h2,h3,h4,h5⟩:=h;exact ⟨rfl,h0,h1,h2,h3,h4,h5⟩,fun h=>by obtain ⟨rfl,h0,h1,h2,h3,h4,h5⟩:=h;rfl,fun h=>by obtain ⟨rfl,h0,h1,h2,h3,h4,h5⟩:=h;exact Yf rfl⟩
def Wk:Y0 Yg:=⟨4,32,fun G cs x=>cs=[I x.kind,I x.who,I x.n,I x.at_]∧(-9223372036854775808≤x.kind∧x.kind<9223372036854775808)∧(-9223372036854775808≤x.who∧x.who<9223372036854775808)∧(-9223372036854775808≤x.n∧x.n<9223372036854775808)∧(-9223372036854775808≤x.at_∧x.at_<9223372036854775808),fun hle h=>by obtain ⟨rfl,h0,h1,h2,h3⟩:=h;exact ⟨rfl,h0,h1,h2,h3⟩,fun h=>by obtain ⟨rfl,h0,h1,h2,h3⟩:=h;rfl,fun h=>by obtain ⟨rfl,h0,h1,h2,h3⟩:=h;exact Yf rfl⟩
def Jfy:Y0 Q4:=⟨3,64,fun G cs x=>∃ a0 c0 a1 c1,cs=[Sr x.name,Sl a0 x.entries.length c0,Sl a1 x.sides.length c1]∧((x.name).length≤140737488351232)∧(RS QE G a0 c0 x.entries)∧(RS EU G a1 c1 x.sides),fun hle h=>by obtain ⟨a0,c0,a1,c1,rfl,h0,h1,h2⟩:=h;exact ⟨a0,c0,a1,c1,rfl,h0,h1.mono hle,h2.mono hle⟩,fun h=>by obtain ⟨a0,c0,a1,c1,rfl,h0,h1,h2⟩:=h;rfl,fun h=>by obtain ⟨a0,c0,a1,c1,rfl,h0,h1,h2⟩:=h;exact Yf rfl⟩
def JjZ:Y0 Q5:=⟨7,96,fun G cs x=>∃ a0 c0 a1 c1,cs=[I x.head.epoch,U x.head.root,U x.head.prev,I x.head.at_,Sr x.proof.name,Sl a0 x.proof.entries.length c0,Sl a1 x.proof.sides.length c1]∧(-9223372036854775808≤x.head.epoch∧x.head.epoch<9223372036854775808)∧(0≤x.head.root∧x.head.root<18446744073709551616)∧(0≤x.head.prev∧x.head.prev<18446744073709551616)∧(-9223372036854775808≤x.head.at_∧x.head.at_<9223372036854775808)∧((x.proof.name).length≤140737488351232)∧(RS QE G a0 c0 x.proof.entries)∧(RS EU G a1 c1 x.proof.sides),fun hle h=>by obtain ⟨a0,c0,a1,c1,rfl,h0,h1,h2,h3,h4,h5,h6⟩:=h;exact ⟨a0,c0,a1,c1,rfl,h0,h1,h2,h3,h4,h5.mono hle,h6.mono hle⟩,fun h=>by obtain ⟨a0,c0,a1,c1,rfl,h0,h1,h2,h3,h4,h5,h6⟩:=h;rfl,fun h=>by obtain ⟨a0,c0,a1,c1,rfl,h0,h1,h2,h3,h4,h5,h6⟩:=h;exact Yf rfl⟩
def Jj0:Y0 Q2:=⟨2,32,fun G cs x=>∃ a0 c0,cs=[I x.most,Sl a0 x.wait.length c0]∧(-9223372036854775808≤x.most∧x.most<9223372036854775808)∧(RS Q6 G a0 c0 x.wait),fun hle h=>by obtain ⟨a0,c0,rfl,h0,h1⟩:=h;exact ⟨a0,c0,rfl,h0,h1.mono hle⟩,fun h=>by obtain ⟨a0,c0,rfl,h0,h1⟩:=h;rfl,fun h=>by obtain ⟨a0,c0,rfl,h0,h1⟩:=h;exact Yf rfl⟩
def Qw:Y0 (List Kb):=⟨1,24,fun G cs x=>∃ a0 c0,cs=[Sl a0 x.length c0]∧(RS QE G a0 c0 x),fun hle h=>by obtain ⟨a0,c0,rfl,h0⟩:=h;exact ⟨a0,c0,rfl,h0.mono hle⟩,fun h=>by obtain ⟨a0,c0,rfl,h0⟩:=h;rfl,fun h=>by obtain ⟨a0,c0,rfl,h0⟩:=h;exact Yf rfl⟩
def Jay:Y0 KT:=⟨7,104,fun G cs x=>∃ a0 c0 a1 c1 a2 c2,cs=[I x.queue.most,Sl a0 x.queue.wait.length c0,I x.batch,I x.every,I x.now,Sl a1 x.heads.length c1,Sl a2 x.books.length c2]∧(-9223372036854775808≤x.queue.most∧x.queue.most<9223372036854775808)∧(RS Q6 G a0 c0 x.queue.wait)∧(-9223372036854775808≤x.batch∧x.batch<9223372036854775808)∧(-9223372036854775808≤x.every∧x.every<9223372036854775808)∧(-9223372036854775808≤x.now∧x.now<9223372036854775808)∧(RS KN G a1 c1 x.heads)∧(RS Qw G a2 c2 x.books),fun hle h=>by obtain ⟨a0,c0,a1,c1,a2,c2,rfl,h0,h1,h2,h3,h4,h5,h6⟩:=h;exact ⟨a0,c0,a1,c1,a2,c2,rfl,h0,h1.mono hle,h2,h3,h4,h5.mono hle,h6.mono hle⟩,fun h=>by obtain ⟨a0,c0,a1,c1,a2,c2,rfl,h0,h1,h2,h3,h4,h5,h6⟩:=h;rfl,fun h=>by obtain ⟨a0,c0,a1,c1,a2,c2,rfl,h0,h1,h2,h3,h4,h5,h6⟩:=h;exact Yf rfl⟩
def Q9:Y0 Qn:=⟨8,88,fun G cs x=>∃ a0 c0,cs=[Sr x.name,U x.key,I x.head.epoch,U x.head.root,U x.head.prev,I x.head.at_,Sl a0 x.wanted.length c0,I x.had]∧((x.name).length≤140737488351232)∧(0≤x.key∧x.key<18446744073709551616)∧(-9223372036854775808≤x.head.epoch∧x.head.epoch<9223372036854775808)∧(0≤x.head.root∧x.head.root<18446744073709551616)∧(0≤x.head.prev∧x.head.prev<18446744073709551616)∧(-9223372036854775808≤x.head.at_∧x.head.at_<9223372036854775808)∧(RS ES G a0 c0 x.wanted)∧(-9223372036854775808≤x.had∧x.had<9223372036854775808),fun hle h=>by obtain ⟨a0,c0,rfl,h0,h1,h2,h3,h4,h5,h6,h7⟩:=h;exact ⟨a0,c0,rfl,h0,h1,h2,h3,h4,h5,h6.mono hle,h7⟩,fun h=>by obtain ⟨a0,c0,rfl,h0,h1,h2,h3,h4,h5,h6,h7⟩:=h;rfl,fun h=>by obtain ⟨a0,c0,rfl,h0,h1,h2,h3,h4,h5,h6,h7⟩:=h;exact Yf rfl⟩
def Kl:Y0 JS:=⟨12,152,fun G cs x=>∃ a0 c0 a1 c1 a2 c2,cs=[I x.to_,I x.from_,I x.since,I x.due,Sl a0 x.heads.length c0,I x.reply.head.epoch,U x.reply.head.root,U x.reply.head.prev,I x.reply.head.at_,Sr x.reply.proof.name,Sl a1 x.reply.proof.entries.length c1,Sl a2 x.reply.proof.sides.length c2]∧(-9223372036854775808≤x.to_∧x.to_<9223372036854775808)∧(-9223372036854775808≤x.from_∧x.from_<9223372036854775808)∧(-9223372036854775808≤x.since∧x.since<9223372036854775808)∧(-9223372036854775808≤x.due∧x.due<9223372036854775808)∧(RS KN G a0 c0 x.heads)∧(-9223372036854775808≤x.reply.head.epoch∧x.reply.head.epoch<9223372036854775808)∧(0≤x.reply.head.root∧x.reply.head.root<18446744073709551616)∧(0≤x.reply.head.prev∧x.reply.head.prev<18446744073709551616)∧(-9223372036854775808≤x.reply.head.at_∧x.reply.head.at_<9223372036854775808)∧((x.reply.proof.name).length≤140737488351232)∧(RS QE G a1 c1 x.reply.proof.entries)∧(RS EU G a2 c2 x.reply.proof.sides),fun hle h=>by obtain ⟨a0,c0,a1,c1,a2,c2,rfl,h0,h1,h2,h3,h4,h5,h6,h7,h8,h9,h10,h11⟩:=h;exact ⟨a0,c0,a1,c1,a2,c2,rfl,h0,h1,h2,h3,h4.mono hle,h5,h6,h7,h8,h9,h10.mono hle,h11.mono hle⟩,fun h=>by obtain ⟨a0,c0,a1,c1,a2,c2,rfl,h0,h1,h2,h3,h4,h5,h6,h7,h8,h9,h10,h11⟩:=h;rfl,fun h=>by obtain ⟨a0,c0,a1,c1,a2,c2,rfl,h0,h1,h2,h3,h4,h5,h6,h7,h8,h9,h10,h11⟩:=h;exact Yf rfl⟩
def ENet:Y0 Y7:=⟨2,32,fun G cs x=>∃ a0 c0,cs=[I x.now,Sl a0 x.way.length c0]∧(-9223372036854775808≤x.now∧x.now<9223372036854775808)∧(RS Kl G a0 c0 x.way),fun hle h=>by obtain ⟨a0,c0,rfl,h0,h1⟩:=h;exact ⟨a0,c0,rfl,h0,h1.mono hle⟩,fun h=>by obtain ⟨a0,c0,rfl,h0,h1⟩:=h;rfl,fun h=>by obtain ⟨a0,c0,rfl,h0,h1⟩:=h;exact Yf rfl⟩
def Jj1:Y0 Kx:=⟨9,104,fun G cs x=>∃ a0 c0 a1 c1,cs=[Sl a0 x.names.length c0,Sl a1 x.keys.length c1,I x.most,I x.batch,I x.every,I x.least,I x.top,I x.lost,I x.reach]∧(RS ES G a0 c0 x.names)∧(RS EU G a1 c1 x.keys)∧(-9223372036854775808≤x.most∧x.most<9223372036854775808)∧(-9223372036854775808≤x.batch∧x.batch<9223372036854775808)∧(-9223372036854775808≤x.every∧x.every<9223372036854775808)∧(-9223372036854775808≤x.least∧x.least<9223372036854775808)∧(-9223372036854775808≤x.top∧x.top<9223372036854775808)∧(-9223372036854775808≤x.lost∧x.lost<9223372036854775808)∧(-9223372036854775808≤x.reach∧x.reach<9223372036854775808),fun hle h=>by obtain ⟨a0,c0,a1,c1,rfl,h0,h1,h2,h3,h4,h5,h6,h7,h8⟩:=h;exact ⟨a0,c0,a1,c1,rfl,h0.mono hle,h1.mono hle,h2,h3,h4,h5,h6,h7,h8⟩,fun h=>by obtain ⟨a0,c0,a1,c1,rfl,h0,h1,h2,h3,h4,h5,h6,h7,h8⟩:=h;rfl,fun h=>by obtain ⟨a0,c0,a1,c1,rfl,h0,h1,h2,h3,h4,h5,h6,h7,h8⟩:=h;exact Yf rfl⟩
def Wl:Y0 K4:=⟨16,208,fun G cs x=>∃ a0 c0 a1 c1 a2 c2 a3 c3,cs=[I x.kind,I x.who,Sr x.value,Sl a0 x.fates.length c0,I x.letter.to_,I x.letter.from_,I x.letter.since,I x.letter.due,Sl a1 x.letter.heads.length c1,I x.letter.reply.head.epoch,U x.letter.reply.head.root,U x.letter.reply.head.prev,I x.letter.reply.head.at_,Sr x.letter.reply.proof.name,Sl a2 x.letter.reply.proof.entries.length c2,Sl a3 x.letter.reply.proof.sides.length c3]∧(-9223372036854775808≤x.kind∧x.kind<9223372036854775808)∧(-9223372036854775808≤x.who∧x.who<9223372036854775808)∧((x.value).length≤140737488351232)∧(RS EI G a0 c0 x.fates)∧(-9223372036854775808≤x.letter.to_∧x.letter.to_<9223372036854775808)∧(-9223372036854775808≤x.letter.from_∧x.letter.from_<9223372036854775808)∧(-9223372036854775808≤x.letter.since∧x.letter.since<9223372036854775808)∧(-9223372036854775808≤x.letter.due∧x.letter.due<9223372036854775808)∧(RS KN G a1 c1 x.letter.heads)∧(-9223372036854775808≤x.letter.reply.head.epoch∧x.letter.reply.head.epoch<9223372036854775808)∧(0≤x.letter.reply.head.root∧x.letter.reply.head.root<18446744073709551616)∧(0≤x.letter.reply.head.prev∧x.letter.reply.head.prev<18446744073709551616)∧(-9223372036854775808≤x.letter.reply.head.at_∧x.letter.reply.head.at_<9223372036854775808)∧((x.letter.reply.proof.name).length≤140737488351232)∧(RS QE G a2 c2 x.letter.reply.proof.entries)∧(RS EU G a3 c3 x.letter.reply.proof.sides),fun hle h=>by obtain ⟨a0,c0,a1,c1,a2,c2,a3,c3,rfl,h0,h1,h2,h3,h4,h5,h6,h7,h8,h9,h10,h11,h12,h13,h14,h15⟩:=h;exact ⟨a0,c0,a1,c1,a2,c2,a3,c3,rfl,h0,h1,h2,h3.mono hle,h4,h5,h6,h7,h8.mono hle,h9,h10,h11,h12,h13,h14.mono hle,h15.mono hle⟩,fun h=>by obtain ⟨a0,c0,a1,c1,a2,c2,a3,c3,rfl,h0,h1,h2,h3,h4,h5,h6,h7,h8,h9,h10,h11,h12,h13,h14,h15⟩:=h;rfl,fun h=>by obtain ⟨a0,c0,a1,c1,a2,c2,a3,c3,rfl,h0,h1,h2,h3,h4,h5,h6,h7,h8,h9,h10,h11,h12,h13,h14,h15⟩:=h;exact Yf rfl⟩
def Je8:Y0 (List JU):=⟨1,24,fun G cs x=>∃ a0 c0,cs=[Sl a0 x.length c0]∧(RS KN G a0 c0 x),fun hle h=>by obtain ⟨a0,c0,rfl,h0⟩:=h;exact ⟨a0,c0,rfl,h0.mono hle⟩,fun h=>by obtain ⟨a0,c0,rfl,h0⟩:=h;rfl,fun h=>by obtain ⟨a0,c0,rfl,h0⟩:=h;exact Yf rfl⟩
def Vx:Y0 (List Int):=⟨1,24,fun G cs x=>∃ a0 c0,cs=[Sl a0 x.length c0]∧(RS EI G a0 c0 x),fun hle h=>by obtain ⟨a0,c0,rfl,h0⟩:=h;exact ⟨a0,c0,rfl,h0.mono hle⟩,fun h=>by obtain ⟨a0,c0,rfl,h0⟩:=h;rfl,fun h=>by obtain ⟨a0,c0,rfl,h0⟩:=h;exact Yf rfl⟩
abbrev Jix (x:Zx):Bv:=[Sr x.name,Sr x.value,U x.n,U x.tag]
abbrev Jj2 (x:Zx):Value:=.agg #[Sr x.name,Sr x.value,U x.n,U x.tag]
abbrev KW (x:KT) (a0:Ba) (c0:Nat) (a1:Ba) (c1:Nat) (a2:Ba) (c2:Nat):Bv:=[I x.queue.most,Sl a0 x.queue.wait.length c0,I x.batch,I x.every,I x.now,Sl a1 x.heads.length c1,Sl a2 x.books.length c2]
abbrev QC (x:KT) (a0:Ba) (c0:Nat) (a1:Ba) (c1:Nat) (a2:Ba) (c2:Nat):Value:=.agg #[I x.queue.most,Sl a0 x.queue.wait.length c0,I x.batch,I x.every,I x.now,Sl a1 x.heads.length c1,Sl a2 x.books.length c2]
abbrev W5 (x:K4) (a0:Ba) (c0:Nat) (a1:Ba) (c1:Nat) (a2:Ba) (c2:Nat) (a3:Ba) (c3:Nat):Bv:=[I x.kind,I x.who,Sr x.value,Sl a0 x.fates.length c0,I x.letter.to_,I x.letter.from_,I x.letter.since,I x.letter.due,Sl a1 x.letter.heads.length c1,I x.letter.reply.head.epoch,U x.letter.reply.head.root,U x.letter.reply.head.prev,I x.letter.reply.head.at_,Sr x.letter.reply.proof.name,Sl a2 x.letter.reply.proof.entries.length c2,Sl a3 x.letter.reply.proof.sides.length c3]
abbrev Jfz (x:K4) (a0:Ba) (c0:Nat) (a1:Ba) (c1:Nat) (a2:Ba) (c2:Nat) (a3:Ba) (c3:Nat):Value:=.agg #[I x.kind,I x.who,Sr x.value,Sl a0 x.fates.length c0,I x.letter.to_,I x.letter.from_,I x.letter.since,I x.letter.due,Sl a1 x.letter.heads.length c1,I x.letter.reply.head.epoch,U x.letter.reply.head.root,U x.letter.reply.head.prev,I x.letter.reply.head.at_,Sr x.letter.reply.proof.name,Sl a2 x.letter.reply.proof.entries.length c2,Sl a3 x.letter.reply.proof.sides.length c3]
abbrev Jdh (x:JU):Bv:=[I x.epoch,U x.root,U x.prev,I x.at_]
abbrev VJ (x:JU):Value:=.agg #[I x.epoch,U x.root,U x.prev,I x.at_]
abbrev Kw (x:JS) (a0:Ba) (c0:Nat) (a1:Ba) (c1:Nat) (a2:Ba) (c2:Nat):Bv:=[I x.to_,I x.from_,I x.since,I x.due,Sl a0 x.heads.length c0,I x.reply.head.epoch,U x.reply.head.root,U x.reply.head.prev,I x.reply.head.at_,Sr x.reply.proof.name,Sl a1 x.reply.proof.entries.length c1,Sl a2 x.reply.proof.sides.length c2]
abbrev QZ (x:JS) (a0:Ba) (c0:Nat) (a1:Ba) (c1:Nat) (a2:Ba) (c2:Nat):Value:=.agg #[I x.to_,I x.from_,I x.since,I x.due,Sl a0 x.heads.length c0,I x.reply.head.epoch,U x.reply.head.root,U x.reply.head.prev,I x.reply.head.at_,Sr x.reply.proof.name,Sl a1 x.reply.proof.entries.length c1,Sl a2 x.reply.proof.sides.length c2]
abbrev KU (x:Qn) (a0:Ba) (c0:Nat):Bv:=[Sr x.name,U x.key,I x.head.epoch,U x.head.root,U x.head.prev,I x.head.at_,Sl a0 x.wanted.length c0,I x.had]
abbrev KC (x:Qn) (a0:Ba) (c0:Nat):Value:=.agg #[Sr x.name,U x.key,I x.head.epoch,U x.head.root,U x.head.prev,I x.head.at_,Sl a0 x.wanted.length c0,I x.had]
abbrev Y6 (x:We):Bv:=[I x.least,I x.most,I x.lost,I x.gap,I x.next,I x.asked]
abbrev Va (x:We):Value:=.agg #[I x.least,I x.most,I x.lost,I x.gap,I x.next,I x.asked]
abbrev VO (x:Q4) (a0:Ba) (c0:Nat) (a1:Ba) (c1:Nat):Bv:=[Sr x.name,Sl a0 x.entries.length c0,Sl a1 x.sides.length c1]
abbrev V6 (x:Q4) (a0:Ba) (c0:Nat) (a1:Ba) (c1:Nat):Value:=.agg #[Sr x.name,Sl a0 x.entries.length c0,Sl a1 x.sides.length c1]
abbrev ZI (x:Q5) (a0:Ba) (c0:Nat) (a1:Ba) (c1:Nat):Bv:=[I x.head.epoch,U x.head.root,U x.head.prev,I x.head.at_,Sr x.proof.name,Sl a0 x.proof.entries.length c0,Sl a1 x.proof.sides.length c1]
abbrev WU (x:Q5) (a0:Ba) (c0:Nat) (a1:Ba) (c1:Nat):Value:=.agg #[I x.head.epoch,U x.head.root,U x.head.prev,I x.head.at_,Sr x.proof.name,Sl a0 x.proof.entries.length c0,Sl a1 x.proof.sides.length c1]
abbrev WH (x:Kx) (a0:Ba) (c0:Nat) (a1:Ba) (c1:Nat):Bv:=[Sl a0 x.names.length c0,Sl a1 x.keys.length c1,I x.most,I x.batch,I x.every,I x.least,I x.top,I x.lost,I x.reach]
abbrev YE (x:Kx) (a0:Ba) (c0:Nat) (a1:Ba) (c1:Nat):Value:=.agg #[Sl a0 x.names.length c0,Sl a1 x.keys.length c1,I x.most,I x.batch,I x.every,I x.least,I x.top,I x.lost,I x.reach]
abbrev ZL (x:Wj) (a0:Ba) (c0:Nat) (a1:Ba) (c1:Nat) (a2:Ba) (c2:Nat) (a3:Ba) (c3:Nat) (a4:Ba) (c4:Nat) (a5:Ba) (c5:Nat):Bv:=[I x.clerk.queue.most,Sl a0 x.clerk.queue.wait.length c0,I x.clerk.batch,I x.clerk.every,I x.clerk.now,Sl a1 x.clerk.heads.length c1,Sl a2 x.clerk.books.length c2,Sl a3 x.owners.length c3,Sl a4 x.polls.length c4,I x.net.now,Sl a5 x.net.way.length c5]
abbrev VK (x:Wj) (a0:Ba) (c0:Nat) (a1:Ba) (c1:Nat) (a2:Ba) (c2:Nat) (a3:Ba) (c3:Nat) (a4:Ba) (c4:Nat) (a5:Ba) (c5:Nat):Value:=.agg #[I x.clerk.queue.most,Sl a0 x.clerk.queue.wait.length c0,I x.clerk.batch,I x.clerk.every,I x.clerk.now,Sl a1 x.clerk.heads.length c1,Sl a2 x.clerk.books.length c2,Sl a3 x.owners.length c3,Sl a4 x.polls.length c4,I x.net.now,Sl a5 x.net.way.length c5]
open Go.Proofs Go.Shelf Go.RowKit
theorem JfA (w:World) (k:Nat) (os:Array Obj):Below w.heap.size w (Sort.grow (w.drewN k) os):=by
 refine ⟨rfl,rfl,rfl,by simp [Sort.grow,World.drewN],fun b hb=>?_⟩
 simp [Sort.grow,World.drewN,Array.getElem?_append,hb]
theorem JnL {P:Program} {ρ:Ren} (L:LaysM.n171 P ρ) (G:J4) (n:Int) (h:-9223372036854775808≤n∧n<9223372036854775808):V5 P (ρ.f 171) #[I n] G [] (fun u _ L'=>u=Sr (Lib.itoa n)∧L'=[]) (fun _ _ _=>False) :=
 JaW fun w hT _=>(Any.strconv_Itoa L n h.1 (by omega) w hT.1).mono fun e w' ⟨he,k,os,hw⟩=>⟨_,he,rfl,hw ▸ JfA w k os⟩
def Jbd (s:Bb):Option Int:=match Lib.atoiAll s with | .ok v=>some v | _=>none
theorem Jg2 {s:Bb} {v:Int} (h:Jbd s=some v):-9223372036854775808≤v∧v<9223372036854775808:=by
 unfold Jbd at h
 split at h
 ·
  rename_i u hu
  cases h
  have:=Lib.atoiAll_bounds hu
  omega
 · cases h
theorem JnM {P : Program} {ρ : Ren} (L : LaysC.n172 P ρ) (g1 : P.globalNamed "strconv.ErrSyntax" = some (ρ.g 15)) (g2 : P.globalNamed "strconv.ErrRange" = some (ρ.g 16)) (G : J4) (s : Bb) (hs : s.length ≤ 140737488355328) :
  V5 P (ρ.f 172) #[Sr s] G [] (fun u _ L'=>((∃ v,Jbd s=some v∧u=.tuple #[I v,.nilIface])∨(Jbd s=none∧∃ v N,u=.tuple #[I v,.iface (ρ.t 168) (Pt N 0)]))∧L'=[]) (fun _ _ _=>False) :=
 JaW fun w hT _=>by
  have hd:(B s).data.toList=s:=by simp [B]
  have hz:(B s).size=s.length:=by rw [Lib.size_eq,hd]
  obtain ⟨_,⟨q1,e1,k1,c1,d1⟩,⟨q2,e2,k2,c2,d2⟩⟩:=hT
  obtain rfl:q1=ρ.g 15:=HE.inj (k1.symm.trans g1)
  obtain rfl:q2=ρ.g 16:=HE.inj (k2.symm.trans g2)
  cases ha:Lib.atoiAll s
  ·
   rename_i v
   refine (Any.strconv_Atoi_ok L (B s) (by omega) v (by rw [hd];exact ha) w).mono ?_
   rintro e w' ⟨rfl,hw⟩
   refine ⟨_,rfl,.inl ⟨v,by unfold Jbd;rw [ha],rfl⟩,?_⟩
   rcases hw with rfl | ⟨t,rfl⟩
   · exact Below.refl _ _
   · exact Lib.bytesWorld_below _ _ _
  ·
   refine (Any.strconv_Atoi_syntax L (B s) (by omega) (by rw [hd];exact ha) e1 w c1 d1).mono ?_
   rintro e w' ⟨N,rfl,_,_,hb⟩
   exact ⟨_,rfl,.inr ⟨by unfold Jbd;rw [ha],_,N,rfl⟩,hb⟩
  ·
   refine (Any.strconv_Atoi_range L (B s) (by omega) (by rw [hd];exact ha) e2 w c2 d2).mono ?_
   rintro e w' ⟨N,rfl,_,_,hb⟩
   exact ⟨_,rfl,.inr ⟨by unfold Jbd;rw [ha],_,N,rfl⟩,hb⟩
def JJ (s:Bb):Bs:=Lib.split s [32]
theorem Jd3 (s:Bb):(B s).data.toList=s:=by simp [B]
theorem Jhq (s:Bb):(B s).size=s.length:=by rw [Lib.size_eq,Jd3]
theorem JbP (s:Bb):(Lib.splitB ⟨#[32]⟩ 0 (Lib.countB (B s) ⟨#[32]⟩) (B s)).map (·.data.toList)=JJ s:=by
 rw [Lib.splitB_data,Jd3]
 show Lib.splitK _ 0 (Lib.count (B s).data.toList _) s=_
 rw [Jd3];rfl
theorem Jg3 (sep:Bb) (n:Nat):∀ (k:Nat) (s:Bb),s.length≤n→∀ x∈Lib.splitK sep 0 k s,x.length≤n
 | 0,s,h,x,hx=>by unfold Lib.splitK at hx;rw [HI.1 hx];exact h
 | k+1,s,h,x,hx=>by
  unfold Lib.splitK at hx
  split at hx
  · rw [HI.1 hx];exact h
  ·
   rcases List.mem_cons.1 hx with rfl | hx
   · rw [List.length_take];omega
   · exact Jg3 sep n k _ (by rw [List.length_drop];omega) x hx
theorem JfB {s x:Bb} (h:x∈JJ s):x.length≤s.length:=Jg3 _ _ _ _ (Hr _) x h
theorem Vh (s:Bb):0<(JJ s).length:=by
 rw [← JbP,HA]
 have:=Lib.splitB_all ⟨#[32]⟩ (by decide) 0 _ (B s) rfl
 omega
theorem flat1 {α β:Type} (f:α→β):∀ l:List α,(l.map fun x=>[f x]).flatten=l.map f
 | []=>rfl
 | x::l=>by simp only [List.map_cons,List.flatten_cons,flat1 f l];rfl
theorem Jiy (G:J4):∀ l:List ByteArray,(∀ x∈l,x.data.toList.length≤140737488351232)→Jgm ES G (l.map fun x=>[Value.string x]) (l.map (·.data.toList))
 | [],_=>trivial
 | x::l,h=>⟨⟨by show [Value.string x]=[Value.string (B x.data.toList)];simp [B],h x (List.mem_cons_self ..)⟩,Jiy G l fun y hy=>h y (List.mem_cons_of_mem _ hy)⟩
theorem Jj3 {P:Program} {ρ:Ren} (L:Lays.n221 P ρ) (L1:Lays.n138 P ρ) (L2:Lays.n143 P ρ) (hi9:(P.info? (ρ.t 9)).map (fun i=>(i.zero,i.size,i.bytes))=some (some (.string ByteArray.empty),1,16)) (G:J4) (s:Bb) (hs:s.length<4294967281) :
  VG P (ρ.f 221) #[Sr s,Sr [32],I 0,I (-1)] G [] (fun u G' L'=>∃ b r,u=Sl (At b 0) (JJ s).length (JJ s).length∧JX ES G' (At b 0) (JJ s).length (JJ s) r∧L'=[r]):=fun w0 G0 w hw=>by
 have hz:=Jhq s
 have hlen:=Lib.splitB_all ⟨#[32]⟩ (by decide) 0 _ (B s) rfl
 have hle:=Lib.countB_le ⟨#[32]⟩ (by decide) (B s).size (B s) (Hr _)
 have hc:=Any.strings_Count_one L1 (B s) 32 w
 rw [show Lib.countByte (B s).data.toList 32=Lib.countB (B s) ⟨#[32]⟩ from (Lib.count_one 32 (B s).data.toList).symm] at hc
 refine (Any.strings_genSplit_core L hi9 (B s) ⟨#[32]⟩ 0 (-1) (Lib.countB (B s) ⟨#[32]⟩+1) w (by omega) (by decide) (Hn _) (fun x c _=>by
  have:=Any.strings_Index_one L2 x 32 (w.alloc (.cells c (ρ.t 9)))
  rw [← Lib.index_one] at this
  exact this) hc (by decide) (by decide) (by rw [if_pos (by decide)];omega)).mono ?_
 rintro e w' ⟨rfl,rfl⟩
 rw [Nat.add_sub_cancel,hlen]
 have e2:Lib.cellsOf (Lib.splitB ⟨#[32]⟩ 0 (Lib.countB (B s) ⟨#[32]⟩) (B s)) (Lib.countB (B s) ⟨#[32]⟩+1)=((Lib.splitB ⟨#[32]⟩ 0 (Lib.countB (B s) ⟨#[32]⟩) (B s)).map Value.string).toArray:=by rw [← hlen];exact Lib.cellsOf_full _
 rw [e2]
 have hl:(JJ s).length=Lib.countB (B s) ⟨#[32]⟩+1:=by rw [← JbP,HA];exact hlen
 have hw2:=hw.alloc ((Lib.splitB ⟨#[32]⟩ 0 (Lib.countB (B s) ⟨#[32]⟩) (B s)).map Value.string).toArray (ρ.t 9)
 have hr:JX ES G (At w.heap.size 0) (JJ s).length (JJ s) [Sg w.heap.size 0 ((Lib.splitB ⟨#[32]⟩ 0 (Lib.countB (B s) ⟨#[32]⟩) (B s)).map Value.string)]:=by
  have:=JX.of_lit (E:=ES) (G:=G) (b:=w.heap.size) _ _ (Jiy G (Lib.splitB ⟨#[32]⟩ 0 (Lib.countB (B s) ⟨#[32]⟩) (B s)) (fun x hx=>by
   have:x.data.toList∈JJ s:=by rw [← JbP];exact List.mem_map.2 ⟨x,hx,rfl⟩
   have:=JfB this;omega)) (by rw [HA,hlen];omega)
  rw [JbP] at this
  rwa [show ((Lib.splitB ⟨#[32]⟩ 0 (Lib.countB (B s) ⟨#[32]⟩) (B s)).map fun x=>[Value.string x]).flatten=(Lib.splitB ⟨#[32]⟩ 0 (Lib.countB (B s) ⟨#[32]⟩) (B s)).map Value.string from flat1 _ _] at this
 exact ⟨_,G,[[Sg w.heap.size 0 ((Lib.splitB ⟨#[32]⟩ 0 (Lib.countB (B s) ⟨#[32]⟩) (B s)).map Value.string)]],rfl,by simpa using hw2,Jh _,w.heap.size,_,by rw [hl],hr,rfl⟩
theorem JnN {P:Program} {ρ:Ren} (L:Lays.n156 P ρ) (X:Builder.Extra P ρ) (G:J4) (b o c:Nat) (l:Bs) (sep:Bb) (hr:RS ES G (At b o) c l) (hne:l ≠ []) (hn:l.length≤140737488355328) (hj:(Lib.join l sep).length≤140737488355328) :
  VG P (ρ.f 156) #[Sl (At b o) l.length c,Sr sep] G [] (fun u _ _=>u=Sr (Lib.join l sep)):=Jhz fun w hG=>by
 have hm:(l.map B).map (·.data.toList)=l:=by rw [List.map_map];exact (List.map_congr_left fun x _=>Jd3 x).trans (List.map_id _)
 have hget:∀ (j:Nat) x,(l.map B)[j]? = some x→w.cell? ⟨b,o+j,none⟩=some (.string x):=fun j x hx=>by
  rw [List.getElem?_map] at hx
  obtain ⟨y,hy,rfl⟩:=Option.map_eq_some_iff.1 hx
  obtain ⟨cs,⟨rfl,_⟩,h2⟩:=hr.elem _ rfl j y hy
  have:=hG _ _ _ (h2 0 _ rfl)
  simpa [ES] using this
 have hb:b<w.heap.size:=by
  cases l with
  | nil=>exact (hne rfl).elim
  | cons x l=>exact WD (hget 0 _ rfl)
 have:=Any.strings_Join L X b o c (l.map B) (B sep) w hget hb (by rw [HA];exact hn) (by rw [HA];exact hr.le) (by rw [hm,Jd3];exact hj)
 rw [hm,Jd3,HA] at this
 exact this
open Go.Lib Go.Sort
def JeX:Go.Shelf.Ren:=⟨fun x=>if Hd x 129 then 223 else if Hd x 138 then 132 else if Hd x 143 then 133 else if Hd x 156 then 50 else if Hd x 165 then 90 else if Hd x 166 then 91 else if Hd x 169 then 92 else if Hd x 171 then 46 else if Hd x 172 then 192 else if Hd x 195 then 188 else if Hd x 197 then 189 else if Hd x 205 then 267 else if Hd x 217 then 228 else if Hd x 218 then 190 else if Hd x 219 then 191 else if Hd x 221 then 77 else if Hd x 224 then 230 else if Hd x 225 then 229 else if Hd x 240 then 144 else if Hd x 241 then 145 else if Hd x 243 then 76 else if Hd x 244 then 232 else if Hd x 245 then 233 else if Hd x 246 then 130 else if Hd x 247 then 255 else if Hd x 260 then 227 else if Hd x 266 then 253 else if Hd x 267 then 231 else if Hd x 268 then 131 else if Hd x 276 then 197 else if Hd x 277 then 198 else if Hd x 279 then 256 else if Hd x 280 then 257 else if Hd x 281 then 258 else if Hd x 282 then 259 else if Hd x 283 then 184 else if Hd x 284 then 185 else if Hd x 285 then 186 else if Hd x 286 then 187 else if Hd x 287 then 265 else if Hd x 314 then 254 else if Hd x 316 then 266 else if Hd x 317 then 222 else if Hd x 318 then 224 else if Hd x 319 then 225 else if Hd x 320 then 226 else if Hd x 321 then 271 else if Hd x 322 then 272 else if Hd x 337 then 251 else if Hd x 338 then 252 else x,fun x=>if Hd x 31 then 22 else if Hd x 37 then 35 else if Hd x 46 then 98 else if Hd x 51 then 132 else if Hd x 53 then 41 else if Hd x 70 then 163 else if Hd x 72 then 165 else if Hd x 75 then 168 else if Hd x 76 then 169 else if Hd x 80 then 171 else if Hd x 85 then 336 else if Hd x 105 then 273 else if Hd x 119 then 330 else if Hd x 127 then 227 else if Hd x 138 then 332 else if Hd x 139 then 333 else if Hd x 143 then 352 else if Hd x 145 then 354 else if Hd x 146 then 133 else if Hd x 164 then 280 else if Hd x 167 then 335 else if Hd x 168 then 338 else if Hd x 171 then 268 else if Hd x 173 then 271 else if Hd x 175 then 344 else if Hd x 210 then 347 else if Hd x 212 then 310 else if Hd x 213 then 311 else if Hd x 232 then 342 else if Hd x 233 then 343 else x,fun x=>if Hd x 1 then 3 else if Hd x 3 then 4 else if Hd x 4 then 5 else if Hd x 15 then 8 else if Hd x 16 then 9 else if Hd x 17 then 2 else if Hd x 18 then 6 else if Hd x 19 then 7 else x⟩
theorem Je9:LaysM.n171 Tryz.prog JeX:={
 mixed:=rfl,
 f129:=Tryz.func223.trans (by kernel_rfl),
 f171:=Tryz.func46.trans (by kernel_rfl),
 f243:=Tryz.func76.trans (by kernel_rfl),
 f246:=Tryz.func130.trans (by kernel_rfl),
 f283:=Tryz.func184.trans (by kernel_rfl),
 f284:=Tryz.func185.trans (by kernel_rfl),
 f285:=Tryz.func186.trans (by kernel_rfl),
 f286:=Tryz.func187.trans (by kernel_rfl),
 f317:=Tryz.func222.trans (by kernel_rfl),
 f318:=Tryz.func224.trans (by kernel_rfl),
 f319:=Tryz.func225.trans (by kernel_rfl),
 f320:=Tryz.func226.trans (by kernel_rfl),
 f337:=Tryz.func251.trans (by kernel_rfl),
 f338:=Tryz.func252.trans (by kernel_rfl),
 t0:=by kernel_rfl,
 a0:=fun _=>by kernel_rfl,
 z0:=fun _=>by kernel_rfl,
 v0:=fun _=>by kernel_rfl,
 t2:=by kernel_rfl,
 a2:=fun _=>by kernel_rfl,
 z2:=fun _=>by kernel_rfl,
 v2:=fun _=>by kernel_rfl,
 t3:=by kernel_rfl,
 a3:=fun _=>by kernel_rfl,
 z3:=fun _=>by kernel_rfl,
 v3:=fun _=>by kernel_rfl,
 t4:=by kernel_rfl,
 a4:=fun _=>by kernel_rfl,
 z4:=fun _=>by kernel_rfl,
 v4:=fun _=>by kernel_rfl,
 t5:=by kernel_rfl,
 a5:=fun _=>by kernel_rfl,
 z5:=fun _=>by kernel_rfl,
 v5:=fun _=>by kernel_rfl,
 t9:=by kernel_rfl,
 a9:=fun _=>by kernel_rfl,
 z9:=fun _=>by kernel_rfl,
 v9:=fun _=>by kernel_rfl,
 t20:=by kernel_rfl,
 a20:=fun _=>by kernel_rfl,
 z20:=fun _=>by kernel_rfl,
 v20:=fun _=>by kernel_rfl,
 t37:=by kernel_rfl,
 a37:=fun _=>by kernel_rfl,
 z37:=fun _=>by kernel_rfl,
 v37:=fun _=>by kernel_rfl,
 t46:=by kernel_rfl,
 a46:=fun _=>by kernel_rfl,
 z46:=fun _=>by kernel_rfl,
 v46:=fun _=>by kernel_rfl,
 t51:=by kernel_rfl,
 a51:=fun _=>by kernel_rfl,
 z51:=fun _=>by kernel_rfl,
 v51:=fun _=>by kernel_rfl,
 t53:=by kernel_rfl,
 a53:=fun _=>by kernel_rfl,
 z53:=fun _=>by kernel_rfl,
 v53:=fun _=>by kernel_rfl,
 t171:=by kernel_rfl,
 a171:=fun _=>by kernel_rfl,
 z171:=fun _=>by kernel_rfl,
 v171:=fun _=>by kernel_rfl,
 t173:=by kernel_rfl,
 a173:=fun _=>by kernel_rfl,
 z173:=fun _=>by kernel_rfl,
 v173:=fun _=>by kernel_rfl,
 t212:=by kernel_rfl,
 a212:=fun _=>by kernel_rfl,
 z212:=fun _=>by kernel_rfl,
 v212:=fun _=>by kernel_rfl,
 t213:=by kernel_rfl,
 a213:=fun _=>by kernel_rfl,
 z213:=fun _=>by kernel_rfl,
 t232:=by kernel_rfl,
 a232:=fun _=>by kernel_rfl,
 z232:=fun _=>by kernel_rfl,
 v232:=fun _=>by kernel_rfl,
 t233:=by kernel_rfl,
 a233:=fun _=>by kernel_rfl,
 z233:=fun _=>by kernel_rfl,
 v233:=fun _=>by kernel_rfl,
 g17:=by kernel_rfl,
 g18:=by kernel_rfl,
 g19:=by kernel_rfl,
 i0:=by kernel_rfl,
 i2:=by kernel_rfl,
 i3:=by kernel_rfl,
 i4:=by kernel_rfl,
 i5:=by kernel_rfl,
 i9:=by kernel_rfl,
 i20:=by kernel_rfl,
 i37:=by kernel_rfl,
 i46:=by kernel_rfl,
 i51:=by kernel_rfl,
 i53:=by kernel_rfl,
 i171:=by kernel_rfl,
 i173:=by kernel_rfl,
 i212:=by kernel_rfl,
 i232:=by kernel_rfl,
 i233:=by kernel_rfl,
 m17:=by kernel_rfl,
 m18:=by kernel_rfl,
 m19:=by kernel_rfl }
theorem Jpm:LaysC.n172 Tryz.prog JeX:={
 mixed:=rfl,
 f129:=Tryz.func223.trans (by kernel_rfl),
 f171:=Tryz.func46.trans (by kernel_rfl),
 f172:=Tryz.func192.trans (by kernel_rfl),
 f205:=Tryz.func267.trans (by kernel_rfl),
 f243:=Tryz.func76.trans (by kernel_rfl),
 f244:=Tryz.func232.trans (by kernel_rfl),
 f245:=Tryz.func233.trans (by kernel_rfl),
 f246:=Tryz.func130.trans (by kernel_rfl),
 f247:=Tryz.func255.trans (by kernel_rfl),
 f279:=Tryz.func256.trans (by kernel_rfl),
 f280:=Tryz.func257.trans (by kernel_rfl),
 f281:=Tryz.func258.trans (by kernel_rfl),
 f282:=Tryz.func259.trans (by kernel_rfl),
 f283:=Tryz.func184.trans (by kernel_rfl),
 f284:=Tryz.func185.trans (by kernel_rfl),
 f285:=Tryz.func186.trans (by kernel_rfl),
 f286:=Tryz.func187.trans (by kernel_rfl),
 f287:=Tryz.func265.trans (by kernel_rfl),
 f316:=Tryz.func266.trans (by kernel_rfl),
 f317:=Tryz.func222.trans (by kernel_rfl),
 f318:=Tryz.func224.trans (by kernel_rfl),
 f319:=Tryz.func225.trans (by kernel_rfl),
 f320:=Tryz.func226.trans (by kernel_rfl),
 f321:=Tryz.func271.trans (by kernel_rfl),
 f322:=Tryz.func272.trans (by kernel_rfl),
 f337:=Tryz.func251.trans (by kernel_rfl),
 f338:=Tryz.func252.trans (by kernel_rfl),
 t0:=by kernel_rfl,
 a0:=fun _=>by kernel_rfl,
 z0:=fun _=>by kernel_rfl,
 v0:=fun _=>by kernel_rfl,
 t2:=by kernel_rfl,
 a2:=fun _=>by kernel_rfl,
 z2:=fun _=>by kernel_rfl,
 v2:=fun _=>by kernel_rfl,
 t3:=by kernel_rfl,
 a3:=fun _=>by kernel_rfl,
 z3:=fun _=>by kernel_rfl,
 v3:=fun _=>by kernel_rfl,
 t4:=by kernel_rfl,
 a4:=fun _=>by kernel_rfl,
 z4:=fun _=>by kernel_rfl,
 v4:=fun _=>by kernel_rfl,
 t5:=by kernel_rfl,
 a5:=fun _=>by kernel_rfl,
 z5:=fun _=>by kernel_rfl,
 v5:=fun _=>by kernel_rfl,
 t9:=by kernel_rfl,
 a9:=fun _=>by kernel_rfl,
 z9:=fun _=>by kernel_rfl,
 v9:=fun _=>by kernel_rfl,
 t20:=by kernel_rfl,
 a20:=fun _=>by kernel_rfl,
 z20:=fun _=>by kernel_rfl,
 v20:=fun _=>by kernel_rfl,
 t21:=by kernel_rfl,
 a21:=fun _=>by kernel_rfl,
 z21:=fun _=>by kernel_rfl,
 v21:=fun _=>by kernel_rfl,
 t37:=by kernel_rfl,
 a37:=fun _=>by kernel_rfl,
 z37:=fun _=>by kernel_rfl,
 v37:=fun _=>by kernel_rfl,
 t46:=by kernel_rfl,
 a46:=fun _=>by kernel_rfl,
 z46:=fun _=>by kernel_rfl,
 v46:=fun _=>by kernel_rfl,
 t51:=by kernel_rfl,
 a51:=fun _=>by kernel_rfl,
 z51:=fun _=>by kernel_rfl,
 v51:=fun _=>by kernel_rfl,
 t53:=by kernel_rfl,
 a53:=fun _=>by kernel_rfl,
 z53:=fun _=>by kernel_rfl,
 v53:=fun _=>by kernel_rfl,
 t75:=by kernel_rfl,
 a75:=fun _=>by kernel_rfl,
 z75:=fun _=>by kernel_rfl,
 v75:=fun _=>by kernel_rfl,
 t76:=by kernel_rfl,
 a76:=fun _=>by kernel_rfl,
 z76:=fun _=>by kernel_rfl,
 v76:=fun _=>by kernel_rfl,
 t85:=by kernel_rfl,
 a85:=fun _=>by kernel_rfl,
 z85:=fun _=>by kernel_rfl,
 v85:=fun _=>by kernel_rfl,
 t127:=by kernel_rfl,
 a127:=fun _=>by kernel_rfl,
 z127:=fun _=>by kernel_rfl,
 v127:=fun _=>by kernel_rfl,
 t143:=by kernel_rfl,
 a143:=fun _=>by kernel_rfl,
 z143:=fun _=>by kernel_rfl,
 v143:=fun _=>by kernel_rfl,
 t145:=by kernel_rfl,
 a145:=fun _=>by kernel_rfl,
 z145:=fun _=>by kernel_rfl,
 v145:=fun _=>by kernel_rfl,
 t167:=by kernel_rfl,
 a167:=fun _=>by kernel_rfl,
 z167:=fun _=>by kernel_rfl,
 v167:=fun _=>by kernel_rfl,
 t168:=by kernel_rfl,
 a168:=fun _=>by kernel_rfl,
 z168:=fun _=>by kernel_rfl,
 v168:=fun _=>by kernel_rfl,
 t171:=by kernel_rfl,
 a171:=fun _=>by kernel_rfl,
 z171:=fun _=>by kernel_rfl,
 v171:=fun _=>by kernel_rfl,
 t173:=by kernel_rfl,
 a173:=fun _=>by kernel_rfl,
 z173:=fun _=>by kernel_rfl,
 v173:=fun _=>by kernel_rfl,
 t175:=by kernel_rfl,
 a175:=fun _=>by kernel_rfl,
 z175:=fun _=>by kernel_rfl,
 v175:=fun _=>by kernel_rfl,
 t210:=by kernel_rfl,
 a210:=fun _=>by kernel_rfl,
 z210:=fun _=>by kernel_rfl,
 v210:=fun _=>by kernel_rfl,
 t212:=by kernel_rfl,
 a212:=fun _=>by kernel_rfl,
 z212:=fun _=>by kernel_rfl,
 v212:=fun _=>by kernel_rfl,
 t213:=by kernel_rfl,
 a213:=fun _=>by kernel_rfl,
 z213:=fun _=>by kernel_rfl,
 t232:=by kernel_rfl,
 a232:=fun _=>by kernel_rfl,
 z232:=fun _=>by kernel_rfl,
 v232:=fun _=>by kernel_rfl,
 t233:=by kernel_rfl,
 a233:=fun _=>by kernel_rfl,
 z233:=fun _=>by kernel_rfl,
 v233:=fun _=>by kernel_rfl,
 g15:=by kernel_rfl,
 g16:=by kernel_rfl,
 g17:=by kernel_rfl,
 g18:=by kernel_rfl,
 g19:=by kernel_rfl,
 t80:=by kernel_rfl,
 a80:=fun _=>by kernel_rfl,
 z80:=fun _=>by kernel_rfl,
 v80:=fun _=>by kernel_rfl,
 i0:=by kernel_rfl,
 i2:=by kernel_rfl,
 i3:=by kernel_rfl,
 i4:=by kernel_rfl,
 i5:=by kernel_rfl,
 i9:=by kernel_rfl,
 i20:=by kernel_rfl,
 i21:=by kernel_rfl,
 i37:=by kernel_rfl,
 i46:=by kernel_rfl,
 i51:=by kernel_rfl,
 i53:=by kernel_rfl,
 i75:=by kernel_rfl,
 i76:=by kernel_rfl,
 i80:=by kernel_rfl,
 i85:=by kernel_rfl,
 i127:=by kernel_rfl,
 i143:=by kernel_rfl,
 i145:=by kernel_rfl,
 i167:=by kernel_rfl,
 i168:=by kernel_rfl,
 i171:=by kernel_rfl,
 i173:=by kernel_rfl,
 i175:=by kernel_rfl,
 i210:=by kernel_rfl,
 i212:=by kernel_rfl,
 i232:=by kernel_rfl,
 i233:=by kernel_rfl,
 m15:=by kernel_rfl,
 m16:=by kernel_rfl,
 m17:=by kernel_rfl,
 m18:=by kernel_rfl,
 m19:=by kernel_rfl,
 c0:=by kernel_rfl,
 c2:=by kernel_rfl,
 c3:=by kernel_rfl,
 c4:=by kernel_rfl,
 c5:=by kernel_rfl,
 c9:=by kernel_rfl,
 c20:=by kernel_rfl,
 c21:=by kernel_rfl,
 c37:=by kernel_rfl,
 c46:=by kernel_rfl,
 c51:=by kernel_rfl,
 c53:=by kernel_rfl,
 c75:=by kernel_rfl,
 c76:=by kernel_rfl,
 c80:=by kernel_rfl,
 c85:=by kernel_rfl,
 c127:=by kernel_rfl,
 c143:=by kernel_rfl,
 c145:=by kernel_rfl,
 c167:=by kernel_rfl,
 c168:=by kernel_rfl,
 c171:=by kernel_rfl,
 c173:=by kernel_rfl,
 c175:=by kernel_rfl,
 c210:=by kernel_rfl,
 c212:=by kernel_rfl,
 c213:=by kernel_rfl,
 c232:=by kernel_rfl,
 c233:=by kernel_rfl }
theorem Jpn:Lays.n221 Tryz.prog JeX:={
 mixed:=rfl,
 f138:=Tryz.func132.trans (by kernel_rfl),
 f143:=Tryz.func133.trans (by kernel_rfl),
 f195:=Tryz.func188.trans (by kernel_rfl),
 f197:=Tryz.func189.trans (by kernel_rfl),
 f217:=Tryz.func228.trans (by kernel_rfl),
 f218:=Tryz.func190.trans (by kernel_rfl),
 f219:=Tryz.func191.trans (by kernel_rfl),
 f221:=Tryz.func77.trans (by kernel_rfl),
 f224:=Tryz.func230.trans (by kernel_rfl),
 f225:=Tryz.func229.trans (by kernel_rfl),
 f260:=Tryz.func227.trans (by kernel_rfl),
 f266:=Tryz.func253.trans (by kernel_rfl),
 f267:=Tryz.func231.trans (by kernel_rfl),
 f268:=Tryz.func131.trans (by kernel_rfl),
 f314:=Tryz.func254.trans (by kernel_rfl),
 t0:=by kernel_rfl,
 a0:=fun _=>by kernel_rfl,
 z0:=fun _=>by kernel_rfl,
 v0:=fun _=>by kernel_rfl,
 t3:=by kernel_rfl,
 a3:=fun _=>by kernel_rfl,
 z3:=fun _=>by kernel_rfl,
 v3:=fun _=>by kernel_rfl,
 t4:=by kernel_rfl,
 a4:=fun _=>by kernel_rfl,
 z4:=fun _=>by kernel_rfl,
 v4:=fun _=>by kernel_rfl,
 t5:=by kernel_rfl,
 a5:=fun _=>by kernel_rfl,
 z5:=fun _=>by kernel_rfl,
 v5:=fun _=>by kernel_rfl,
 t9:=by kernel_rfl,
 a9:=fun _=>by kernel_rfl,
 z9:=fun _=>by kernel_rfl,
 v9:=fun _=>by kernel_rfl,
 t21:=by kernel_rfl,
 a21:=fun _=>by kernel_rfl,
 z21:=fun _=>by kernel_rfl,
 v21:=fun _=>by kernel_rfl,
 t31:=by kernel_rfl,
 a31:=fun _=>by kernel_rfl,
 z31:=fun _=>by kernel_rfl,
 v31:=fun _=>by kernel_rfl,
 t46:=by kernel_rfl,
 a46:=fun _=>by kernel_rfl,
 z46:=fun _=>by kernel_rfl,
 v46:=fun _=>by kernel_rfl,
 t51:=by kernel_rfl,
 a51:=fun _=>by kernel_rfl,
 z51:=fun _=>by kernel_rfl,
 v51:=fun _=>by kernel_rfl,
 t105:=by kernel_rfl,
 a105:=fun _=>by kernel_rfl,
 z105:=fun _=>by kernel_rfl,
 v105:=fun _=>by kernel_rfl,
 t119:=by kernel_rfl,
 a119:=fun _=>by kernel_rfl,
 z119:=fun _=>by kernel_rfl,
 t138:=by kernel_rfl,
 a138:=fun _=>by kernel_rfl,
 z138:=fun _=>by kernel_rfl,
 v138:=fun _=>by kernel_rfl,
 t139:=by kernel_rfl,
 a139:=fun _=>by kernel_rfl,
 z139:=fun _=>by kernel_rfl,
 v139:=fun _=>by kernel_rfl,
 t146:=by kernel_rfl,
 a146:=fun _=>by kernel_rfl,
 z146:=fun _=>by kernel_rfl,
 v146:=fun _=>by kernel_rfl,
 g1:=by kernel_rfl,
 g3:=by kernel_rfl,
 g4:=by kernel_rfl }
theorem Jpo:Lays.n138 Tryz.prog JeX:={
 mixed:=rfl,
 f138:=Tryz.func132.trans (by kernel_rfl),
 f143:=Tryz.func133.trans (by kernel_rfl),
 f195:=Tryz.func188.trans (by kernel_rfl),
 f217:=Tryz.func228.trans (by kernel_rfl),
 f218:=Tryz.func190.trans (by kernel_rfl),
 f219:=Tryz.func191.trans (by kernel_rfl),
 f224:=Tryz.func230.trans (by kernel_rfl),
 f225:=Tryz.func229.trans (by kernel_rfl),
 f266:=Tryz.func253.trans (by kernel_rfl),
 f267:=Tryz.func231.trans (by kernel_rfl),
 f314:=Tryz.func254.trans (by kernel_rfl),
 t0:=by kernel_rfl,
 a0:=fun _=>by kernel_rfl,
 z0:=fun _=>by kernel_rfl,
 v0:=fun _=>by kernel_rfl,
 t3:=by kernel_rfl,
 a3:=fun _=>by kernel_rfl,
 z3:=fun _=>by kernel_rfl,
 v3:=fun _=>by kernel_rfl,
 t4:=by kernel_rfl,
 a4:=fun _=>by kernel_rfl,
 z4:=fun _=>by kernel_rfl,
 v4:=fun _=>by kernel_rfl,
 t5:=by kernel_rfl,
 a5:=fun _=>by kernel_rfl,
 z5:=fun _=>by kernel_rfl,
 v5:=fun _=>by kernel_rfl,
 t9:=by kernel_rfl,
 a9:=fun _=>by kernel_rfl,
 z9:=fun _=>by kernel_rfl,
 v9:=fun _=>by kernel_rfl,
 t46:=by kernel_rfl,
 a46:=fun _=>by kernel_rfl,
 z46:=fun _=>by kernel_rfl,
 v46:=fun _=>by kernel_rfl,
 t51:=by kernel_rfl,
 a51:=fun _=>by kernel_rfl,
 z51:=fun _=>by kernel_rfl,
 v51:=fun _=>by kernel_rfl,
 t146:=by kernel_rfl,
 a146:=fun _=>by kernel_rfl,
 z146:=fun _=>by kernel_rfl,
 v146:=fun _=>by kernel_rfl,
 g1:=by kernel_rfl }
theorem Jpp:Lays.n143 Tryz.prog JeX:={
 mixed:=rfl,
 f143:=Tryz.func133.trans (by kernel_rfl),
 f217:=Tryz.func228.trans (by kernel_rfl),
 f219:=Tryz.func191.trans (by kernel_rfl),
 f224:=Tryz.func230.trans (by kernel_rfl),
 f225:=Tryz.func229.trans (by kernel_rfl),
 f266:=Tryz.func253.trans (by kernel_rfl),
 f267:=Tryz.func231.trans (by kernel_rfl),
 f314:=Tryz.func254.trans (by kernel_rfl),
 t3:=by kernel_rfl,
 a3:=fun _=>by kernel_rfl,
 z3:=fun _=>by kernel_rfl,
 v3:=fun _=>by kernel_rfl,
 t4:=by kernel_rfl,
 a4:=fun _=>by kernel_rfl,
 z4:=fun _=>by kernel_rfl,
 v4:=fun _=>by kernel_rfl,
 t5:=by kernel_rfl,
 a5:=fun _=>by kernel_rfl,
 z5:=fun _=>by kernel_rfl,
 v5:=fun _=>by kernel_rfl,
 t9:=by kernel_rfl,
 a9:=fun _=>by kernel_rfl,
 z9:=fun _=>by kernel_rfl,
 v9:=fun _=>by kernel_rfl,
 t46:=by kernel_rfl,
 a46:=fun _=>by kernel_rfl,
 z46:=fun _=>by kernel_rfl,
 v46:=fun _=>by kernel_rfl,
 t51:=by kernel_rfl,
 a51:=fun _=>by kernel_rfl,
 z51:=fun _=>by kernel_rfl,
 v51:=fun _=>by kernel_rfl,
 t146:=by kernel_rfl,
 a146:=fun _=>by kernel_rfl,
 z146:=fun _=>by kernel_rfl,
 v146:=fun _=>by kernel_rfl,
 g1:=by kernel_rfl }
theorem Jpq:Lays.n156 Tryz.prog JeX:={
 mixed:=rfl,
 f156:=Tryz.func50.trans (by kernel_rfl),
 f165:=Tryz.func90.trans (by kernel_rfl),
 f166:=Tryz.func91.trans (by kernel_rfl),
 f169:=Tryz.func92.trans (by kernel_rfl),
 f240:=Tryz.func144.trans (by kernel_rfl),
 f241:=Tryz.func145.trans (by kernel_rfl),
 f276:=Tryz.func197.trans (by kernel_rfl),
 f277:=Tryz.func198.trans (by kernel_rfl),
 t0:=by kernel_rfl,
 a0:=fun _=>by kernel_rfl,
 z0:=fun _=>by kernel_rfl,
 v0:=fun _=>by kernel_rfl,
 t3:=by kernel_rfl,
 a3:=fun _=>by kernel_rfl,
 z3:=fun _=>by kernel_rfl,
 v3:=fun _=>by kernel_rfl,
 t4:=by kernel_rfl,
 a4:=fun _=>by kernel_rfl,
 z4:=fun _=>by kernel_rfl,
 v4:=fun _=>by kernel_rfl,
 t9:=by kernel_rfl,
 a9:=fun _=>by kernel_rfl,
 z9:=fun _=>by kernel_rfl,
 v9:=fun _=>by kernel_rfl,
 t20:=by kernel_rfl,
 a20:=fun _=>by kernel_rfl,
 z20:=fun _=>by kernel_rfl,
 v20:=fun _=>by kernel_rfl,
 t31:=by kernel_rfl,
 a31:=fun _=>by kernel_rfl,
 z31:=fun _=>by kernel_rfl,
 v31:=fun _=>by kernel_rfl,
 t37:=by kernel_rfl,
 a37:=fun _=>by kernel_rfl,
 z37:=fun _=>by kernel_rfl,
 v37:=fun _=>by kernel_rfl,
 t70:=by kernel_rfl,
 a70:=fun _=>by kernel_rfl,
 z70:=fun _=>by kernel_rfl,
 v70:=fun _=>by kernel_rfl,
 t72:=by kernel_rfl,
 a72:=fun _=>by kernel_rfl,
 z72:=fun _=>by kernel_rfl,
 v72:=fun _=>by kernel_rfl,
 t75:=by kernel_rfl,
 a75:=fun _=>by kernel_rfl,
 z75:=fun _=>by kernel_rfl,
 v75:=fun _=>by kernel_rfl,
 t76:=by kernel_rfl,
 a76:=fun _=>by kernel_rfl,
 z76:=fun _=>by kernel_rfl,
 v76:=fun _=>by kernel_rfl,
 t127:=by kernel_rfl,
 a127:=fun _=>by kernel_rfl,
 z127:=fun _=>by kernel_rfl,
 v127:=fun _=>by kernel_rfl,
 t164:=by kernel_rfl,
 a164:=fun _=>by kernel_rfl,
 z164:=fun _=>by kernel_rfl,
 v164:=fun _=>by kernel_rfl }
theorem extraB:Builder.Extra Tryz.prog JeX:={ sizeBuilder:=by kernel_rfl,liesBuilder:=by kernel_rfl,t5:=by kernel_rfl,a5:=fun _=>by kernel_rfl,z5:=fun _=>by kernel_rfl,v5:=fun _=>by kernel_rfl,infoByte:=by kernel_rfl,cellsByte:=by kernel_rfl,sizeByte:=by kernel_rfl,neB5:=by decide }
theorem JfC (G:J4) (n:Int) (h:-9223372036854775808≤n∧n<9223372036854775808):V5 Tryz.prog 46 #[I n] G [] (fun u _ _=>u=Sr (Lib.itoa n)) (fun _ _ _=>False):=(JnL Je9 G n h).mono (fun _ _ _ h=>h.1) (fun _ _ _ h=>h)
theorem JnO (G:J4) (s:Bb) (hs:s.length≤140737488355328):V5 Tryz.prog 192 #[Sr s] G [] (fun u _ L'=>((∃ v,Jbd s=some v∧u=.tuple #[I v,.nilIface])∨(Jbd s=none∧∃ v N,u=.tuple #[I v,.iface (JeX.t 168) (Pt N 0)]))∧L'=[]) (fun _ _ _=>False):=JnM Jpm (by kernel_rfl) (by kernel_rfl) G s hs
theorem Jj4 (G:J4) (s:Bb) (hs:s.length<4294967281):VG Tryz.prog 77 #[Sr s,Sr [32],I 0,I (-1)] G [] (fun u G' L'=>∃ b r,u=Sl (At b 0) (JJ s).length (JJ s).length∧JX ES G' (At b 0) (JJ s).length (JJ s) r∧L'=[r]):=Jj3 Jpn Jpo Jpp (by kernel_rfl) G s hs
theorem Jdi (G:J4) (b o c:Nat) (l:Bs) (sep:Bb) (hr:RS ES G (At b o) c l) (hne:l ≠ []) (hn:l.length≤140737488355328) (hj:(Lib.join l sep).length≤140737488355328) :
  VG Tryz.prog 50 #[Sl (At b o) l.length c,Sr sep] G [] (fun u _ _=>u=Sr (Lib.join l sep)):=JnN Jpq extraB G b o c l sep hr hne hn hj
theorem Jl8 (G:J4) (s:Bb) (hs:s.length<4294967281):YL 47 #[Sr s,Sr ([32])] G [] (fun u G' L'=>∃ (a1:Ba) (c2:Nat) (r3:Bg),u=Sl a1 ((JJ s).length) c2∧(JX ES G' a1 c2 (JJ s) r3)∧L'=[r3]):=by
 refine JQ Tryz.func47 8 [(0,Sr s),(1,Sr ([32]))] rfl (fun w0 G0=>?_)
 refine Jg [0] [] (Jf (Jd (Jb [0,0] [(5,Sr s),(6,Sr ([32]))] (JM 7 (Jj4 G s Kd) (fun v G1 L1 hl1 hp=>?_)))))
 obtain ⟨b1,r1,rfl,hr1,rfl⟩:=hp
 refine Jb [0] [(4,Sl (At b1 0) ((JJ s).length) ((JJ s).length))] (Je (Jc (Jn (Jk 0 ?_))))
 have hf1:JJ s=(JJ s):=by
  rfl
 refine Jo [0] [Sl (At b1 0) ((JJ s).length) ((JJ s).length)] (JD [r1] hl1 ?_)
 rw [hf1]
 try dsimp only
 exact ⟨(At b1 0),((JJ s).length),r1,rfl,hr1,rfl⟩
set_option maxHeartbeats 4000000 in
set_option maxRecDepth 100000 in
theorem fmtU (u : Nat) (hu : u < 18446744073709551616) (w : World) (htab : Lib.TabIs Tryz.prog w "internal/strconv.uint64pow10" .u64 Lib.pow10Tab) :
  Calls Tryz.prog 196 #[.int .u64 u,.int .i64 10] w fun e w'=>e=.returned (.string ⟨(Lib.itoa u).toArray⟩)∧∃ k os,w'=Sort.grow (w.drewN k) os:=by
 have e283:∀ args w,(callFunc 184 args).run Tryz.prog w=.ok (.enter 184 args) w:=enters_of Tryz.func184 (by kernel_rfl) rfl
 have e284:∀ args w,(callFunc 185 args).run Tryz.prog w=.ok (.enter 185 args) w:=enters_of Tryz.func185 (by kernel_rfl) rfl
 have e285:∀ args w,(callFunc 186 args).run Tryz.prog w=.ok (.enter 186 args) w:=enters_of Tryz.func186 (by kernel_rfl) rfl
 by_cases hs:u<100
 ·
  go_enter Tryz.func196,Tryz.ntmps196
  go_wp2_with (go_at_fn 184;refine (Any.internal_strconv_small (ρ:=JeX) { Je9 with } u hs _).mono ?_;rintro e w' ⟨rfl,rfl⟩)
  go_ret
  refine ⟨?_,0,#[],by simp [World.drewN_zero]⟩
  rw [Lib.itoa_nonneg];rfl
 ·
  have hu1:1≤u:=by omega
  have hnd20:Lib.nDigits u≤20:=by have:=Lib.numDigits_eq u hu1 hu;split at this <;> omega
  have hb3:Lib.nDigits u≤23:=by omega
  have hal:Tryz.prog.arrayLen 268=24:=by kernel_rfl
  have hsl1:∀ W,(Instr.sliceAt 268 (.pointer (some ⟨w.heap.size,0,none⟩)) none (some (.int .i64 (Lib.nDigits u:Int))) none).run Tryz.prog W=.ok (.slice (some ⟨w.heap.size,0,none⟩) (Lib.nDigits u) 24) W:=fun W=>by
   rw [run_sliceAt_array_h W 268 ⟨w.heap.size,0,none⟩ (by kernel_rfl) .i64 (Lib.nDigits u:Int) (by omega) (by rw [hal];omega),hal,show Tryz.prog.elem 268=5 from by kernel_rfl]
   go_simp
  have hH0:Holds (fun (b:UInt8)=>Value.int .u8 (b.toNat:Int)) (w.alloc (.cells Lib.zeros24 268)) w.heap.size 0 (Array.replicate (Lib.nDigits u) (0:UInt8)):=fun j hj=>by
   have hj':j<Lib.nDigits u:=by simpa using hj
   refine ⟨?_,World.frozen?_alloc_new _ _ _ _⟩
   rw [World.cell?_alloc_new,Lib.zeros24_at _ (by omega),getElem!_pos _ j hj]
   simp
  have hfmt:=Any.internal_strconv_formatBase10 (ρ:=JeX) { Je9 with } w.heap.size 0 24 u (Array.replicate (Lib.nDigits u) 0) (w.alloc (.cells Lib.zeros24 268)) hH0 (by rw [HC];exact Lib.lt_pow_nDigits u) hu (by rw [HC];omega)
  rw [HC] at hfmt
  have HH0:=Lib.hid hH0
  clear hH0 hal
  go_enter Tryz.func196,Tryz.ntmps196
  go_wp2_with (first
   | (go_at_fn 185;refine (Any.internal_strconv_numDigits (ρ:=JeX) { Je9 with } u hu1 hu _ (Lib.tabIs_alloc htab _)).mono ?_;rintro e w' ⟨rfl,rfl⟩))
  go_at_fn 186
  refine hfmt.mono ?_
  rintro e w' ⟨rfl,k,v',dk,rfl,hF⟩
  have hcv:(convert 35 9 (.slice (some ⟨w.heap.size,0,none⟩) (Lib.nDigits u) 24)).run Tryz.prog ((putRow (fun (b:UInt8)=>Value.int .u8 (b.toNat:Int)) (w.alloc (.cells Lib.zeros24 268)) w.heap.size 0 dk).drewN k)=.ok (.string ⟨(Lib.decDigits u).toArray⟩) ((putRow (fun (b:UInt8)=>Value.int .u8 (b.toNat:Int)) (w.alloc (.cells Lib.zeros24 268)) w.heap.size 0 dk).drewN k):=by
   have h:=run_convert_bytes_back (P:=Tryz.prog) ((putRow (fun (b:UInt8)=>Value.int .u8 (b.toNat:Int)) (w.alloc (.cells Lib.zeros24 268)) w.heap.size 0 dk).drewN k) 35 9 5 ⟨w.heap.size,0,none⟩ 24 (Lib.decDigits u) (by kernel_rfl) (by kernel_rfl) (by kernel_rfl) (fun j hj=>by
    rw [Lib.row_is_numeral hF j hj,Lib.add_plain,World.cell?_drewN]
    exact cell?_putRow (fun (b:UInt8)=>Value.int .u8 (b.toNat:Int)) _ w.heap.size 0 _ dk HH0.out (by rw [hF.size,HC]) j (by rw [hF.size];rw [Lib.decDigits_length] at hj;exact hj))
   rw [Lib.decDigits_length] at h
   exact h
  go_wp2
  go_ret
  obtain ⟨os,_,e⟩:=putRow_grow_new (fun (b:UInt8)=>Value.int .u8 (b.toNat:Int)) w #[.cells Lib.zeros24 268] w.heap.size 0 dk (Hr _)
  refine ⟨?_,k,os,by rw [alloc_eq_grow,e];rfl⟩
  rw [Lib.itoa_nonneg]
  rfl
theorem JnP (G:J4) (m:Int) (h:0≤m∧m<18446744073709551616):V5 Tryz.prog 196 #[U m,I 10] G [] (fun u _ _=>u=Sr (Lib.itoa m)) (fun _ _ _=>False):=by
 obtain ⟨u,rfl⟩:∃ u:Nat,m=u:=⟨m.toNat,by omega⟩
 exact (JaW (R:=fun v=>v=Sr (Lib.itoa u)) fun w hT _=>(fmtU u (by omega) w hT.1).mono fun e w' ⟨he,k,os,hw⟩=>⟨_,he,rfl,hw ▸ JfA w k os⟩).mono (fun _ _ _ h=>h.1) (fun _ _ _ h=>h)
theorem Jiz (G:J4)  (m:Int) (hw_m:rU m) :V5 Tryz.prog 143 #[U m,I 10] G [] (fun u G' L'=>((0:Int)=0)∧u=Sr (Lib.itoa m)∧L'=[]) (fun _ _ _=>False):=by
 refine W4 Tryz.func143 8 [(0,U m),(1,I 10)] rfl (fun w0 G0 hT=>Jg [0] [] (Jf (Jd (Jb [0,0] [(5,U m),(6,I 10)] (JaO 7 (Sr (Lib.itoa m)) hT (JnP G m hw_m) (Jb [0] [(4,Sr (Lib.itoa m))] (Je (Jc (Jn ?_)))))))))
 have hf1:(0:Int)=0∧Lib.itoa m=Lib.itoa m:=by
  exact ⟨rfl,rfl⟩
 refine Jo [0] [Sr (Lib.itoa m)] (V9 (JD [] (Jh _) ?_))
 rw [hf1.2]
 try dsimp only
 exact ⟨hf1.1,rfl,rfl⟩
theorem Yr (n:Int) (G:J4):VG Tryz.prog 182 #[U n] G [] (fun u G' L'=>u=Sr (K0 n)):=by
 refine JQ Tryz.func182 19 [(0,U n)] rfl (fun w0 G0=>?_)
 refine Jg [0] [] (Jf (Jd (Jv 3 #[Y 0,Y 0,Y 0,Y 0,Y 0,Y 0,Y 0,Y 0] 307 (fun b1=>Je (Jc (Jf (Jg [0] [(5,I 0)] (Jy (JdT 9 (Wy (Jg [0] [(6,Bo true)] (Jf (J0 (Jq (Jc (Jf (Jy (Jg [0,0] [(4,I 0)] (Jd (JT [0,0,0,0,0,0,0,0,3] [] [[Sg b1 0 [Y (Hc.wrap ((n).fdiv (2 ^ 56))),Y 0,Y 0,Y 0,Y 0,Y 0,Y 0,Y 0]]] (Je (JN (Jc (Jd ?_))))))))))))))))))))))))
 refine Jb [0,0] [(5,I 1)] (Je (WP (Wy (Jg [0] [(6,Bo true)] (Jf (J0 (Jq (Jc (Jf (Jy (Jg [0,0] [(4,I 1)] (Jd (JT [0,0,0,0,0,0,0,0,3] [] [[Sg b1 0 [Y (Hc.wrap ((n).fdiv (2 ^ 56))),Y (Hc.wrap ((n).fdiv (2 ^ 48))),Y 0,Y 0,Y 0,Y 0,Y 0,Y 0]]] (Je (JN (Jc (Jd (Jb [0,0] [(5,I 2)] (Je (WP (Wy ?_)))))))))))))))))))))
 refine Jg [0] [(6,Bo true)] (Jf (J0 (Jq (Jc (Jf (Jy (Jg [0,0] [(4,I 2)] (Jd (JT [0,0,0,0,0,0,0,0,3] [] [[Sg b1 0 [Y (Hc.wrap ((n).fdiv (2 ^ 56))),Y (Hc.wrap ((n).fdiv (2 ^ 48))),Y (Hc.wrap ((n).fdiv (2 ^ 40))),Y 0,Y 0,Y 0,Y 0,Y 0]]] (Je (JN (Jc (Jd (Jb [0,0] [(5,I 3)] (Je (WP (Wy (Jg [0] [(6,Bo true)] (Jf (J0 (Jq (Jc (Jf (Jy ?_))))))))))))))))))))))))
 refine Jg [0,0] [(4,I 3)] (Jd (JT [0,0,0,0,0,0,0,0,3] [] [[Sg b1 0 [Y (Hc.wrap ((n).fdiv (2 ^ 56))),Y (Hc.wrap ((n).fdiv (2 ^ 48))),Y (Hc.wrap ((n).fdiv (2 ^ 40))),Y (Hc.wrap ((n).fdiv (2 ^ 32))),Y 0,Y 0,Y 0,Y 0]]] (Je (JN (Jc (Jd (Jb [0,0] [(5,I 4)] (Je (WP (Wy (Jg [0] [(6,Bo true)] (Jf (J0 (Jq (Jc (Jf (Jy (Jg [0,0] [(4,I 4)] (Jd (JT [0,0,0,0,0,0,0,0,3] [] [[Sg b1 0 [Y (Hc.wrap ((n).fdiv (2 ^ 56))),Y (Hc.wrap ((n).fdiv (2 ^ 48))),Y (Hc.wrap ((n).fdiv (2 ^ 40))),Y (Hc.wrap ((n).fdiv (2 ^ 32))),Y (Hc.wrap ((n).fdiv (2 ^ 24))),Y 0,Y 0,Y 0]]] (Je (JN (Jc (Jd (Jb [0,0] [(5,I 5)] (Je ?_))))))))))))))))))))))))))
 refine WP (Wy (Jg [0] [(6,Bo true)] (Jf (J0 (Jq (Jc (Jf (Jy (Jg [0,0] [(4,I 5)] (Jd (JT [0,0,0,0,0,0,0,0,3] [] [[Sg b1 0 [Y (Hc.wrap ((n).fdiv (2 ^ 56))),Y (Hc.wrap ((n).fdiv (2 ^ 48))),Y (Hc.wrap ((n).fdiv (2 ^ 40))),Y (Hc.wrap ((n).fdiv (2 ^ 32))),Y (Hc.wrap ((n).fdiv (2 ^ 24))),Y (Hc.wrap ((n).fdiv (2 ^ 16))),Y 0,Y 0]]] (Je (JN (Jc (Jd (Jb [0,0] [(5,I 6)] (Je (WP (Wy (Jg [0] [(6,Bo true)] (Jf ?_)))))))))))))))))))))
 refine J0 (Jq (Jc (Jf (Jy (Jg [0,0] [(4,I 6)] (Jd (JT [0,0,0,0,0,0,0,0,3] [] [[Sg b1 0 [Y (Hc.wrap ((n).fdiv (2 ^ 56))),Y (Hc.wrap ((n).fdiv (2 ^ 48))),Y (Hc.wrap ((n).fdiv (2 ^ 40))),Y (Hc.wrap ((n).fdiv (2 ^ 32))),Y (Hc.wrap ((n).fdiv (2 ^ 24))),Y (Hc.wrap ((n).fdiv (2 ^ 16))),Y (Hc.wrap ((n).fdiv (2 ^ 8))),Y 0]]] (Je (JN (Jc (Jd (Jb [0,0] [(5,I 7)] (Je (WP (Wy (Jg [0] [(6,Bo true)] (Jf (J0 (Jq (Jc (Jf (Jy (Jg [0,0] [(4,I 7)] (Jd ?_))))))))))))))))))))))))
 refine JT [0,0,0,0,0,0,0,0,3] [] [[Sg b1 0 [Y (Hc.wrap ((n).fdiv (2 ^ 56))),Y (Hc.wrap ((n).fdiv (2 ^ 48))),Y (Hc.wrap ((n).fdiv (2 ^ 40))),Y (Hc.wrap ((n).fdiv (2 ^ 32))),Y (Hc.wrap ((n).fdiv (2 ^ 24))),Y (Hc.wrap ((n).fdiv (2 ^ 16))),Y (Hc.wrap ((n).fdiv (2 ^ 8))),Y (Hc.wrap ((n).fdiv (2 ^ 0)))]]] (Je (JN (Jc (Jd (Jb [0,0] [(5,I 8)] (Je (WP (Wy (Jg [0] [(6,Bo false)] (Jf (Qp (KX (J1 (J1 (JV (Jc (Jf (Jd (Jb [0] [(17,Sl (At b1 0) 8 8)] (Jba (b:=b1) (off:=0) (len:=8) (cap:=8) (cs:=HR (Value.int .u8) [Hc.wrap ((n).fdiv (2 ^ 56)),Hc.wrap ((n).fdiv (2 ^ 48)),Hc.wrap ((n).fdiv (2 ^ 40)),Hc.wrap ((n).fdiv (2 ^ 32)),Hc.wrap ((n).fdiv (2 ^ 24)),Hc.wrap ((n).fdiv (2 ^ 16)),Hc.wrap ((n).fdiv (2 ^ 8)),Hc.wrap ((n).fdiv (2 ^ 0))]) 18 0 [Hc.wrap ((n).fdiv (2 ^ 56)),Hc.wrap ((n).fdiv (2 ^ 48)),Hc.wrap ((n).fdiv (2 ^ 40)),Hc.wrap ((n).fdiv (2 ^ 32)),Hc.wrap ((n).fdiv (2 ^ 24)),Hc.wrap ((n).fdiv (2 ^ 16)),Hc.wrap ((n).fdiv (2 ^ 8)),Hc.wrap ((n).fdiv (2 ^ 0))] rfl (Jak (ns:=[Hc.wrap ((n).fdiv (2 ^ 56)),Hc.wrap ((n).fdiv (2 ^ 48)),Hc.wrap ((n).fdiv (2 ^ 40)),Hc.wrap ((n).fdiv (2 ^ 32)),Hc.wrap ((n).fdiv (2 ^ 24)),Hc.wrap ((n).fdiv (2 ^ 16)),Hc.wrap ((n).fdiv (2 ^ 8)),Hc.wrap ((n).fdiv (2 ^ 0))]) rfl) (Jb [0] [(2,Sr (([Hc.wrap ((n).fdiv (2 ^ 56)),Hc.wrap ((n).fdiv (2 ^ 48)),Hc.wrap ((n).fdiv (2 ^ 40)),Hc.wrap ((n).fdiv (2 ^ 32)),Hc.wrap ((n).fdiv (2 ^ 24)),Hc.wrap ((n).fdiv (2 ^ 16)),Hc.wrap ((n).fdiv (2 ^ 8)),Hc.wrap ((n).fdiv (2 ^ 0))]:List Int).map fun n=>Hf n.toNat))] (Je (Jc (Jn (Jo [0] [Sr (([Hc.wrap ((n).fdiv (2 ^ 56)),Hc.wrap ((n).fdiv (2 ^ 48)),Hc.wrap ((n).fdiv (2 ^ 40)),Hc.wrap ((n).fdiv (2 ^ 32)),Hc.wrap ((n).fdiv (2 ^ 24)),Hc.wrap ((n).fdiv (2 ^ 16)),Hc.wrap ((n).fdiv (2 ^ 8)),Hc.wrap ((n).fdiv (2 ^ 0))]:List Int).map fun n=>Hf n.toNat)] (Jx (Jh _) ?_))))))))))))))))))))))))))
 rfl
def Zy:JU:=⟨0,0,0,0⟩
def JK (h:JU):Int :=
 if h.epoch<0∨1000000<h.epoch∨2305843009213693951≤h.root∨2305843009213693951≤h.prev∨h.at_<0∨1000000000<h.at_ then 4 else if h.epoch=0∧h.prev ≠ 0 then 3 else 0
theorem Zi {h:JU} (e:JK h=0):0≤h.epoch∧h.epoch≤1000000∧h.root<2305843009213693951∧h.prev<2305843009213693951∧0≤h.at_∧h.at_≤1000000000∧(h.epoch=0→h.prev=0):=by
 unfold JK at e;split at e
 · cases e
 split at e
 · cases e
 omega
def VY (h:JU):Bb:=((([3]++K0 (Ha.wrap h.epoch))++K0 h.root)++K0 h.prev)++K0 (Ha.wrap h.at_)
def Wb (h:JU):Bb×Int:=if JK h ≠ 0 then ([],JK h) else (VY h,0)
theorem Jpr {x y:UInt8}:((x.toNat:Int)=(y.toNat:Int)) ↔ x=y:=⟨fun h=>UInt8.toNat.inj (by omega),fun h=>by rw [h]⟩
theorem JeY (h:JU):(VY h).length=33:=by simp [VY]
theorem Z5 (h:JU) (G:J4):VG Tryz.prog 41 #[.agg #[I h.epoch,U h.root,U h.prev,I h.at_]] G [] (fun u G' L'=>u=I (JK h)):=by
 refine JQ Tryz.func41 41 [(0,.agg #[I h.epoch,U h.root,U h.prev,I h.at_])] rfl (fun w0 G0=>?_)
 refine Jf (Jd (Jv 1 #[I h.epoch,U h.root,U h.prev,I h.at_] 43 (fun b1=>Jb [0] [] (Je (Jc (Jf (Jy (Jf (Jd (Jb [0,2,0,0] [(7,Bo (decide (h.epoch<0)))] (Kr (decide (h.epoch<0)) [7] [1,1,1,0] [0,2,0,0] (fun bb=>[(11,Bo (bb || (decide (h.epoch > 1000000))))]) (Jb [0] [(12,Bo ((decide (h.epoch<0)) || (decide (h.epoch > 1000000))))] (Kr ((decide (h.epoch<0)) || (decide (h.epoch > 1000000))) [12] [1,1,1,0] [0,2,0,0] (fun bb=>[(16,Bo (bb || (decide (h.root ≥ 2305843009213693951))))]) (Jb [0] [(17,Bo (((decide (h.epoch<0)) || (decide (h.epoch > 1000000))) || (decide (h.root ≥ 2305843009213693951))))] (Kr (((decide (h.epoch<0)) || (decide (h.epoch > 1000000))) || (decide (h.root ≥ 2305843009213693951))) [17] [1,1,1,0] [0,2,0,0] (fun bb=>[(21,Bo (bb || (decide (h.prev ≥ 2305843009213693951))))]) (Jb [0] [(22,Bo ((((decide (h.epoch<0)) || (decide (h.epoch > 1000000))) || (decide (h.root ≥ 2305843009213693951))) || (decide (h.prev ≥ 2305843009213693951))))] (Kr ((((decide (h.epoch<0)) || (decide (h.epoch > 1000000))) || (decide (h.root ≥ 2305843009213693951))) || (decide (h.prev ≥ 2305843009213693951))) [22] [1,1,1,0] [0,2,0,0] (fun bb=>[(26,Bo (bb || (decide (h.at_<0))))]) ?_)))))))))))))))))
 refine Jb [0] [(27,Bo (((((decide (h.epoch<0)) || (decide (h.epoch > 1000000))) || (decide (h.root ≥ 2305843009213693951))) || (decide (h.prev ≥ 2305843009213693951))) || (decide (h.at_<0))))] (Kr (((((decide (h.epoch<0)) || (decide (h.epoch > 1000000))) || (decide (h.root ≥ 2305843009213693951))) || (decide (h.prev ≥ 2305843009213693951))) || (decide (h.at_<0))) [27] [1,1,1,0] [0,2,0,0] (fun bb=>[(31,Bo (bb || (decide (h.at_ > 1000000000))))]) (Jb [0] [(3,Bo ((((((decide (h.epoch<0)) || (decide (h.epoch > 1000000))) || (decide (h.root ≥ 2305843009213693951))) || (decide (h.prev ≥ 2305843009213693951))) || (decide (h.at_<0))) || (decide (h.at_ > 1000000000))))] (Je (Jc (Jm ((((((decide (h.epoch<0)) || (decide (h.epoch > 1000000))) || (decide (h.root ≥ 2305843009213693951))) || (decide (h.prev ≥ 2305843009213693951))) || (decide (h.at_<0))) || (decide (h.at_ > 1000000000))) (fun h1=>?_) (fun h1=>?_))))))
 refine Jg [0] [(2,I 4)] (Jn (Ju (Jj (Jo [0] [I 4] (Jx (Jh _) ?_)))))
 refine congrArg I ?_;unfold JK;(repeat' split) <;> first | rfl | omega
 refine Jf (Jd (Jb [0,2,0,0] [(36,Bo (decide (h.epoch=0)))] (Kr (decide (h.epoch=0)) [36] [0,2,0,0] [1,1,1,0] (fun bb=>[(40,Bo (bb && (!decide (h.prev=0))))]) (Jb [0] [(32,Bo ((decide (h.epoch=0)) && (!decide (h.prev=0))))] (Je (Jc (Jm ((decide (h.epoch=0)) && (!decide (h.prev=0))) (fun h2=>?_) (fun h2=>?_))))))))
 refine Jg [0] [(2,I 3)] (Jn (Ju (Jj (Jo [0] [I 3] (Jx (Jh _) ?_)))))
 refine congrArg I ?_;unfold JK;(repeat' split) <;> first | rfl | omega
 refine Jq (JN (Jc (Jg [0] [(2,I 0)] (Jn (Jo [0] [I 0] (Jx (Jh _) ?_))))))
 refine congrArg I ?_;unfold JK;(repeat' split) <;> first | rfl | omega
theorem JhF (h:JU) (G:J4):VG Tryz.prog 195 #[.agg #[I h.epoch,U h.root,U h.prev,I h.at_]] G [] (fun u G' L'=>u=.tuple #[Sr ((Wb h).1),I ((Wb h).2)]):=by
 refine JQ Tryz.func195 30 [(0,.agg #[I h.epoch,U h.root,U h.prev,I h.at_])] rfl (fun w0 G0=>?_)
 refine Jf (Jd (Jv 1 #[I h.epoch,U h.root,U h.prev,I h.at_] 43 (fun b1=>Jb [0,0] [] (Je (Jc (Jf (Jf (Jd (Jb [2] [(5,.agg #[I h.epoch,U h.root,U h.prev,I h.at_])] (Jl 6 (I (JK h)) (Z5 h G) (Jb [0] [(4,I (JK h))] (Je (Jc (Jg [0,0] [(8,Bo (!decide (JK h=0)))] (Jm (!decide (JK h=0)) (fun h1=>?_) (fun h1=>?_))))))))))))))))
 refine Jg [0,0,0] [(2,Sr ([])),(3,I (JK h))] (Jn (Jj (Jo [0,0] [Sr ([]),I (JK h)] (Jx (Jh _) ?_))))
 (unfold Wb;rw [if_pos (by omega)];rfl)
 refine Jq (Jc (Jf (Kv [0] (Ws [(2,Pt b1 0),(3,I h.epoch),(4,U (Ha.wrap h.epoch)),(5,Sr (K0 (Ha.wrap h.epoch))),(7,Pt b1 1),(8,U h.root),(9,Sr (K0 h.root)),(11,Pt b1 2),(12,U h.prev),(13,Sr (K0 h.prev)),(15,Pt b1 3),(16,I h.at_),(17,U (Ha.wrap h.at_)),(18,Sr (K0 (Ha.wrap h.at_)))] (JF [] [(2,0),(3,2),(4,0),(7,0),(8,2),(11,0),(12,2),(15,0),(16,2),(17,0)] [5,9,13,18] [0] (Kf ?_ (Kf ?_ (Kf ?_ (Kf ?_ KY)))) (Kf ?_ KY))))))
 refine Jr 5 15 (Sr (K0 (Ha.wrap h.epoch))) [(14,U (Ha.wrap h.epoch))] (fun X=>?_)
 exact Jl 15 (Sr (K0 (Ha.wrap h.epoch))) (Yr (Ha.wrap h.epoch) G) Jp
 refine Jr 9 19 (Sr (K0 h.root)) [(18,U h.root)] (fun X=>?_)
 exact Jl 19 (Sr (K0 h.root)) (Yr h.root G) Jp
 refine Jr 13 23 (Sr (K0 h.prev)) [(22,U h.prev)] (fun X=>?_)
 exact Jl 23 (Sr (K0 h.prev)) (Yr h.prev G) Jp
 refine Jr 18 28 (Sr (K0 (Ha.wrap h.at_))) [(27,U (Ha.wrap h.at_))] (fun X=>?_)
 exact Jl 28 (Sr (K0 (Ha.wrap h.at_))) (Yr (Ha.wrap h.at_) G) Jp
 refine Jz 0 [] (fun X=>?_)
 refine Kq 10 1 #[Y 3] 5 (fun b2=>JA [(0,Sl (At b2 0) 1 1),(1,Sr (([3]:List Int).map fun n=>Hf n.toNat)),(6,Sr ((([3]:List Int).map fun n=>Hf n.toNat)++(K0 (Ha.wrap h.epoch)))),(10,Sr (((([3]:List Int).map fun n=>Hf n.toNat)++(K0 (Ha.wrap h.epoch)))++(K0 h.root))),(14,Sr ((((([3]:List Int).map fun n=>Hf n.toNat)++(K0 (Ha.wrap h.epoch)))++(K0 h.root))++(K0 h.prev))),(19,Sr (((((([3]:List Int).map fun n=>Hf n.toNat)++(K0 (Ha.wrap h.epoch)))++(K0 h.root))++(K0 h.prev))++(K0 (Ha.wrap h.at_)))),(20,Sr (((((([3]:List Int).map fun n=>Hf n.toNat)++(K0 (Ha.wrap h.epoch)))++(K0 h.root))++(K0 h.prev))++(K0 (Ha.wrap h.at_)))),(21,I 0)] (Ko [] [(2,0),(3,4),(4,0),(7,0),(8,4),(11,0),(12,4),(15,0),(16,4),(17,0),(20,0),(21,0)] [1,5,6,9,10,13,14,18,19] [(2,Sr (((((([3]:List Int).map fun n=>Hf n.toNat)++(K0 (Ha.wrap h.epoch)))++(K0 h.root))++(K0 h.prev))++(K0 (Ha.wrap h.at_)))),(3,I 0)] (Kf ?_ (Kf ?_ (Kf ?_ (Kf ?_ (Kf ?_ (Kf ?_ (Kf ?_ (Kf ?_ (Kf ?_ KY))))))))) ?_))
 refine Jr 1 11 (Sr (([3]:List Int).map fun n=>Hf n.toNat)) [(10,Sl (At b2 0) 1 1)] (fun X=>?_)
 exact Jba (b:=b2) (off:=0) (len:=1) (cap:=1) (cs:=HR (Value.int .u8) [3]) 11 0 [3] rfl (Jak (ns:=[3]) rfl) Jp
 refine Jr 5 15 (Sr (K0 (Ha.wrap h.epoch))) [(14,U (Ha.wrap h.epoch))] (fun X=>?_)
 exact Jl 15 (Sr (K0 (Ha.wrap h.epoch))) (Yr (Ha.wrap h.epoch) G) Jp
 refine Jr 6 16 (Sr ((([3]:List Int).map fun n=>Hf n.toNat)++(K0 (Ha.wrap h.epoch)))) [(11,Sr (([3]:List Int).map fun n=>Hf n.toNat)),(15,Sr (K0 (Ha.wrap h.epoch)))] (fun X=>?_)
 exact ZS 16 (([3]:List Int).map fun n=>Hf n.toNat) (K0 (Ha.wrap h.epoch)) (by simp) Jp
 refine Jr 9 19 (Sr (K0 h.root)) [(18,U h.root)] (fun X=>?_)
 exact Jl 19 (Sr (K0 h.root)) (Yr h.root G) Jp
 refine Jr 10 20 (Sr (((([3]:List Int).map fun n=>Hf n.toNat)++(K0 (Ha.wrap h.epoch)))++(K0 h.root))) [(16,Sr ((([3]:List Int).map fun n=>Hf n.toNat)++(K0 (Ha.wrap h.epoch)))),(19,Sr (K0 h.root))] (fun X=>?_)
 exact ZS 20 ((([3]:List Int).map fun n=>Hf n.toNat)++(K0 (Ha.wrap h.epoch))) (K0 h.root) (by simp) Jp
 refine Jr 13 23 (Sr (K0 h.prev)) [(22,U h.prev)] (fun X=>?_)
 exact Jl 23 (Sr (K0 h.prev)) (Yr h.prev G) Jp
 refine Jr 14 24 (Sr ((((([3]:List Int).map fun n=>Hf n.toNat)++(K0 (Ha.wrap h.epoch)))++(K0 h.root))++(K0 h.prev))) [(20,Sr (((([3]:List Int).map fun n=>Hf n.toNat)++(K0 (Ha.wrap h.epoch)))++(K0 h.root))),(23,Sr (K0 h.prev))] (fun X=>?_)
 exact ZS 24 (((([3]:List Int).map fun n=>Hf n.toNat)++(K0 (Ha.wrap h.epoch)))++(K0 h.root)) (K0 h.prev) (by simp) Jp
 refine Jr 18 28 (Sr (K0 (Ha.wrap h.at_))) [(27,U (Ha.wrap h.at_))] (fun X=>?_)
 exact Jl 28 (Sr (K0 (Ha.wrap h.at_))) (Yr (Ha.wrap h.at_) G) Jp
 refine Jr 19 29 (Sr (((((([3]:List Int).map fun n=>Hf n.toNat)++(K0 (Ha.wrap h.epoch)))++(K0 h.root))++(K0 h.prev))++(K0 (Ha.wrap h.at_)))) [(24,Sr ((((([3]:List Int).map fun n=>Hf n.toNat)++(K0 (Ha.wrap h.epoch)))++(K0 h.root))++(K0 h.prev))),(28,Sr (K0 (Ha.wrap h.at_)))] (fun X=>?_)
 exact ZS 29 ((((([3]:List Int).map fun n=>Hf n.toNat)++(K0 (Ha.wrap h.epoch)))++(K0 h.root))++(K0 h.prev)) (K0 (Ha.wrap h.at_)) (by simp) Jp
 refine Jc (Jn (Jo [0,0] [Sr (((((([3]:List Int).map fun n=>Hf n.toNat)++(K0 (Ha.wrap h.epoch)))++(K0 h.root))++(K0 h.prev))++(K0 (Ha.wrap h.at_))),I 0] (Jx (Jh _) ?_)))
 (unfold Wb;rw [if_neg (by omega)];rfl)
theorem Jl9  (G:J4):VG Tryz.prog 223 #[U 2305843009213693951] G [] (fun u G' L'=>u=I 61):=by
 refine JQ Tryz.func223 25 [(0,U 2305843009213693951)] rfl (fun w0 G0=>?_)
 refine Jg [0] [(2,I 0)] (Jf (Jg [0,0] [(4,Bo true)] (J0 (Jg [0,0,0] [(0,U 536870911)] (Jd (Jb [0] [(2,I 32)] (Je (Jc (Jf (Jg [0,0] [(8,Bo true)] (J0 (Jg [0,0,0] [(0,U 8191)] (Jd (Jb [0,0,0] [(2,I 48)] (Je (Jc (Jf (Jg [0,0] [(14,Bo true)] (J0 ?_)))))))))))))))))))
 refine Jg [0,0,0] [(0,U 31)] (Jd (Jb [0,0,0] [(2,I 56)] (Je (Jc (Jg [0,0,0,0,0,0,0] [(2,I 61)] (Jn (Jo [0] [I 61] (Jx (Jh _) ?_))))))))
 rfl
theorem JnQ  (G:J4):VG Tryz.prog 221 #[U 2305843009213693951] G [] (fun u G' L'=>u=I 3):=by
 refine JQ Tryz.func221 6 [(0,U 2305843009213693951)] rfl (fun w0 G0=>?_)
 refine Jg [0] [] (Jf (Jd (Jb [0] [(3,U 2305843009213693951)] (Jl 4 (I 61) (Jl9  G) (Jb [0,0] [(2,I 3)] (Je (Jc (Jn (Jo [0] [I 3] (Jx (Jh _) ?_))))))))))
 rfl
theorem Jg4 (x y:Int) (hx:rU x) (hy:rU y) (G:J4):VG Tryz.prog 54 #[U x,U y] G [] (fun u G' L'=>u=.tuple #[U (x*y / 18446744073709551616),U (x*y % 18446744073709551616)]):=by
 refine JQ Tryz.func54 51 [(0,U x),(1,U y)] rfl (fun w0 G0=>?_)
 refine Jg [0,0] [] (Jg [0,0,0] [(6,U (Ha.wrap ((Hb 64 x &&& Hb 64 4294967295).toNat:Int)))] (Jg [0,0,0] [(7,U ((x).fdiv (2 ^ 32)))] (Jg [0,0,0] [(8,U (Ha.wrap ((Hb 64 y &&& Hb 64 4294967295).toNat:Int)))] (Jg [0,0,0] [(9,U ((y).fdiv (2 ^ 32)))] (Jg [0,0,0,0] [(10,U (Ha.wrap ((Ha.wrap ((Hb 64 x &&& Hb 64 4294967295).toNat:Int))*(Ha.wrap ((Hb 64 y &&& Hb 64 4294967295).toNat:Int)))))] (Jg [0,0,0,0,0,0,0] [(11,U (Ha.wrap ((Ha.wrap (((x).fdiv (2 ^ 32))*(Ha.wrap ((Hb 64 y &&& Hb 64 4294967295).toNat:Int))))+((Ha.wrap ((Ha.wrap ((Hb 64 x &&& Hb 64 4294967295).toNat:Int))*(Ha.wrap ((Hb 64 y &&& Hb 64 4294967295).toNat:Int)))).fdiv (2 ^ 32)))))] (Jg [0,0,0] [(12,U (Ha.wrap ((Hb 64 (Ha.wrap ((Ha.wrap (((x).fdiv (2 ^ 32))*(Ha.wrap ((Hb 64 y &&& Hb 64 4294967295).toNat:Int))))+((Ha.wrap ((Ha.wrap ((Hb 64 x &&& Hb 64 4294967295).toNat:Int))*(Ha.wrap ((Hb 64 y &&& Hb 64 4294967295).toNat:Int)))).fdiv (2 ^ 32)))) &&& Hb 64 4294967295).toNat:Int)))] (Jg [0,0,0] [(13,U ((Ha.wrap ((Ha.wrap (((x).fdiv (2 ^ 32))*(Ha.wrap ((Hb 64 y &&& Hb 64 4294967295).toNat:Int))))+((Ha.wrap ((Ha.wrap ((Hb 64 x &&& Hb 64 4294967295).toNat:Int))*(Ha.wrap ((Hb 64 y &&& Hb 64 4294967295).toNat:Int)))).fdiv (2 ^ 32)))).fdiv (2 ^ 32)))] (Jg [0,0,0,0,0,0] [(12,U (Ha.wrap ((Ha.wrap ((Hb 64 (Ha.wrap ((Ha.wrap (((x).fdiv (2 ^ 32))*(Ha.wrap ((Hb 64 y &&& Hb 64 4294967295).toNat:Int))))+((Ha.wrap ((Ha.wrap ((Hb 64 x &&& Hb 64 4294967295).toNat:Int))*(Ha.wrap ((Hb 64 y &&& Hb 64 4294967295).toNat:Int)))).fdiv (2 ^ 32)))) &&& Hb 64 4294967295).toNat:Int))+(Ha.wrap ((Ha.wrap ((Hb 64 x &&& Hb 64 4294967295).toNat:Int))*((y).fdiv (2 ^ 32)))))))] (Jg [0,0,0,0,0,0,0,0,0] [(4,U (Ha.wrap ((Ha.wrap ((Ha.wrap (((x).fdiv (2 ^ 32))*((y).fdiv (2 ^ 32))))+((Ha.wrap ((Ha.wrap (((x).fdiv (2 ^ 32))*(Ha.wrap ((Hb 64 y &&& Hb 64 4294967295).toNat:Int))))+((Ha.wrap ((Ha.wrap ((Hb 64 x &&& Hb 64 4294967295).toNat:Int))*(Ha.wrap ((Hb 64 y &&& Hb 64 4294967295).toNat:Int)))).fdiv (2 ^ 32)))).fdiv (2 ^ 32))))+((Ha.wrap ((Ha.wrap ((Hb 64 (Ha.wrap ((Ha.wrap (((x).fdiv (2 ^ 32))*(Ha.wrap ((Hb 64 y &&& Hb 64 4294967295).toNat:Int))))+((Ha.wrap ((Ha.wrap ((Hb 64 x &&& Hb 64 4294967295).toNat:Int))*(Ha.wrap ((Hb 64 y &&& Hb 64 4294967295).toNat:Int)))).fdiv (2 ^ 32)))) &&& Hb 64 4294967295).toNat:Int))+(Ha.wrap ((Ha.wrap ((Hb 64 x &&& Hb 64 4294967295).toNat:Int))*((y).fdiv (2 ^ 32)))))).fdiv (2 ^ 32)))))] ?_))))))))))
 exact Jg [0,0,0,0] [(5,U (Ha.wrap (x*y)))] (Jn (Jo [0,0] [U (Ha.wrap ((Ha.wrap ((Ha.wrap (((x).fdiv (2 ^ 32))*((y).fdiv (2 ^ 32))))+((Ha.wrap ((Ha.wrap (((x).fdiv (2 ^ 32))*(Ha.wrap ((Hb 64 y &&& Hb 64 4294967295).toNat:Int))))+((Ha.wrap ((Ha.wrap ((Hb 64 x &&& Hb 64 4294967295).toNat:Int))*(Ha.wrap ((Hb 64 y &&& Hb 64 4294967295).toNat:Int)))).fdiv (2 ^ 32)))).fdiv (2 ^ 32))))+((Ha.wrap ((Ha.wrap ((Hb 64 (Ha.wrap ((Ha.wrap (((x).fdiv (2 ^ 32))*(Ha.wrap ((Hb 64 y &&& Hb 64 4294967295).toNat:Int))))+((Ha.wrap ((Ha.wrap ((Hb 64 x &&& Hb 64 4294967295).toNat:Int))*(Ha.wrap ((Hb 64 y &&& Hb 64 4294967295).toNat:Int)))).fdiv (2 ^ 32)))) &&& Hb 64 4294967295).toNat:Int))+(Ha.wrap ((Ha.wrap ((Hb 64 x &&& Hb 64 4294967295).toNat:Int))*((y).fdiv (2 ^ 32)))))).fdiv (2 ^ 32)))),U (Ha.wrap (x*y))] (Jx (Jh _) (congr (congrArg (fun a b=>Value.tuple #[U a,U b]) (JnI hx hy)) (Jcf _)))))
set_option maxRecDepth 20000 in
theorem Jma (hi lo:Int) (hx:0≤hi∧hi<2305843009213693951) (hy:rU lo) (G:J4):VG Tryz.prog 183 #[U hi,U lo,U 2305843009213693951] G [] (fun u G' L'=>u=.tuple #[U ((hi*18446744073709551616+lo) / 2305843009213693951),U ((hi*18446744073709551616+lo) % 2305843009213693951)]):=by
 refine JQ Tryz.func183 135 [(0,U hi),(1,U lo),(2,U 2305843009213693951)] rfl (fun w0 G0=>?_)
 refine Jg [0,0] [] (Jf (Jg [0,0] [(20,Bo false)] (Qp (Jq (Jc (Jf (Jg [0,0,0] [(24,Bo (decide (2305843009213693951≤hi)))] (Jm (decide (2305843009213693951≤hi)) (fun h1=>?_) (fun h1=>?_)))))))))
 exfalso;omega
 refine Jq (Jc (Jf (Jg [0,0] [(27,Bo (decide (hi=0)))] (Jm (decide (hi=0)) (fun h2=>?_) (fun h2=>?_)))))
 refine Jf ?_
 have e1:Ha.wrap ((lo).tdiv 2305843009213693951)=lo / 2305843009213693951:=IntWalk.u64_quo _ _ (by omega)
 have e2:(lo).tmod 2305843009213693951=lo % 2305843009213693951:=HO _ _ (by omega)
 refine Kv [] (Ws [(0,U lo),(1,U 2305843009213693951),(2,U (lo / 2305843009213693951)),(3,U lo),(4,U 2305843009213693951),(5,U (lo % 2305843009213693951)),(6,U (lo / 2305843009213693951)),(7,U (lo % 2305843009213693951))] (Ko [] [(0,0),(1,0),(3,0),(4,0),(6,0),(7,0)] [2,5] [(6,U (lo / 2305843009213693951)),(7,U (lo % 2305843009213693951))] (Kf ?_ (Kf ?_ KY)) ?_))
 refine Jr 2 30 (U (lo / 2305843009213693951)) [(28,U lo),(29,U 2305843009213693951)] (fun X=>?_)
 exact Qa 30 (U (Ha.wrap ((lo).tdiv 2305843009213693951))) (U (lo / 2305843009213693951)) (by simp only [e1]) Jp
 refine Jr 5 33 (U (lo % 2305843009213693951)) [(31,U lo),(32,U 2305843009213693951)] (fun X=>?_)
 exact Qa 33 (U ((lo).tmod 2305843009213693951)) (U (lo % 2305843009213693951)) (by simp only [e2]) Jp
 refine Jc (Jn (Jj (Jo [0,0] [U (lo / 2305843009213693951),U (lo % 2305843009213693951)] (Jx (Jh _) ?_))))
 · (subst h2;simp [Qy];done)
 refine Jq (Jc (Jf (Jd (Jb [0] [(34,U 2305843009213693951)] (Jl 35 (I 3) (JnQ  G) (Jb [0,0] [(8,U 3)] (Je (Jc (Jg [0,0,0,0] [(2,U 18446744073709551608)] (Jg [0,0,0] [(9,U 4294967295)] (Jg [0,0,0] [(10,U 4294967288)] (Jg [0,0,0,0,0,0,0,0,0] [(11,U (Ha.wrap ((Hb 64 (Ha.wrap (hi*2 ^ 3)) ||| Hb 64 ((lo).fdiv (2 ^ 61))).toNat:Int)))] ?_))))))))))))
 have e3:Ha.wrap ((Hb 64 (Ha.wrap (hi*2 ^ 3)) ||| Hb 64 ((lo).fdiv (2 ^ 61))).toNat:Int)=WG hi lo:=rfl
 refine QW 11 (U (WG hi lo)) (congrArg U e3) ?_
 clear e3
 refine Jg [0,0,0,0] [(12,U (Ha.wrap (lo*2 ^ 3)))] ?_
 have e4:Ha.wrap (lo*2 ^ 3)=Jdg lo:=rfl
 refine QW 12 (U (Jdg lo)) (congrArg U e4) ?_
 clear e4
 refine Jg [0,0,0] [(13,U ((Jdg lo).fdiv (2 ^ 32)))] ?_
 have e5:(Jdg lo).fdiv (2 ^ 32)=WR lo:=rfl
 refine QW 13 (U (WR lo)) (congrArg U e5) ?_
 clear e5
 refine Jg [0,0,0] [(14,U (Ha.wrap ((Hb 64 (Jdg lo) &&& Hb 64 4294967295).toNat:Int)))] ?_
 have e6:Ha.wrap ((Hb 64 (Jdg lo) &&& Hb 64 4294967295).toNat:Int)=ZW lo:=rfl
 refine QW 14 (U (ZW lo)) (congrArg U e6) ?_
 clear e6
 refine Jg [0,0,0,0] [(15,U (Ha.wrap ((WG hi lo).tdiv 4294967295)))] (Jg [0,0,0,0,0,0] [(16,U (Ha.wrap ((WG hi lo)-(Ha.wrap ((Ha.wrap ((WG hi lo).tdiv 4294967295))*4294967295)))))] (Jf (Jy ?_)))
 refine Qe (σ:=Int×Int) (fun s=>(Jbp (WG hi lo) (WR lo) s.1 s.2)) (fun s=>[(2,U 18446744073709551608),(8,U 3),(9,U 4294967295),(10,U 4294967288),(11,U (WG hi lo)),(13,U (WR lo)),(14,U (ZW lo)),(15,U s.1),(16,U s.2)]) (fun s=>G) (fun s=>[]) (fun s=>s.1.toNat) (Ha.wrap ((WG hi lo).tdiv 4294967295),Ha.wrap (WG hi lo-Ha.wrap (Ha.wrap ((WG hi lo).tdiv 4294967295)*4294967295))) (Jd1 (Je5 hx hy) (Je6 lo)) (fun s hs=>?_)
 obtain ⟨q,r⟩:=s
 have hI:=hs
 dsimp only at hI
 dsimp only
 refine Jf (Jf (Jd (Jb [0,0,0] [(69,Bo (decide (q ≥ 4294967296)))] (Kr (decide (q ≥ 4294967296)) [69] [1,1,1,1,1,1,1,1,0] [0,0,0,0,0,0,0,0,0] (fun bb=>[(78,Bo (bb || (decide (Ha.wrap (q*4294967288) > Ha.wrap ((Ha.wrap (4294967296*r))+(WR lo))))))]) (Je (Jc (Jm ((decide (q ≥ 4294967296)) || (decide (Ha.wrap (q*4294967288) > Ha.wrap ((Ha.wrap (4294967296*r))+(WR lo))))) (fun h3=>?_) (fun h3=>?_))))))))
 refine Jq (Jc (Jy (Jg [0,0,0] [(15,U (Ha.wrap (q-1)))] (Jca 15 (q-1) (by (have hm:=YM hI ‹_›;have:=hI.e;have:=hI.u1;have:=hI.r0;have:=hI.r1;omega)) (Jg [0,0,0,0] [(16,U (Ha.wrap (r+4294967295)))] (Jca 16 (r+4294967295) (by (have hm:=YM hI ‹_›;have:=hI.e;have:=hI.u1;have:=hI.r0;have:=hI.r1;omega)) (Jg [0,0] [(85,Bo (decide (r+4294967295 ≥ 4294967296)))] (Jm (decide (r+4294967295 ≥ 4294967296)) (fun h4=>?_) (fun h4=>?_)))))))))
 refine KX (Vv rfl (Ke (JV (Jc (Jg [0,0,0,0,0,0,0,0,0] [(17,U (Ha.wrap ((Ha.wrap ((Ha.wrap ((WG hi lo)*4294967296))+(WR lo)))-(Ha.wrap ((q-1)*18446744073709551608)))))] ?_)))))
 have e7:Ha.wrap ((Ha.wrap ((Ha.wrap ((WG hi lo)*4294967296))+(WR lo)))-(Ha.wrap ((q-1)*18446744073709551608)))=WC (WG hi lo) (WR lo) (q-1):=rfl
 refine QW 17 (U (WC (WG hi lo) (WR lo) (q-1))) (congrArg U e7) ?_
 clear e7
 refine Jg [0,0,0,0] [(18,U (Ha.wrap ((WC (WG hi lo) (WR lo) (q-1)).tdiv 4294967295)))] (Jg [0,0,0,0,0,0] [(16,U (Ha.wrap ((WC (WG hi lo) (WR lo) (q-1))-(Ha.wrap ((Ha.wrap ((WC (WG hi lo) (WR lo) (q-1)).tdiv 4294967295))*4294967295)))))] (Jf (Jy ?_)))
 have hD1:Dig (WG hi lo) (WR lo) (q-1):=by exact Jd2 hI ‹_› (by omega)
 have hb1:=Je4 hD1 (Je5 hx hy).1 (Je6 lo).1
 refine Qe (σ:=Int×Int) (fun s=>(Jbp (WC (WG hi lo) (WR lo) (q-1)) (ZW lo) s.1 s.2)) (fun s=>[(2,U 18446744073709551608),(8,U 3),(9,U 4294967295),(10,U 4294967288),(14,U (ZW lo)),(15,U (q-1)),(16,U s.2),(17,U (WC (WG hi lo) (WR lo) (q-1))),(18,U s.1)]) (fun s=>G) (fun s=>[]) (fun s=>s.1.toNat) (Ha.wrap ((WC (WG hi lo) (WR lo) (q-1)).tdiv 4294967295),Ha.wrap (WC (WG hi lo) (WR lo) (q-1)-Ha.wrap (Ha.wrap ((WC (WG hi lo) (WR lo) (q-1)).tdiv 4294967295)*4294967295))) (Jd1 hb1.2 (JhE lo)) (fun s hs=>?_)
 obtain ⟨q2,r2⟩:=s
 have hJ:=hs
 dsimp only at hJ
 dsimp only
 refine Jf (Jf (Jd (Jb [0,0,0] [(104,Bo (decide (q2 ≥ 4294967296)))] (Kr (decide (q2 ≥ 4294967296)) [104] [1,1,1,1,1,1,1,1,0] [0,0,0,0,0,0,0,0,0] (fun bb=>[(113,Bo (bb || (decide (Ha.wrap (q2*4294967288) > Ha.wrap ((Ha.wrap (4294967296*r2))+(ZW lo))))))]) (Je (Jc (Jm ((decide (q2 ≥ 4294967296)) || (decide (Ha.wrap (q2*4294967288) > Ha.wrap ((Ha.wrap (4294967296*r2))+(ZW lo))))) (fun h5=>?_) (fun h5=>?_))))))))
 refine Jq (Jc (Jy (Jg [0,0,0] [(18,U (Ha.wrap (q2-1)))] (Jca 18 (q2-1) (by (have hm:=YM hJ ‹_›;have:=hJ.e;have:=hJ.u1;have:=hJ.r0;have:=hJ.r1;omega)) (Jg [0,0,0,0] [(16,U (Ha.wrap (r2+4294967295)))] (Jca 16 (r2+4294967295) (by (have hm:=YM hJ ‹_›;have:=hJ.e;have:=hJ.u1;have:=hJ.r0;have:=hJ.r1;omega)) (Jg [0,0] [(120,Bo (decide (r2+4294967295 ≥ 4294967296)))] (Jm (decide (r2+4294967295 ≥ 4294967296)) (fun h6=>?_) (fun h6=>?_)))))))))
 refine KX (Vv rfl (Ke (JV (Jc (Jg [0,0,0,0,0,0,0,0,0,0,0,0,0,0,0,0] [(6,U (Ha.wrap ((Ha.wrap ((q-1)*4294967296))+(q2-1)))),(7,U ((Ha.wrap ((Ha.wrap ((Ha.wrap ((WC (WG hi lo) (WR lo) (q-1))*4294967296))+(ZW lo)))-(Ha.wrap ((q2-1)*18446744073709551608)))).fdiv (2 ^ 3)))] ?_)))))
 have e8:Ha.wrap ((Ha.wrap ((Ha.wrap ((WC (WG hi lo) (WR lo) (q-1))*4294967296))+(ZW lo)))-(Ha.wrap ((q2-1)*18446744073709551608)))=WC (WC (WG hi lo) (WR lo) (q-1)) (ZW lo) (q2-1):=rfl
 refine QW 7 (U ((WC (WC (WG hi lo) (WR lo) (q-1)) (ZW lo) (q2-1)).fdiv (2 ^ 3))) (show (U ((Ha.wrap ((Ha.wrap ((Ha.wrap ((WC (WG hi lo) (WR lo) (q-1))*4294967296))+(ZW lo)))-(Ha.wrap ((q2-1)*18446744073709551608)))).fdiv (2 ^ 3)):Value)=U ((WC (WC (WG hi lo) (WR lo) (q-1)) (ZW lo) (q2-1)).fdiv (2 ^ 3)) by simp only [e8]) ?_
 clear e8
 refine Jn (Jo [0,0] [U (Ha.wrap ((Ha.wrap ((q-1)*4294967296))+(q2-1))),U ((WC (WC (WG hi lo) (WR lo) (q-1)) (ZW lo) (q2-1)).fdiv (2 ^ 3))] (Jx (Jh _) ?_))
 (have hD2:Dig _ _ _:=(by exact Jd2 hJ ‹_› (by omega));have he:=Je7 hx hy hD1 hD2;exact congr (congrArg (fun a b=>Value.tuple #[U a,U b]) he.1) he.2)
 exact Jq (JN (Ql (q2-1,r2+4294967295) (Jfw hJ ‹_› Kd) (by dsimp only;have:=(YM hJ ‹_›).1;omega)))
 refine KX (J1 (Ke (JV (Jc (Jg [0,0,0,0,0,0,0,0,0,0,0,0,0,0,0,0] [(6,U (Ha.wrap ((Ha.wrap ((q-1)*4294967296))+q2))),(7,U ((Ha.wrap ((Ha.wrap ((Ha.wrap ((WC (WG hi lo) (WR lo) (q-1))*4294967296))+(ZW lo)))-(Ha.wrap (q2*18446744073709551608)))).fdiv (2 ^ 3)))] ?_)))))
 have e9:Ha.wrap ((Ha.wrap ((Ha.wrap ((WC (WG hi lo) (WR lo) (q-1))*4294967296))+(ZW lo)))-(Ha.wrap (q2*18446744073709551608)))=WC (WC (WG hi lo) (WR lo) (q-1)) (ZW lo) q2:=rfl
 refine QW 7 (U ((WC (WC (WG hi lo) (WR lo) (q-1)) (ZW lo) q2).fdiv (2 ^ 3))) (show (U ((Ha.wrap ((Ha.wrap ((Ha.wrap ((WC (WG hi lo) (WR lo) (q-1))*4294967296))+(ZW lo)))-(Ha.wrap (q2*18446744073709551608)))).fdiv (2 ^ 3)):Value)=U ((WC (WC (WG hi lo) (WR lo) (q-1)) (ZW lo) q2).fdiv (2 ^ 3)) by simp only [e9]) ?_
 clear e9
 refine Jn (Jo [0,0] [U (Ha.wrap ((Ha.wrap ((q-1)*4294967296))+q2)),U ((WC (WC (WG hi lo) (WR lo) (q-1)) (ZW lo) q2).fdiv (2 ^ 3))] (Jx (Jh _) ?_))
 (have hD2:Dig _ _ _:=(by exact Jfx hJ ‹_›);have he:=Je7 hx hy hD1 hD2;exact congr (congrArg (fun a b=>Value.tuple #[U a,U b]) he.1) he.2)
 exact Jq (JN (Ql (q-1,r+4294967295) (Jfw hI ‹_› Kd) (by dsimp only;have:=(YM hI ‹_›).1;omega)))
 refine KX (J1 (Ke (JV (Jc (Jg [0,0,0,0,0,0,0,0,0] [(17,U (Ha.wrap ((Ha.wrap ((Ha.wrap ((WG hi lo)*4294967296))+(WR lo)))-(Ha.wrap (q*18446744073709551608)))))] ?_)))))
 have e10:Ha.wrap ((Ha.wrap ((Ha.wrap ((WG hi lo)*4294967296))+(WR lo)))-(Ha.wrap (q*18446744073709551608)))=WC (WG hi lo) (WR lo) q:=rfl
 refine QW 17 (U (WC (WG hi lo) (WR lo) q)) (congrArg U e10) ?_
 clear e10
 refine Jg [0,0,0,0] [(18,U (Ha.wrap ((WC (WG hi lo) (WR lo) q).tdiv 4294967295)))] (Jg [0,0,0,0,0,0] [(16,U (Ha.wrap ((WC (WG hi lo) (WR lo) q)-(Ha.wrap ((Ha.wrap ((WC (WG hi lo) (WR lo) q).tdiv 4294967295))*4294967295)))))] (Jf (Jy ?_)))
 have hD1:Dig (WG hi lo) (WR lo) q:=by exact Jfx hI ‹_›
 have hb1:=Je4 hD1 (Je5 hx hy).1 (Je6 lo).1
 refine Qe (σ:=Int×Int) (fun s=>(Jbp (WC (WG hi lo) (WR lo) q) (ZW lo) s.1 s.2)) (fun s=>[(2,U 18446744073709551608),(8,U 3),(9,U 4294967295),(10,U 4294967288),(14,U (ZW lo)),(15,U q),(16,U s.2),(17,U (WC (WG hi lo) (WR lo) q)),(18,U s.1)]) (fun s=>G) (fun s=>[]) (fun s=>s.1.toNat) (Ha.wrap ((WC (WG hi lo) (WR lo) q).tdiv 4294967295),Ha.wrap (WC (WG hi lo) (WR lo) q-Ha.wrap (Ha.wrap ((WC (WG hi lo) (WR lo) q).tdiv 4294967295)*4294967295))) (Jd1 hb1.2 (JhE lo)) (fun s hs=>?_)
 obtain ⟨q2,r2⟩:=s
 have hJ:=hs
 dsimp only at hJ
 dsimp only
 refine Jf (Jf (Jd (Jb [0,0,0] [(104,Bo (decide (q2 ≥ 4294967296)))] (Kr (decide (q2 ≥ 4294967296)) [104] [1,1,1,1,1,1,1,1,0] [0,0,0,0,0,0,0,0,0] (fun bb=>[(113,Bo (bb || (decide (Ha.wrap (q2*4294967288) > Ha.wrap ((Ha.wrap (4294967296*r2))+(ZW lo))))))]) (Je (Jc (Jm ((decide (q2 ≥ 4294967296)) || (decide (Ha.wrap (q2*4294967288) > Ha.wrap ((Ha.wrap (4294967296*r2))+(ZW lo))))) (fun h7=>?_) (fun h7=>?_))))))))
 refine Jq (Jc (Jy (Jg [0,0,0] [(18,U (Ha.wrap (q2-1)))] (Jca 18 (q2-1) (by (have hm:=YM hJ ‹_›;have:=hJ.e;have:=hJ.u1;have:=hJ.r0;have:=hJ.r1;omega)) (Jg [0,0,0,0] [(16,U (Ha.wrap (r2+4294967295)))] (Jca 16 (r2+4294967295) (by (have hm:=YM hJ ‹_›;have:=hJ.e;have:=hJ.u1;have:=hJ.r0;have:=hJ.r1;omega)) (Jg [0,0] [(120,Bo (decide (r2+4294967295 ≥ 4294967296)))] (Jm (decide (r2+4294967295 ≥ 4294967296)) (fun h8=>?_) (fun h8=>?_)))))))))
 refine KX (Vv rfl (Ke (JV (Jc (Jg [0,0,0,0,0,0,0,0,0,0,0,0,0,0,0,0] [(6,U (Ha.wrap ((Ha.wrap (q*4294967296))+(q2-1)))),(7,U ((Ha.wrap ((Ha.wrap ((Ha.wrap ((WC (WG hi lo) (WR lo) q)*4294967296))+(ZW lo)))-(Ha.wrap ((q2-1)*18446744073709551608)))).fdiv (2 ^ 3)))] ?_)))))
 have e11:Ha.wrap ((Ha.wrap ((Ha.wrap ((WC (WG hi lo) (WR lo) q)*4294967296))+(ZW lo)))-(Ha.wrap ((q2-1)*18446744073709551608)))=WC (WC (WG hi lo) (WR lo) q) (ZW lo) (q2-1):=rfl
 refine QW 7 (U ((WC (WC (WG hi lo) (WR lo) q) (ZW lo) (q2-1)).fdiv (2 ^ 3))) (show (U ((Ha.wrap ((Ha.wrap ((Ha.wrap ((WC (WG hi lo) (WR lo) q)*4294967296))+(ZW lo)))-(Ha.wrap ((q2-1)*18446744073709551608)))).fdiv (2 ^ 3)):Value)=U ((WC (WC (WG hi lo) (WR lo) q) (ZW lo) (q2-1)).fdiv (2 ^ 3)) by simp only [e11]) ?_
 clear e11
 refine Jn (Jo [0,0] [U (Ha.wrap ((Ha.wrap (q*4294967296))+(q2-1))),U ((WC (WC (WG hi lo) (WR lo) q) (ZW lo) (q2-1)).fdiv (2 ^ 3))] (Jx (Jh _) ?_))
 (have hD2:Dig _ _ _:=(by exact Jd2 hJ ‹_› (by omega));have he:=Je7 hx hy hD1 hD2;exact congr (congrArg (fun a b=>Value.tuple #[U a,U b]) he.1) he.2)
 exact Jq (JN (Ql (q2-1,r2+4294967295) (Jfw hJ ‹_› Kd) (by dsimp only;have:=(YM hJ ‹_›).1;omega)))
 refine KX (J1 (Ke (JV (Jc (Jg [0,0,0,0,0,0,0,0,0,0,0,0,0,0,0,0] [(6,U (Ha.wrap ((Ha.wrap (q*4294967296))+q2))),(7,U ((Ha.wrap ((Ha.wrap ((Ha.wrap ((WC (WG hi lo) (WR lo) q)*4294967296))+(ZW lo)))-(Ha.wrap (q2*18446744073709551608)))).fdiv (2 ^ 3)))] ?_)))))
 have e12:Ha.wrap ((Ha.wrap ((Ha.wrap ((WC (WG hi lo) (WR lo) q)*4294967296))+(ZW lo)))-(Ha.wrap (q2*18446744073709551608)))=WC (WC (WG hi lo) (WR lo) q) (ZW lo) q2:=rfl
 refine QW 7 (U ((WC (WC (WG hi lo) (WR lo) q) (ZW lo) q2).fdiv (2 ^ 3))) (show (U ((Ha.wrap ((Ha.wrap ((Ha.wrap ((WC (WG hi lo) (WR lo) q)*4294967296))+(ZW lo)))-(Ha.wrap (q2*18446744073709551608)))).fdiv (2 ^ 3)):Value)=U ((WC (WC (WG hi lo) (WR lo) q) (ZW lo) q2).fdiv (2 ^ 3)) by simp only [e12]) ?_
 clear e12
 refine Jn (Jo [0,0] [U (Ha.wrap ((Ha.wrap (q*4294967296))+q2)),U ((WC (WC (WG hi lo) (WR lo) q) (ZW lo) q2).fdiv (2 ^ 3))] (Jx (Jh _) ?_))
 (have hD2:Dig _ _ _:=(by exact Jfx hJ ‹_›);have he:=Je7 hx hy hD1 hD2;exact congr (congrArg (fun a b=>Value.tuple #[U a,U b]) he.1) he.2)
theorem Jmb (hi lo:Int) (hx:rU hi) (hy:rU lo) (G:J4):VG Tryz.prog 129 #[U hi,U lo,U 2305843009213693951] G [] (fun u G' L'=>u=U ((hi*18446744073709551616+lo) % 2305843009213693951)):=by
 refine JQ Tryz.func129 19 [(0,U hi),(1,U lo),(2,U 2305843009213693951)] rfl (fun w0 G0=>?_)
 refine Jg [0] [] (Jf (Jd (Jb [0,0,0,0,0] [(12,U ((hi).tmod 2305843009213693951)),(13,U lo),(14,U 2305843009213693951)] ?_)))
 have e1:(hi).tmod 2305843009213693951=hi % 2305843009213693951:=HO _ _ (by omega)
 refine KG 12 (U (hi % 2305843009213693951)) (congrArg U e1) ?_
 clear e1
 exact Jl 15 (.tuple #[U (((hi % 2305843009213693951)*18446744073709551616+lo) / 2305843009213693951),U (((hi % 2305843009213693951)*18446744073709551616+lo) % 2305843009213693951)]) (Jma (hi % 2305843009213693951) lo Kd Kd G) (Jb [0,0,0,0,0] [(8,U (((hi % 2305843009213693951)*18446744073709551616+lo) % 2305843009213693951))] (Je (Jc (Jg [0,0] [(6,U (((hi % 2305843009213693951)*18446744073709551616+lo) % 2305843009213693951))] (Jn (Jo [0] [U (((hi % 2305843009213693951)*18446744073709551616+lo) % 2305843009213693951)] (Jx (Jh _) (congrArg U Kd))))))))
theorem Jmc (a b:Int) (hx:rU a) (hy:rU b) (G:J4):VG Tryz.prog 75 #[U a,U b] G [] (fun u G' L'=>u=U (WM a b)):=by
 refine JQ Tryz.func75 16 [(0,U a),(1,U b)] rfl (fun w0 G0=>?_)
 exact Jg [0] [] (Jf (Jd (Jb [0,0] [(8,U a),(9,U b)] (Jl 10 (.tuple #[U (a*b / 18446744073709551616),U (a*b % 18446744073709551616)]) (Jg4 a b Kd Kd G) (Jb [0,0,0,0,0] [(5,U (a*b / 18446744073709551616)),(6,U (a*b % 18446744073709551616))] (Je (Jc (Jf (Jd (Jb [0,0] [(13,U (a*b / 18446744073709551616)),(14,U (a*b % 18446744073709551616))] (Jl 15 (U (((a*b / 18446744073709551616)*18446744073709551616+(a*b % 18446744073709551616)) % 2305843009213693951)) (Jmb (a*b / 18446744073709551616) (a*b % 18446744073709551616) (by exact Jl7 Kd Kd) Kd G) (Jb [0] [(4,U (((a*b / 18446744073709551616)*18446744073709551616+(a*b % 18446744073709551616)) % 2305843009213693951))] (Je (Jc (Jn (Jo [0] [U (((a*b / 18446744073709551616)*18446744073709551616+(a*b % 18446744073709551616)) % 2305843009213693951)] (Jx (Jh _) (congrArg U (by unfold WM;omega)))))))))))))))))))
def Qk (k a b:Int):Bb:=(([k]:List Int).map (fun n=>Hf n.toNat)++K0 a)++K0 b
theorem ZQ (k a b:Int):(Qk k a b).length=17:=by simp [Qk]
theorem Z6 (l:Bb) (hl:l.length≤140737488355328) (G:J4):VG Tryz.prog 44 #[Sr l] G [] (fun u G' L'=>u=U (Ji l)):=by
 refine JQ Tryz.func44 21 [(0,Sr l)] rfl (fun w0 G0=>?_)
 refine Jg [0] [] (Jg [0] [(3,U 1)] (Jf (Jg [0,0,0] [(6,I ((l).length:Int)),(7,I 0)] (Jy ?_))))
 refine Qe (σ:=Nat×Int) (fun s=>(s.1≤l.length)∧(0≤s.2∧s.2<2305843009213693951)∧(s.2=(l.take s.1).foldl Jey 1)) (fun s=>[(0,Sr l),(3,U s.2),(6,I ((l).length:Int)),(7,I (s.1:Int))]) (fun s=>G) (fun s=>[]) (fun s=>l.length-s.1) (0,1) (⟨Hn _,by omega,by simp⟩) (fun s hs=>?_)
 obtain ⟨i,m⟩:=s
 obtain ⟨hi,hb,hm⟩:=hs
 dsimp only at hi hb hm
 dsimp only
 refine Jg [0] [(8,Bo (decide ((i:Int)<((l).length:Int))))] (Jf (Jm (decide ((i:Int)<((l).length:Int))) (fun h1=>?_) (fun h1=>?_)))
 refine Jq (Jc (Jf (Jy (Jg [0,0] [(4,I (i:Int))] ?_))))
 obtain ⟨y1,hy1⟩:=QQ (l:=l) (k:=i) (by omega)
 have e1:Ha.wrap (y1.toNat:Int)=(y1.toNat:Int):=HF _ (by (have:=Jcg m 1099511628211;have:=y1.toNat_lt;omega))
 have e2:Ha.wrap ((WM m 1099511628211)+(y1.toNat:Int))=(WM m 1099511628211)+(y1.toNat:Int):=HF _ (by (have:=Jcg m 1099511628211;have:=y1.toNat_lt;omega))
 have e3:Ha.wrap (((WM m 1099511628211)+(y1.toNat:Int))+1)=((WM m 1099511628211)+(y1.toNat:Int))+1:=HF _ (by (have:=Jcg m 1099511628211;have:=y1.toNat_lt;omega))
 have e4:(((WM m 1099511628211)+(y1.toNat:Int))+1).tmod 2305843009213693951=(((WM m 1099511628211)+(y1.toNat:Int))+1) % 2305843009213693951:=HO _ _ (by (have:=Jcg m 1099511628211;have:=y1.toNat_lt;omega))
 refine Kv [] (Ws [(0,U m),(1,U (WM m 1099511628211)),(2,Sr l),(3,I (i:Int)),(4,Y (y1.toNat:Int)),(5,U (y1.toNat:Int)),(6,U ((WM m 1099511628211)+(y1.toNat:Int))),(7,U (((WM m 1099511628211)+(y1.toNat:Int))+1)),(8,U ((((WM m 1099511628211)+(y1.toNat:Int))+1) % 2305843009213693951)),(9,U ((((WM m 1099511628211)+(y1.toNat:Int))+1) % 2305843009213693951))] (Ko [] [(0,0),(2,0),(3,0),(9,0)] [1,4,5,6,7,8] [(0,Sr l),(3,U ((((WM m 1099511628211)+(y1.toNat:Int))+1) % 2305843009213693951)),(6,I ((l).length:Int)),(7,I (i:Int))] (Kf ?_ (Kf ?_ (Kf ?_ (Kf ?_ (Kf ?_ (Kf ?_ KY)))))) ?_))
 refine Jr 1 11 (U (WM m 1099511628211)) [(10,U m)] (fun X=>?_)
 exact Jl 11 (U (WM m 1099511628211)) (Jmc m 1099511628211 Kd Kd G) Jp
 refine Jr 4 14 (Y (y1.toNat:Int)) [(12,Sr l),(13,I (i:Int))] (fun X=>?_)
 exact Ja9 (ik:=.i64) 14 i y1 hy1 Jp
 refine Jr 5 15 (U (y1.toNat:Int)) [(14,Y (y1.toNat:Int))] (fun X=>?_)
 exact Qa 15 (U (Ha.wrap (y1.toNat:Int))) (U (y1.toNat:Int)) (by simp only [e1]) Jp
 refine Jr 6 16 (U ((WM m 1099511628211)+(y1.toNat:Int))) [(11,U (WM m 1099511628211)),(15,U (y1.toNat:Int))] (fun X=>?_)
 exact Qa 16 (U (Ha.wrap ((WM m 1099511628211)+(y1.toNat:Int)))) (U ((WM m 1099511628211)+(y1.toNat:Int))) (by simp only [e2]) Jp
 refine Jr 7 17 (U (((WM m 1099511628211)+(y1.toNat:Int))+1)) [(16,U ((WM m 1099511628211)+(y1.toNat:Int)))] (fun X=>?_)
 exact Qa 17 (U (Ha.wrap (((WM m 1099511628211)+(y1.toNat:Int))+1))) (U (((WM m 1099511628211)+(y1.toNat:Int))+1)) (by simp only [e3]) Jp
 refine Jr 8 18 (U ((((WM m 1099511628211)+(y1.toNat:Int))+1) % 2305843009213693951)) [(17,U (((WM m 1099511628211)+(y1.toNat:Int))+1))] (fun X=>?_)
 exact Qa 18 (U ((((WM m 1099511628211)+(y1.toNat:Int))+1).tmod 2305843009213693951)) (U ((((WM m 1099511628211)+(y1.toNat:Int))+1) % 2305843009213693951)) (by simp only [e4]) Jp
 exact JN (Jc (Jd (Jb [0,0] [(7,I (Hh.wrap ((i:Int)+1)))] (Ku 7 ((i:Int)+1) Kd (Je (Ql (i+1,(((WM m 1099511628211)+(y1.toNat:Int))+1) % 2305843009213693951) (⟨by omega,by dsimp only;omega,by rw [hm];exact (JjY (f:=Jey) hy1).symm⟩) (by dsimp only;omega)))))))
 exact KX (J1 (Ke (JV (Jc (Jg [0,0] [(2,U m)] (Jn (Jo [0] [U m] (Jx (Jh _) (congrArg U (by rw [hm,Hj (by omega)];rfl))))))))))
theorem Jbq (k x y:Int) (G:J4):VG Tryz.prog 128 #[Y k,U x,U y] G [] (fun u G' L'=>u=Sr (Qk k x y)):=by
 refine JQ Tryz.func128 16 [(0,Y k),(1,U x),(2,U y)] rfl (fun w0 G0=>?_)
 refine Jg [0] [] (Jf (Kv [1] (Ws [(0,Y k),(3,U x),(4,Sr (K0 x)),(6,U y),(7,Sr (K0 y))] (JF [] [(0,0),(3,0),(6,0)] [4,7] [1] (Kf ?_ (Kf ?_ KY)) (Kf ?_ KY)))))
 refine Jr 4 11 (Sr (K0 x)) [(10,U x)] (fun X=>?_)
 exact Jl 11 (Sr (K0 x)) (Yr x G) Jp
 refine Jr 7 14 (Sr (K0 y)) [(13,U y)] (fun X=>?_)
 exact Jl 14 (Sr (K0 y)) (Yr y G) Jp
 refine Jz 1 [(7,Y k)] (fun X=>?_)
 refine Kq 8 1 #[Y k] 5 (fun b1=>JA [(1,Sl (At b1 0) 1 1),(2,Sr (([k]:List Int).map fun n=>Hf n.toNat)),(5,Sr ((([k]:List Int).map fun n=>Hf n.toNat)++(K0 x))),(8,Sr (((([k]:List Int).map fun n=>Hf n.toNat)++(K0 x))++(K0 y))),(9,Sr (((([k]:List Int).map fun n=>Hf n.toNat)++(K0 x))++(K0 y)))] (Ko [0] [(3,0),(6,0),(9,0)] [2,4,5,7,8] [(6,Sr (((([k]:List Int).map fun n=>Hf n.toNat)++(K0 x))++(K0 y)))] (Kf ?_ (Kf ?_ (Kf ?_ (Kf ?_ (Kf ?_ KY))))) ?_))
 refine Jr 2 9 (Sr (([k]:List Int).map fun n=>Hf n.toNat)) [(8,Sl (At b1 0) 1 1)] (fun X=>?_)
 exact Jba (b:=b1) (off:=0) (len:=1) (cap:=1) (cs:=HR (Value.int .u8) [k]) 9 0 [k] rfl (Jak (ns:=[k]) rfl) Jp
 refine Jr 4 11 (Sr (K0 x)) [(10,U x)] (fun X=>?_)
 exact Jl 11 (Sr (K0 x)) (Yr x G) Jp
 refine Jr 5 12 (Sr ((([k]:List Int).map fun n=>Hf n.toNat)++(K0 x))) [(9,Sr (([k]:List Int).map fun n=>Hf n.toNat)),(11,Sr (K0 x))] (fun X=>?_)
 exact ZS 12 (([k]:List Int).map fun n=>Hf n.toNat) (K0 x) (by simp) Jp
 refine Jr 7 14 (Sr (K0 y)) [(13,U y)] (fun X=>?_)
 exact Jl 14 (Sr (K0 y)) (Yr y G) Jp
 refine Jr 8 15 (Sr (((([k]:List Int).map fun n=>Hf n.toNat)++(K0 x))++(K0 y))) [(12,Sr ((([k]:List Int).map fun n=>Hf n.toNat)++(K0 x))),(14,Sr (K0 y))] (fun X=>?_)
 exact ZS 15 ((([k]:List Int).map fun n=>Hf n.toNat)++(K0 x)) (K0 y) (by simp) Jp
 refine Jc (Jn (Jo [0] [Sr (((([k]:List Int).map fun n=>Hf n.toNat)++(K0 x))++(K0 y))] (Jx (Jh _) ?_)))
 rfl
theorem JiA (k x y:Int) (G:J4):VG Tryz.prog 241 #[Y k,U x,U y] G [] (fun u G' L'=>u=U (Ji (Qk k x y))):=by
 refine JQ Tryz.func241 12 [(0,Y k),(1,U x),(2,U y)] rfl (fun w0 G0=>?_)
 refine Jg [0] [] (Jf (Jd (Jb [0,0,0] [(7,Y k),(8,U x),(9,U y)] (Jl 10 (Sr (Qk k x y)) (Jbq k x y G) (Jl 11 (U (Ji (Qk k x y))) (Z6 (Qk k x y) (by (simp [Qk];done)) G) (Jb [0] [(6,U (Ji (Qk k x y)))] (Je (Jc (Jn (Jo [0] [U (Ji (Qk k x y))] (Jx (Jh _) ?_)))))))))))
 rfl
def Vb (y:Int):UInt8:=Hf y.toNat
theorem u8w (x:Int):0≤Hc.wrap x∧Hc.wrap x<256:=by rw [JhC];omega
theorem JnR {y:Int} (h:0≤y∧y<256):y=((Vb y).toNat:Int):=by
 unfold Vb;rw [UInt8.toNat_ofNat'];omega
theorem Jmd {p:Int→Bool} {s:Bb} {pos:Nat} (hp:pos<s.length) (h:p ((Utf8.decode (B s) pos).1:Int)=false) :
  Jbo p s (s.length-(pos+(Utf8.decode (B s) pos).2)) (pos+(Utf8.decode (B s) pos).2)=Jbo p s (s.length-pos) pos:=by
 have hw:=Jns s pos
 rw [Jk5 _ (s.length-pos-1) _ (by omega) (by omega)]
 obtain ⟨n,hn⟩:∃ n,s.length-pos=n+1:=⟨s.length-pos-1,by omega⟩
 rw [hn]
 show _=(if pos<s.length then (if p _ then (pos:Int) else Jbo p s n (pos+(Utf8.decode (B s) pos).2)) else -1)
 rw [if_pos hp,if_neg (by rw [h];simp)]
 rfl
theorem Jj5 {p:Int→Bool} {s:Bb} {pos:Nat} (hp:pos<s.length) (h:p ((Utf8.decode (B s) pos).1:Int)=true):Jbo p s (s.length-pos) pos=(pos:Int):=by
 obtain ⟨n,hn⟩:∃ n,s.length-pos=n+1:=⟨s.length-pos-1,by omega⟩
 rw [hn];unfold Jbo;rw [if_pos hp,if_pos h]
theorem JnS {p:Int→Bool} {s:Bb} {n pos:Nat} (hp:¬ pos<s.length):Jbo p s n pos=-1:=by
 cases n with
 | zero=>rfl
 | succ n=>unfold Jbo;rw [if_neg hp]
def Vy (s:Bb) (p:Int→Bool) (t:Bool):Int:=Jbo (fun r=>p r == t) s s.length 0
def VZ (s:Bb) (p:Int→Bool):Int:=Vy s p true
def Jbr (s:Bb) (p:Int→Bool):Bool:=decide (VZ s p ≥ 0)
theorem Jj6 {s:Bb} {p:Int→Bool} (hp:∀ r:Int,128≤r→p r=true):Jbr s p=s.any fun b=>p (b.toNat:Int):=by
 unfold Jbr VZ Vy
 have:=Jiq (p:=fun r=>p r == true) (fun r h=>by simp [hp r h]) (l:=s) s.length 0 (by omega)
 simpa using this
def JbI (r:Int):Bool:=decide (97≤r∧r≤122) || decide (48≤r∧r≤57)
def VS (r:Int):Bool:=!JbI r
def KS (s:Bb):Bool:=decide (1≤s.length) && decide (s.length≤12) && !Jbr s VS
theorem JhG {s:Bb}:KS s=true ↔ 1≤s.length∧s.length≤12∧∀ b∈s,JbI (b.toNat:Int)=true:=by
 unfold KS
 rw [Jj6 (fun r h=>by unfold VS JbI;simp;omega)]
 simp [VS,and_assoc]
def putC (p:Bb):Bb:=Vb (Hc.wrap ((p.length:Int).fdiv (2 ^ 8)))::Vb (Hc.wrap (p.length:Int))::p
def Jgn (l:Bs):Bb:=(l.map putC).flatten
def Jdj:Nat→Bs→Bool
 | _,[]=>true
 | n,p::l=>decide (n+2+p.length≤600) && Jdj (n+2+p.length) l
theorem Jme {l:Bs} {i:Nat} {x:Bb} (h:l[i]? = some x):((Jgn (l.take i)++[Vb (Hc.wrap ((x.length:Int).fdiv (2 ^ 8)))])++[Vb (Hc.wrap (x.length:Int))])++x=Jgn (l.take (i+1)):=by
 rw [HB,h];simp [Jgn,putC]
theorem Jj7 {l:Bs} {i n:Nat} {x:Bb} (h:l[i]? = some x) (hn:n+2+x.length≤600):Jdj n (l.drop i)=Jdj (((n+1)+1)+x.length) (l.drop (i+1)):=by
 obtain ⟨hi,rfl⟩:=He.1 h
 rw [Hl hi]
 show (decide _ && _)=_
 rw [decide_eq_true hn];rfl
theorem JnT {l:Bs} {i n:Nat} {x:Bb} (h:l[i]? = some x) (hn:600<n+2+x.length):Jdj n (l.drop i)=false:=by
 obtain ⟨hi,rfl⟩:=He.1 h
 rw [Hl hi]
 show (decide _ && _)=_
 rw [decide_eq_false (by omega)];rfl
def VH (l:Bs):Bb×Int:=if 60<l.length then ([],2) else if Jdj 0 l then (Jgn l,0) else ([],2)
theorem Jg5 (G:J4) (b:Nat) (A:Value) (a:Ba) (n c:Nat) (hA:A=.pointer none∨A=Pt b 0):Jhw Tryz.prog 144 #[Pt b 0] G [[Vr 165 b 0 [A,Sl a n c]]] (fun u G' L'=>u=.tuple #[]∧L'=[[Vr 165 b 0 [Pt b 0,Sl a n c]]]):=by
 rcases hA with rfl | rfl
 intro Lr
 refine JQ Tryz.func144 20 [(0,Pt b 0)] rfl (fun w0 G0=>?_)
 show TC _ _ _ _ _ ([Vr 165 b 0 [.pointer none,Sl a n c]]::Lr)
 refine Jg [0,0,0,2,0] [(6,Bo true)] (J0 (Jd (Jb [0,0] [(7,Pt b 0),(8,Pt b 0)] ?_)))
 refine Jip (cs:=[.pointer none,Sl a n c]) 9 0 165 165 true ?_
 refine Jnr (f:=197) (args:=#[Pt b 0]) 10 (Pt b 0) (fun w=>by rw [run_callFunc_extern (e:=Extern.AbiNoEscape.same) Tryz.func197 (by kernel_rfl) (by kernel_rfl) (by kernel_rfl) (by kernel_rfl)];rfl) ?_
 refine Jip (cs:=[.pointer none,Sl a n c]) 11 0 165 165 false ?_
 exact JT [0,0,3] [] ([Vr 165 b 0 [Pt b 0,Sl a n c]]::Lr) (Je (ZN [] [] (KH (Lr:=Lr) [[Vr 165 b 0 [Pt b 0,Sl a n c]]] (Jh _) (⟨rfl,rfl⟩))))
 intro Lr
 refine JQ Tryz.func144 20 [(0,Pt b 0)] rfl (fun w0 G0=>?_)
 show TC _ _ _ _ _ ([Vr 165 b 0 [Pt b 0,Sl a n c]]::Lr)
 exact Jg [0,0,0,2,0] [(6,Bo false)] (Qp (Jf (Jd (Jb [0,0,0,2,0] [(17,Pt b 0),(18,Pt b 0)] (JjS 19 (b:=b) (o':=0) (eq:=false) (Je (Jc (Qp (Jq (ZN [] [] (KH (Lr:=Lr) [[Vr 165 b 0 [Pt b 0,Sl a n c]]] (Jh _) (⟨rfl,rfl⟩))))))))))))
theorem JnU (G:J4) (b:Nat) (A:Value) (a:Ba) (c:Nat) (l:Bb) (r:Bg) (hb:Jbn 5 a c l r) (hA:A=.pointer none∨A=Pt b 0):Jhw Tryz.prog 245 #[Pt b 0] G [[Vr 165 b 0 [A,Sl a l.length c]],r] (fun u G' L'=>u=I (l.length:Int)∧L'=[[Vr 165 b 0 [A,Sl a l.length c]],r]):=by
 intro Lr
 refine JQ Tryz.func245 8 [(0,Pt b 0)] rfl (fun w0 G0=>?_)
 show TC _ _ _ _ _ ([Vr 165 b 0 [A,Sl a l.length c]]::r::Lr)
 exact Jg [0] [] (Jg [0,0,0,2,0,0] [(2,I (l.length:Int))] (Jn (Jo [0] [I (l.length:Int)] (KH (Lr:=Lr) [[Vr 165 b 0 [A,Sl a l.length c]],r] (Jh _) (⟨rfl,rfl⟩)))))
theorem JbQ (G:J4) (b:Nat) (A:Value) (a:Ba) (c:Nat) (l:Bb) (r:Bg) (hb:Jbn 5 a c l r) (hA:A=.pointer none∨A=Pt b 0) (y:Int) (hy:0≤y∧y<256) (hl:l.length+1≤140737488355328):Jhw Tryz.prog 246 #[Pt b 0,Y y] G [[Vr 165 b 0 [A,Sl a l.length c]],r] (fun u G' L'=>∃ a' c' r',u=.nilIface∧Jbn 5 a' c' (l++[Vb y]) r'∧L'=[[Vr 165 b 0 [Pt b 0,Sl a' (l++[Vb y]).length c']],r']):=by
 intro Lr
 refine JQ Tryz.func246 17 [(0,Pt b 0),(1,Y y)] rfl (fun w0 G0=>?_)
 show TC _ _ _ _ _ ([Vr 165 b 0 [A,Sl a l.length c]]::r::Lr)
 refine Jg [0] [] (Jf (Jd (Jb [0] [(5,Pt b 0)] (Jw 0 (Qu (Ls:=[[Vr 165 b 0 [A,Sl a l.length c]]]) (Lr:=(r::Lr)) 6 (Jg5 G b A a l.length c hA) (fun v G1 L1 hl1 hp=>?_))))))
 obtain ⟨rfl,rfl⟩:=hp
 exact Je (Jc (Jf (Jd (Jb [0,0,0,0,2,0] [(7,Pt b 0),(11,Sl a l.length c),(12,Y y)] (Kq 13 1 #[Y y] 5 (fun b1=>JlY (b:=b1) 14 5 2 0 (Vb y) y (JnR ‹_›) hb Kd (fun a1 c1 r1 hb1=>JT [0,0,5] [] ([Sg b1 0 [Y y]]::[Vr 165 b 0 [Pt b 0,Sl a1 ((l++[Vb y]).length) c1]]::r1::Lr) (Je (Jc (Jg [0] [(4,.nilIface)] (Jn (Jo [0] [.nilIface] (KH (Lr:=Lr) [[Vr 165 b 0 [Pt b 0,Sl a1 ((l++[Vb y]).length) c1]],r1] hl1 (⟨a1,c1,r1,rfl,hb1,rfl⟩))))))))))))))
theorem Jd4 (G:J4) (b:Nat) (A:Value) (a:Ba) (c:Nat) (l:Bb) (r:Bg) (hb:Jbn 5 a c l r) (hA:A=.pointer none∨A=Pt b 0) (s:Bb) (hl:l.length+s.length≤140737488355328):Jhw Tryz.prog 91 #[Pt b 0,Sr s] G [[Vr 165 b 0 [A,Sl a l.length c]],r] (fun u G' L'=>∃ a' c' r',u=.tuple #[I (s.length:Int),.nilIface]∧Jbn 5 a' c' (l++s) r'∧L'=[[Vr 165 b 0 [Pt b 0,Sl a' (l++s).length c']],r']):=by
 intro Lr
 refine JQ Tryz.func91 19 [(0,Pt b 0),(1,Sr s)] rfl (fun w0 G0=>?_)
 show TC _ _ _ _ _ ([Vr 165 b 0 [A,Sl a l.length c]]::r::Lr)
 refine Jg [0,0] [] (Jf (Jd (Jb [0] [(6,Pt b 0)] (Jw 0 (Qu (Ls:=[[Vr 165 b 0 [A,Sl a l.length c]]]) (Lr:=(r::Lr)) 7 (Jg5 G b A a l.length c hA) (fun v G1 L1 hl1 hp=>?_))))))
 obtain ⟨rfl,rfl⟩:=hp
 exact Je (Jc (Jf (Jd (Jb [0,0,0,0,2,0] [(8,Pt b 0),(12,Sl a l.length c),(13,Sr s)] (JlX (s:=s) 14 5 1 hb Kd (fun a1 c1 r1 hb1=>JT [0,0,3] [] ([Vr 165 b 0 [Pt b 0,Sl a1 ((l++s).length) c1]]::r1::Lr) (Je (Jc (Jg [0,0,0,0] [(4,I ((s).length:Int)),(5,.nilIface)] (Jn (Jo [0,0] [I ((s).length:Int),.nilIface] (KH (Lr:=Lr) [[Vr 165 b 0 [Pt b 0,Sl a1 ((l++s).length) c1]],r1] hl1 (⟨a1,c1,r1,rfl,hb1,rfl⟩)))))))))))))
theorem JiB (G:J4) (b:Nat) (A:Value) (a:Ba) (c:Nat) (l:Bb) (r:Bg) (hb:Jbn 5 a c l r) (hA:A=.pointer none∨A=Pt b 0):Jhw Tryz.prog 92 #[Pt b 0] G [[Vr 165 b 0 [A,Sl a l.length c]],r] (fun u G' L'=>u=Sr l∧L'=[[Vr 165 b 0 [A,Sl a l.length c]],[]]):=by
 intro Lr
 refine JQ Tryz.func92 14 [(0,Pt b 0)] rfl (fun w0 G0=>?_)
 show TC _ _ _ _ _ ([Vr 165 b 0 [A,Sl a l.length c]]::r::Lr)
 refine Jg [0] [] (Jf (Kv [10] (Ws [(0,Pt b 0),(1,Pt b 0),(2,Pt b 1),(3,Sl a l.length c),(4,JgY a),(5,Pt b 0),(6,Pt b 0),(7,Pt b 1),(8,Sl a l.length c),(9,I (l.length:Int))] (JF [] [(0,0),(1,0),(2,0),(3,2),(5,0),(6,0),(7,0),(8,2),(9,0)] [4] [10] (Kf ?_ KY) (Kf ?_ KY)))))
 refine Jr 4 7 (JgY a) [(6,Sl a l.length c)] (fun X=>?_)
 exact Jnn 7 hb Jp
 refine Jz 10 [(7,JgY a),(12,I (l.length:Int))] (fun X=>?_)
 exact JlZ (e:=5) 13 1 hb (JA [(10,Sr l),(11,Sr l)] (Ko [0,1,2,3,4,5,6,7,8,9] [(11,0)] [] [(2,Sr l)] (Hg _) (Jc (Jn (Jo [0] [Sr l] (KH (Lr:=Lr) [[Vr 165 b 0 [A,Sl a l.length c]],[]] (Jh _) (⟨rfl,rfl⟩)))))))
theorem JiC (G:J4) (s:Bb) (k_f:FuncId) (caps_f:Array Value) (p_f:Int→Bool) (hk_f:Jbb Tryz.prog k_f) (h_f:∀ (x0:Int),VG Tryz.prog k_f (#[.int .i32 x0]++caps_f) G [] (fun u _ _=>u=Bo (p_f x0))) (t:Bool) :Q3 202 #[Sr s,Fv k_f caps_f,Bo t] G (I (Vy s p_f t)):=by
 refine JQ Tryz.func202 21 [(0,Sr s),(1,Fv k_f caps_f),(2,Bo t)] rfl (fun w0 G0=>?_)
 refine Jg [0] [] (Jf (Jf (Jd (Jb [0] [(9,Sr s)] (JjR (l:=s) 10 (fun b1=>Je (Jc (Jy ?_))))))))
 refine Qe (σ:=Nat) (fun q_=>(Jbo (fun r=>p_f r == t) s (s.length-q_) q_=Jbo (fun r=>p_f r == t) s s.length 0)) (fun q_=>[(1,Fv k_f caps_f),(2,Bo t),(10,Pt b1 0)]) (fun q_=>G) (fun q_=>[[Ob b1 (.stringIter (B s) q_)]]) (fun q_=>s.length-q_) 0 rfl (fun q_ hs=>?_)
 revert hs;revert q_;intro pos hs
 have hn:=hs
 dsimp only
 refine Jf (Jd (Jl0 (b:=b1) (pos:=pos) (l:=s) 11 0 (fun hp1=>?_) (fun hp1=>?_)))
 refine Jb [0] [(12,Bo true)] (Je (Jc (Jf (J0 (Jq (Jc (Jy (Jg [0,0,0,0] [(7,I (pos:Int)),(8,.int .i32 ((Utf8.decode (B s) pos).1:Int))] (Jf (Jd (Jb [0,0] [(15,Fv k_f caps_f),(16,.int .i32 ((Utf8.decode (B s) pos).1:Int))] (Z3 (k:=k_f) (caps:=caps_f) (args:=#[.int .i32 ((Utf8.decode (B s) pos).1:Int)]) 17 (Bo (p_f ((Utf8.decode (B s) pos).1:Int))) hk_f (h_f ((Utf8.decode (B s) pos).1:Int)) (Jb [0,0] [(19,Bo ((p_f ((Utf8.decode (B s) pos).1:Int)) == t))] (Je (Jc (Jm ((p_f ((Utf8.decode (B s) pos).1:Int)) == t) (fun h1=>?_) (fun h1=>?_)))))))))))))))))
 refine Jg [0,0] [(6,I (pos:Int))] (Jn (Ju (Q1 (Ju (Jj (Jo [0] [I (pos:Int)] (Jx (Jh _) (congrArg I (?_:(Vy s p_f t)=(pos:Int)).symm))))))))
 unfold Vy;rw [← hn];exact Jj5 (p:=(fun r=>p_f r == t)) hp1 (by simpa using h1)
 exact Jq (JN (Ql (pos+(Utf8.decode (B s) pos).2) (by rw [← hn];exact Jmd (p:=(fun r=>p_f r == t)) hp1 (by simpa using h1)) (by have:=Jns s pos;(try dsimp only);omega)))
 refine Jb [0] [(12,Bo false)] (Je (Jc (Jf (Qp (KX (J1 (Ke (JV (Jc (Jg [0] [(6,I (-1))] (Jn (Jo [0] [I (-1)] (Jx (Jh _) (congrArg I (?_:(Vy s p_f t)=(-1)).symm))))))))))))))
 unfold Vy;rw [← hn];exact JnS hp1
theorem JhH (G:J4) (s:Bb) (k_f:FuncId) (caps_f:Array Value) (p_f:Int→Bool) (hk_f:Jbb Tryz.prog k_f) (h_f:∀ (x0:Int),VG Tryz.prog k_f (#[.int .i32 x0]++caps_f) G [] (fun u _ _=>u=Bo (p_f x0))) :Q3 147 #[Sr s,Fv k_f caps_f] G (I (VZ s p_f)):=by
 refine JQ Tryz.func147 8 [(0,Sr s),(1,Fv k_f caps_f)] rfl (fun w0 G0=>?_)
 refine Jg [0] [] (Jf (Jd (Jb [0,0] [(5,Sr s),(6,Fv k_f caps_f)] (Jl 7 (I (Vy s p_f true)) (JiC G s k_f caps_f p_f hk_f h_f true) (Jb [0] [(4,I (Vy s p_f true))] (Je (Jc (Jn (Jo [0] [I (Vy s p_f true)] (Jx (Jh _) (congrArg I (?_:(VZ s p_f)=(Vy s p_f true)).symm)))))))))))
 rfl
theorem Jj8 (G:J4) (s:Bb) (k_f:FuncId) (caps_f:Array Value) (p_f:Int→Bool) (hk_f:Jbb Tryz.prog k_f) (h_f:∀ (x0:Int),VG Tryz.prog k_f (#[.int .i32 x0]++caps_f) G [] (fun u _ _=>u=Bo (p_f x0))) :Q3 98 #[Sr s,Fv k_f caps_f] G (Bo (Jbr s p_f)):=by
 refine JQ Tryz.func98 9 [(0,Sr s),(1,Fv k_f caps_f)] rfl (fun w0 G0=>?_)
 refine Jg [0] [] (Jf (Jd (Jb [0,0] [(5,Sr s),(6,Fv k_f caps_f)] (Jl 7 (I (VZ s p_f)) (JhH G s k_f caps_f p_f hk_f h_f) (Jb [0,0] [(4,Bo (decide (VZ s p_f ≥ 0)))] (Je (Jc (Jn (Jo [0] [Bo (decide (VZ s p_f ≥ 0))] (Jx (Jh _) (congrArg Bo (?_:(Jbr s p_f)=(decide (VZ s p_f ≥ 0))).symm)))))))))))
 rfl
theorem Jmf (G:J4) (r:Int) :Q3 97 #[.int .i32 r] G (Bo (JbI r)):=by
 refine JQ Tryz.func97 17 [(0,.int .i32 r)] rfl (fun w0 G0=>?_)
 refine Jg [0] [] (Jf (Jd (Jb [0,0,0] [(5,Bo (decide (r ≥ 97)))] (Kr (decide (r ≥ 97)) [5] [0,0,0] [1,1,0] (fun bb=>[(8,Bo (bb && (decide (r≤122))))]) (Jb [0] [(9,Bo ((decide (r ≥ 97)) && (decide (r≤122))))] (QU [9] ((decide (r ≥ 97)) && (decide (r≤122))) (fun h1=>?_) (fun h1=>?_)))))))
 refine Jb [1,1,1,1,1,1,0,0] [(2,Bo true)] (Je (Jc (Jn (Jo [0] [Bo true] (Jx (Jh _) (congrArg Bo (?_:(JbI r)=true).symm))))))
 rw [Bool.eq_iff_iff];unfold JbI;simp;omega
 refine Jb [0,0,0] [(12,Bo (decide (r ≥ 48)))] (Kr (decide (r ≥ 48)) [12] [0,0,0] [1,1,0] (fun bb=>[(15,Bo (bb && (decide (r≤57))))]) (Jb [0,0] [(2,Bo ((decide (r ≥ 48)) && (decide (r≤57))))] (Je (Jc (Jn (Jo [0] [Bo ((decide (r ≥ 48)) && (decide (r≤57)))] (Jx (Jh _) (congrArg Bo (?_:(JbI r)=((decide (r ≥ 48)) && (decide (r≤57)))).symm))))))))
 rw [Bool.eq_iff_iff];unfold JbI;simp;omega
theorem JiD (G:J4) (r:Int) (b_i:Nat) (hz_i:∀ j v,([Fv 97 #[]]:Bv)[j]? = some v→G b_i (0+j)=some v) :Q3 99 #[.int .i32 r,Pt b_i 0] G (Bo (VS r)):=by
 refine JQ Tryz.func99 8 [(0,.int .i32 r),(1,Pt b_i 0)] rfl (fun w0 G0=>?_)
 refine Jg [0] [] (Jf (Jd (JO (o':=0) 4 178 (cs:=[Fv 97 #[]]) 0 (Fv 97 #[]) hz_i (Jb [0] [(5,.int .i32 r)] (Jl 6 (Bo (JbI r)) (Jmf G r) (Jb [0,0] [(3,Bo (!(JbI r)))] (Je (Jc (Jn (Jo [0] [Bo (!(JbI r))] (Jx (Jh _) (congrArg Bo (?_:(VS r)=(!(JbI r))).symm))))))))))))
 rfl
theorem ZX (G:J4) (s:Bb) :Q3 56 #[Sr s] G (Bo (KS s)):=by
 refine JQ Tryz.func56 18 [(0,Sr s)] rfl (fun w0 G0=>?_)
 refine Jg [0] [] (Jf (Jd (Jv 3 #[.nilFunc] 178 (fun b1=>JT [3] [] [[Sg b1 0 [Fv 97 #[]]]] (Je (Jc (Jf (Jd (Jb [0,0,0,0] [(7,Bo (decide (((s).length:Int) ≥ 1)))] (Kr (decide (((s).length:Int) ≥ 1)) [7] [0,0,0,0] [1,1,1,0] (fun bb=>[(11,Bo (bb && (decide (((s).length:Int)≤12))))]) (Jb [0] [(12,Bo ((decide (((s).length:Int) ≥ 1)) && (decide (((s).length:Int)≤12))))] (QU [12] ((decide (((s).length:Int) ≥ 1)) && (decide (((s).length:Int)≤12))) (fun h1=>?_) (fun h1=>?_)))))))))))))
 refine Jb [0,0] [(13,Sr s),(14,Fv 99 #[Pt b1 0])] (QK (b:=b1) (o:=0) (cs:=[Fv 97 #[]]) 0 (fun G1 hl1 hz1=>Jl 15 (Bo (Jbr s (fun x0=>VS x0))) (Jj8 G1 s 99 #[Pt b1 0] (fun x0=>VS x0) (fun _ _=>by kernel_rfl) (fun x0=>JiD G1 x0 b1 hz1)) (Jb [0,0,0] [(2,Bo (!(Jbr s (fun x0=>VS x0))))] (Je (Jc (Jn (Jo [0] [Bo (!(Jbr s (fun x0=>VS x0)))] (Jx hl1 (congrArg Bo (?_:(KS s)=(!(Jbr s (fun x0=>VS x0)))).symm)))))))))
 unfold KS;(try simp_all) <;> (intros;omega)
 refine Jb [1,1,1,1,0,0] [(2,Bo false)] (Je (Jc (Jn (Jo [0] [Bo false] (Jx (Jh _) (congrArg Bo (?_:(KS s)=false).symm))))))
 unfold KS;(try simp_all) <;> (intros;omega)
theorem JiE (G:J4) (a_l:Ba) (c_l:Nat) (l:Bs) (h_l:RS ES G a_l c_l l) :Q3 204 #[Sl a_l l.length c_l] G (.tuple #[Sr ((VH l).1),I ((VH l).2)]):=by
 refine JQ Tryz.func204 34 [(0,Sl a_l l.length c_l)] rfl (fun w0 G0=>?_)
 refine Jg [0,0] [] (Jf (Jg [0,0,0] [(9,Bo (decide ((l.length:Int) > 60)))] (Jm (decide ((l.length:Int) > 60)) (fun h1=>?_) (fun h1=>?_))))
 refine Jg [0,0] [(2,Sr ([])),(3,I 2)] (Jn (Jj (Jo [0,0] [Sr ([]),I 2] (Jx (Jh _) ?_))))
 have hf_:(VH l)=([],2):=by
  unfold VH;(rw [if_pos (by omega)];done)
 · (try rw [hf_]);(simp only [Qy];done)
 refine Jq (Jc (Jf (Jd (Jl1 4 #[.pointer none,Sl none 0 0] 165 (fun b1=>Je (Jc (Jf (Jg [0,0,0] [(10,Sl a_l l.length c_l),(11,I (l.length:Int)),(12,I 0)] (Jy (ZU ?_))))))))))
 have hlm_h_l:l.length≤9223372036854775807:=Ho (h_l).le (h_l).max
 refine Qe (σ:=Nat×Value×Ba×Nat×Bg×Bb×J4) (fun q_=>(J4.le G q_.2.2.2.2.2.2)∧(q_.1≤l.length)∧(q_.2.1=.pointer none∨q_.2.1=Pt b1 0)∧(Jbn 5 q_.2.2.1 q_.2.2.2.1 q_.2.2.2.2.2.1 q_.2.2.2.2.1)∧(q_.2.2.2.2.2.1=Jgn (l.take q_.1))∧(q_.2.2.2.2.2.1.length≤600)∧(Jdj 0 l=Jdj q_.2.2.2.2.2.1.length (l.drop q_.1))) (fun q_=>[(4,Pt b1 0),(10,Sl a_l l.length c_l),(11,I (l.length:Int)),(12,I (q_.1:Int))]) (fun q_=>q_.2.2.2.2.2.2) (fun q_=>[q_.2.2.2.2.1,[Vr 165 b1 0 [q_.2.1,Sl q_.2.2.1 q_.2.2.2.2.2.1.length q_.2.2.2.1]]]) (fun q_=>l.length-q_.1) (0,.pointer none,none,0,[],[],G) ⟨(Jh _),(by (try dsimp only);exact Hn _),(.inl rfl),(Jbn.nil _),rfl,(by (try dsimp only);simp),rfl⟩ (fun q_ hs=>?_)
 obtain ⟨i,A,a,c,r,t,g⟩:=q_
 obtain ⟨hle,hi,hA,hb,ht,hl6,hk⟩:=hs
 dsimp only at hle hi hA hb ht hl6 hk
 dsimp only
 refine Jg [0] [(13,Bo (decide ((i:Int)<(l.length:Int))))] (Jf (Jm (decide ((i:Int)<(l.length:Int))) (fun h2=>?_) (fun h2=>?_)))
 refine Jq (Jc (Jf (Jy (Jf (Jd ?_)))))
 obtain ⟨b2,o1,rfl⟩:=RS.addr (h_l.mono hle) (k:=i) (by omega)
 obtain ⟨x1,hx1⟩:=QQ (l:=l) (k:=i) (by omega)
 obtain ⟨_,⟨rfl,_⟩,hc1⟩:=RS.get (h_l.mono hle) hx1
 refine JW (b:=b2) (off:=o1) (len:=l.length) (cap:=c_l) (ik:=.i64) 14 9 1 i Kd (JO 15 9 (cs:=[Sr x1]) 0 (Sr x1) hc1 (Jb [0] [(6,Sr x1)] (Je (Jc (Jf (Jf (Jd (Jb [0,0] [(17,I ((x1).length:Int))] (Jw 0 (Jw 1 (Qu (Ls:=[[Vr 165 b1 0 [A,Sl a t.length c]],r]) (Lr:=[]) 18 (JnU g b1 A a c t r hb hA) (fun v G1 L1 hl1 hp=>?_))))))))))))
 obtain ⟨rfl,rfl⟩:=hp
 refine Jb [0,0] [(20,Bo (decide (((x1).length:Int) > Hh.wrap (598-((t).length:Int)))))] ?_
 have e1:Hh.wrap (598-((t).length:Int))=598-((t).length:Int):=Hv _ (by omega)
 refine KG 20 (Bo (decide (((x1).length:Int) > 598-((t).length:Int)))) (show (Bo (decide (((x1).length:Int) > Hh.wrap (598-((t).length:Int)))):Value)=Bo (decide (((x1).length:Int) > 598-((t).length:Int))) by simp only [e1]) ?_
 clear e1
 refine Je (Jc (Jm (decide (((x1).length:Int) > 598-((t).length:Int))) (fun h3=>?_) (fun h3=>?_)))
 refine Jg [0,0] [(2,Sr ([])),(3,I 2)] (Jn (Jj (Ju (Jj (Q1 (Ju (Jj (Jo [0,0] [Sr ([]),I 2] (Jx (Ja hle hl1) ?_)))))))))
 have hf_:(VH l)=([],2):=by
  unfold VH;(rw [if_neg (by omega),hk];(rw [JnT hx1 (by omega)];rfl))
 · (try rw [hf_]);(simp only [Qy];done)
 refine Jq (Jc (Jf (Jd (Jb [0,0,0,0] [(24,Y (Hc.wrap (((x1).length:Int).fdiv (2 ^ 8))))] (Jw 1 (Jw 1 (Qu (Ls:=[[Vr 165 b1 0 [A,Sl a t.length c]],r]) (Lr:=[]) 25 (JbQ G1 b1 A a c t r hb hA (Hc.wrap (((x1).length:Int).fdiv (2 ^ 8))) (u8w _) Kd) (fun v G2 L1 hl2 hp=>?_))))))))
 obtain ⟨a1,c1,r1,rfl,hb1,rfl⟩:=hp
 refine Je (Jc (Jf (Jd (Jb [0,0,0] [(28,Y (Hc.wrap ((x1).length:Int)))] (Jw 1 (Jw 1 (Qu (Ls:=[[Vr 165 b1 0 [Pt b1 0,Sl a1 ((t++[Vb (Hc.wrap (((x1).length:Int).fdiv (2 ^ 8)))]).length) c1]],r1]) (Lr:=[]) 29 (JbQ G2 b1 (Pt b1 0) a1 c1 (t++[Vb (Hc.wrap (((x1).length:Int).fdiv (2 ^ 8)))]) r1 hb1 (.inr rfl) (Hc.wrap ((x1).length:Int)) (u8w _) (by (simp only [Hi,Hk,Hm];omega))) (fun v G3 L1 hl3 hp=>?_))))))))
 obtain ⟨a2,c2,r2,rfl,hb2,rfl⟩:=hp
 refine Je (Jc (Jd (Jb [0] [(30,Sr x1)] (Jw 1 (Jw 1 (Qu (Ls:=[[Vr 165 b1 0 [Pt b1 0,Sl a2 (((t++[Vb (Hc.wrap (((x1).length:Int).fdiv (2 ^ 8)))])++[Vb (Hc.wrap ((x1).length:Int))]).length) c2]],r2]) (Lr:=[]) 31 (Jd4 G3 b1 (Pt b1 0) a2 c2 ((t++[Vb (Hc.wrap (((x1).length:Int).fdiv (2 ^ 8)))])++[Vb (Hc.wrap ((x1).length:Int))]) r2 hb2 (.inr rfl) x1 (by (simp only [Hi,Hk,Hm];omega))) (fun v G4 L1 hl4 hp=>?_)))))))
 obtain ⟨a3,c3,r3,rfl,hb3,rfl⟩:=hp
 refine Je (JN (Jc (Jd (Jb [0,0] [(12,I (Hh.wrap ((i:Int)+1)))] (Ku 12 ((i:Int)+1) Kd (Je (Jk 0 (Jk 1 ?_))))))))
 exact QA [r3,[Vr 165 b1 0 [Pt b1 0,Sl a3 ((((t++[Vb (Hc.wrap (((x1).length:Int).fdiv (2 ^ 8)))])++[Vb (Hc.wrap ((x1).length:Int))])++x1).length) c3]]] (Ql (i+1,Pt b1 0,a3,c3,r3,((t++[Vb (Hc.wrap (((x1).length:Int).fdiv (2 ^ 8)))])++[Vb (Hc.wrap ((x1).length:Int))])++x1,G4) ⟨(Ja hle (Ja (Ja (Ja hl1 hl2) hl3) hl4)),Kd,(.inr rfl),hb3,(by rw [ht];exact Jme hx1),(by simp only [Hi,Hk,Hm];omega),(by rw [hk,Jj7 (n:=t.length) hx1 (by omega)];simp [Nat.add_assoc,Nat.add_comm,Nat.add_left_comm])⟩ (by (try dsimp only);omega))
 refine KX (J1 (Ke (JV (Jc (Jf (Jd (Jw 0 (Jw 1 (Qu (Ls:=[[Vr 165 b1 0 [A,Sl a t.length c]],r]) (Lr:=[]) 33 (JiB g b1 A a c t r hb hA) (fun v G5 L1 hl5 hp=>?_))))))))))
 obtain ⟨rfl,rfl⟩:=hp
 refine Jb [0,0] [(2,Sr t),(3,I 0)] (Je (Jc (Jn (Jo [0,0] [Sr t,I 0] (Jx (Ja hle hl5) ?_)))))
 have hf_:(VH l)=(t,0):=by
  unfold VH;(rw [if_neg (by omega),hk];(rw [Hs (by omega),ht,Hj (by omega)];rfl))
 · (try rw [hf_]);(simp only [Qy];done)
theorem JiF {α:Type} {a b:List α} {i:Nat} {x y:α} (h:a.take i=b.take i) (hx:a[i]? = some x) (hy:b[i]? = some y) (e:x=y):a.take (i+1)=b.take (i+1):=by
 rw [HB,HB,h,hx,hy,e]
theorem ne_at {α:Type} {a b:List α} {i:Nat} {x y:α} (hx:a[i]? = some x) (hy:b[i]? = some y) (e:¬ x=y):¬ a=b:=by
 intro h;rw [h,hy] at hx;exact e (HE.inj hx).symm
theorem Jj9 {α:Type} {a b:List α} {i:Nat} (hl:a.length=b.length) (hi:a.length≤i) (h:a.take i=b.take i):a=b:=by
 rwa [Hj hi,Hj (by omega)] at h
theorem JbR {x y:JU}:x=y ↔ x.epoch=y.epoch∧x.root=y.root∧x.prev=y.prev∧x.at_=y.at_:=by cases x;cases y;simp
theorem JhI {α:Type} {p:α→Bool} {l:List α} {i:Nat} (h:QR p l=(i:Int)):∃ x,l[i]? = some x∧p x=true:=by
 unfold QR at h
 cases hh:l.findIdx? p with
 | none=>rw [hh] at h;simp at h
 | some k =>
  rw [hh] at h
  have:k=i:=by simp at h;omega
  subst this
  rw [HG] at hh
  obtain ⟨h1,h2,_⟩:=hh
  exact ⟨l[k],Hp h1,h2⟩
theorem Jch (G:J4) (a_l:Ba) (c_l:Nat) (l:Bs) (h_l:RS ES G a_l c_l l) :YL 12 #[Sl a_l l.length c_l] G [] (fun u G' L'=>∃ (a1:Ba) (c2:Nat) (r3:Bg),u=Sl a1 l.length c2∧(JX ES G' a1 c2 l r3)∧L'=[r3]):=by
 refine JQ Tryz.func12 8 [(0,Sl a_l l.length c_l)] rfl (fun w0 G0=>?_)
 refine Jg [0] [] (Jf (Jf (Jd (Jb [0] [(3,Sl a_l l.length c_l)] (Ja8 4 (Bo ((a_l).isNone)) (by intro w;cases a_l <;> kernel_rfl) (Je (Jc (Jm ((a_l).isNone) (fun h1=>?_) (fun h1=>?_)))))))))
 refine Jg [0] [(2,Sl none 0 0)] (Jn (Jj (ZH (Jk 0 ?_))))
 have hf1:l=[]:=by
  exact RS.isNil h_l h1
 refine Jo [0] [Sl none 0 0] (JD [[]] (Jh _) ?_)
 rw [hf1]
 try dsimp only
 exact ⟨none,0,([]),rfl,(JX.none ES _),rfl⟩
 refine Jq (Jc (Jf (Jd (Kq 5 0 #[] 9 (fun b1=>Jb [0] [(6,Sl a_l l.length c_l)] (Jal 7 9 0 (JX.of_lit (E:=ES) (b:=b1) [] [] trivial (by simp)) h_l (fun a1 c1 r1 hr1=>Jb [0] [(2,Sl a1 l.length c1)] (Je (Jc (Jn (Jk 0 ?_)))))))))))
 have hf2:l=l:=by
  rfl
 refine Jo [0] [Sl a1 l.length c1] (JD [r1] (Jh _) ?_)
 rw [hf2]
 try dsimp only
 exact ⟨a1,c1,r1,rfl,hr1,rfl⟩
theorem seq_ES (G:J4) (a_a:Ba) (c_a:Nat) (a:Bs) (h_a:RS ES G a_a c_a a) (a_b:Ba) (c_b:Nat) (b:Bs) (h_b:RS ES G a_b c_b b) :Q3 10 #[Sl a_a a.length c_a,Sl a_b b.length c_b] G (Bo (decide (a=b))):=by
 refine JQ Tryz.func10 26 [(0,Sl a_a a.length c_a),(1,Sl a_b b.length c_b)] rfl (fun w0 G0=>?_)
 refine Jg [0] [] (Jf (Jg [0,0,0,0,0] [(10,Bo (!decide ((a.length:Int)=(b.length:Int))))] (Jm (!decide ((a.length:Int)=(b.length:Int))) (fun h1=>?_) (fun h1=>?_))))
 refine Jg [0] [(4,Bo false)] (Jn (Jj (Jo [0] [Bo false] (Jx (Jh _) (congrArg Bo (?_:(decide (a=b))=false).symm)))))
 (rw [decide_eq_false];intro hh;subst hh;exact absurd rfl h1)
 refine Jq (Jc (Jf (Jg [0,0,0] [(12,I (a.length:Int)),(13,I 0)] (Jy ?_))))
 have hlm_h_a:a.length≤9223372036854775807:=Ho (h_a).le (h_a).max
 have hlm_h_b:b.length≤9223372036854775807:=Ho (h_b).le (h_b).max
 refine Qe (σ:=Nat) (fun q_=>(q_≤a.length)∧(a.take q_=b.take q_)) (fun q_=>[(0,Sl a_a a.length c_a),(1,Sl a_b b.length c_b),(12,I (a.length:Int)),(13,I (q_:Int))]) (fun q_=>G) (fun q_=>[]) (fun q_=>a.length-q_) 0 ⟨(by (try dsimp only);exact Hn _),rfl⟩ (fun q_ hs=>?_)
 revert hs;revert q_;intro i hs
 obtain ⟨hi,he⟩:=hs
 dsimp only
 refine Jg [0] [(14,Bo (decide ((i:Int)<(a.length:Int))))] (Jf (Jm (decide ((i:Int)<(a.length:Int))) (fun h2=>?_) (fun h2=>?_)))
 refine Jq (Jc (Jf (Jy (Jg [0,0] [(5,I (i:Int))] (Jf ?_)))))
 obtain ⟨b1,o1,rfl⟩:=RS.addr h_a (k:=i) (by omega)
 obtain ⟨x1,hx1⟩:=QQ (l:=a) (k:=i) (by omega)
 obtain ⟨_,⟨rfl,_⟩,hc1⟩:=RS.get h_a hx1
 obtain ⟨b2,o2,rfl⟩:=RS.addr h_b (k:=i) (by omega)
 obtain ⟨x2,hx2⟩:=QQ (l:=b) (k:=i) (by omega)
 obtain ⟨_,⟨rfl,_⟩,hc2⟩:=RS.get h_b hx2
 refine Kv [] (Ws [(0,Sl (At b1 o1) a.length c_a),(1,I (i:Int)),(2,Pt b1 (o1+i*1)),(3,Sr x1),(4,Sl (At b2 o2) b.length c_b),(5,I (i:Int)),(6,Pt b2 (o2+i*1)),(7,Sr x2),(8,Bo (!((B x1).toList == (B x2).toList)))] (Ko [] [(0,0),(1,0),(4,0),(5,0),(8,0)] [2,3,6,7] [(0,Sl (At b1 o1) a.length c_a),(1,Sl (At b2 o2) b.length c_b),(12,I (a.length:Int)),(13,I (i:Int)),(24,Bo (!((B x1).toList == (B x2).toList)))] (Kf ?_ (Kf ?_ (Kf ?_ (Kf ?_ KY)))) ?_))
 refine Jr 2 18 (Pt b1 (o1+i*1)) [(16,Sl (At b1 o1) a.length c_a),(17,I (i:Int))] (fun X=>?_)
 exact JW (b:=b1) (off:=o1) (len:=a.length) (cap:=c_a) (ik:=.i64) 18 9 1 i Kd Jp
 refine Jr 3 19 (Sr x1) [(18,Pt b1 (o1+i*1))] (fun X=>?_)
 exact JO 19 9 (cs:=[Sr x1]) 0 (Sr x1) hc1 Jp
 refine Jr 6 22 (Pt b2 (o2+i*1)) [(20,Sl (At b2 o2) b.length c_b),(21,I (i:Int))] (fun X=>?_)
 exact JW (b:=b2) (off:=o2) (len:=b.length) (cap:=c_b) (ik:=.i64) 22 9 1 i Kd Jp
 refine Jr 7 23 (Sr x2) [(22,Pt b2 (o2+i*1))] (fun X=>?_)
 exact JO 23 9 (cs:=[Sr x2]) 0 (Sr x2) hc2 Jp
 refine JdR 24 (Bo (!(x1 == x2))) (show (Bo (!((B x1).toList == (B x2).toList)):Value)=Bo (!(x1 == x2)) by simp only [QY]) (Jc (Jm (!(x1 == x2)) (fun h3=>?_) (fun h3=>?_)))
 refine Jg [0] [(4,Bo false)] (Jn (Ju (Jj (Q1 (Ju (Jj (Jo [0] [Bo false] (Jx (Jh _) (congrArg Bo (?_:(decide (a=b))=false).symm)))))))))
 (rw [decide_eq_false];exact ne_at hx1 hx2 ‹_›)
 exact Jq (JN (Jc (Jd (Jb [0,0] [(13,I (Hh.wrap ((i:Int)+1)))] (Ku 13 ((i:Int)+1) Kd (Je (Ql (i+1) ⟨Kd,(JiF he hx1 hx2 ‹_›)⟩ (by (try dsimp only);omega))))))))
 refine KX (J1 (Ke (JV (Jc (Jg [0] [(4,Bo true)] (Jn (Jo [0] [Bo true] (Jx (Jh _) (congrArg Bo (?_:(decide (a=b))=true).symm)))))))))
 (rw [decide_eq_true];exact Jj9 (by omega) (by omega) he)
theorem JnV (G:J4) (a_l:Ba) (c_l:Nat) (l:Bs) (h_l:RS ES G a_l c_l l) (k_f:FuncId) (caps_f:Array Value) (p_f:Bb→Bool) (hk_f:Jbb Tryz.prog k_f) (h_f:∀ (x0:Bb) (hx0:(x0).length≤140737488351232),VG Tryz.prog k_f (#[Sr x0]++caps_f) G [] (fun u _ _=>u=Bo (p_f x0))) :Q3 119 #[Sl a_l l.length c_l,Fv k_f caps_f] G (I (QR p_f l)):=by
 refine JQ Tryz.func119 19 [(0,Sl a_l l.length c_l),(1,Fv k_f caps_f)] rfl (fun w0 G0=>?_)
 refine Jg [0] [] (Jf (Jg [0,0,0] [(7,I (l.length:Int)),(8,I 0)] (Jy ?_)))
 have hlm_h_l:l.length≤9223372036854775807:=Ho (h_l).le (h_l).max
 refine Qe (σ:=Nat) (fun q_=>(q_≤l.length)∧((l.take q_).any p_f=false)) (fun q_=>[(0,Sl a_l l.length c_l),(1,Fv k_f caps_f),(7,I (l.length:Int)),(8,I (q_:Int))]) (fun q_=>G) (fun q_=>[]) (fun q_=>l.length-q_) 0 ⟨(by (try dsimp only);exact Hn _),(by (try dsimp only);simp)⟩ (fun q_ hs=>?_)
 revert hs;revert q_;intro i hs
 obtain ⟨hi,hn⟩:=hs
 dsimp only
 refine Jg [0] [(9,Bo (decide ((i:Int)<(l.length:Int))))] (Jf (Jm (decide ((i:Int)<(l.length:Int))) (fun h1=>?_) (fun h1=>?_)))
 refine Jq (Jc (Jf (Jy (Jg [0,0] [(5,I (i:Int))] (Jf (Jd (Jb [0,0,0] [(11,Fv k_f caps_f),(12,Sl a_l l.length c_l),(13,I (i:Int))] ?_)))))))
 obtain ⟨b1,o1,rfl⟩:=RS.addr h_l (k:=i) (by omega)
 obtain ⟨x1,hx1⟩:=QQ (l:=l) (k:=i) (by omega)
 obtain ⟨_,⟨rfl,w1⟩,hc1⟩:=RS.get h_l hx1
 refine JW (b:=b1) (off:=o1) (len:=l.length) (cap:=c_l) (ik:=.i64) 14 9 1 i Kd (JO 15 9 (cs:=[Sr x1]) 0 (Sr x1) hc1 (Z3 (k:=k_f) (caps:=caps_f) (args:=#[Sr x1]) 16 (Bo (p_f x1)) hk_f (h_f x1 w1) (Je (Jc (Jm (p_f x1) (fun h2=>?_) (fun h2=>?_))))))
 refine Jg [0,0] [(4,I (i:Int))] (Jn (Ju (Jj (Q1 (Ju (Jj (Jo [0] [I (i:Int)] (Jx (Jh _) (congrArg I (?_:(QR p_f l)=(i:Int)).symm)))))))))
 exact VN hx1 (by simpa using h2) hn
 exact Jq (JN (Jc (Jd (Jb [0,0] [(8,I (Hh.wrap ((i:Int)+1)))] (Ku 8 ((i:Int)+1) Kd (Je (Ql (i+1) ⟨Kd,(Jaw hx1 (by simpa using h2) hn)⟩ (by (try dsimp only);omega))))))))
 refine KX (J1 (Ke (JV (Jc (Jg [0] [(4,I (-1))] (Jn (Jo [0] [I (-1)] (Jx (Jh _) (congrArg I (?_:(QR p_f l)=(-1)).symm)))))))))
 exact Vn (by rw [Hj (by omega)] at hn;exact hn)
theorem Jps (G:J4) (a_l:Ba) (c_l:Nat) (l:Bs) (h_l:RS ES G a_l c_l l) (k_f:FuncId) (caps_f:Array Value) (p_f:Bb→Bool) (hk_f:Jbb Tryz.prog k_f) (h_f:∀ (x0:Bb) (hx0:(x0).length≤140737488351232),VG Tryz.prog k_f (#[Sr x0]++caps_f) G [] (fun u _ _=>u=Bo (p_f x0))) :Q3 69 #[Sl a_l l.length c_l,Fv k_f caps_f] G (Bo (l.any p_f)):=by
 refine JQ Tryz.func69 9 [(0,Sl a_l l.length c_l),(1,Fv k_f caps_f)] rfl (fun w0 G0=>?_)
 refine Jg [0] [] (Jf (Jd (Jb [0,0] [(5,Sl a_l l.length c_l),(6,Fv k_f caps_f)] (Jl 7 (I (QR p_f l)) (JnV G a_l c_l l h_l k_f caps_f p_f hk_f h_f) (Jb [0,0] [(4,Bo (decide (QR p_f l ≥ 0)))] (Je (Jc (Jn (Jo [0] [Bo (decide (QR p_f l ≥ 0))] (Jx (Jh _) (congrArg Bo (?_:(l.any p_f)=(decide (QR p_f l ≥ 0))).symm)))))))))))
 rw [Jax]
theorem Jlg (G:J4) (a_l:Ba) (c_l:Nat) (l:Bs) (h_l:RS ES G a_l c_l l) (v:Bb) :Q3 37 #[Sl a_l l.length c_l,Sr v] G (I (QR (fun x=>decide (v=x)) l)):=by
 refine JQ Tryz.func37 19 [(0,Sl a_l l.length c_l),(1,Sr v)] rfl (fun w0 G0=>?_)
 refine Jg [0] [] (Jf (Jg [0,0,0] [(7,I (l.length:Int)),(8,I 0)] (Jy ?_)))
 have hlm_h_l:l.length≤9223372036854775807:=Ho (h_l).le (h_l).max
 refine Qe (σ:=Nat) (fun q_=>(q_≤l.length)∧((l.take q_).any (fun x=>decide (v=x))=false)) (fun q_=>[(0,Sl a_l l.length c_l),(1,Sr v),(7,I (l.length:Int)),(8,I (q_:Int))]) (fun q_=>G) (fun q_=>[]) (fun q_=>l.length-q_) 0 ⟨(by (try dsimp only);exact Hn _),(by (try dsimp only);simp)⟩ (fun q_ hs=>?_)
 revert hs;revert q_;intro i hs
 obtain ⟨hi,hn⟩:=hs
 dsimp only
 refine Jg [0] [(9,Bo (decide ((i:Int)<(l.length:Int))))] (Jf (Jm (decide ((i:Int)<(l.length:Int))) (fun h1=>?_) (fun h1=>?_)))
 refine Jq (Jc (Jf (Jy (Jg [0,0] [(5,I (i:Int))] (Jf (Jd (Jb [0,0,0] [(11,Sr v),(12,Sl a_l l.length c_l),(13,I (i:Int))] ?_)))))))
 obtain ⟨b1,o1,rfl⟩:=RS.addr h_l (k:=i) (by omega)
 obtain ⟨x1,hx1⟩:=QQ (l:=l) (k:=i) (by omega)
 obtain ⟨_,⟨rfl,_⟩,hc1⟩:=RS.get h_l hx1
 refine JW (b:=b1) (off:=o1) (len:=l.length) (cap:=c_l) (ik:=.i64) 14 9 1 i Kd (JO 15 9 (cs:=[Sr x1]) 0 (Sr x1) hc1 (Jb [0] [(16,Bo ((B v).toList == (B x1).toList))] (KG 16 (Bo (v == x1)) (show (Bo ((B v).toList == (B x1).toList):Value)=Bo (v == x1) by simp only [QY]) (Je (Jc (Jm (v == x1) (fun h2=>?_) (fun h2=>?_)))))))
 refine Jg [0,0] [(4,I (i:Int))] (Jn (Ju (Jj (Q1 (Ju (Jj (Jo [0] [I (i:Int)] (Jx (Jh _) (congrArg I (?_:(QR (fun x=>decide (v=x)) l)=(i:Int)).symm)))))))))
 exact VN hx1 (decide_eq_true (by simpa using h2)) hn
 exact Jq (JN (Jc (Jd (Jb [0,0] [(8,I (Hh.wrap ((i:Int)+1)))] (Ku 8 ((i:Int)+1) Kd (Je (Ql (i+1) ⟨Kd,(Jaw hx1 (decide_eq_false (by simpa using h2)) hn)⟩ (by (try dsimp only);omega))))))))
 refine KX (J1 (Ke (JV (Jc (Jg [0] [(4,I (-1))] (Jn (Jo [0] [I (-1)] (Jx (Jh _) (congrArg I (?_:(QR (fun x=>decide (v=x)) l)=(-1)).symm)))))))))
 exact Vn (by rw [Hj (by omega)] at hn;exact hn)
theorem Jpt (G:J4) (a_l:Ba) (c_l:Nat) (l:Bs) (h_l:RS ES G a_l c_l l) (v:Bb) :Q3 22 #[Sl a_l l.length c_l,Sr v] G (Bo (l.any (fun x=>decide (v=x)))):=by
 refine JQ Tryz.func22 9 [(0,Sl a_l l.length c_l),(1,Sr v)] rfl (fun w0 G0=>?_)
 refine Jg [0] [] (Jf (Jd (Jb [0,0] [(5,Sl a_l l.length c_l),(6,Sr v)] (Jl 7 (I (QR (fun x=>decide (v=x)) l)) (Jlg G a_l c_l l h_l v) (Jb [0,0] [(4,Bo (decide (QR (fun x=>decide (v=x)) l ≥ 0)))] (Je (Jc (Jn (Jo [0] [Bo (decide (QR (fun x=>decide (v=x)) l ≥ 0))] (Jx (Jh _) (congrArg Bo (?_:(l.any (fun x=>decide (v=x)))=(decide (QR (fun x=>decide (v=x)) l ≥ 0))).symm)))))))))))
 rw [Jax]
theorem Jmg (G:J4) (a_l:Ba) (c_l:Nat) (l:List Int) (h_l:RS EI G a_l c_l l) :YL 61 #[Sl a_l l.length c_l] G [] (fun u G' L'=>∃ (a1:Ba) (c2:Nat) (r3:Bg),u=Sl a1 l.length c2∧(JX EI G' a1 c2 l r3)∧L'=[r3]):=by
 refine JQ Tryz.func61 8 [(0,Sl a_l l.length c_l)] rfl (fun w0 G0=>?_)
 refine Jg [0] [] (Jf (Jf (Jd (Jb [0] [(3,Sl a_l l.length c_l)] (Ja8 4 (Bo ((a_l).isNone)) (by intro w;cases a_l <;> kernel_rfl) (Je (Jc (Jm ((a_l).isNone) (fun h1=>?_) (fun h1=>?_)))))))))
 refine Jg [0] [(2,Sl none 0 0)] (Jn (Jj (ZH (Jk 0 ?_))))
 have hf1:l=[]:=by
  exact RS.isNil h_l h1
 refine Jo [0] [Sl none 0 0] (JD [[]] (Jh _) ?_)
 rw [hf1]
 try dsimp only
 exact ⟨none,0,([]),rfl,(JX.none EI _),rfl⟩
 refine Jq (Jc (Jf (Jd (Kq 5 0 #[] 3 (fun b1=>Jb [0] [(6,Sl a_l l.length c_l)] (Jal 7 3 0 (JX.of_lit (E:=EI) (b:=b1) [] [] trivial (by simp)) h_l (fun a1 c1 r1 hr1=>Jb [0] [(2,Sl a1 l.length c1)] (Je (Jc (Jn (Jk 0 ?_)))))))))))
 have hf2:l=l:=by
  rfl
 refine Jo [0] [Sl a1 l.length c1] (JD [r1] (Jh _) ?_)
 rw [hf2]
 try dsimp only
 exact ⟨a1,c1,r1,rfl,hr1,rfl⟩
theorem JnW (G:J4) (a_l:Ba) (c_l:Nat) (l:List Int) (h_l:RS EI G a_l c_l l) (k_f:FuncId) (caps_f:Array Value) (p_f:Int→Bool) (hk_f:Jbb Tryz.prog k_f) (h_f:∀ (x0:Int) (hx0:rI x0),VG Tryz.prog k_f (#[I x0]++caps_f) G [] (fun u _ _=>u=Bo (p_f x0))) :Q3 160 #[Sl a_l l.length c_l,Fv k_f caps_f] G (I (QR p_f l)):=by
 refine JQ Tryz.func160 19 [(0,Sl a_l l.length c_l),(1,Fv k_f caps_f)] rfl (fun w0 G0=>?_)
 refine Jg [0] [] (Jf (Jg [0,0,0] [(7,I (l.length:Int)),(8,I 0)] (Jy ?_)))
 have hlm_h_l:l.length≤9223372036854775807:=Ho (h_l).le (h_l).max
 refine Qe (σ:=Nat) (fun q_=>(q_≤l.length)∧((l.take q_).any p_f=false)) (fun q_=>[(0,Sl a_l l.length c_l),(1,Fv k_f caps_f),(7,I (l.length:Int)),(8,I (q_:Int))]) (fun q_=>G) (fun q_=>[]) (fun q_=>l.length-q_) 0 ⟨(by (try dsimp only);exact Hn _),(by (try dsimp only);simp)⟩ (fun q_ hs=>?_)
 revert hs;revert q_;intro i hs
 obtain ⟨hi,hn⟩:=hs
 dsimp only
 refine Jg [0] [(9,Bo (decide ((i:Int)<(l.length:Int))))] (Jf (Jm (decide ((i:Int)<(l.length:Int))) (fun h1=>?_) (fun h1=>?_)))
 refine Jq (Jc (Jf (Jy (Jg [0,0] [(5,I (i:Int))] (Jf (Jd (Jb [0,0,0] [(11,Fv k_f caps_f),(12,Sl a_l l.length c_l),(13,I (i:Int))] ?_)))))))
 obtain ⟨b1,o1,rfl⟩:=RS.addr h_l (k:=i) (by omega)
 obtain ⟨x1,hx1⟩:=QQ (l:=l) (k:=i) (by omega)
 obtain ⟨_,⟨rfl,w1⟩,hc1⟩:=RS.get h_l hx1
 refine JW (b:=b1) (off:=o1) (len:=l.length) (cap:=c_l) (ik:=.i64) 14 3 1 i Kd (JO 15 3 (cs:=[I x1]) 0 (I x1) hc1 (Z3 (k:=k_f) (caps:=caps_f) (args:=#[I x1]) 16 (Bo (p_f x1)) hk_f (h_f x1 w1) (Je (Jc (Jm (p_f x1) (fun h2=>?_) (fun h2=>?_))))))
 refine Jg [0,0] [(4,I (i:Int))] (Jn (Ju (Jj (Q1 (Ju (Jj (Jo [0] [I (i:Int)] (Jx (Jh _) (congrArg I (?_:(QR p_f l)=(i:Int)).symm)))))))))
 exact VN hx1 (by simpa using h2) hn
 exact Jq (JN (Jc (Jd (Jb [0,0] [(8,I (Hh.wrap ((i:Int)+1)))] (Ku 8 ((i:Int)+1) Kd (Je (Ql (i+1) ⟨Kd,(Jaw hx1 (by simpa using h2) hn)⟩ (by (try dsimp only);omega))))))))
 refine KX (J1 (Ke (JV (Jc (Jg [0] [(4,I (-1))] (Jn (Jo [0] [I (-1)] (Jx (Jh _) (congrArg I (?_:(QR p_f l)=(-1)).symm)))))))))
 exact Vn (by rw [Hj (by omega)] at hn;exact hn)
theorem Jpu (G:J4) (a_l:Ba) (c_l:Nat) (l:List Int) (h_l:RS EI G a_l c_l l) (k_f:FuncId) (caps_f:Array Value) (p_f:Int→Bool) (hk_f:Jbb Tryz.prog k_f) (h_f:∀ (x0:Int) (hx0:rI x0),VG Tryz.prog k_f (#[I x0]++caps_f) G [] (fun u _ _=>u=Bo (p_f x0))) :Q3 106 #[Sl a_l l.length c_l,Fv k_f caps_f] G (Bo (l.any p_f)):=by
 refine JQ Tryz.func106 9 [(0,Sl a_l l.length c_l),(1,Fv k_f caps_f)] rfl (fun w0 G0=>?_)
 refine Jg [0] [] (Jf (Jd (Jb [0,0] [(5,Sl a_l l.length c_l),(6,Fv k_f caps_f)] (Jl 7 (I (QR p_f l)) (JnW G a_l c_l l h_l k_f caps_f p_f hk_f h_f) (Jb [0,0] [(4,Bo (decide (QR p_f l ≥ 0)))] (Je (Jc (Jn (Jo [0] [Bo (decide (QR p_f l ≥ 0))] (Jx (Jh _) (congrArg Bo (?_:(l.any p_f)=(decide (QR p_f l ≥ 0))).symm)))))))))))
 rw [Jax]
theorem Vz (G:J4) (a_l:Ba) (c_l:Nat) (l:List JU) (h_l:RS KN G a_l c_l l) :YL 161 #[Sl a_l l.length c_l] G [] (fun u G' L'=>∃ (a1:Ba) (c2:Nat) (r3:Bg),u=Sl a1 l.length c2∧(JX KN G' a1 c2 l r3)∧L'=[r3]):=by
 refine JQ Tryz.func161 8 [(0,Sl a_l l.length c_l)] rfl (fun w0 G0=>?_)
 refine Jg [0] [] (Jf (Jf (Jd (Jb [0] [(3,Sl a_l l.length c_l)] (Ja8 4 (Bo ((a_l).isNone)) (by intro w;cases a_l <;> kernel_rfl) (Je (Jc (Jm ((a_l).isNone) (fun h1=>?_) (fun h1=>?_)))))))))
 refine Jg [0] [(2,Sl none 0 0)] (Jn (Jj (ZH (Jk 0 ?_))))
 have hf1:l=[]:=by
  exact RS.isNil h_l h1
 refine Jo [0] [Sl none 0 0] (JD [[]] (Jh _) ?_)
 rw [hf1]
 try dsimp only
 exact ⟨none,0,([]),rfl,(JX.none KN _),rfl⟩
 refine Jq (Jc (Jf (Jd (Kq 5 0 #[] 43 (fun b1=>Jb [0] [(6,Sl a_l l.length c_l)] (Jal 7 43 0 (JX.of_lit (E:=KN) (b:=b1) [] [] trivial (by simp)) h_l (fun a1 c1 r1 hr1=>Jb [0] [(2,Sl a1 l.length c1)] (Je (Jc (Jn (Jk 0 ?_)))))))))))
 have hf2:l=l:=by
  rfl
 refine Jo [0] [Sl a1 l.length c1] (JD [r1] (Jh _) ?_)
 rw [hf2]
 try dsimp only
 exact ⟨a1,c1,r1,rfl,hr1,rfl⟩
theorem JiG (G:J4) (a_l:Ba) (c_l:Nat) (l:List JU) (h_l:RS KN G a_l c_l l) (k_f:FuncId) (caps_f:Array Value) (p_f:JU→Bool) (hk_f:Jbb Tryz.prog k_f) (h_f:∀ (vs0:Bv) (x0:JU) (hx0:KN.R G vs0 x0),VG Tryz.prog k_f (#[.agg vs0.toArray]++caps_f) G [] (fun u _ _=>u=Bo (p_f x0))) :Q3 176 #[Sl a_l l.length c_l,Fv k_f caps_f] G (I (QR p_f l)):=by
 refine JQ Tryz.func176 19 [(0,Sl a_l l.length c_l),(1,Fv k_f caps_f)] rfl (fun w0 G0=>?_)
 refine Jg [0] [] (Jf (Jg [0,0,0] [(7,I (l.length:Int)),(8,I 0)] (Jy ?_)))
 have hlm_h_l:l.length≤9223372036854775807:=Ho (h_l).le (h_l).max
 refine Qe (σ:=Nat) (fun q_=>(q_≤l.length)∧((l.take q_).any p_f=false)) (fun q_=>[(0,Sl a_l l.length c_l),(1,Fv k_f caps_f),(7,I (l.length:Int)),(8,I (q_:Int))]) (fun q_=>G) (fun q_=>[]) (fun q_=>l.length-q_) 0 ⟨(by (try dsimp only);exact Hn _),(by (try dsimp only);simp)⟩ (fun q_ hs=>?_)
 revert hs;revert q_;intro i hs
 obtain ⟨hi,hn⟩:=hs
 dsimp only
 refine Jg [0] [(9,Bo (decide ((i:Int)<(l.length:Int))))] (Jf (Jm (decide ((i:Int)<(l.length:Int))) (fun h1=>?_) (fun h1=>?_)))
 refine Jq (Jc (Jf (Jy (Jg [0,0] [(5,I (i:Int))] (Jf (Jd (Jb [0,0,0] [(11,Fv k_f caps_f),(12,Sl a_l l.length c_l),(13,I (i:Int))] ?_)))))))
 obtain ⟨b1,o1,rfl⟩:=RS.addr h_l (k:=i) (by omega)
 obtain ⟨x1,hx1⟩:=QQ (l:=l) (k:=i) (by omega)
 obtain ⟨_,⟨rfl,w1,w2,w3,w4⟩,hc1⟩:=RS.get h_l hx1
 refine JW (b:=b1) (off:=o1) (len:=l.length) (cap:=c_l) (ik:=.i64) 14 43 4 i Kd (JO 15 43 (cs:=[I x1.epoch,U x1.root,U x1.prev,I x1.at_]) 0 (.agg #[I x1.epoch,U x1.root,U x1.prev,I x1.at_]) hc1 (Z3 (k:=k_f) (caps:=caps_f) (args:=#[.agg #[I x1.epoch,U x1.root,U x1.prev,I x1.at_]]) 16 (Bo (p_f x1)) hk_f (h_f [I x1.epoch,U x1.root,U x1.prev,I x1.at_] x1 (⟨rfl,w1,w2,w3,w4⟩)) (Je (Jc (Jm (p_f x1) (fun h2=>?_) (fun h2=>?_))))))
 refine Jg [0,0] [(4,I (i:Int))] (Jn (Ju (Jj (Q1 (Ju (Jj (Jo [0] [I (i:Int)] (Jx (Jh _) (congrArg I (?_:(QR p_f l)=(i:Int)).symm)))))))))
 exact VN hx1 (by simpa using h2) hn
 exact Jq (JN (Jc (Jd (Jb [0,0] [(8,I (Hh.wrap ((i:Int)+1)))] (Ku 8 ((i:Int)+1) Kd (Je (Ql (i+1) ⟨Kd,(Jaw hx1 (by simpa using h2) hn)⟩ (by (try dsimp only);omega))))))))
 refine KX (J1 (Ke (JV (Jc (Jg [0] [(4,I (-1))] (Jn (Jo [0] [I (-1)] (Jx (Jh _) (congrArg I (?_:(QR p_f l)=(-1)).symm)))))))))
 exact Vn (by rw [Hj (by omega)] at hn;exact hn)
theorem JfD (G:J4) (a_l:Ba) (c_l:Nat) (l:List JU) (h_l:RS KN G a_l c_l l) (k_f:FuncId) (caps_f:Array Value) (p_f:JU→Bool) (hk_f:Jbb Tryz.prog k_f) (h_f:∀ (vs0:Bv) (x0:JU) (hx0:KN.R G vs0 x0),VG Tryz.prog k_f (#[.agg vs0.toArray]++caps_f) G [] (fun u _ _=>u=Bo (p_f x0))) :Q3 122 #[Sl a_l l.length c_l,Fv k_f caps_f] G (Bo (l.any p_f)):=by
 refine JQ Tryz.func122 9 [(0,Sl a_l l.length c_l),(1,Fv k_f caps_f)] rfl (fun w0 G0=>?_)
 refine Jg [0] [] (Jf (Jd (Jb [0,0] [(5,Sl a_l l.length c_l),(6,Fv k_f caps_f)] (Jl 7 (I (QR p_f l)) (JiG G a_l c_l l h_l k_f caps_f p_f hk_f h_f) (Jb [0,0] [(4,Bo (decide (QR p_f l ≥ 0)))] (Je (Jc (Jn (Jo [0] [Bo (decide (QR p_f l ≥ 0))] (Jx (Jh _) (congrArg Bo (?_:(l.any p_f)=(decide (QR p_f l ≥ 0))).symm)))))))))))
 rw [Jax]
theorem Jd5 (G:J4) (a_l:Ba) (c_l:Nat) (l:List Int) (h_l:RS EU G a_l c_l l) :YL 137 #[Sl a_l l.length c_l] G [] (fun u G' L'=>∃ (a1:Ba) (c2:Nat) (r3:Bg),u=Sl a1 l.length c2∧(JX EU G' a1 c2 l r3)∧L'=[r3]):=by
 refine JQ Tryz.func137 8 [(0,Sl a_l l.length c_l)] rfl (fun w0 G0=>?_)
 refine Jg [0] [] (Jf (Jf (Jd (Jb [0] [(3,Sl a_l l.length c_l)] (Ja8 4 (Bo ((a_l).isNone)) (by intro w;cases a_l <;> kernel_rfl) (Je (Jc (Jm ((a_l).isNone) (fun h1=>?_) (fun h1=>?_)))))))))
 refine Jg [0] [(2,Sl none 0 0)] (Jn (Jj (ZH (Jk 0 ?_))))
 have hf1:l=[]:=by
  exact RS.isNil h_l h1
 refine Jo [0] [Sl none 0 0] (JD [[]] (Jh _) ?_)
 rw [hf1]
 try dsimp only
 exact ⟨none,0,([]),rfl,(JX.none EU _),rfl⟩
 refine Jq (Jc (Jf (Jd (Kq 5 0 #[] 41 (fun b1=>Jb [0] [(6,Sl a_l l.length c_l)] (Jal 7 41 0 (JX.of_lit (E:=EU) (b:=b1) [] [] trivial (by simp)) h_l (fun a1 c1 r1 hr1=>Jb [0] [(2,Sl a1 l.length c1)] (Je (Jc (Jn (Jk 0 ?_)))))))))))
 have hf2:l=l:=by
  rfl
 refine Jo [0] [Sl a1 l.length c1] (JD [r1] (Jh _) ?_)
 rw [hf2]
 try dsimp only
 exact ⟨a1,c1,r1,rfl,hr1,rfl⟩
theorem JnX (G:J4) (a_l:Ba) (c_l:Nat) (l:List Int) (h_l:RS EU G a_l c_l l) (k_f:FuncId) (caps_f:Array Value) (p_f:Int→Bool) (hk_f:Jbb Tryz.prog k_f) (h_f:∀ (x0:Int) (hx0:rU x0),VG Tryz.prog k_f (#[U x0]++caps_f) G [] (fun u _ _=>u=Bo (p_f x0))) :Q3 220 #[Sl a_l l.length c_l,Fv k_f caps_f] G (I (QR p_f l)):=by
 refine JQ Tryz.func220 19 [(0,Sl a_l l.length c_l),(1,Fv k_f caps_f)] rfl (fun w0 G0=>?_)
 refine Jg [0] [] (Jf (Jg [0,0,0] [(7,I (l.length:Int)),(8,I 0)] (Jy ?_)))
 have hlm_h_l:l.length≤9223372036854775807:=Ho (h_l).le (h_l).max
 refine Qe (σ:=Nat) (fun q_=>(q_≤l.length)∧((l.take q_).any p_f=false)) (fun q_=>[(0,Sl a_l l.length c_l),(1,Fv k_f caps_f),(7,I (l.length:Int)),(8,I (q_:Int))]) (fun q_=>G) (fun q_=>[]) (fun q_=>l.length-q_) 0 ⟨(by (try dsimp only);exact Hn _),(by (try dsimp only);simp)⟩ (fun q_ hs=>?_)
 revert hs;revert q_;intro i hs
 obtain ⟨hi,hn⟩:=hs
 dsimp only
 refine Jg [0] [(9,Bo (decide ((i:Int)<(l.length:Int))))] (Jf (Jm (decide ((i:Int)<(l.length:Int))) (fun h1=>?_) (fun h1=>?_)))
 refine Jq (Jc (Jf (Jy (Jg [0,0] [(5,I (i:Int))] (Jf (Jd (Jb [0,0,0] [(11,Fv k_f caps_f),(12,Sl a_l l.length c_l),(13,I (i:Int))] ?_)))))))
 obtain ⟨b1,o1,rfl⟩:=RS.addr h_l (k:=i) (by omega)
 obtain ⟨x1,hx1⟩:=QQ (l:=l) (k:=i) (by omega)
 obtain ⟨_,⟨rfl,w1⟩,hc1⟩:=RS.get h_l hx1
 refine JW (b:=b1) (off:=o1) (len:=l.length) (cap:=c_l) (ik:=.i64) 14 41 1 i Kd (JO 15 41 (cs:=[U x1]) 0 (U x1) hc1 (Z3 (k:=k_f) (caps:=caps_f) (args:=#[U x1]) 16 (Bo (p_f x1)) hk_f (h_f x1 w1) (Je (Jc (Jm (p_f x1) (fun h2=>?_) (fun h2=>?_))))))
 refine Jg [0,0] [(4,I (i:Int))] (Jn (Ju (Jj (Q1 (Ju (Jj (Jo [0] [I (i:Int)] (Jx (Jh _) (congrArg I (?_:(QR p_f l)=(i:Int)).symm)))))))))
 exact VN hx1 (by simpa using h2) hn
 exact Jq (JN (Jc (Jd (Jb [0,0] [(8,I (Hh.wrap ((i:Int)+1)))] (Ku 8 ((i:Int)+1) Kd (Je (Ql (i+1) ⟨Kd,(Jaw hx1 (by simpa using h2) hn)⟩ (by (try dsimp only);omega))))))))
 refine KX (J1 (Ke (JV (Jc (Jg [0] [(4,I (-1))] (Jn (Jo [0] [I (-1)] (Jx (Jh _) (congrArg I (?_:(QR p_f l)=(-1)).symm)))))))))
 exact Vn (by rw [Hj (by omega)] at hn;exact hn)
theorem Jpv (G:J4) (a_l:Ba) (c_l:Nat) (l:List Int) (h_l:RS EU G a_l c_l l) (k_f:FuncId) (caps_f:Array Value) (p_f:Int→Bool) (hk_f:Jbb Tryz.prog k_f) (h_f:∀ (x0:Int) (hx0:rU x0),VG Tryz.prog k_f (#[U x0]++caps_f) G [] (fun u _ _=>u=Bo (p_f x0))) :Q3 179 #[Sl a_l l.length c_l,Fv k_f caps_f] G (Bo (l.any p_f)):=by
 refine JQ Tryz.func179 9 [(0,Sl a_l l.length c_l),(1,Fv k_f caps_f)] rfl (fun w0 G0=>?_)
 refine Jg [0] [] (Jf (Jd (Jb [0,0] [(5,Sl a_l l.length c_l),(6,Fv k_f caps_f)] (Jl 7 (I (QR p_f l)) (JnX G a_l c_l l h_l k_f caps_f p_f hk_f h_f) (Jb [0,0] [(4,Bo (decide (QR p_f l ≥ 0)))] (Je (Jc (Jn (Jo [0] [Bo (decide (QR p_f l ≥ 0))] (Jx (Jh _) (congrArg Bo (?_:(l.any p_f)=(decide (QR p_f l ≥ 0))).symm)))))))))))
 rw [Jax]
theorem Jgo (G:J4) (a_l:Ba) (c_l:Nat) (l:List JS) (h_l:RS Kl G a_l c_l l) (k_f:FuncId) (caps_f:Array Value) (p_f:JS→Bool) (hk_f:Jbb Tryz.prog k_f) (h_f:∀ (vs0:Bv) (x0:JS) (hx0:Kl.R G vs0 x0),VG Tryz.prog k_f (#[.agg vs0.toArray]++caps_f) G [] (fun u _ _=>u=Bo (p_f x0))) :Q3 211 #[Sl a_l l.length c_l,Fv k_f caps_f] G (I (QR p_f l)):=by
 refine JQ Tryz.func211 19 [(0,Sl a_l l.length c_l),(1,Fv k_f caps_f)] rfl (fun w0 G0=>?_)
 refine Jg [0] [] (Jf (Jg [0,0,0] [(7,I (l.length:Int)),(8,I 0)] (Jy ?_)))
 have hlm_h_l:l.length≤9223372036854775807:=Ho (h_l).le (h_l).max
 refine Qe (σ:=Nat) (fun q_=>(q_≤l.length)∧((l.take q_).any p_f=false)) (fun q_=>[(0,Sl a_l l.length c_l),(1,Fv k_f caps_f),(7,I (l.length:Int)),(8,I (q_:Int))]) (fun q_=>G) (fun q_=>[]) (fun q_=>l.length-q_) 0 ⟨(by (try dsimp only);exact Hn _),(by (try dsimp only);simp)⟩ (fun q_ hs=>?_)
 revert hs;revert q_;intro i hs
 obtain ⟨hi,hn⟩:=hs
 dsimp only
 refine Jg [0] [(9,Bo (decide ((i:Int)<(l.length:Int))))] (Jf (Jm (decide ((i:Int)<(l.length:Int))) (fun h1=>?_) (fun h1=>?_)))
 refine Jq (Jc (Jf (Jy (Jg [0,0] [(5,I (i:Int))] (Jf (Jd (Jb [0,0,0] [(11,Fv k_f caps_f),(12,Sl a_l l.length c_l),(13,I (i:Int))] ?_)))))))
 obtain ⟨b1,o1,rfl⟩:=RS.addr h_l (k:=i) (by omega)
 obtain ⟨x1,hx1⟩:=QQ (l:=l) (k:=i) (by omega)
 obtain ⟨_,⟨a1,c1,a2,c2,a3,c3,rfl,w1,w2,w3,w4,hs1,w5,w6,w7,w8,w9,hs2,hs3⟩,hc1⟩:=RS.get h_l hx1
 refine JW (b:=b1) (off:=o1) (len:=l.length) (cap:=c_l) (ik:=.i64) 14 51 12 i Kd (JO 15 51 (cs:=(Kw x1 a1 c1 a2 c2 a3 c3)) 0 (QZ x1 a1 c1 a2 c2 a3 c3) hc1 (Z3 (k:=k_f) (caps:=caps_f) (args:=#[(QZ x1 a1 c1 a2 c2 a3 c3)]) 16 (Bo (p_f x1)) hk_f (h_f (Kw x1 a1 c1 a2 c2 a3 c3) x1 (⟨a1,c1,a2,c2,a3,c3,rfl,w1,w2,w3,w4,hs1,w5,w6,w7,w8,w9,hs2,hs3⟩)) (Je (Jc (Jm (p_f x1) (fun h2=>?_) (fun h2=>?_))))))
 refine Jg [0,0] [(4,I (i:Int))] (Jn (Ju (Jj (Q1 (Ju (Jj (Jo [0] [I (i:Int)] (Jx (Jh _) (congrArg I (?_:(QR p_f l)=(i:Int)).symm)))))))))
 exact VN hx1 (by simpa using h2) hn
 exact Jq (JN (Jc (Jd (Jb [0,0] [(8,I (Hh.wrap ((i:Int)+1)))] (Ku 8 ((i:Int)+1) Kd (Je (Ql (i+1) ⟨Kd,(Jaw hx1 (by simpa using h2) hn)⟩ (by (try dsimp only);omega))))))))
 refine KX (J1 (Ke (JV (Jc (Jg [0] [(4,I (-1))] (Jn (Jo [0] [I (-1)] (Jx (Jh _) (congrArg I (?_:(QR p_f l)=(-1)).symm)))))))))
 exact Vn (by rw [Hj (by omega)] at hn;exact hn)
theorem JhJ (G:J4) (a_l:Ba) (c_l:Nat) (l:List JS) (h_l:RS Kl G a_l c_l l) (k_f:FuncId) (caps_f:Array Value) (p_f:JS→Bool) (hk_f:Jbb Tryz.prog k_f) (h_f:∀ (vs0:Bv) (x0:JS) (hx0:Kl.R G vs0 x0),VG Tryz.prog k_f (#[.agg vs0.toArray]++caps_f) G [] (fun u _ _=>u=Bo (p_f x0))) :Q3 158 #[Sl a_l l.length c_l,Fv k_f caps_f] G (Bo (l.any p_f)):=by
 refine JQ Tryz.func158 9 [(0,Sl a_l l.length c_l),(1,Fv k_f caps_f)] rfl (fun w0 G0=>?_)
 refine Jg [0] [] (Jf (Jd (Jb [0,0] [(5,Sl a_l l.length c_l),(6,Fv k_f caps_f)] (Jl 7 (I (QR p_f l)) (Jgo G a_l c_l l h_l k_f caps_f p_f hk_f h_f) (Jb [0,0] [(4,Bo (decide (QR p_f l ≥ 0)))] (Je (Jc (Jn (Jo [0] [Bo (decide (QR p_f l ≥ 0))] (Jx (Jh _) (congrArg Bo (?_:(l.any p_f)=(decide (QR p_f l ≥ 0))).symm)))))))))))
 rw [Jax]
theorem YN (G:J4) (a_l:Ba) (c_l:Nat) (l:List Kb) (h_l:RS QE G a_l c_l l) :YL 162 #[Sl a_l l.length c_l] G [] (fun u G' L'=>∃ (a1:Ba) (c2:Nat) (r3:Bg),u=Sl a1 l.length c2∧(JX QE G' a1 c2 l r3)∧L'=[r3]):=by
 refine JQ Tryz.func162 8 [(0,Sl a_l l.length c_l)] rfl (fun w0 G0=>?_)
 refine Jg [0] [] (Jf (Jf (Jd (Jb [0] [(3,Sl a_l l.length c_l)] (Ja8 4 (Bo ((a_l).isNone)) (by intro w;cases a_l <;> kernel_rfl) (Je (Jc (Jm ((a_l).isNone) (fun h1=>?_) (fun h1=>?_)))))))))
 refine Jg [0] [(2,Sl none 0 0)] (Jn (Jj (ZH (Jk 0 ?_))))
 have hf1:l=[]:=by
  exact RS.isNil h_l h1
 refine Jo [0] [Sl none 0 0] (JD [[]] (Jh _) ?_)
 rw [hf1]
 try dsimp only
 exact ⟨none,0,([]),rfl,(JX.none QE _),rfl⟩
 refine Jq (Jc (Jf (Jd (Kq 5 0 #[] 111 (fun b1=>Jb [0] [(6,Sl a_l l.length c_l)] (Jal 7 111 0 (JX.of_lit (E:=QE) (b:=b1) [] [] trivial (by simp)) h_l (fun a1 c1 r1 hr1=>Jb [0] [(2,Sl a1 l.length c1)] (Je (Jc (Jn (Jk 0 ?_)))))))))))
 have hf2:l=l:=by
  rfl
 refine Jo [0] [Sl a1 l.length c1] (JD [r1] (Jh _) ?_)
 rw [hf2]
 try dsimp only
 exact ⟨a1,c1,r1,rfl,hr1,rfl⟩
theorem JfE (G:J4) (a_l:Ba) (c_l:Nat) (l:List Kb) (h_l:RS QE G a_l c_l l) (k_f:FuncId) (caps_f:Array Value) (p_f:Kb→Bool) (hk_f:Jbb Tryz.prog k_f) (h_f:∀ (vs0:Bv) (x0:Kb) (hx0:QE.R G vs0 x0),VG Tryz.prog k_f (#[.agg vs0.toArray]++caps_f) G [] (fun u _ _=>u=Bo (p_f x0))) :Q3 219 #[Sl a_l l.length c_l,Fv k_f caps_f] G (I (QR p_f l)):=by
 refine JQ Tryz.func219 19 [(0,Sl a_l l.length c_l),(1,Fv k_f caps_f)] rfl (fun w0 G0=>?_)
 refine Jg [0] [] (Jf (Jg [0,0,0] [(7,I (l.length:Int)),(8,I 0)] (Jy ?_)))
 have hlm_h_l:l.length≤9223372036854775807:=Ho (h_l).le (h_l).max
 refine Qe (σ:=Nat) (fun q_=>(q_≤l.length)∧((l.take q_).any p_f=false)) (fun q_=>[(0,Sl a_l l.length c_l),(1,Fv k_f caps_f),(7,I (l.length:Int)),(8,I (q_:Int))]) (fun q_=>G) (fun q_=>[]) (fun q_=>l.length-q_) 0 ⟨(by (try dsimp only);exact Hn _),(by (try dsimp only);simp)⟩ (fun q_ hs=>?_)
 revert hs;revert q_;intro i hs
 obtain ⟨hi,hn⟩:=hs
 dsimp only
 refine Jg [0] [(9,Bo (decide ((i:Int)<(l.length:Int))))] (Jf (Jm (decide ((i:Int)<(l.length:Int))) (fun h1=>?_) (fun h1=>?_)))
 refine Jq (Jc (Jf (Jy (Jg [0,0] [(5,I (i:Int))] (Jf (Jd (Jb [0,0,0] [(11,Fv k_f caps_f),(12,Sl a_l l.length c_l),(13,I (i:Int))] ?_)))))))
 obtain ⟨b1,o1,rfl⟩:=RS.addr h_l (k:=i) (by omega)
 obtain ⟨x1,hx1⟩:=QQ (l:=l) (k:=i) (by omega)
 obtain ⟨_,⟨rfl,w1,w2⟩,hc1⟩:=RS.get h_l hx1
 refine JW (b:=b1) (off:=o1) (len:=l.length) (cap:=c_l) (ik:=.i64) 14 111 2 i Kd (JO 15 111 (cs:=[Sr x1.name,Sr x1.value]) 0 (.agg #[Sr x1.name,Sr x1.value]) hc1 (Z3 (k:=k_f) (caps:=caps_f) (args:=#[.agg #[Sr x1.name,Sr x1.value]]) 16 (Bo (p_f x1)) hk_f (h_f [Sr x1.name,Sr x1.value] x1 (⟨rfl,w1,w2⟩)) (Je (Jc (Jm (p_f x1) (fun h2=>?_) (fun h2=>?_))))))
 refine Jg [0,0] [(4,I (i:Int))] (Jn (Ju (Jj (Q1 (Ju (Jj (Jo [0] [I (i:Int)] (Jx (Jh _) (congrArg I (?_:(QR p_f l)=(i:Int)).symm)))))))))
 exact VN hx1 (by simpa using h2) hn
 exact Jq (JN (Jc (Jd (Jb [0,0] [(8,I (Hh.wrap ((i:Int)+1)))] (Ku 8 ((i:Int)+1) Kd (Je (Ql (i+1) ⟨Kd,(Jaw hx1 (by simpa using h2) hn)⟩ (by (try dsimp only);omega))))))))
 refine KX (J1 (Ke (JV (Jc (Jg [0] [(4,I (-1))] (Jn (Jo [0] [I (-1)] (Jx (Jh _) (congrArg I (?_:(QR p_f l)=(-1)).symm)))))))))
 exact Vn (by rw [Hj (by omega)] at hn;exact hn)
theorem Jmh (G:J4) (a_l:Ba) (c_l:Nat) (l:List Kb) (h_l:RS QE G a_l c_l l) (k_f:FuncId) (caps_f:Array Value) (p_f:Kb→Bool) (hk_f:Jbb Tryz.prog k_f) (h_f:∀ (vs0:Bv) (x0:Kb) (hx0:QE.R G vs0 x0),VG Tryz.prog k_f (#[.agg vs0.toArray]++caps_f) G [] (fun u _ _=>u=Bo (p_f x0))) :Q3 177 #[Sl a_l l.length c_l,Fv k_f caps_f] G (Bo (l.any p_f)):=by
 refine JQ Tryz.func177 9 [(0,Sl a_l l.length c_l),(1,Fv k_f caps_f)] rfl (fun w0 G0=>?_)
 refine Jg [0] [] (Jf (Jd (Jb [0,0] [(5,Sl a_l l.length c_l),(6,Fv k_f caps_f)] (Jl 7 (I (QR p_f l)) (JfE G a_l c_l l h_l k_f caps_f p_f hk_f h_f) (Jb [0,0] [(4,Bo (decide (QR p_f l ≥ 0)))] (Je (Jc (Jn (Jo [0] [Bo (decide (QR p_f l ≥ 0))] (Jx (Jh _) (congrArg Bo (?_:(l.any p_f)=(decide (QR p_f l ≥ 0))).symm)))))))))))
 rw [Jax]
theorem YO (G:J4) (a_l:Ba) (c_l:Nat) (l:List Zx) (h_l:RS Q6 G a_l c_l l) :YL 208 #[Sl a_l l.length c_l] G [] (fun u G' L'=>∃ (a1:Ba) (c2:Nat) (r3:Bg),u=Sl a1 l.length c2∧(JX Q6 G' a1 c2 l r3)∧L'=[r3]):=by
 refine JQ Tryz.func208 8 [(0,Sl a_l l.length c_l)] rfl (fun w0 G0=>?_)
 refine Jg [0] [] (Jf (Jf (Jd (Jb [0] [(3,Sl a_l l.length c_l)] (Ja8 4 (Bo ((a_l).isNone)) (by intro w;cases a_l <;> kernel_rfl) (Je (Jc (Jm ((a_l).isNone) (fun h1=>?_) (fun h1=>?_)))))))))
 refine Jg [0] [(2,Sl none 0 0)] (Jn (Jj (ZH (Jk 0 ?_))))
 have hf1:l=[]:=by
  exact RS.isNil h_l h1
 refine Jo [0] [Sl none 0 0] (JD [[]] (Jh _) ?_)
 rw [hf1]
 try dsimp only
 exact ⟨none,0,([]),rfl,(JX.none Q6 _),rfl⟩
 refine Jq (Jc (Jf (Jd (Kq 5 0 #[] 182 (fun b1=>Jb [0] [(6,Sl a_l l.length c_l)] (Jal 7 182 0 (JX.of_lit (E:=Q6) (b:=b1) [] [] trivial (by simp)) h_l (fun a1 c1 r1 hr1=>Jb [0] [(2,Sl a1 l.length c1)] (Je (Jc (Jn (Jk 0 ?_)))))))))))
 have hf2:l=l:=by
  rfl
 refine Jo [0] [Sl a1 l.length c1] (JD [r1] (Jh _) ?_)
 rw [hf2]
 try dsimp only
 exact ⟨a1,c1,r1,rfl,hr1,rfl⟩
def Wc (name value:Bb):Int:=if KS name=false then 3 else if 20<value.length then 2 else 0
def KI (a:Zx):Int:=Wc a.name a.value
theorem Jfa {a b:Int} (h:0≤a∧a≤30) (hb:1≤b∧b≤30):0≤a.tdiv b∧a.tdiv b≤30:=by
 rw [HJ h.1]
 exact ⟨Int.ediv_nonneg h.1 (by omega),Int.le_trans (Int.ediv_le_self _ h.1) h.2⟩
theorem Jlh {a b:Int} (h:0≤a∧a≤31) (hb:1≤b∧b≤1000):0≤a*b∧a*b≤31000:=by
 refine ⟨HN h.1 (by omega),?_⟩
 have h1:a*b≤31*b:=Hz h.2 (by omega)
 omega
def ZR:List Zx→Int
 | []=>0
 | a::l=>if KI a=0 then ZR l else KI a
def Km (q:Q2):Int:=if q.most<1∨30<q.most then 4 else if q.most<q.wait.length then 7 else ZR q.wait
def VA:Q2:=⟨0,[]⟩
def Yh (q:Q2) (a:Zx):Int:=if Km q ≠ 0 then Km q else if KI a ≠ 0 then KI a else if (q.wait.length:Int)=q.most then 7 else 0
def JR (q:Q2) (a:Zx):Q2×Int×Int:=if Yh q a ≠ 0 then (VA,0,Yh q a) else (⟨q.most,q.wait++[a]⟩,q.wait.length,0)
def QX (n:Int) (l:List Zx):Nat:=if (l.length:Int)<n then l.length else n.toNat
def J8 (q:Q2) (n:Int):Q2×List Zx×Int:=if Km q ≠ 0 then (VA,[],Km q) else if n<0 then (VA,[],4) else (⟨q.most,q.wait.drop (QX n q.wait)⟩,q.wait.take (QX n q.wait),0)
def Qr (ahead batch every:Int):Int×Int:=if ahead<0∨30<ahead∨batch<1∨30<batch∨every<1∨1000<every then (0,4) else ((ahead.tdiv batch+1)*every,0)
theorem JfF {l:List Zx} {i:Nat} {x:Zx} (h:l[i]? = some x) (h0:KI x=0):ZR (l.drop i)=ZR (l.drop (i+1)):=by
 obtain ⟨hi,rfl⟩:=He.1 h
 rw [Hl hi]
 show (if KI l[i]=0 then _ else _)=_
 rw [if_pos h0]
theorem JhK {l:List Zx} {i:Nat} {x:Zx} (h:l[i]? = some x) (h0:¬ KI x=0):ZR (l.drop i)=KI x:=by
 obtain ⟨hi,rfl⟩:=He.1 h
 rw [Hl hi]
 show (if KI l[i]=0 then _ else _)=_
 rw [if_neg h0]
theorem Jcx:∀ {l:List Zx},ZR l=0 ↔ ∀ a∈l,KI a=0
 | []=>by simp [ZR]
 | a::l=>by
  unfold ZR
  split
  · rename_i h;simp [Jcx (l:=l),h]
  · rename_i h;simp [h]
theorem Qf {q:Q2}:Km q=0 ↔ 1≤q.most∧q.most≤30∧(q.wait.length:Int)≤q.most∧∀ a∈q.wait,KI a=0:=by
 unfold Km
 rw [← Jcx]
 (repeat' split) <;> omega
theorem Jez {q:Q2} {a:Zx} (h:(JR q a).2.2=0):Km q=0∧KI a=0∧(q.wait.length:Int)<q.most∧JR q a=((⟨q.most,q.wait++[a]⟩:Q2),(q.wait.length:Int),(0:Int)):=by
 unfold JR at h ⊢
 split at h
 · contradiction
 ·
  rename_i h1
  rw [if_neg h1]
  unfold Yh at h1
  have:=@Qf q
  by_cases e1:Km q=0
  ·
   rw [if_neg (by omega)] at h1
   by_cases e2:KI a=0
   ·
    rw [if_neg (by omega)] at h1
    by_cases e3:(q.wait.length:Int)=q.most
    · rw [if_pos e3] at h1;omega
    · exact ⟨e1,e2,by have:=this.1 e1;omega,rfl⟩
   · rw [if_pos e2] at h1;omega
  · rw [if_pos e1] at h1;omega
theorem JfG {q:Q2} {a:Zx} (h:(JR q a).2.2=0):Km (JR q a).1=0:=by
 obtain ⟨h1,h2,h3,h4⟩:=Jez h
 rw [h4]
 rw [Qf] at h1 ⊢
 refine ⟨h1.1,h1.2.1,by simp;omega,fun b hb=>?_⟩
 rcases List.mem_append.1 hb with hb | hb
 · exact h1.2.2.2 b hb
 · rw [HI.1 hb];exact h2
theorem JhL {q:Q2} {n:Int} (h:(J8 q n).2.2=0):Km q=0∧0≤n∧J8 q n=((⟨q.most,q.wait.drop (QX n q.wait)⟩:Q2),q.wait.take (QX n q.wait),(0:Int)):=by
 unfold J8 at h ⊢
 split at h
 · contradiction
 split at h
 · cases h
 ·
  rename_i h1 h2
  rw [if_neg h1,if_neg h2]
  exact ⟨by omega,by omega,rfl⟩
theorem JeZ {q:Q2} {n:Int} (h:(J8 q n).2.2=0):Km (J8 q n).1=0:=by
 obtain ⟨h1,h2,h3⟩:=JhL h
 rw [h3]
 rw [Qf] at h1 ⊢
 exact ⟨h1.1,h1.2.1,by simp;omega,fun b hb=>h1.2.2.2 b (List.mem_of_mem_drop hb)⟩
theorem Jmi {n:Int} {l:List Zx} (h:0≤n):(if (((l.length:Nat):Int))<n then (((l.length:Nat):Int)) else n)=((QX n l:Nat):Int):=by unfold QX;split <;> omega
theorem Jd6 {n:Int} {l:List Zx}:QX n l≤l.length:=by unfold QX;split <;> omega
theorem JbS (G:J4) (vs_a:Bv) (a:Zx) (h_a:Q6.R G vs_a a) :Q3 207 #[.agg vs_a.toArray] G (I (KI a)):=by
 obtain ⟨rfl,_,_,_,_⟩:=h_a
 refine JQ Tryz.func207 13 [(0,.agg #[Sr a.name,Sr a.value,U a.n,U a.tag])] rfl (fun w0 G0=>?_)
 refine Jf (Jd (Jv 1 #[Sr a.name,Sr a.value,U a.n,U a.tag] 182 (fun b1=>Jb [0] [] (Je (Jc (Jf (Jy (Jf (Jd (Jb [0,2] [(5,Sr a.name)] (Jl 6 (Bo (KS a.name)) (ZX G a.name) (Jb [0,0] [(3,Bo (!(KS a.name)))] (Je (Jc (Jm (!(KS a.name)) (fun h1=>?_) (fun h1=>?_))))))))))))))))
 refine Jg [0] [(2,I 3)] (Jn (Ju (Jj (Jo [0] [I 3] (Jx (Jh _) (congrArg I (?_:(KI a)=3).symm))))))
 unfold KI Wc;simp_all;try omega
 refine Jg [0,2,0,0,0] [(8,Bo (decide (((a.value).length:Int) > 20)))] (Jm (decide (((a.value).length:Int) > 20)) (fun h2=>?_) (fun h2=>?_))
 refine Jg [0] [(2,I 2)] (Jn (Ju (Jj (Jo [0] [I 2] (Jx (Jh _) (congrArg I (?_:(KI a)=2).symm))))))
 unfold KI Wc;simp_all;try omega
 refine Jq (JN (Jc (Jg [0] [(2,I 0)] (Jn (Jo [0] [I 0] (Jx (Jh _) (congrArg I (?_:(KI a)=0).symm)))))))
 unfold KI Wc;simp_all;try omega
theorem Jaz (G:J4) (vs_q:Bv) (q:Q2) (h_q:Jj0.R G vs_q q) :Q3 205 #[.agg vs_q.toArray] G (I (Km q)):=by
 obtain ⟨a1,c1,rfl,_,hs1⟩:=h_q
 refine JQ Tryz.func205 35 [(0,.agg #[I q.most,Sl a1 q.wait.length c1])] rfl (fun w0 G0=>?_)
 refine Jf (Jd (Jv 1 #[I q.most,Sl a1 q.wait.length c1] 57 (fun b1=>Jb [0] [] (Je (Jc (Jf (Jy (Jf (Jd (Jb [0,2,0,0] [(10,Bo (decide (q.most<1)))] (Kr (decide (q.most<1)) [10] [1,1,1,0] [0,2,0,0] (fun bb=>[(14,Bo (bb || (decide (q.most > 30))))]) (Jb [0] [(6,Bo ((decide (q.most<1)) || (decide (q.most > 30))))] (Je (Jc (Jm ((decide (q.most<1)) || (decide (q.most > 30))) (fun h1=>?_) (fun h1=>?_))))))))))))))))
 refine Jg [0] [(2,I 4)] (Jn (Ju (Jj (Jo [0] [I 4] (Jx (Jh _) (congrArg I (?_:(Km q)=4).symm))))))
 · unfold Km;(rw [if_pos (by omega)];done)
 refine Jg [0,2,0,0,2,0,0] [(15,Bo (decide ((q.wait.length:Int) > q.most)))] (Jm (decide ((q.wait.length:Int) > q.most)) (fun h2=>?_) (fun h2=>?_))
 refine Jg [0] [(2,I 7)] (Jn (Ju (Jj (Jo [0] [I 7] (Jx (Jh _) (congrArg I (?_:(Km q)=7).symm))))))
 · unfold Km;(rw [if_neg (by omega),if_pos (by omega)];done)
 refine Jq (JN (Jc (Jf (Jg [0,2,0,0] [(23,Sl a1 q.wait.length c1),(24,I (q.wait.length:Int)),(25,I 0)] (Jy ?_)))))
 have hlm_hs1:q.wait.length≤9223372036854775807:=Ho (hs1).le (hs1).max
 refine Qe (σ:=Nat) (fun q_=>(q_≤q.wait.length)∧(ZR q.wait=ZR (q.wait.drop q_))) (fun q_=>[(23,Sl a1 q.wait.length c1),(24,I (q.wait.length:Int)),(25,I (q_:Int))]) (fun q_=>G) (fun q_=>[[Sg b1 0 [I q.most,Sl a1 q.wait.length c1]]]) (fun q_=>q.wait.length-q_) 0 ⟨(by (try dsimp only);exact Hn _),rfl⟩ (fun q_ hs=>?_)
 revert hs;revert q_;intro i hs
 obtain ⟨hi,hn⟩:=hs
 dsimp only
 refine Jg [0] [(26,Bo (decide ((i:Int)<(q.wait.length:Int))))] (Jf (Jm (decide ((i:Int)<(q.wait.length:Int))) (fun h3=>?_) (fun h3=>?_)))
 refine Jq (Jc (Jf (Jy (Jf (Jd ?_)))))
 obtain ⟨b2,o1,rfl⟩:=RS.addr hs1 (k:=i) (by omega)
 obtain ⟨x1,hx1⟩:=QQ (l:=q.wait) (k:=i) (by omega)
 obtain ⟨_,⟨rfl,w2,w3,w4,w5⟩,hc1⟩:=RS.get hs1 hx1
 refine JW (b:=b2) (off:=o1) (len:=q.wait.length) (cap:=c1) (ik:=.i64) 27 182 4 i Kd (JO 28 182 (cs:=[Sr x1.name,Sr x1.value,U x1.n,U x1.tag]) 0 (.agg #[Sr x1.name,Sr x1.value,U x1.n,U x1.tag]) hc1 (Jv 4 #[Sr ([]),Sr ([]),U 0,U 0] 182 (fun b3=>JT [3] [] [[Sg b3 0 [Sr x1.name,Sr x1.value,U x1.n,U x1.tag]],[Sg b1 0 [I q.most,Sl (At b2 o1) q.wait.length c1]]] (Je (Jc (Jf (Jd (Jb [2] [(29,.agg #[Sr x1.name,Sr x1.value,U x1.n,U x1.tag])] (Jl 30 (I (KI x1)) (JbS G [Sr x1.name,Sr x1.value,U x1.n,U x1.tag] x1 (⟨rfl,w2,w3,w4,w5⟩)) (Jb [0] [(5,I (KI x1))] (Je (Jc (Jg [0,0] [(32,Bo (!decide (KI x1=0)))] (Jm (!decide (KI x1=0)) (fun h4=>?_) (fun h4=>?_)))))))))))))))
 refine Jg [0,0] [(2,I (KI x1))] (Jn (Ju (Jj (Q1 (Ju (Jj (Jo [0] [I (KI x1)] (Jx (Jh _) (congrArg I (?_:(Km q)=(KI x1)).symm)))))))))
 unfold Km;(rw [if_neg (by omega),if_neg (by omega),hn];exact JhK hx1 h4)
 exact Jq (JN (Jc (Jd (Jb [0,0] [(25,I (Hh.wrap ((i:Int)+1)))] (Ku 25 ((i:Int)+1) Kd (Je (QA [[Sg b1 0 [I q.most,Sl (At b2 o1) q.wait.length c1]]] (Ql (i+1) ⟨Kd,(by rw [hn];exact JfF hx1 h4)⟩ (by (try dsimp only);omega)))))))))
 refine KX (J1 (Ke (JV (Jc (Jg [0] [(2,I 0)] (Jn (Jo [0] [I 0] (Jx (Jh _) (congrArg I (?_:(Km q)=0).symm)))))))))
 unfold Km;(rw [if_neg (by omega),if_neg (by omega),hn];(rw [Hs (by omega)];rfl))
set_option maxRecDepth 20000 in
theorem JhM (G:J4) (vs_q:Bv) (q:Q2) (h_q:Jj0.R G vs_q q) (vs_a:Bv) (a:Zx) (h_a:Q6.R G vs_a a) :YL 153 #[.agg vs_q.toArray,.agg vs_a.toArray] G [] (fun u G' L'=>∃ (a1:Ba) (c2:Nat),u=.tuple #[.agg #[I (((JR q a).1).most),Sl a1 ((((JR q a).1).wait).length) c2],I ((JR q a).2.1),I ((JR q a).2.2)]∧(rI (((JR q a).1).most))∧(RS Q6 G' a1 c2 (((JR q a).1).wait))∧L'=[]):=by
 obtain ⟨a1,c1,rfl,w1,hs1⟩:=h_q
 obtain ⟨rfl,w2,w3,w4,w5⟩:=h_a
 refine JQ Tryz.func153 42 [(0,.agg #[I q.most,Sl a1 q.wait.length c1]),(1,.agg #[Sr a.name,Sr a.value,U a.n,U a.tag])] rfl (fun w0 G0=>?_)
 refine Jf (Jd (Jv 2 #[I q.most,Sl a1 q.wait.length c1] 57 (fun b1=>Jv 3 #[Sr a.name,Sr a.value,U a.n,U a.tag] 182 (fun b2=>Jv 4 #[I 0,Sl none 0 0] 57 (fun b3=>Jb [0,0] [] (Je (Jc (Jf (Jd (Jb [6] [(9,.agg #[I q.most,Sl a1 q.wait.length c1])] (Jl 10 (I (Km q)) (Jaz G [I q.most,Sl a1 q.wait.length c1] q (⟨a1,c1,rfl,w1,hs1⟩)) (Jb [0] [(7,I (Km q))] (Je (Jc (Jf (Jg [0,0] [(12,Bo (decide (Km q=0)))] (Jm (decide (Km q=0)) (fun h1=>?_) (fun h1=>?_))))))))))))))))))
 refine Jd (Jb [4] [(13,.agg #[Sr a.name,Sr a.value,U a.n,U a.tag])] (Jl 14 (I (KI a)) (JbS G [Sr a.name,Sr a.value,U a.n,U a.tag] a (⟨rfl,w2,w3,w4,w5⟩)) (Jb [0] [(7,I (KI a))] (Je (Jc (Jf (Jf (Jd (Jb [0,0,0] [(17,Bo (decide (KI a=0)))] (Kr (decide (KI a=0)) [17] [0,6,0,0,6,0,0] [1,1,1,1,1,1,0] (fun bb=>[(24,Bo (bb && (decide ((q.wait.length:Int)=q.most))))]) (Je (Jc (Jm ((decide (KI a=0)) && (decide ((q.wait.length:Int)=q.most))) (fun h2=>?_) (fun h2=>?_))))))))))))))
 refine Jd (Jb [0] [(7,I 7)] (Je (Jc (Jf (Jg [0,0] [(26,Bo true)] (J0 (Jg [0,0,3,0,0] [(5,I 0),(6,I 7)] (Jn (Jj ?_)))))))))
 have hf1:JR q a=((⟨0,[]⟩:Q2),0,7):=by
  unfold JR Yh VA;simp_all;try omega
 refine Jo [0,0,0] [.agg #[I 0,Sl none 0 0],I 0,I 7] (JD [] (Jh _) ?_)
 rw [hf1]
 try dsimp only
 exact ⟨none,0,rfl,Kd,(J2 Q6 G),rfl⟩
 refine Jq (Jc (Jf (Jg [0,0] [(26,Bo (!decide (KI a=0)))] (Jm (!decide (KI a=0)) (fun h3=>?_) (fun h3=>?_)))))
 refine Jg [0,0,3,0,0] [(5,I 0),(6,I (KI a))] (Jn (Jj ?_))
 have hf2:JR q a=((⟨0,[]⟩:Q2),0,KI a):=by
  unfold JR Yh VA;simp_all;try omega
 refine Jo [0,0,0] [.agg #[I 0,Sl none 0 0],I 0,I (KI a)] (JD [] (Jh _) ?_)
 rw [hf2]
 try dsimp only
 exact ⟨none,0,rfl,Kd,(J2 Q6 G),rfl⟩
 refine Jq (Jc (Jg [0,6,0,0] [(8,I (q.wait.length:Int))] (Jf (Kv [4,6,7,10] (Ws [(0,Pt b1 0),(1,I q.most),(2,Pt b1 1),(3,Sl a1 q.wait.length c1),(5,.agg #[Sr a.name,Sr a.value,U a.n,U a.tag]),(9,I (q.wait.length:Int))] (JF [] [(0,0),(1,6),(2,0),(3,6),(5,4),(9,0)] [] [4,6] (Hg _) (Kf ?_ (Kf ?_ KY))))))))
 refine Jz 4 [(35,Sl a1 q.wait.length c1)] (fun X=>?_)
 refine JM 36 (YO G a1 c1 q.wait hs1) (fun v G1 L1 hl1 hp=>?_)
 obtain ⟨a2,c2,_,rfl,hr1,rfl⟩:=hp
 refine JA [(4,Sl a2 q.wait.length c2)] (JF [2,3] [(0,0),(1,8),(5,6),(9,0)] [] [6] (Hg _) (Kf ?_ KY))
 refine Jz 6 [(37,.agg #[Sr a.name,Sr a.value,U a.n,U a.tag])] (fun X=>?_)
 refine Kq 38 1 #[Sr a.name,Sr a.value,U a.n,U a.tag] 182 (fun b4=>JA [(6,Sl (At b4 0) 1 1)] (JF [2,3,5] [(0,0),(1,10),(9,0)] [] [7] (Hg _) (Kf ?_ KY)))
 refine Jz 7 [(36,Sl a2 q.wait.length c2),(38,Sl (At b4 0) 1 1)] (fun X=>?_)
 refine Qm (b:=b4) (cs:=[Sr a.name,Sr a.value,U a.n,U a.tag]) 39 182 1 0 (E:=Q6) a hr1 ⟨rfl,w2,w3,w4,w5⟩ (by have hq_:=Qf.1 ‹_›;(try simp only [Q6,Hi,Hk,Hm]);omega) (by have hq_:=Qf.1 ‹_›;(try simp only [Q6,Hi,Hk,Hm]);omega) (fun a3 c3 r2 hr2=>JA [(7,Sl a3 ((q.wait++[a]).length) c3),(8,.agg #[I q.most,Sl a3 ((q.wait++[a]).length) c3])] (JF [2,3,5] [(0,0),(1,10),(8,0),(9,0)] [] [10] (Hg _) (Kf ?_ KY)))
 refine Jz 10 [(4,Pt b3 0),(40,.agg #[I q.most,Sl a3 ((q.wait++[a]).length) c3])] (fun X=>?_)
 refine KA 2 [[Sg b4 0 [Sr a.name,Sr a.value,U a.n,U a.tag]],r2,[Sg b3 0 [I q.most,Sl a3 ((q.wait++[a]).length) c3]],[Sg b2 0 [Sr a.name,Sr a.value,U a.n,U a.tag]],[Sg b1 0 [I q.most,Sl a1 q.wait.length c1]]] (J5 [(11,I (q.wait.length:Int)),(12,I 0)] (Ko [0,1,2,3,5,8] [(9,0),(11,0),(12,0)] [] [(4,Pt b3 0),(5,I (q.wait.length:Int)),(6,I 0)] (Hg _) (Jc (Jn (Wv (E:=Q6) 1 hr2 (by have hq_:=Qf.1 ‹_›;(try simp only [Q6,Hi,Hk,Hm]);omega) (fun G2 hl2 hs2=>?_))))))
 have hf3:JR q a=((⟨q.most,q.wait++[a]⟩:Q2),(q.wait.length:Int),0):=by
  unfold JR Yh VA;simp_all;try omega
 refine Jo [2,0,0] [.agg #[I q.most,Sl a3 ((q.wait++[a]).length) c3],I (q.wait.length:Int),I 0] (JD [] (Ja hl1 hl2) ?_)
 rw [hf3]
 try dsimp only
 exact ⟨a3,c3,rfl,w1,hs2,rfl⟩
 refine Jz 6 [(37,.agg #[Sr a.name,Sr a.value,U a.n,U a.tag])] (fun X=>?_)
 refine Kq 38 1 #[Sr a.name,Sr a.value,U a.n,U a.tag] 182 (fun b5=>JA [(6,Sl (At b5 0) 1 1)] (JF [5] [(0,0),(1,8),(2,0),(3,8),(9,0)] [] [4] (Hg _) (Kf ?_ KY)))
 refine Jz 4 [(35,Sl a1 q.wait.length c1)] (fun X=>?_)
 refine JM 36 (YO G a1 c1 q.wait hs1) (fun v G3 L1 hl3 hp=>?_)
 obtain ⟨a4,c4,_,rfl,hr3,rfl⟩:=hp
 refine JA [(4,Sl a4 q.wait.length c4)] (JF [2,3,5] [(0,0),(1,10),(9,0)] [] [7] (Hg _) (Kf ?_ KY))
 refine Jz 7 [(36,Sl a4 q.wait.length c4),(38,Sl (At b5 0) 1 1)] (fun X=>?_)
 refine Qm (b:=b5) (cs:=[Sr a.name,Sr a.value,U a.n,U a.tag]) 39 182 0 1 (E:=Q6) a hr3 ⟨rfl,w2,w3,w4,w5⟩ (by have hq_:=Qf.1 ‹_›;(try simp only [Q6,Hi,Hk,Hm]);omega) (by have hq_:=Qf.1 ‹_›;(try simp only [Q6,Hi,Hk,Hm]);omega) (fun a5 c5 r4 hr4=>JA [(7,Sl a5 ((q.wait++[a]).length) c5),(8,.agg #[I q.most,Sl a5 ((q.wait++[a]).length) c5])] (JF [2,3,5] [(0,0),(1,10),(8,0),(9,0)] [] [10] (Hg _) (Kf ?_ KY)))
 refine Jz 10 [(4,Pt b3 0),(40,.agg #[I q.most,Sl a5 ((q.wait++[a]).length) c5])] (fun X=>?_)
 refine KA 2 [r4,[Sg b5 0 [Sr a.name,Sr a.value,U a.n,U a.tag]],[Sg b3 0 [I q.most,Sl a5 ((q.wait++[a]).length) c5]],[Sg b2 0 [Sr a.name,Sr a.value,U a.n,U a.tag]],[Sg b1 0 [I q.most,Sl a1 q.wait.length c1]]] (J5 [(11,I (q.wait.length:Int)),(12,I 0)] (Ko [0,1,2,3,5,8] [(9,0),(11,0),(12,0)] [] [(4,Pt b3 0),(5,I (q.wait.length:Int)),(6,I 0)] (Hg _) (Jc (Jn (Wv (E:=Q6) 0 hr4 (by have hq_:=Qf.1 ‹_›;(try simp only [Q6,Hi,Hk,Hm]);omega) (fun G4 hl4 hs3=>?_))))))
 have hf4:JR q a=((⟨q.most,q.wait++[a]⟩:Q2),(q.wait.length:Int),0):=by
  unfold JR Yh VA;simp_all;try omega
 refine Jo [2,0,0] [.agg #[I q.most,Sl a5 ((q.wait++[a]).length) c5],I (q.wait.length:Int),I 0] (JD [] (Ja hl3 hl4) ?_)
 rw [hf4]
 try dsimp only
 exact ⟨a5,c5,rfl,w1,hs3,rfl⟩
 refine Jq (Jc (Jf (Jf (Jd (Jb [0,0,0] [(17,Bo (decide (Km q=0)))] (Kr (decide (Km q=0)) [17] [0,6,0,0,6,0,0] [1,1,1,1,1,1,0] (fun bb=>[(24,Bo (bb && (decide ((q.wait.length:Int)=q.most))))]) (Je (Jc (Jm ((decide (Km q=0)) && (decide ((q.wait.length:Int)=q.most))) (fun h4=>?_) (fun h4=>?_))))))))))
 refine Jd (Jb [0] [(7,I 7)] (Je (Jc (Jf (Jg [0,0] [(26,Bo true)] (J0 (Jg [0,0,3,0,0] [(5,I 0),(6,I 7)] (Jn (Jj ?_)))))))))
 have hf5:JR q a=((⟨0,[]⟩:Q2),0,7):=by
  unfold JR Yh VA;simp_all;try omega
 refine Jo [0,0,0] [.agg #[I 0,Sl none 0 0],I 0,I 7] (JD [] (Jh _) ?_)
 rw [hf5]
 try dsimp only
 exact ⟨none,0,rfl,Kd,(J2 Q6 G),rfl⟩
 refine Jq (Jc (Jf (Jg [0,0] [(26,Bo (!decide (Km q=0)))] (Jm (!decide (Km q=0)) (fun h5=>?_) (fun h5=>?_)))))
 refine Jg [0,0,3,0,0] [(5,I 0),(6,I (Km q))] (Jn (Jj ?_))
 have hf6:JR q a=((⟨0,[]⟩:Q2),0,Km q):=by
  unfold JR Yh VA;simp_all;try omega
 refine Jo [0,0,0] [.agg #[I 0,Sl none 0 0],I 0,I (Km q)] (JD [] (Jh _) ?_)
 rw [hf6]
 try dsimp only
 exact ⟨none,0,rfl,Kd,(J2 Q6 G),rfl⟩
 refine Jq (Jc (Jg [0,6,0,0] [(8,I (q.wait.length:Int))] (Jf (Kv [4,6,7,10] (Ws [(0,Pt b1 0),(1,I q.most),(2,Pt b1 1),(3,Sl a1 q.wait.length c1),(5,.agg #[Sr a.name,Sr a.value,U a.n,U a.tag]),(9,I (q.wait.length:Int))] (JF [] [(0,0),(1,6),(2,0),(3,6),(5,4),(9,0)] [] [4,6] (Hg _) (Kf ?_ (Kf ?_ KY))))))))
 refine Jz 4 [(35,Sl a1 q.wait.length c1)] (fun X=>?_)
 refine JM 36 (YO G a1 c1 q.wait hs1) (fun v G5 L1 hl5 hp=>?_)
 obtain ⟨a6,c6,_,rfl,hr5,rfl⟩:=hp
 refine JA [(4,Sl a6 q.wait.length c6)] (JF [2,3] [(0,0),(1,8),(5,6),(9,0)] [] [6] (Hg _) (Kf ?_ KY))
 refine Jz 6 [(37,.agg #[Sr a.name,Sr a.value,U a.n,U a.tag])] (fun X=>?_)
 refine Kq 38 1 #[Sr a.name,Sr a.value,U a.n,U a.tag] 182 (fun b6=>JA [(6,Sl (At b6 0) 1 1)] (JF [2,3,5] [(0,0),(1,10),(9,0)] [] [7] (Hg _) (Kf ?_ KY)))
 refine Jz 7 [(36,Sl a6 q.wait.length c6),(38,Sl (At b6 0) 1 1)] (fun X=>?_)
 refine Qm (b:=b6) (cs:=[Sr a.name,Sr a.value,U a.n,U a.tag]) 39 182 1 0 (E:=Q6) a hr5 ⟨rfl,w2,w3,w4,w5⟩ (by have hq_:=Qf.1 ‹_›;(try simp only [Q6,Hi,Hk,Hm]);omega) (by have hq_:=Qf.1 ‹_›;(try simp only [Q6,Hi,Hk,Hm]);omega) (fun a7 c7 r6 hr6=>JA [(7,Sl a7 ((q.wait++[a]).length) c7),(8,.agg #[I q.most,Sl a7 ((q.wait++[a]).length) c7])] (JF [2,3,5] [(0,0),(1,10),(8,0),(9,0)] [] [10] (Hg _) (Kf ?_ KY)))
 refine Jz 10 [(4,Pt b3 0),(40,.agg #[I q.most,Sl a7 ((q.wait++[a]).length) c7])] (fun X=>?_)
 refine KA 2 [[Sg b6 0 [Sr a.name,Sr a.value,U a.n,U a.tag]],r6,[Sg b3 0 [I q.most,Sl a7 ((q.wait++[a]).length) c7]],[Sg b2 0 [Sr a.name,Sr a.value,U a.n,U a.tag]],[Sg b1 0 [I q.most,Sl a1 q.wait.length c1]]] (J5 [(11,I (q.wait.length:Int)),(12,I 0)] (Ko [0,1,2,3,5,8] [(9,0),(11,0),(12,0)] [] [(4,Pt b3 0),(5,I (q.wait.length:Int)),(6,I 0)] (Hg _) (Jc (Jn (Wv (E:=Q6) 1 hr6 (by have hq_:=Qf.1 ‹_›;(try simp only [Q6,Hi,Hk,Hm]);omega) (fun G6 hl6 hs4=>?_))))))
 have hf7:JR q a=((⟨q.most,q.wait++[a]⟩:Q2),(q.wait.length:Int),0):=by
  unfold JR Yh VA;simp_all;try omega
 refine Jo [2,0,0] [.agg #[I q.most,Sl a7 ((q.wait++[a]).length) c7],I (q.wait.length:Int),I 0] (JD [] (Ja hl5 hl6) ?_)
 rw [hf7]
 try dsimp only
 exact ⟨a7,c7,rfl,w1,hs4,rfl⟩
 refine Jz 6 [(37,.agg #[Sr a.name,Sr a.value,U a.n,U a.tag])] (fun X=>?_)
 refine Kq 38 1 #[Sr a.name,Sr a.value,U a.n,U a.tag] 182 (fun b7=>JA [(6,Sl (At b7 0) 1 1)] (JF [5] [(0,0),(1,8),(2,0),(3,8),(9,0)] [] [4] (Hg _) (Kf ?_ KY)))
 refine Jz 4 [(35,Sl a1 q.wait.length c1)] (fun X=>?_)
 refine JM 36 (YO G a1 c1 q.wait hs1) (fun v G7 L1 hl7 hp=>?_)
 obtain ⟨a8,c8,_,rfl,hr7,rfl⟩:=hp
 refine JA [(4,Sl a8 q.wait.length c8)] (JF [2,3,5] [(0,0),(1,10),(9,0)] [] [7] (Hg _) (Kf ?_ KY))
 refine Jz 7 [(36,Sl a8 q.wait.length c8),(38,Sl (At b7 0) 1 1)] (fun X=>?_)
 refine Qm (b:=b7) (cs:=[Sr a.name,Sr a.value,U a.n,U a.tag]) 39 182 0 1 (E:=Q6) a hr7 ⟨rfl,w2,w3,w4,w5⟩ (by have hq_:=Qf.1 ‹_›;(try simp only [Q6,Hi,Hk,Hm]);omega) (by have hq_:=Qf.1 ‹_›;(try simp only [Q6,Hi,Hk,Hm]);omega) (fun a9 c9 r8 hr8=>JA [(7,Sl a9 ((q.wait++[a]).length) c9),(8,.agg #[I q.most,Sl a9 ((q.wait++[a]).length) c9])] (JF [2,3,5] [(0,0),(1,10),(8,0),(9,0)] [] [10] (Hg _) (Kf ?_ KY)))
 refine Jz 10 [(4,Pt b3 0),(40,.agg #[I q.most,Sl a9 ((q.wait++[a]).length) c9])] (fun X=>?_)
 refine KA 2 [r8,[Sg b7 0 [Sr a.name,Sr a.value,U a.n,U a.tag]],[Sg b3 0 [I q.most,Sl a9 ((q.wait++[a]).length) c9]],[Sg b2 0 [Sr a.name,Sr a.value,U a.n,U a.tag]],[Sg b1 0 [I q.most,Sl a1 q.wait.length c1]]] (J5 [(11,I (q.wait.length:Int)),(12,I 0)] (Ko [0,1,2,3,5,8] [(9,0),(11,0),(12,0)] [] [(4,Pt b3 0),(5,I (q.wait.length:Int)),(6,I 0)] (Hg _) (Jc (Jn (Wv (E:=Q6) 0 hr8 (by have hq_:=Qf.1 ‹_›;(try simp only [Q6,Hi,Hk,Hm]);omega) (fun G8 hl8 hs5=>?_))))))
 have hf8:JR q a=((⟨q.most,q.wait++[a]⟩:Q2),(q.wait.length:Int),0):=by
  unfold JR Yh VA;simp_all;try omega
 refine Jo [2,0,0] [.agg #[I q.most,Sl a9 ((q.wait++[a]).length) c9],I (q.wait.length:Int),I 0] (JD [] (Ja hl7 hl8) ?_)
 rw [hf8]
 try dsimp only
 exact ⟨a9,c9,rfl,w1,hs5,rfl⟩
theorem Jgp (G:J4) (vs_q:Bv) (q:Q2) (h_q:Jj0.R G vs_q q) (n:Int) :YL 163 #[.agg vs_q.toArray,I n] G [] (fun u G' L'=>∃ (a1:Ba) (c2:Nat) (a3:Ba) (c4:Nat),u=.tuple #[.agg #[I (((J8 q n).1).most),Sl a1 ((((J8 q n).1).wait).length) c2],Sl a3 (((J8 q n).2.1).length) c4,I ((J8 q n).2.2)]∧(rI (((J8 q n).1).most))∧(RS Q6 G' a1 c2 (((J8 q n).1).wait))∧(RS Q6 G' a3 c4 ((J8 q n).2.1))∧L'=[]):=by
 obtain ⟨a1,c1,rfl,w1,hs1⟩:=h_q
 refine JQ Tryz.func163 35 [(0,.agg #[I q.most,Sl a1 q.wait.length c1]),(1,I n)] rfl (fun w0 G0=>?_)
 refine Jf (Jd (Jv 2 #[I q.most,Sl a1 q.wait.length c1] 57 (fun b1=>Jv 4 #[I 0,Sl none 0 0] 57 (fun b2=>Jb [0,0] [] (Je (Jc (Jf (Jf (Jd (Jb [4] [(8,.agg #[I q.most,Sl a1 q.wait.length c1])] (Jl 9 (I (Km q)) (Jaz G [I q.most,Sl a1 q.wait.length c1] q (⟨a1,c1,rfl,w1,hs1⟩)) (Jb [0] [(7,I (Km q))] (Je (Jc (Jg [0,0] [(11,Bo (!decide (Km q=0)))] (Jm (!decide (Km q=0)) (fun h1=>?_) (fun h1=>?_)))))))))))))))))
 refine Jg [0,0,3,0,0] [(5,Sl none 0 0),(6,I (Km q))] (Jn (Jj ?_))
 have hf1:J8 q n=((⟨0,[]⟩:Q2),[],Km q):=by
  unfold J8 VA;simp_all;try omega
 refine Jo [0,0,0] [.agg #[I 0,Sl none 0 0],Sl none 0 0,I (Km q)] (JD [] (Jh _) ?_)
 rw [hf1]
 try dsimp only
 exact ⟨none,0,none,0,rfl,Kd,(J2 Q6 G),(J2 Q6 G),rfl⟩
 refine Jq (Jc (Jf (Jg [0,0] [(15,Bo (decide (n<0)))] (Jm (decide (n<0)) (fun h2=>?_) (fun h2=>?_)))))
 refine Jg [0,3,0,0] [(5,Sl none 0 0),(6,I 4)] (Jn (Jj ?_))
 have hf2:J8 q n=((⟨0,[]⟩:Q2),[],4):=by
  unfold J8 VA;simp_all;try omega
 refine Jo [0,0,0] [.agg #[I 0,Sl none 0 0],Sl none 0 0,I 4] (JD [] (Jh _) ?_)
 rw [hf2]
 try dsimp only
 exact ⟨none,0,none,0,rfl,Kd,(J2 Q6 G),(J2 Q6 G),rfl⟩
 refine Jq (Jc (Jg [0,0,4,0,0,0] [(1,I (if (q.wait.length:Int)<n then (q.wait.length:Int) else n))] ?_))
 have e1:(if (q.wait.length:Int)<n then (q.wait.length:Int) else n)=((QX n q.wait:Nat):Int):=Jmi (by omega)
 refine QW 1 (I ((QX n q.wait:Nat):Int)) (congrArg I e1) ?_
 clear e1
 refine Jf ?_
 obtain ⟨a2,c2,ea1,ec1,en1,eh1,hs2⟩:=RS.reslXD hs1 (QX n q.wait) (by have:=@Jd6 n q.wait;omega)
 obtain ⟨a3,c3,ea2,ec2,en2,eh2,hs3⟩:=RS.reslXT hs1 (QX n q.wait) (by have:=@Jd6 n q.wait;omega)
 refine Kv [6,12,13] (Ws [(0,Pt b1 0),(1,I q.most),(2,Pt b1 1),(3,Sl a1 q.wait.length c1),(4,I ((QX n q.wait:Nat):Int)),(5,Sl a2 ((q.wait.drop (QX n q.wait)).length) c2),(8,Pt b1 1),(9,Sl a1 q.wait.length c1),(10,I ((QX n q.wait:Nat):Int)),(11,Sl a3 ((q.wait.take (QX n q.wait)).length) c3)] (JF [] [(0,0),(1,4),(2,0),(3,4),(4,0),(8,0),(9,4),(10,0)] [5,11] [6] (Kf ?_ (Kf ?_ KY)) (Kf ?_ KY)))
 refine Jr 5 27 (Sl a2 ((q.wait.drop (QX n q.wait)).length) c2) [(25,Sl a1 q.wait.length c1),(26,I ((QX n q.wait:Nat):Int))] (fun X=>?_)
 exact Wx (a:=a1) (len:=q.wait.length) (cap:=c1) 27 4 (some (I ((QX n q.wait:Nat):Int))) none (QX n q.wait) q.wait.length (.inr ⟨_,rfl⟩) (.inl ⟨rfl,rfl⟩) (by have:=@Jd6 n q.wait;omega) ea1 ec1 en1 eh1 Jp
 refine Jr 11 33 (Sl a3 ((q.wait.take (QX n q.wait)).length) c3) [(31,Sl a1 q.wait.length c1),(32,I ((QX n q.wait:Nat):Int))] (fun X=>?_)
 exact Wx (a:=a1) (len:=q.wait.length) (cap:=c1) 33 4 none (some (I ((QX n q.wait:Nat):Int))) 0 (QX n q.wait) (.inl ⟨rfl,rfl⟩) (.inr ⟨_,rfl⟩) (by exact Hn _) ea2 ec2 en2 eh2 Jp
 refine Jz 6 [(27,Sl a2 ((q.wait.drop (QX n q.wait)).length) c2)] (fun X=>?_)
 refine JM 28 (YO G a2 c2 (q.wait.drop (QX n q.wait)) hs2) (fun v G1 L1 hl1 hp=>?_)
 obtain ⟨a4,c4,r1,rfl,hr1,rfl⟩:=hp
 refine JA [(6,Sl a4 ((q.wait.drop (QX n q.wait)).length) c4),(7,.agg #[I q.most,Sl a4 ((q.wait.drop (QX n q.wait)).length) c4])] (JF [2,3,4,5] [(0,0),(1,6),(7,0),(8,0),(9,6),(10,0)] [11] [12] (Kf ?_ KY) (Kf ?_ KY))
 refine Jr 11 33 (Sl a3 ((q.wait.take (QX n q.wait)).length) c3) [(31,Sl a1 q.wait.length c1),(32,I ((QX n q.wait:Nat):Int))] (fun X=>?_)
 exact Wx (a:=a1) (len:=q.wait.length) (cap:=c1) 33 4 none (some (I ((QX n q.wait:Nat):Int))) 0 (QX n q.wait) (.inl ⟨rfl,rfl⟩) (.inr ⟨_,rfl⟩) (by exact Hn _) ea2 ec2 en2 eh2 Jp
 refine Jz 12 [(33,Sl a3 ((q.wait.take (QX n q.wait)).length) c3)] (fun X=>?_)
 refine JM 34 (YO G1 a3 c3 (q.wait.take (QX n q.wait)) (hs3.mono hl1)) (fun v G2 L1 hl2 hp=>?_)
 obtain ⟨a6,c6,r2,rfl,hr2,rfl⟩:=hp
 refine JA [(12,Sl a6 ((q.wait.take (QX n q.wait)).length) c6)] (JF [2,3,4,5,8,9,10,11] [(0,0),(1,8),(7,0)] [] [13] (Hg _) (Kf ?_ KY))
 refine Jz 13 [(4,Pt b2 0),(29,.agg #[I q.most,Sl a4 ((q.wait.drop (QX n q.wait)).length) c4])] (fun X=>?_)
 refine KA 2 [r2,r1,[Sg b2 0 [I q.most,Sl a4 ((q.wait.drop (QX n q.wait)).length) c4]],[Sg b1 0 [I q.most,Sl a1 q.wait.length c1]]] (J5 [(14,Sl a6 ((q.wait.take (QX n q.wait)).length) c6),(15,I 0)] (Ko [0,1,2,3,4,5,7,8,9,10,11] [(14,0),(15,0)] [] [(4,Pt b2 0),(5,Sl a6 ((q.wait.take (QX n q.wait)).length) c6),(6,I 0)] (Hg _) (Jc (Jn (Wv (E:=Q6) 1 (hr1.mono hl2) (by exact (hs2).fit) (fun G3 hl3 hs5=>Wv (E:=Q6) 0 (hr2.mono hl3) (by exact (hs3.mono hl1).fit) (fun G4 hl4 hs6=>?_)))))))
 have hf3:J8 q n=((⟨q.most,q.wait.drop (QX n q.wait)⟩:Q2),q.wait.take (QX n q.wait),0):=by
  unfold J8 VA;simp_all;try omega
 refine Jo [2,0,0] [.agg #[I q.most,Sl a4 ((q.wait.drop (QX n q.wait)).length) c4],Sl a6 ((q.wait.take (QX n q.wait)).length) c6,I 0] (JD [] (Ja (Ja (Ja hl1 hl2) hl3) hl4) ?_)
 rw [hf3]
 try dsimp only
 exact ⟨a4,c4,a6,c6,rfl,‹_›,(hs5.mono hl4),hs6,rfl⟩
theorem Jgq (G:J4) (a:Int) (b:Int) (e:Int) :Q3 157 #[I a,I b,I e] G (.tuple #[I ((Qr a b e).1),I ((Qr a b e).2)]):=by
 refine JQ Tryz.func157 36 [(0,I a),(1,I b),(2,I e)] rfl (fun w0 G0=>?_)
 refine Jg [0,0] [] (Jf (Jf (Jd (Jb [0,0,0] [(10,Bo (decide (a<0)))] (Kr (decide (a<0)) [10] [1,1,0] [0,0,0] (fun bb=>[(13,Bo (bb || (decide (a > 30))))]) (Jb [0] [(14,Bo ((decide (a<0)) || (decide (a > 30))))] (Kr ((decide (a<0)) || (decide (a > 30))) [14] [1,1,0] [0,0,0] (fun bb=>[(17,Bo (bb || (decide (b<1))))]) (Jb [0] [(18,Bo (((decide (a<0)) || (decide (a > 30))) || (decide (b<1))))] (Kr (((decide (a<0)) || (decide (a > 30))) || (decide (b<1))) [18] [1,1,0] [0,0,0] (fun bb=>[(21,Bo (bb || (decide (b > 30))))]) (Jb [0] [(22,Bo ((((decide (a<0)) || (decide (a > 30))) || (decide (b<1))) || (decide (b > 30))))] (Kr ((((decide (a<0)) || (decide (a > 30))) || (decide (b<1))) || (decide (b > 30))) [22] [1,1,0] [0,0,0] (fun bb=>[(25,Bo (bb || (decide (e<1))))]) (Jb [0] [(26,Bo (((((decide (a<0)) || (decide (a > 30))) || (decide (b<1))) || (decide (b > 30))) || (decide (e<1))))] (Kr (((((decide (a<0)) || (decide (a > 30))) || (decide (b<1))) || (decide (b > 30))) || (decide (e<1))) [26] [1,1,0] [0,0,0] (fun bb=>[(29,Bo (bb || (decide (e > 1000))))]) ?_)))))))))))))
 refine Je (Jc (Jm ((((((decide (a<0)) || (decide (a > 30))) || (decide (b<1))) || (decide (b > 30))) || (decide (e<1))) || (decide (e > 1000))) (fun h1=>?_) (fun h1=>?_)))
 refine Jg [0,0] [(6,I 0),(7,I 4)] (Jn (Jj (Jo [0,0] [I 0,I 4] (Jx (Jh _) ?_))))
 have hf_:(Qr a b e)=(0,4):=by
  unfold Qr;(rw [if_pos (by omega)];done)
 · (try rw [hf_]);(simp only [Qy];done)
 refine Jq (Jc (Jf (Jd (Jb [0,0] [(30,I a),(31,I b)] (Jdc (k:=.i64) (x:=a) (y:=b) 32 true ((a).tdiv b) Kd (by simp only [cond_true];exact Hv _ (by (have:=Jfa (a:=a) (b:=b) Kd (by omega);omega))) (Jb [0,0,0,0,0] [(6,I (Hh.wrap ((Hh.wrap (((a).tdiv b)+1))*e))),(7,I 0)] ?_))))))
 have e1:Hh.wrap (((a).tdiv b)+1)=((a).tdiv b)+1:=Hv _ (by (have:=Jfa (a:=a) (b:=b) (by omega) (by omega);omega))
 have e2:Hh.wrap ((((a).tdiv b)+1)*e)=(((a).tdiv b)+1)*e:=Hv _ (by (have:=Jfa (a:=a) (b:=b) (by omega) (by omega);(have:=Jlh (a:=a.tdiv b+1) (b:=e) (by omega) (by omega);omega)))
 refine KG 6 (I ((((a).tdiv b)+1)*e)) (show (I (Hh.wrap ((Hh.wrap (((a).tdiv b)+1))*e)):Value)=I ((((a).tdiv b)+1)*e) by simp only [e1,e2]) ?_
 clear e2 e1
 refine Je (Jc (Jn (Jo [0,0] [I ((((a).tdiv b)+1)*e),I 0] (Jx (Jh _) ?_))))
 have hf_:(Qr a b e)=(((((a).tdiv b)+1)*e),0):=by
  unfold Qr;(rw [if_neg (by omega)];done)
 · (try rw [hf_]);(simp only [Qy];done)
theorem le48 {n:Nat} (h:n≤140737488351232):n≤140737488355328:=by omega
theorem JhN (h:JU):(Wb h).1.length≤33:=by
 unfold Wb;split
 · simp
 · rw [JeY];exact Hr _
theorem Jdk (n:Int):(K0 n).length=8:=Jiw n
def Kt (h:JU):Int×Int:=if (Wb h).2 ≠ 0 then (0,(Wb h).2) else (Ji (Wb h).1,0)
def YC (h:JU) (root at_:Int):Int:=if JK h ≠ 0 then JK h else if h.epoch=1000000 then 7 else if at_<h.at_ then 4 else JK ⟨h.epoch+1,root,(Kt h).1,at_⟩
def JB (h:JU) (root at_:Int):JU×Int:=if YC h root at_ ≠ 0 then (Zy,YC h root at_) else (⟨h.epoch+1,root,(Kt h).1,at_⟩,0)
theorem JhO (h:JU):(Wb h).2=JK h:=by unfold Wb;split <;> simp_all
theorem Ys (h:JU):(Kt h).2=JK h:=by unfold Kt;rw [JhO];split <;> simp_all
theorem JaP (h:JU):0≤(Kt h).1∧(Kt h).1<2305843009213693951:=by
 unfold Kt;split
 · simp
 · exact QP _
theorem JiH {h:JU} (e:JK h=0):Wb h=(VY h,0):=by unfold Wb;rw [if_neg (by omega)]
theorem JiI {h:JU} (e:JK h=0):Kt h=(Ji (VY h),0):=by
 unfold Kt;rw [JiH e];simp
theorem JaQ {h:JU} {root at_:Int} (e:(JB h root at_).2=0):JK h=0∧h.epoch<1000000∧h.at_≤at_∧JB h root at_=(⟨h.epoch+1,root,Ji (VY h),at_⟩,0)∧JK ⟨h.epoch+1,root,Ji (VY h),at_⟩=0:=by
 unfold JB at e ⊢
 split at e
 · contradiction
 ·
  rename_i h1
  rw [if_neg h1]
  unfold YC at h1
  by_cases e1:JK h=0
  ·
   rw [if_neg (by omega)] at h1
   have hb:=Zi e1
   have hm:=JiI e1
   rw [hm] at h1 ⊢
   by_cases e2:h.epoch=1000000
   · rw [if_pos e2] at h1;simp at h1
   ·
    rw [if_neg e2] at h1
    by_cases e3:at_<h.at_
    · rw [if_pos e3] at h1;simp at h1
    ·
     rw [if_neg e3] at h1
     exact ⟨e1,by omega,by omega,rfl,by simpa using h1⟩
  · rw [if_pos e1] at h1;omega
def JiJ:Zx:=⟨[],[],0,0⟩
def VB (key:Int) (s:Bb):Int:=Ji ((K0 key++s)++K0 key)
theorem JnY (k:Int) (s:Bb):0≤VB k s∧VB k s<18446744073709551616:=by have:=QP ((K0 k++s)++K0 k);unfold VB;omega
def Zj (name value:Bb) (n:Int):Bb:=K0 n++(VH [name,value]).1
def JbT (key:Int) (s:Bb) (t:Int):Bool:=decide (VB key s=t)
def YP (key:Int) (name value:Bb) (n:Int):Zx×Int:=if Wc name value ≠ 0 then (JiJ,Wc name value) else (⟨name,value,n,VB key (Zj name value n)⟩,0)
def Yi (key:Int) (a:Zx):Bool:=decide (Wc a.name a.value=0) && decide (VB key (Zj a.name a.value a.n)=a.tag)
theorem Jci (l:Bs):(VH l).1.length≤600:=by
 unfold VH
 split
 · simp
 ·
  split
  ·
   rename_i h
   have:∀ (l:Bs) (n:Nat),n≤600→Jdj n l=true→n+(Jgn l).length≤600:=by
    intro l
    induction l with
    | nil=>intro n h _;simp [Jgn];exact h
    | cons p l ih =>
     intro n _ h
     unfold Jdj at h
     simp only [HL,decide_eq_true_eq] at h
     have:=ih _ h.1 h.2
     have e:(Jgn (p::l)).length=2+p.length+(Jgn l).length:=by simp [Jgn,putC];omega
     omega
   have:=this l 0 (by omega) h
   simp only;omega
  · simp
theorem JeA (a b:Bb) (n:Int):(Zj a b n).length≤608:=by
 unfold Zj;rw [Hi,Jdk];have:=Jci [a,b];omega
theorem Jdl (G:J4) (vs_h:Bv) (h:JU) (h_h:KN.R G vs_h h) :Q3 142 #[.agg vs_h.toArray] G (.tuple #[U ((Kt h).1),I ((Kt h).2)]):=by
 obtain ⟨rfl,_,_,_,_⟩:=h_h
 refine JQ Tryz.func142 16 [(0,.agg #[I h.epoch,U h.root,U h.prev,I h.at_])] rfl (fun w0 G0=>?_)
 refine Jf (Jd (Jv 1 #[I h.epoch,U h.root,U h.prev,I h.at_] 43 (fun b1=>Jb [0,0] [] (Je (Jc (Jf (Jd (Jb [2] [(7,.agg #[I h.epoch,U h.root,U h.prev,I h.at_])] (Jl 8 (.tuple #[Sr ((Wb h).1),I ((Wb h).2)]) (JhF h G) (Jb [0,0,0,0,0] [(4,Sr ((Wb h).1)),(5,I ((Wb h).2))] (Je (Jc (Jf (Jg [0,0] [(12,Bo (!decide ((Wb h).2=0)))] (Jm (!decide ((Wb h).2=0)) (fun h1=>?_) (fun h1=>?_))))))))))))))))
 refine Jg [0,0,0] [(2,U 0),(3,I ((Wb h).2))] (Jn (Jj (Jo [0,0] [U 0,I ((Wb h).2)] (Jx (Jh _) ?_))))
 have hf_:(Kt h)=(0,((Wb h).2)):=by
  unfold Kt;simp_all
 · (try rw [hf_]);(simp only [Qy];done)
 refine Jq (Jc (Jf (Jd (Jb [0] [(14,Sr ((Wb h).1))] (Jl 15 (U (Ji ((Wb h).1))) (Z6 ((Wb h).1) (le48 (Ho (JhN h) (by decide))) G) (Jb [0,0] [(2,U (Ji ((Wb h).1))),(3,I 0)] (Je (Jc (Jn (Jo [0,0] [U (Ji ((Wb h).1)),I 0] (Jx (Jh _) ?_)))))))))))
 have hf_:(Kt h)=((Ji ((Wb h).1)),0):=by
  unfold Kt;simp_all
 · (try rw [hf_]);(simp only [Qy];done)
theorem Jbs (G:J4) (vs_h:Bv) (h:JU) (h_h:KN.R G vs_h h) (root:Int) (hw_root:rU root) (a:Int) (hw_a:rI a) :Q3 213 #[.agg vs_h.toArray,U root,I a] G (.tuple #[.agg #[I (((JB h root a).1).epoch),U (((JB h root a).1).root),U (((JB h root a).1).prev),I (((JB h root a).1).at_)],I ((JB h root a).2)]):=by
 obtain ⟨rfl,w1,w2,w3,w4⟩:=h_h
 refine JQ Tryz.func213 46 [(0,.agg #[I h.epoch,U h.root,U h.prev,I h.at_]),(1,U root),(2,I a)] rfl (fun w0 G0=>?_)
 refine Jf (Jd (Jv 3 #[I h.epoch,U h.root,U h.prev,I h.at_] 43 (fun b1=>Jv 6 #[I 0,U 0,U 0,I 0] 43 (fun b2=>Jb [0] [] (Je (Jc (Jf (Jd (Jb [4] [(13,.agg #[I h.epoch,U h.root,U h.prev,I h.at_])] (Jl 14 (.tuple #[U ((Kt h).1),I ((Kt h).2)]) (Jdl G [I h.epoch,U h.root,U h.prev,I h.at_] h (⟨rfl,w1,w2,w3,w4⟩)) (Jb [0,0,0,0,0] [(8,U ((Kt h).1)),(9,I ((Kt h).2))] (Je (Jc (Jf (Jy (Jg [0,0,0] [(17,Bo (!decide ((Kt h).2=0)))] (Jm (!decide ((Kt h).2=0)) (fun h1=>?_) (fun h1=>?_))))))))))))))))))
 refine Jg [0,0,3,0] [(7,I ((Kt h).2))] (Jn (Ju (Jj (Jo [0,0] [.agg #[I 0,U 0,U 0,I 0],I ((Kt h).2)] (Jx (Jh _) ?_)))))
 have hf_:(JB h root a)=((⟨0,0,0,0⟩:JU),((Kt h).2)):=by
  (try rw [Ys] at *);unfold JB YC Zy;grind
 · (try rw [hf_]);(simp only [Qy];done)
 refine Jg [0,4,0,0] [(22,Bo (decide (h.epoch=1000000)))] (Jm (decide (h.epoch=1000000)) (fun h2=>?_) (fun h2=>?_))
 refine Jg [0,3,0] [(7,I 7)] (Jn (Ju (Jj (Jo [0,0] [.agg #[I 0,U 0,U 0,I 0],I 7] (Jx (Jh _) ?_)))))
 have hf_:(JB h root a)=((⟨0,0,0,0⟩:JU),7):=by
  (try rw [Ys] at *);unfold JB YC Zy;grind
 · (try rw [hf_]);(simp only [Qy];done)
 refine Jq (JN (Jc (Jf (Jd (Jb [0,4,0,0,0,0,0] [(33,.agg #[I (Hh.wrap (h.epoch+1)),U root,U ((Kt h).1),I a])] ?_)))))
 have e1:Hh.wrap (h.epoch+1)=h.epoch+1:=Hv _ (by have:=Zi (h:=h) (by rw [← Ys];assumption);omega)
 refine KG 33 (.agg #[I (h.epoch+1),U root,U ((Kt h).1),I a]) (show (.agg #[I (Hh.wrap (h.epoch+1)),U root,U ((Kt h).1),I a]:Value)=.agg #[I (h.epoch+1),U root,U ((Kt h).1),I a] by simp only [e1]) ?_
 clear e1
 refine Jv 10 #[I 0,U 0,U 0,I 0] 43 (fun b3=>JT [3] [] [[Sg b3 0 [I (h.epoch+1),U root,U ((Kt h).1),I a]],[Sg b2 0 [I 0,U 0,U 0,I 0]],[Sg b1 0 [I h.epoch,U h.root,U h.prev,I h.at_]]] (Je (Jc (Jf (Jg [0,0,6,0] [(37,Bo (decide (a<h.at_)))] (Jm (decide (a<h.at_)) (fun h3=>?_) (fun h3=>?_)))))))
 refine Jg [0,5,0] [(7,I 4)] (Jn (Jj (Jo [1,0] [.agg #[I 0,U 0,U 0,I 0],I 4] (Jx (Jh _) ?_))))
 have hf_:(JB h root a)=((⟨0,0,0,0⟩:JU),4):=by
  (try rw [Ys] at *);unfold JB YC Zy;grind
 · (try rw [hf_]);(simp only [Qy];done)
 refine Jq (Jc (Jf (Jf (Jd (Jb [2] [(39,.agg #[I (h.epoch+1),U root,U ((Kt h).1),I a])] (Jl 40 (I (JK (⟨h.epoch+1,root,(Kt h).1,a⟩:JU))) (Z5 (⟨h.epoch+1,root,(Kt h).1,a⟩:JU) G) (Jb [0] [(11,I (JK (⟨h.epoch+1,root,(Kt h).1,a⟩:JU)))] (Je (Jc (Jg [0,0] [(42,Bo (!decide (JK (⟨h.epoch+1,root,(Kt h).1,a⟩:JU)=0)))] (Jm (!decide (JK (⟨h.epoch+1,root,(Kt h).1,a⟩:JU)=0)) (fun h4=>?_) (fun h4=>?_))))))))))))
 refine Jg [0,0,5,0] [(7,I (JK (⟨h.epoch+1,root,(Kt h).1,a⟩:JU)))] (Jn (Jj (Jo [1,0] [.agg #[I 0,U 0,U 0,I 0],I (JK (⟨h.epoch+1,root,(Kt h).1,a⟩:JU))] (Jx (Jh _) ?_))))
 have hf_:(JB h root a)=((⟨0,0,0,0⟩:JU),(JK (⟨h.epoch+1,root,(Kt h).1,a⟩:JU))):=by
  (try rw [Ys] at *);unfold JB YC Zy;grind
 · (try rw [hf_]);(simp only [Qy];done)
 refine Jq (Jc (QB [2,5,0] [(7,I 0)] [[Sg b3 0 [I (h.epoch+1),U root,U ((Kt h).1),I a]],[Sg b2 0 [I (h.epoch+1),U root,U ((Kt h).1),I a]],[Sg b1 0 [I h.epoch,U h.root,U h.prev,I h.at_]]] (Jn (Jo [1,0] [.agg #[I (h.epoch+1),U root,U ((Kt h).1),I a],I 0] (Jx (Jh _) ?_)))))
 have hf_:(JB h root a)=((⟨h.epoch+1,root,(Kt h).1,a⟩:JU),0):=by
  (try rw [Ys] at *);unfold JB YC Zy;grind
 · (try rw [hf_]);(simp only [Qy];done)
theorem Jbt (G:J4) (name:Bb) (value:Bb) :Q3 149 #[Sr name,Sr value] G (I (Wc name value)):=by
 refine JQ Tryz.func149 13 [(0,Sr name),(1,Sr value)] rfl (fun w0 G0=>?_)
 refine Jg [0] [] (Jf (Jy (Jf (Jd (Jb [0] [(6,Sr name)] (Jl 7 (Bo (KS name)) (ZX G name) (Jb [0,0] [(5,Bo (!(KS name)))] (Je (Jc (Jm (!(KS name)) (fun h1=>?_) (fun h1=>?_)))))))))))
 refine Jg [0] [(4,I 3)] (Jn (Ju (Jj (Jo [0] [I 3] (Jx (Jh _) (congrArg I (?_:(Wc name value)=3).symm))))))
 unfold Wc;simp_all;try omega
 refine Jg [0,0,0,0] [(9,Bo (decide (((value).length:Int) > 20)))] (Jm (decide (((value).length:Int) > 20)) (fun h2=>?_) (fun h2=>?_))
 refine Jg [0] [(4,I 2)] (Jn (Ju (Jj (Jo [0] [I 2] (Jx (Jh _) (congrArg I (?_:(Wc name value)=2).symm))))))
 unfold Wc;simp_all;try omega
 refine Jq (JN (Jc (Jg [0] [(4,I 0)] (Jn (Jo [0] [I 0] (Jx (Jh _) (congrArg I (?_:(Wc name value)=0).symm)))))))
 unfold Wc;simp_all;try omega
theorem Jg6 (G:J4) (key:Int) (s:Bb) (hs:s.length≤1000000):Q3 203 #[U key,Sr s] G (U (VB key s)):=by
 refine JQ Tryz.func203 13 [(0,U key),(1,Sr s)] rfl (fun w0 G0=>?_)
 refine Jg [0] [] (Jf (Jd (Jb [0] [(5,U key)] (Jl 6 (Sr (K0 key)) (Yr key G) (Jb [0] [(7,Sr s)] (ZS 8 (K0 key) s (by simp only [Hi,Jdk];omega) (Jb [0] [(9,U key)] (Jl 10 (Sr (K0 key)) (Yr key G) (ZS 11 ((K0 key)++s) (K0 key) (by simp only [Hi,Jdk];omega) (Jl 12 (U (Ji (((K0 key)++s)++(K0 key)))) (Z6 (((K0 key)++s)++(K0 key)) (le48 (by (simp;omega))) G) (Jb [0] [(4,U (Ji (((K0 key)++s)++(K0 key))))] (Je (Jc (Jn (Jo [0] [U (Ji (((K0 key)++s)++(K0 key)))] (Jx (Jh _) (congrArg U (?_:(VB key s)=(Ji (((K0 key)++s)++(K0 key)))).symm)))))))))))))))))
 rfl
theorem JhP (G:J4) (key:Int) (s:Bb) (t:Int) (hs:s.length≤1000000):Q3 150 #[U key,Sr s,U t] G (Bo (JbT key s t)):=by
 refine JQ Tryz.func150 12 [(0,U key),(1,Sr s),(2,U t)] rfl (fun w0 G0=>?_)
 refine Jg [0] [] (Jf (Jd (Jb [0,0] [(7,U key),(8,Sr s)] (Jl 9 (U (VB key s)) (Jg6 G key s ‹_›) (Jb [0,0,0] [(6,Bo (decide (VB key s=t)))] (Je (Jc (Jn (Jo [0] [Bo (decide (VB key s=t))] (Jx (Jh _) (congrArg Bo (?_:(JbT key s t)=(decide (VB key s=t))).symm)))))))))))
 rfl
theorem JeB (G:J4) (name:Bb) (hw_name:(name).length≤140737488351232) (value:Bb) (hw_value:(value).length≤140737488351232) (n:Int) :Q3 151 #[Sr name,Sr value,U n] G (Sr (Zj name value n)):=by
 refine JQ Tryz.func151 20 [(0,Sr name),(1,Sr value),(2,U n)] rfl (fun w0 G0=>?_)
 refine Jg [0] [] (Jf (Jd (Jb [0,0] [(10,Sr name),(11,Sr value)] (Kq 12 2 #[Sr name,Sr value] 9 (fun b1=>QK (b:=b1) (o:=0) (cs:=[Sr name,Sr value]) 0 (fun G1 hl1 hz1=>?_))))))
 have hs1:RS ES G1 (At b1 0) 2 [name,value]:=RS.lit [[Sr name],[Sr value]] [name,value] ⟨⟨rfl,hw_name⟩,⟨⟨rfl,hw_value⟩,trivial⟩⟩ hz1 (Hq rfl) (Hq rfl)
 refine Jl 13 (.tuple #[Sr ((VH ([name,value])).1),I ((VH ([name,value])).2)]) (JiE G1 (At b1 0) 2 ([name,value]) hs1) (Jb [0,0,0,0,0] [(7,Sr ((VH ([name,value])).1))] (Je (Jc (Jf (Jd (Jb [0] [(16,U n)] (Jl 17 (Sr (K0 n)) (Yr n G1) (Jb [0] [(18,Sr ((VH ([name,value])).1))] (ZS 19 (K0 n) ((VH ([name,value])).1) (by have:=Jci [name,value];simp only [Jdk];omega) (Jb [0] [(6,Sr ((K0 n)++((VH ([name,value])).1)))] (Je (Jc (Jn (Jo [0] [Sr ((K0 n)++((VH ([name,value])).1))] (Jx hl1 (congrArg Sr (?_:(Zj name value n)=((K0 n)++((VH ([name,value])).1))).symm))))))))))))))))
 rfl
theorem Jka (G:J4) (key:Int) (name:Bb) (hw_name:(name).length≤140737488351232) (value:Bb) (hw_value:(value).length≤140737488351232) (n:Int) (hw_n:rU n) :YL 148 #[U key,Sr name,Sr value,U n] G [] (fun u G' L'=>u=.tuple #[.agg #[Sr (((YP key name value n).1).name),Sr (((YP key name value n).1).value),U (((YP key name value n).1).n),U (((YP key name value n).1).tag)],I ((YP key name value n).2)]∧((((YP key name value n).1).name).length≤140737488351232)∧((((YP key name value n).1).value).length≤140737488351232)∧(rU (((YP key name value n).1).n))∧(rU (((YP key name value n).1).tag))∧L'=[]):=by
 refine JQ Tryz.func148 28 [(0,U key),(1,Sr name),(2,Sr value),(3,U n)] rfl (fun w0 G0=>?_)
 refine Jf (Jd (Jv 8 #[Sr ([]),Sr ([]),U 0,U 0] 182 (fun b1=>Jb [0] [] (Je (Jc (Jf (Jf (Jd (Jb [0,0] [(11,Sr name),(12,Sr value)] (Jl 13 (I (Wc name value)) (Jbt G name value) (Jb [0] [(10,I (Wc name value))] (Je (Jc (Jg [0,0] [(15,Bo (!decide (Wc name value=0)))] (Jm (!decide (Wc name value=0)) (fun h1=>?_) (fun h1=>?_))))))))))))))))
 refine Jg [0,0,3,0] [(9,I (Wc name value))] (Jn (Jj ?_))
 have hf1:YP key name value n=((⟨[],[],0,0⟩:Zx),Wc name value):=by
  unfold YP JiJ;simp_all
 refine Jo [0,0] [.agg #[Sr ([]),Sr ([]),U 0,U 0],I (Wc name value)] (JD [] (Jh _) ?_)
 rw [hf1]
 try dsimp only
 exact ⟨rfl,(Hq rfl),(Hq rfl),Kd,Kd,rfl⟩
 refine Jq (Jc (Jf (Jd (Jb [0,0,0,0,0,0,0] [(18,Sr name),(19,Sr value),(20,U n),(21,U key),(22,Sr name),(23,Sr value),(24,U n)] (Jl 25 (Sr (Zj name value n)) (JeB G name hw_name value hw_value n) (Jl 26 (U (VB key (Zj name value n))) (Jg6 G key (Zj name value n) (Ho (JeA name value n) (by decide))) (JT [0,3,0] [(9,I 0)] [[Sg b1 0 [Sr name,Sr value,U n,U (VB key (Zj name value n))]]] (Je (Jc (Jn ?_))))))))))
 have hf2:YP key name value n=((⟨name,value,n,VB key (Zj name value n)⟩:Zx),0):=by
  unfold YP JiJ;simp_all
 refine Jo [0,0] [.agg #[Sr name,Sr value,U n,U (VB key (Zj name value n))],I 0] (JD [] (Jh _) ?_)
 rw [hf2]
 try dsimp only
 exact ⟨rfl,hw_name,hw_value,hw_n,(JnY _ _),rfl⟩
abbrev JeC (a:Zx) (key:Int):=JbT key (Zj a.name a.value a.n) a.tag
abbrev JeD (a:Zx):=Wc a.name a.value
theorem JhQ (G:J4) (key:Int) (vs_a:Bv) (a:Zx) (h_a:Q6.R G vs_a a) :Q3 102 #[U key,.agg vs_a.toArray] G (Bo (Yi key a)):=by
 obtain ⟨rfl,w1,w2,_,_⟩:=h_a
 refine JQ Tryz.func102 24 [(0,U key),(1,.agg #[Sr a.name,Sr a.value,U a.n,U a.tag])] rfl (fun w0 G0=>?_)
 refine Jf (Jd (Jv 3 #[Sr a.name,Sr a.value,U a.n,U a.tag] 182 (fun b1=>Jb [0] [] (Je (Jc (Jf ?_))))))
 rcases HK (decide (Wc a.name a.value=0)) with h1 | h1
 have h1d:=h1
 try simp only [BB] at h1d
 refine Kv [] (Ws [(0,Pt b1 0),(1,Sr a.name),(2,Pt b1 1),(3,Sr a.value),(4,I (JeD a)),(5,Bo true),(6,Bo true),(7,U key),(8,Pt b1 0),(9,Sr a.name),(10,Pt b1 1),(11,Sr a.value),(12,Pt b1 2),(13,U a.n),(14,Sr (Zj a.name a.value a.n)),(15,Pt b1 3),(16,U a.tag),(17,Bo (JeC a key)),(18,Bo (JeC a key)),(19,Bo (JeC a key))] (Ko [] [(0,0),(1,2),(2,0),(3,2),(6,0),(7,0),(8,0),(9,2),(10,0),(11,2),(12,0),(13,2),(15,0),(16,2),(18,0),(19,0)] [4,5,14,17] [(4,Bo (JeC a key))] (Kf ?_ (Kf ?_ (Kf ?_ (Kf ?_ KY)))) ?_))
 refine Jr 4 9 (I (JeD a)) [(6,Sr a.name),(8,Sr a.value)] (fun X=>?_)
 exact Jl 9 (I (JeD a)) (Jbt G a.name a.value) Jp
 refine Jr 5 10 (Bo true) [(9,I (JeD a))] (fun X=>?_)
 exact Qa 10 (Bo (decide (Wc a.name a.value=0))) (Bo true) (by rw [h1]) Jp
 refine Jr 14 19 (Sr (Zj a.name a.value a.n)) [(11,Bo true),(14,Sr a.name),(16,Sr a.value),(18,U a.n)] (fun X=>?_)
 exact Jl 19 (Sr (Zj a.name a.value a.n)) (JeB G a.name w1 a.value w2 a.n) Jp
 refine Jr 17 22 (Bo (JeC a key)) [(11,Bo true),(12,U key),(19,Sr (Zj a.name a.value a.n)),(21,U a.tag)] (fun X=>?_)
 exact Jl 22 (Bo (JeC a key)) (JhP G key (Zj a.name a.value a.n) a.tag (Ho (JeA a.name a.value a.n) (by decide))) Jp
 refine Jc (Jn (Jo [0] [Bo (JeC a key)] (Jx (Jh _) (congrArg Bo (?_:(Yi key a)=(JeC a key)).symm))))
 unfold Yi;simp_all [JbT]
 have h1d:=h1
 try simp only [BB] at h1d
 refine Kv [] (Ws [(0,Pt b1 0),(1,Sr a.name),(2,Pt b1 1),(3,Sr a.value),(4,I (JeD a)),(5,Bo false),(6,Bo false),(7,undef),(8,undef),(9,undef),(10,undef),(11,undef),(12,undef),(13,undef),(14,undef),(15,undef),(16,undef),(17,undef),(18,Bo false),(19,Bo false)] (Ko [] [(0,0),(1,2),(2,0),(3,2),(6,0),(7,1),(8,1),(9,1),(10,1),(11,1),(12,1),(13,1),(14,1),(15,1),(16,1),(17,1),(18,0),(19,0)] [4,5] [(4,Bo false)] (Kf ?_ (Kf ?_ KY)) ?_))
 refine Jr 4 9 (I (JeD a)) [(6,Sr a.name),(8,Sr a.value)] (fun X=>?_)
 exact Jl 9 (I (JeD a)) (Jbt G a.name a.value) Jp
 refine Jr 5 10 (Bo false) [(9,I (JeD a))] (fun X=>?_)
 exact Qa 10 (Bo (decide (Wc a.name a.value=0))) (Bo false) (by rw [h1]) Jp
 refine Jc (Jn (Jo [0] [Bo false] (Jx (Jh _) (congrArg Bo (?_:(Yi key a)=false).symm))))
 unfold Yi;simp_all [JbT]
theorem JcQ {n:Nat} (h:n≤140737488351232):n≤140737488355328:=by omega
def JE (m:Int) (k:Nat):Int:=48+m / 2 ^ k % 2
theorem and1 {x:Int} (h:0≤x∧x<18446744073709551616):Ha.wrap ((Hb 64 x &&& Hb 64 1).toNat:Int)=x % 2:=by
 obtain ⟨m,rfl⟩:=Hy h.1
 have e:(1:Int)=((1:Nat):Int):=rfl
 rw [e,BitVec.toNat_and,Hu,Hu,Hw,Hw,Hx (by omega),Hx (by omega),Nat.and_one_is_mod,WF (by omega) (by omega)]
 omega
theorem Yb (m:Int) (k:Nat) (h:0≤m∧m<18446744073709551616):Hc.wrap (48+Hc.wrap (Ha.wrap ((Hb 64 (m.fdiv (2 ^ k)) &&& Hb 64 (1)).toNat:Int)))=JE m k:=by
 have hp:(0:Int)<2 ^ k:=Int.pow_pos (by decide)
 have h1:0≤m / 2 ^ k:=Int.ediv_nonneg h.1 (Int.le_of_lt hp)
 have h2:m / 2 ^ k≤m:=Int.ediv_le_self _ h.1
 rw [Ht _ (Int.le_of_lt hp),and1 (by omega),JhC,JhC]
 unfold JE
 omega
def YQ (name:Bb):Bb:=([JE (Ji name) 15,JE (Ji name) 14,JE (Ji name) 13,JE (Ji name) 12,JE (Ji name) 11,JE (Ji name) 10,JE (Ji name) 9,JE (Ji name) 8,JE (Ji name) 7,JE (Ji name) 6,JE (Ji name) 5,JE (Ji name) 4,JE (Ji name) 3,JE (Ji name) 2,JE (Ji name) 1,JE (Ji name) 0]:List Int).map fun n=>Hf n.toNat
theorem Jad (name:Bb):(YQ name).length=16:=rfl
def KM (name:Bb):Bb×Int:=if KS name=false then ([],3) else (YQ name,0)
theorem Jkb (name:Bb):(KM name).1.length≤16:=by
 unfold KM;split
 · simp
 · rw [Jad];exact Hr _
def ZY (x y:Bb):Int:=if Go.Op.bytesLess x y=true then -1 else if x=y then 0 else 1
def orI:List Int→Int
 | []=>0
 | a::l=>if a=0 then orI l else a
theorem JnZ {l:List Int} {i:Nat} {x:Int} (hx:l[i]? = some x) (h:x=0):orI (l.drop i)=orI (l.drop (i+1)):=by
 obtain ⟨h1,rfl⟩:=He.1 hx
 rw [Hl h1]
 show (if _ then _ else _)=_
 rw [if_pos h]
theorem orI_at {l:List Int} {i:Nat} {x:Int} (hx:l[i]? = some x) (h:¬ x=0):orI (l.drop i)=x:=by
 obtain ⟨h1,rfl⟩:=He.1 hx
 rw [Hl h1]
 show (if _ then _ else _)=_
 rw [if_neg h]
theorem Jd7:∀ x:Bb,Go.Op.bytesLess x x=false
 | []=>rfl
 | a::x=>by
  show (decide (a<a) || (a == a && Go.Op.bytesLess x x))=false
  rw [Jd7 x];simp
theorem JiK:∀ x y:Bb,Go.Op.bytesLess x y=true∨x=y∨Go.Op.bytesLess y x=true
 | [],[]=>.inr (.inl rfl)
 | [],_::_=>.inl rfl
 | _::_,[]=>.inr (.inr rfl)
 | a::x,b::y=>by
  show (decide (a<b) || (a == b && Go.Op.bytesLess x y))=true∨_∨(decide (b<a) || (b == a && Go.Op.bytesLess y x))=true
  simp only [Bool.or_eq_true,HL,decide_eq_true_eq,beq_iff_eq]
  rcases UInt8.lt_or_lt_of_ne (a:=a) (b:=b) |> fun f=>(Classical.em (a=b)).imp id f with h | h | h
  ·
   subst h
   rcases JiK x y with h1 | h1 | h1
   · exact .inl (.inr ⟨rfl,h1⟩)
   · exact .inr (.inl (by rw [h1]))
   · exact .inr (.inr (.inr ⟨rfl,h1⟩))
  · exact .inl (.inl h)
  · exact .inr (.inr (.inl h))
theorem Jdm:∀ {x y z:Bb},Go.Op.bytesLess x y=true→Go.Op.bytesLess y z=true→Go.Op.bytesLess x z=true
 | _,_,[],_,h=>by simp [Go.Op.bytesLess] at h
 | _,[],_::_,h,_=>by simp [Go.Op.bytesLess] at h
 | [],_::_,_::_,_,_=>rfl
 | a::x,b::y,c::z,h1,h2=>by
  have k1:(decide (a<b) || (a == b && Go.Op.bytesLess x y))=true:=h1
  have k2:(decide (b<c) || (b == c && Go.Op.bytesLess y z))=true:=h2
  show (decide (a<c) || (a == c && Go.Op.bytesLess x z))=true
  simp only [Bool.or_eq_true,HL,decide_eq_true_eq,beq_iff_eq] at k1 k2 ⊢
  rcases k1 with k1 | ⟨e1,k1⟩ <;> rcases k2 with k2 | ⟨e2,k2⟩
  · exact .inl (UInt8.lt_trans k1 k2)
  · exact .inl (e2 ▸ k1)
  · exact .inl (e1 ▸ k2)
  · exact .inr ⟨e1.trans e2,Jdm k1 k2⟩
theorem Jli {x y:Bb}:ZY x y<0 ↔ Go.Op.bytesLess x y=true:=by
 unfold ZY
 split
 · rename_i h;simp [h]
 · rename_i h;split <;> simp [h]
theorem Jam {x y:Bb}:ZY x y=0 ↔ x=y:=by
 unfold ZY
 split
 ·
  rename_i h
  constructor
  · intro hc;cases hc
  · rintro rfl;rw [Jd7] at h;cases h
 · split <;> simp_all
theorem Jlj {x y:Bb}:0<ZY x y ↔ Go.Op.bytesLess y x=true:=by
 unfold ZY
 split
 ·
  rename_i h
  constructor
  · intro hc;omega
  · intro hc;have:=Jdm h hc;rw [Jd7] at this;cases this
 ·
  rename_i h
  split
  · rename_i h2;subst h2;rw [Jd7];simp
  ·
   rename_i h2
   constructor
   ·
    intro _;rcases JiK x y with h3 | h3 | h3
    · exact absurd h3 h
    · exact absurd h3 h2
    · exact h3
   · intro _;decide
def way (name:Bb):Bb:=(KM name).1
theorem Jpw (name:Bb):(way name).length≤16:=Jkb name
def Yn (a b:Bb):Int:=orI [ZY (way a) (way b),ZY a b]
theorem JhR (a b:Bb):Yn a b=if ZY (way a) (way b)=0 then ZY a b else ZY (way a) (way b):=by
 by_cases h:ZY (way a) (way b)=0 <;> by_cases h2:ZY a b=0 <;> simp [Yn,orI,h,h2]
theorem YD {a b:Bb}:Yn a b=0 ↔ a=b:=by
 rw [JhR]
 split
 · exact Jam
 ·
  rename_i h
  constructor
  · intro hc;exact absurd hc h
  · rintro rfl;exact absurd (Jam.2 rfl) h
theorem Jlk {a b:Bb}:Yn a b<0 ↔ Go.Op.bytesLess (way a) (way b)=true∨(way a=way b∧Go.Op.bytesLess a b=true):=by
 rw [JhR]
 split
 ·
  rename_i h
  rw [Jli]
  have e:=Jam.1 h
  rw [e,Jd7];simp
 ·
  rename_i h
  rw [Jli]
  constructor
  · exact .inl
  ·
   rintro (h1 | ⟨h1,_⟩)
   · exact h1
   · exact absurd (Jam.2 h1) h
theorem Jpx {a b:Bb}:0<Yn a b ↔ Yn b a<0:=by
 rw [JhR,Jlk]
 split
 ·
  rename_i h
  rw [Jlj]
  have e:=Jam.1 h
  rw [e,Jd7];simp
 ·
  rename_i h
  rw [Jlj]
  constructor
  · exact .inl
  ·
   rintro (h1 | ⟨h1,_⟩)
   · exact h1
   · exact absurd (Jam.2 h1.symm) h
theorem JcR {a b c:Bb} (h1:Yn a b<0) (h2:Yn b c<0):Yn a c<0:=by
 rw [Jlk] at *
 rcases h1 with h1 | ⟨e1,h1⟩ <;> rcases h2 with h2 | ⟨e2,h2⟩
 · exact .inl (Jdm h1 h2)
 · exact .inl (e2 ▸ h1)
 · exact .inl (e1 ▸ h2)
 · exact .inr ⟨e1.trans e2,Jdm h1 h2⟩
set_option maxRecDepth 20000 in
theorem JhS (G:J4) (name:Bb) (hw_name:(name).length≤140737488351232) :Q3 218 #[Sr name] G (Sr (YQ name)):=by
 refine JQ Tryz.func218 23 [(0,Sr name)] rfl (fun w0 G0=>?_)
 refine Jg [0] [] (Jf (Jd (Jb [0] [(6,Sr name)] (Jl 7 (U (Ji name)) (Z6 name (JcQ hw_name) G) (Jb [0] [(3,U (Ji name))] (Je (Jc (Jf (Jd (Jv 4 #[Y 0,Y 0,Y 0,Y 0,Y 0,Y 0,Y 0,Y 0,Y 0,Y 0,Y 0,Y 0,Y 0,Y 0,Y 0,Y 0] 328 (fun b1=>Je (Jc (Jf (Jg [0] [(8,I 0)] (Jy (JdT 17 (Wy (Jg [0] [(9,Bo true)] (Jf (J0 ?_))))))))))))))))))))
 refine Jq (Jc (Jf (Jy (Jg [0,0] [(5,I 0)] (Jd (JT [0,0,0,0,0,0,0,0,0,3] [] [[Sg b1 0 [Y (Hc.wrap (48+(Hc.wrap (Ha.wrap ((Hb 64 ((Ji name).fdiv (2 ^ 15)) &&& Hb 64 1).toNat:Int))))),Y 0,Y 0,Y 0,Y 0,Y 0,Y 0,Y 0,Y 0,Y 0,Y 0,Y 0,Y 0,Y 0,Y 0,Y 0]]] ?_))))))
 have e1:Hc.wrap (48+(Hc.wrap (Ha.wrap ((Hb 64 ((Ji name).fdiv (2 ^ 15)) &&& Hb 64 1).toNat:Int))))=JE (Ji name) 15:=Yb (Ji name) 15 (by have:=QP name;omega)
 refine Zw (L':=[[Sg b1 0 [Y (JE (Ji name) 15),Y 0,Y 0,Y 0,Y 0,Y 0,Y 0,Y 0,Y 0,Y 0,Y 0,Y 0,Y 0,Y 0,Y 0,Y 0]]]) (by simp only [e1]) ?_
 clear e1
 refine Je (JN (Jc (Jd (Jb [0,0] [(8,I 1)] (Je (WP (Wy (Jg [0] [(9,Bo true)] (Jf (J0 (Jq (Jc (Jf (Jy (Jg [0,0] [(5,I 1)] (Jd (JT [0,0,0,0,0,0,0,0,0,3] [] [[Sg b1 0 [Y (JE (Ji name) 15),Y (Hc.wrap (48+(Hc.wrap (Ha.wrap ((Hb 64 ((Ji name).fdiv (2 ^ 14)) &&& Hb 64 1).toNat:Int))))),Y 0,Y 0,Y 0,Y 0,Y 0,Y 0,Y 0,Y 0,Y 0,Y 0,Y 0,Y 0,Y 0,Y 0]]] ?_)))))))))))))))))
 have e2:Hc.wrap (48+(Hc.wrap (Ha.wrap ((Hb 64 ((Ji name).fdiv (2 ^ 14)) &&& Hb 64 1).toNat:Int))))=JE (Ji name) 14:=Yb (Ji name) 14 (by have:=QP name;omega)
 refine Zw (L':=[[Sg b1 0 [Y (JE (Ji name) 15),Y (JE (Ji name) 14),Y 0,Y 0,Y 0,Y 0,Y 0,Y 0,Y 0,Y 0,Y 0,Y 0,Y 0,Y 0,Y 0,Y 0]]]) (by simp only [e2]) ?_
 clear e2
 refine Je (JN (Jc (Jd (Jb [0,0] [(8,I 2)] (Je (WP (Wy (Jg [0] [(9,Bo true)] (Jf (J0 (Jq (Jc (Jf (Jy (Jg [0,0] [(5,I 2)] (Jd (JT [0,0,0,0,0,0,0,0,0,3] [] [[Sg b1 0 [Y (JE (Ji name) 15),Y (JE (Ji name) 14),Y (Hc.wrap (48+(Hc.wrap (Ha.wrap ((Hb 64 ((Ji name).fdiv (2 ^ 13)) &&& Hb 64 1).toNat:Int))))),Y 0,Y 0,Y 0,Y 0,Y 0,Y 0,Y 0,Y 0,Y 0,Y 0,Y 0,Y 0,Y 0]]] ?_)))))))))))))))))
 have e3:Hc.wrap (48+(Hc.wrap (Ha.wrap ((Hb 64 ((Ji name).fdiv (2 ^ 13)) &&& Hb 64 1).toNat:Int))))=JE (Ji name) 13:=Yb (Ji name) 13 (by have:=QP name;omega)
 refine Zw (L':=[[Sg b1 0 [Y (JE (Ji name) 15),Y (JE (Ji name) 14),Y (JE (Ji name) 13),Y 0,Y 0,Y 0,Y 0,Y 0,Y 0,Y 0,Y 0,Y 0,Y 0,Y 0,Y 0,Y 0]]]) (by simp only [e3]) ?_
 clear e3
 refine Je (JN (Jc (Jd (Jb [0,0] [(8,I 3)] (Je (WP (Wy (Jg [0] [(9,Bo true)] (Jf (J0 (Jq (Jc (Jf (Jy (Jg [0,0] [(5,I 3)] (Jd (JT [0,0,0,0,0,0,0,0,0,3] [] [[Sg b1 0 [Y (JE (Ji name) 15),Y (JE (Ji name) 14),Y (JE (Ji name) 13),Y (Hc.wrap (48+(Hc.wrap (Ha.wrap ((Hb 64 ((Ji name).fdiv (2 ^ 12)) &&& Hb 64 1).toNat:Int))))),Y 0,Y 0,Y 0,Y 0,Y 0,Y 0,Y 0,Y 0,Y 0,Y 0,Y 0,Y 0]]] ?_)))))))))))))))))
 have e4:Hc.wrap (48+(Hc.wrap (Ha.wrap ((Hb 64 ((Ji name).fdiv (2 ^ 12)) &&& Hb 64 1).toNat:Int))))=JE (Ji name) 12:=Yb (Ji name) 12 (by have:=QP name;omega)
 refine Zw (L':=[[Sg b1 0 [Y (JE (Ji name) 15),Y (JE (Ji name) 14),Y (JE (Ji name) 13),Y (JE (Ji name) 12),Y 0,Y 0,Y 0,Y 0,Y 0,Y 0,Y 0,Y 0,Y 0,Y 0,Y 0,Y 0]]]) (by simp only [e4]) ?_
 clear e4
 refine Je (JN (Jc (Jd (Jb [0,0] [(8,I 4)] (Je (WP (Wy (Jg [0] [(9,Bo true)] (Jf (J0 (Jq (Jc (Jf (Jy (Jg [0,0] [(5,I 4)] (Jd (JT [0,0,0,0,0,0,0,0,0,3] [] [[Sg b1 0 [Y (JE (Ji name) 15),Y (JE (Ji name) 14),Y (JE (Ji name) 13),Y (JE (Ji name) 12),Y (Hc.wrap (48+(Hc.wrap (Ha.wrap ((Hb 64 ((Ji name).fdiv (2 ^ 11)) &&& Hb 64 1).toNat:Int))))),Y 0,Y 0,Y 0,Y 0,Y 0,Y 0,Y 0,Y 0,Y 0,Y 0,Y 0]]] ?_)))))))))))))))))
 have e5:Hc.wrap (48+(Hc.wrap (Ha.wrap ((Hb 64 ((Ji name).fdiv (2 ^ 11)) &&& Hb 64 1).toNat:Int))))=JE (Ji name) 11:=Yb (Ji name) 11 (by have:=QP name;omega)
 refine Zw (L':=[[Sg b1 0 [Y (JE (Ji name) 15),Y (JE (Ji name) 14),Y (JE (Ji name) 13),Y (JE (Ji name) 12),Y (JE (Ji name) 11),Y 0,Y 0,Y 0,Y 0,Y 0,Y 0,Y 0,Y 0,Y 0,Y 0,Y 0]]]) (by simp only [e5]) ?_
 clear e5
 refine Je (JN (Jc (Jd (Jb [0,0] [(8,I 5)] (Je (WP (Wy (Jg [0] [(9,Bo true)] (Jf (J0 (Jq (Jc (Jf (Jy (Jg [0,0] [(5,I 5)] (Jd (JT [0,0,0,0,0,0,0,0,0,3] [] [[Sg b1 0 [Y (JE (Ji name) 15),Y (JE (Ji name) 14),Y (JE (Ji name) 13),Y (JE (Ji name) 12),Y (JE (Ji name) 11),Y (Hc.wrap (48+(Hc.wrap (Ha.wrap ((Hb 64 ((Ji name).fdiv (2 ^ 10)) &&& Hb 64 1).toNat:Int))))),Y 0,Y 0,Y 0,Y 0,Y 0,Y 0,Y 0,Y 0,Y 0,Y 0]]] ?_)))))))))))))))))
 have e6:Hc.wrap (48+(Hc.wrap (Ha.wrap ((Hb 64 ((Ji name).fdiv (2 ^ 10)) &&& Hb 64 1).toNat:Int))))=JE (Ji name) 10:=Yb (Ji name) 10 (by have:=QP name;omega)
 refine Zw (L':=[[Sg b1 0 [Y (JE (Ji name) 15),Y (JE (Ji name) 14),Y (JE (Ji name) 13),Y (JE (Ji name) 12),Y (JE (Ji name) 11),Y (JE (Ji name) 10),Y 0,Y 0,Y 0,Y 0,Y 0,Y 0,Y 0,Y 0,Y 0,Y 0]]]) (by simp only [e6]) ?_
 clear e6
 refine Je (JN (Jc (Jd (Jb [0,0] [(8,I 6)] (Je (WP (Wy (Jg [0] [(9,Bo true)] (Jf (J0 (Jq (Jc (Jf (Jy (Jg [0,0] [(5,I 6)] (Jd (JT [0,0,0,0,0,0,0,0,0,3] [] [[Sg b1 0 [Y (JE (Ji name) 15),Y (JE (Ji name) 14),Y (JE (Ji name) 13),Y (JE (Ji name) 12),Y (JE (Ji name) 11),Y (JE (Ji name) 10),Y (Hc.wrap (48+(Hc.wrap (Ha.wrap ((Hb 64 ((Ji name).fdiv (2 ^ 9)) &&& Hb 64 1).toNat:Int))))),Y 0,Y 0,Y 0,Y 0,Y 0,Y 0,Y 0,Y 0,Y 0]]] ?_)))))))))))))))))
 have e7:Hc.wrap (48+(Hc.wrap (Ha.wrap ((Hb 64 ((Ji name).fdiv (2 ^ 9)) &&& Hb 64 1).toNat:Int))))=JE (Ji name) 9:=Yb (Ji name) 9 (by have:=QP name;omega)
 refine Zw (L':=[[Sg b1 0 [Y (JE (Ji name) 15),Y (JE (Ji name) 14),Y (JE (Ji name) 13),Y (JE (Ji name) 12),Y (JE (Ji name) 11),Y (JE (Ji name) 10),Y (JE (Ji name) 9),Y 0,Y 0,Y 0,Y 0,Y 0,Y 0,Y 0,Y 0,Y 0]]]) (by simp only [e7]) ?_
 clear e7
 refine Je (JN (Jc (Jd (Jb [0,0] [(8,I 7)] (Je (WP (Wy (Jg [0] [(9,Bo true)] (Jf (J0 (Jq (Jc (Jf (Jy (Jg [0,0] [(5,I 7)] (Jd (JT [0,0,0,0,0,0,0,0,0,3] [] [[Sg b1 0 [Y (JE (Ji name) 15),Y (JE (Ji name) 14),Y (JE (Ji name) 13),Y (JE (Ji name) 12),Y (JE (Ji name) 11),Y (JE (Ji name) 10),Y (JE (Ji name) 9),Y (Hc.wrap (48+(Hc.wrap (Ha.wrap ((Hb 64 ((Ji name).fdiv (2 ^ 8)) &&& Hb 64 1).toNat:Int))))),Y 0,Y 0,Y 0,Y 0,Y 0,Y 0,Y 0,Y 0]]] ?_)))))))))))))))))
 have e8:Hc.wrap (48+(Hc.wrap (Ha.wrap ((Hb 64 ((Ji name).fdiv (2 ^ 8)) &&& Hb 64 1).toNat:Int))))=JE (Ji name) 8:=Yb (Ji name) 8 (by have:=QP name;omega)
 refine Zw (L':=[[Sg b1 0 [Y (JE (Ji name) 15),Y (JE (Ji name) 14),Y (JE (Ji name) 13),Y (JE (Ji name) 12),Y (JE (Ji name) 11),Y (JE (Ji name) 10),Y (JE (Ji name) 9),Y (JE (Ji name) 8),Y 0,Y 0,Y 0,Y 0,Y 0,Y 0,Y 0,Y 0]]]) (by simp only [e8]) ?_
 clear e8
 refine Je (JN (Jc (Jd (Jb [0,0] [(8,I 8)] (Je (WP (Wy (Jg [0] [(9,Bo true)] (Jf (J0 (Jq (Jc (Jf (Jy (Jg [0,0] [(5,I 8)] (Jd (JT [0,0,0,0,0,0,0,0,0,3] [] [[Sg b1 0 [Y (JE (Ji name) 15),Y (JE (Ji name) 14),Y (JE (Ji name) 13),Y (JE (Ji name) 12),Y (JE (Ji name) 11),Y (JE (Ji name) 10),Y (JE (Ji name) 9),Y (JE (Ji name) 8),Y (Hc.wrap (48+(Hc.wrap (Ha.wrap ((Hb 64 ((Ji name).fdiv (2 ^ 7)) &&& Hb 64 1).toNat:Int))))),Y 0,Y 0,Y 0,Y 0,Y 0,Y 0,Y 0]]] ?_)))))))))))))))))
 have e9:Hc.wrap (48+(Hc.wrap (Ha.wrap ((Hb 64 ((Ji name).fdiv (2 ^ 7)) &&& Hb 64 1).toNat:Int))))=JE (Ji name) 7:=Yb (Ji name) 7 (by have:=QP name;omega)
 refine Zw (L':=[[Sg b1 0 [Y (JE (Ji name) 15),Y (JE (Ji name) 14),Y (JE (Ji name) 13),Y (JE (Ji name) 12),Y (JE (Ji name) 11),Y (JE (Ji name) 10),Y (JE (Ji name) 9),Y (JE (Ji name) 8),Y (JE (Ji name) 7),Y 0,Y 0,Y 0,Y 0,Y 0,Y 0,Y 0]]]) (by simp only [e9]) ?_
 clear e9
 refine Je (JN (Jc (Jd (Jb [0,0] [(8,I 9)] (Je (WP (Wy (Jg [0] [(9,Bo true)] (Jf (J0 (Jq (Jc (Jf (Jy (Jg [0,0] [(5,I 9)] (Jd (JT [0,0,0,0,0,0,0,0,0,3] [] [[Sg b1 0 [Y (JE (Ji name) 15),Y (JE (Ji name) 14),Y (JE (Ji name) 13),Y (JE (Ji name) 12),Y (JE (Ji name) 11),Y (JE (Ji name) 10),Y (JE (Ji name) 9),Y (JE (Ji name) 8),Y (JE (Ji name) 7),Y (Hc.wrap (48+(Hc.wrap (Ha.wrap ((Hb 64 ((Ji name).fdiv (2 ^ 6)) &&& Hb 64 1).toNat:Int))))),Y 0,Y 0,Y 0,Y 0,Y 0,Y 0]]] ?_)))))))))))))))))
 have e10:Hc.wrap (48+(Hc.wrap (Ha.wrap ((Hb 64 ((Ji name).fdiv (2 ^ 6)) &&& Hb 64 1).toNat:Int))))=JE (Ji name) 6:=Yb (Ji name) 6 (by have:=QP name;omega)
 refine Zw (L':=[[Sg b1 0 [Y (JE (Ji name) 15),Y (JE (Ji name) 14),Y (JE (Ji name) 13),Y (JE (Ji name) 12),Y (JE (Ji name) 11),Y (JE (Ji name) 10),Y (JE (Ji name) 9),Y (JE (Ji name) 8),Y (JE (Ji name) 7),Y (JE (Ji name) 6),Y 0,Y 0,Y 0,Y 0,Y 0,Y 0]]]) (by simp only [e10]) ?_
 clear e10
 refine Je (JN (Jc (Jd (Jb [0,0] [(8,I 10)] (Je (WP (Wy (Jg [0] [(9,Bo true)] (Jf (J0 (Jq (Jc (Jf (Jy (Jg [0,0] [(5,I 10)] (Jd (JT [0,0,0,0,0,0,0,0,0,3] [] [[Sg b1 0 [Y (JE (Ji name) 15),Y (JE (Ji name) 14),Y (JE (Ji name) 13),Y (JE (Ji name) 12),Y (JE (Ji name) 11),Y (JE (Ji name) 10),Y (JE (Ji name) 9),Y (JE (Ji name) 8),Y (JE (Ji name) 7),Y (JE (Ji name) 6),Y (Hc.wrap (48+(Hc.wrap (Ha.wrap ((Hb 64 ((Ji name).fdiv (2 ^ 5)) &&& Hb 64 1).toNat:Int))))),Y 0,Y 0,Y 0,Y 0,Y 0]]] ?_)))))))))))))))))
 have e11:Hc.wrap (48+(Hc.wrap (Ha.wrap ((Hb 64 ((Ji name).fdiv (2 ^ 5)) &&& Hb 64 1).toNat:Int))))=JE (Ji name) 5:=Yb (Ji name) 5 (by have:=QP name;omega)
 refine Zw (L':=[[Sg b1 0 [Y (JE (Ji name) 15),Y (JE (Ji name) 14),Y (JE (Ji name) 13),Y (JE (Ji name) 12),Y (JE (Ji name) 11),Y (JE (Ji name) 10),Y (JE (Ji name) 9),Y (JE (Ji name) 8),Y (JE (Ji name) 7),Y (JE (Ji name) 6),Y (JE (Ji name) 5),Y 0,Y 0,Y 0,Y 0,Y 0]]]) (by simp only [e11]) ?_
 clear e11
 refine Je (JN (Jc (Jd (Jb [0,0] [(8,I 11)] (Je (WP (Wy (Jg [0] [(9,Bo true)] (Jf (J0 (Jq (Jc (Jf (Jy (Jg [0,0] [(5,I 11)] (Jd (JT [0,0,0,0,0,0,0,0,0,3] [] [[Sg b1 0 [Y (JE (Ji name) 15),Y (JE (Ji name) 14),Y (JE (Ji name) 13),Y (JE (Ji name) 12),Y (JE (Ji name) 11),Y (JE (Ji name) 10),Y (JE (Ji name) 9),Y (JE (Ji name) 8),Y (JE (Ji name) 7),Y (JE (Ji name) 6),Y (JE (Ji name) 5),Y (Hc.wrap (48+(Hc.wrap (Ha.wrap ((Hb 64 ((Ji name).fdiv (2 ^ 4)) &&& Hb 64 1).toNat:Int))))),Y 0,Y 0,Y 0,Y 0]]] ?_)))))))))))))))))
 have e12:Hc.wrap (48+(Hc.wrap (Ha.wrap ((Hb 64 ((Ji name).fdiv (2 ^ 4)) &&& Hb 64 1).toNat:Int))))=JE (Ji name) 4:=Yb (Ji name) 4 (by have:=QP name;omega)
 refine Zw (L':=[[Sg b1 0 [Y (JE (Ji name) 15),Y (JE (Ji name) 14),Y (JE (Ji name) 13),Y (JE (Ji name) 12),Y (JE (Ji name) 11),Y (JE (Ji name) 10),Y (JE (Ji name) 9),Y (JE (Ji name) 8),Y (JE (Ji name) 7),Y (JE (Ji name) 6),Y (JE (Ji name) 5),Y (JE (Ji name) 4),Y 0,Y 0,Y 0,Y 0]]]) (by simp only [e12]) ?_
 clear e12
 refine Je (JN (Jc (Jd (Jb [0,0] [(8,I 12)] (Je (WP (Wy (Jg [0] [(9,Bo true)] (Jf (J0 (Jq (Jc (Jf (Jy (Jg [0,0] [(5,I 12)] (Jd (JT [0,0,0,0,0,0,0,0,0,3] [] [[Sg b1 0 [Y (JE (Ji name) 15),Y (JE (Ji name) 14),Y (JE (Ji name) 13),Y (JE (Ji name) 12),Y (JE (Ji name) 11),Y (JE (Ji name) 10),Y (JE (Ji name) 9),Y (JE (Ji name) 8),Y (JE (Ji name) 7),Y (JE (Ji name) 6),Y (JE (Ji name) 5),Y (JE (Ji name) 4),Y (Hc.wrap (48+(Hc.wrap (Ha.wrap ((Hb 64 ((Ji name).fdiv (2 ^ 3)) &&& Hb 64 1).toNat:Int))))),Y 0,Y 0,Y 0]]] ?_)))))))))))))))))
 have e13:Hc.wrap (48+(Hc.wrap (Ha.wrap ((Hb 64 ((Ji name).fdiv (2 ^ 3)) &&& Hb 64 1).toNat:Int))))=JE (Ji name) 3:=Yb (Ji name) 3 (by have:=QP name;omega)
 refine Zw (L':=[[Sg b1 0 [Y (JE (Ji name) 15),Y (JE (Ji name) 14),Y (JE (Ji name) 13),Y (JE (Ji name) 12),Y (JE (Ji name) 11),Y (JE (Ji name) 10),Y (JE (Ji name) 9),Y (JE (Ji name) 8),Y (JE (Ji name) 7),Y (JE (Ji name) 6),Y (JE (Ji name) 5),Y (JE (Ji name) 4),Y (JE (Ji name) 3),Y 0,Y 0,Y 0]]]) (by simp only [e13]) ?_
 clear e13
 refine Je (JN (Jc (Jd (Jb [0,0] [(8,I 13)] (Je (WP (Wy (Jg [0] [(9,Bo true)] (Jf (J0 (Jq (Jc (Jf (Jy (Jg [0,0] [(5,I 13)] (Jd (JT [0,0,0,0,0,0,0,0,0,3] [] [[Sg b1 0 [Y (JE (Ji name) 15),Y (JE (Ji name) 14),Y (JE (Ji name) 13),Y (JE (Ji name) 12),Y (JE (Ji name) 11),Y (JE (Ji name) 10),Y (JE (Ji name) 9),Y (JE (Ji name) 8),Y (JE (Ji name) 7),Y (JE (Ji name) 6),Y (JE (Ji name) 5),Y (JE (Ji name) 4),Y (JE (Ji name) 3),Y (Hc.wrap (48+(Hc.wrap (Ha.wrap ((Hb 64 ((Ji name).fdiv (2 ^ 2)) &&& Hb 64 1).toNat:Int))))),Y 0,Y 0]]] ?_)))))))))))))))))
 have e14:Hc.wrap (48+(Hc.wrap (Ha.wrap ((Hb 64 ((Ji name).fdiv (2 ^ 2)) &&& Hb 64 1).toNat:Int))))=JE (Ji name) 2:=Yb (Ji name) 2 (by have:=QP name;omega)
 refine Zw (L':=[[Sg b1 0 [Y (JE (Ji name) 15),Y (JE (Ji name) 14),Y (JE (Ji name) 13),Y (JE (Ji name) 12),Y (JE (Ji name) 11),Y (JE (Ji name) 10),Y (JE (Ji name) 9),Y (JE (Ji name) 8),Y (JE (Ji name) 7),Y (JE (Ji name) 6),Y (JE (Ji name) 5),Y (JE (Ji name) 4),Y (JE (Ji name) 3),Y (JE (Ji name) 2),Y 0,Y 0]]]) (by simp only [e14]) ?_
 clear e14
 refine Je (JN (Jc (Jd (Jb [0,0] [(8,I 14)] (Je (WP (Wy (Jg [0] [(9,Bo true)] (Jf (J0 (Jq (Jc (Jf (Jy (Jg [0,0] [(5,I 14)] (Jd (JT [0,0,0,0,0,0,0,0,0,3] [] [[Sg b1 0 [Y (JE (Ji name) 15),Y (JE (Ji name) 14),Y (JE (Ji name) 13),Y (JE (Ji name) 12),Y (JE (Ji name) 11),Y (JE (Ji name) 10),Y (JE (Ji name) 9),Y (JE (Ji name) 8),Y (JE (Ji name) 7),Y (JE (Ji name) 6),Y (JE (Ji name) 5),Y (JE (Ji name) 4),Y (JE (Ji name) 3),Y (JE (Ji name) 2),Y (Hc.wrap (48+(Hc.wrap (Ha.wrap ((Hb 64 ((Ji name).fdiv (2 ^ 1)) &&& Hb 64 1).toNat:Int))))),Y 0]]] ?_)))))))))))))))))
 have e15:Hc.wrap (48+(Hc.wrap (Ha.wrap ((Hb 64 ((Ji name).fdiv (2 ^ 1)) &&& Hb 64 1).toNat:Int))))=JE (Ji name) 1:=Yb (Ji name) 1 (by have:=QP name;omega)
 refine Zw (L':=[[Sg b1 0 [Y (JE (Ji name) 15),Y (JE (Ji name) 14),Y (JE (Ji name) 13),Y (JE (Ji name) 12),Y (JE (Ji name) 11),Y (JE (Ji name) 10),Y (JE (Ji name) 9),Y (JE (Ji name) 8),Y (JE (Ji name) 7),Y (JE (Ji name) 6),Y (JE (Ji name) 5),Y (JE (Ji name) 4),Y (JE (Ji name) 3),Y (JE (Ji name) 2),Y (JE (Ji name) 1),Y 0]]]) (by simp only [e15]) ?_
 clear e15
 refine Je (JN (Jc (Jd (Jb [0,0] [(8,I 15)] (Je (WP (Wy (Jg [0] [(9,Bo true)] (Jf (J0 (Jq (Jc (Jf (Jy (Jg [0,0] [(5,I 15)] (Jd (JT [0,0,0,0,0,0,0,0,0,3] [] [[Sg b1 0 [Y (JE (Ji name) 15),Y (JE (Ji name) 14),Y (JE (Ji name) 13),Y (JE (Ji name) 12),Y (JE (Ji name) 11),Y (JE (Ji name) 10),Y (JE (Ji name) 9),Y (JE (Ji name) 8),Y (JE (Ji name) 7),Y (JE (Ji name) 6),Y (JE (Ji name) 5),Y (JE (Ji name) 4),Y (JE (Ji name) 3),Y (JE (Ji name) 2),Y (JE (Ji name) 1),Y (Hc.wrap (48+(Hc.wrap (Ha.wrap ((Hb 64 ((Ji name).fdiv (2 ^ 0)) &&& Hb 64 1).toNat:Int)))))]]] ?_)))))))))))))))))
 have e16:Hc.wrap (48+(Hc.wrap (Ha.wrap ((Hb 64 ((Ji name).fdiv (2 ^ 0)) &&& Hb 64 1).toNat:Int))))=JE (Ji name) 0:=Yb (Ji name) 0 (by have:=QP name;omega)
 refine Zw (L':=[[Sg b1 0 [Y (JE (Ji name) 15),Y (JE (Ji name) 14),Y (JE (Ji name) 13),Y (JE (Ji name) 12),Y (JE (Ji name) 11),Y (JE (Ji name) 10),Y (JE (Ji name) 9),Y (JE (Ji name) 8),Y (JE (Ji name) 7),Y (JE (Ji name) 6),Y (JE (Ji name) 5),Y (JE (Ji name) 4),Y (JE (Ji name) 3),Y (JE (Ji name) 2),Y (JE (Ji name) 1),Y (JE (Ji name) 0)]]]) (by simp only [e16]) ?_
 clear e16
 refine Je (JN (Jc (Jd (Jb [0,0] [(8,I 16)] (Je (WP (Wy (Jg [0] [(9,Bo false)] (Jf (Qp (KX (J1 (J1 (JV (Jc (Jf (Jd (Jb [0] [(21,Sl (At b1 0) 16 16)] (Jba (b:=b1) (off:=0) (len:=16) (cap:=16) (cs:=HR (Value.int .u8) [JE (Ji name) 15,JE (Ji name) 14,JE (Ji name) 13,JE (Ji name) 12,JE (Ji name) 11,JE (Ji name) 10,JE (Ji name) 9,JE (Ji name) 8,JE (Ji name) 7,JE (Ji name) 6,JE (Ji name) 5,JE (Ji name) 4,JE (Ji name) 3,JE (Ji name) 2,JE (Ji name) 1,JE (Ji name) 0]) 22 0 [JE (Ji name) 15,JE (Ji name) 14,JE (Ji name) 13,JE (Ji name) 12,JE (Ji name) 11,JE (Ji name) 10,JE (Ji name) 9,JE (Ji name) 8,JE (Ji name) 7,JE (Ji name) 6,JE (Ji name) 5,JE (Ji name) 4,JE (Ji name) 3,JE (Ji name) 2,JE (Ji name) 1,JE (Ji name) 0] rfl (Jak (ns:=[JE (Ji name) 15,JE (Ji name) 14,JE (Ji name) 13,JE (Ji name) 12,JE (Ji name) 11,JE (Ji name) 10,JE (Ji name) 9,JE (Ji name) 8,JE (Ji name) 7,JE (Ji name) 6,JE (Ji name) 5,JE (Ji name) 4,JE (Ji name) 3,JE (Ji name) 2,JE (Ji name) 1,JE (Ji name) 0]) rfl) (Jb [0] [(2,Sr (([JE (Ji name) 15,JE (Ji name) 14,JE (Ji name) 13,JE (Ji name) 12,JE (Ji name) 11,JE (Ji name) 10,JE (Ji name) 9,JE (Ji name) 8,JE (Ji name) 7,JE (Ji name) 6,JE (Ji name) 5,JE (Ji name) 4,JE (Ji name) 3,JE (Ji name) 2,JE (Ji name) 1,JE (Ji name) 0]:List Int).map fun n=>Hf n.toNat))] (Je (Jc (Jn (Jo [0] [Sr (([JE (Ji name) 15,JE (Ji name) 14,JE (Ji name) 13,JE (Ji name) 12,JE (Ji name) 11,JE (Ji name) 10,JE (Ji name) 9,JE (Ji name) 8,JE (Ji name) 7,JE (Ji name) 6,JE (Ji name) 5,JE (Ji name) 4,JE (Ji name) 3,JE (Ji name) 2,JE (Ji name) 1,JE (Ji name) 0]:List Int).map fun n=>Hf n.toNat)] (Jx (Jh _) (congrArg Sr (?_:(YQ name)=(([JE (Ji name) 15,JE (Ji name) 14,JE (Ji name) 13,JE (Ji name) 12,JE (Ji name) 11,JE (Ji name) 10,JE (Ji name) 9,JE (Ji name) 8,JE (Ji name) 7,JE (Ji name) 6,JE (Ji name) 5,JE (Ji name) 4,JE (Ji name) 3,JE (Ji name) 2,JE (Ji name) 1,JE (Ji name) 0]:List Int).map fun n=>Hf n.toNat)).symm))))))))))))))))))))))))))
 rfl
theorem JcS (G:J4) (name:Bb) (hw_name:(name).length≤140737488351232) :Q3 173 #[Sr name] G (.tuple #[Sr ((KM name).1),I ((KM name).2)]):=by
 refine JQ Tryz.func173 9 [(0,Sr name)] rfl (fun w0 G0=>?_)
 refine Jg [0,0] [] (Jf (Jf (Jd (Jb [0] [(4,Sr name)] (Jl 5 (Bo (KS name)) (ZX G name) (Jb [0] [(6,Bo (!(KS name)))] (Je (Jc (Jm (!(KS name)) (fun h1=>?_) (fun h1=>?_))))))))))
 refine Jg [0,0] [(2,Sr ([])),(3,I 3)] (Jn (Jj (Jo [0,0] [Sr ([]),I 3] (Jx (Jh _) ?_))))
 have hf_:(KM name)=([],3):=by
  unfold KM;simp_all
 · (try rw [hf_]);(simp only [Qy];done)
 refine Jq (Jc (Jf (Jd (Jb [0] [(7,Sr name)] (Jl 8 (Sr (YQ name)) (JhS G name hw_name) (Jb [0,0] [(2,Sr (YQ name)),(3,I 0)] (Je (Jc (Jn (Jo [0,0] [Sr (YQ name),I 0] (Jx (Jh _) ?_)))))))))))
 have hf_:(KM name)=(YQ name,0):=by
  unfold KM;simp_all
 · (try rw [hf_]);(simp only [Qy];done)
theorem Jg7 (G:J4) (x:Bb) :Q3 172 #[Sr x] G (Bo false):=by
 refine JQ Tryz.func172 6 [(0,Sr x)] rfl (fun w0 G0=>?_)
 refine Jg [0] [] (Jg [0,0,0,0] [(2,Bo (!((B x).toList == (B x).toList)))] (QW 2 (Bo (!(x == x))) (show (Bo (!((B x).toList == (B x).toList)):Value)=Bo (!(x == x)) by simp only [QY]) (Jn (Jo [0] [Bo (!(x == x))] (Jx (Jh _) (congrArg Bo (?_:false=(!(x == x))).symm))))))
 simp
theorem JiL (G:J4) (x:Bb) (y:Bb) :Q3 117 #[Sr x,Sr y] G (I (ZY x y)):=by
 refine JQ Tryz.func117 20 [(0,Sr x),(1,Sr y)] rfl (fun w0 G0=>?_)
 refine Jg [0] [] (Jf (Jd (Jb [0] [(7,Sr x)] (Jl 8 (Bo false) (Jg7 G x) (Jb [0] [(5,Bo false)] (Je (Jc (Jf (Jd (Jb [0] [(9,Sr y)] (Jl 10 (Bo false) (Jg7 G y) (Jb [0] [(6,Bo false)] (Je (Jc (Jf (Jg [0] [(11,Bo false)] (Qp (Jq (Jc (Jf (Jg [0] [(13,Bo false)] ?_)))))))))))))))))))))
 refine Qp (Jq (Jc (Jf (Jg [0,0,0] [(16,Bo (Go.Op.bytesLess (B x).toList (B y).toList))] (QW 16 (Bo (Go.Op.bytesLess x y)) (show (Bo (Go.Op.bytesLess (B x).toList (B y).toList):Value)=Bo (Go.Op.bytesLess x y) by simp only [QY]) (Jm (Go.Op.bytesLess x y) (fun h1=>?_) (fun h1=>?_)))))))
 refine Jg [0] [(4,I (-1))] (Jn (Jj (Jo [0] [I (-1)] (Jx (Jh _) (congrArg I (?_:(ZY x y)=(-1)).symm)))))
 · unfold ZY;(rw [if_pos ‹_›];done)
 refine Jq (Jc (Jf (Jg [0,0,0] [(19,Bo (!(Go.Op.bytesLess (B x).toList (B y).toList || ((B x).toList == (B y).toList))))] (QW 19 (Bo (!(Go.Op.bytesLess x y || (x == y)))) (show (Bo (!(Go.Op.bytesLess (B x).toList (B y).toList || ((B x).toList == (B y).toList))):Value)=Bo (!(Go.Op.bytesLess x y || (x == y))) by simp only [QY]) (Jm (!(Go.Op.bytesLess x y || (x == y))) (fun h2=>?_) (fun h2=>?_))))))
 refine Jg [0] [(4,I 1)] (Jn (Jj (Jo [0] [I 1] (Jx (Jh _) (congrArg I (?_:(ZY x y)=1).symm)))))
 · unfold ZY;(rw [if_neg (by simp_all)];(rw [if_neg (by simp_all)];done))
 refine Jq (Jc (Jg [0] [(4,I 0)] (Jn (Jo [0] [I 0] (Jx (Jh _) (congrArg I (?_:(ZY x y)=0).symm))))))
 · unfold ZY;(rw [if_neg (by simp_all)];(rw [if_pos (by simp_all)];done))
theorem Jpy (G:J4) (a_l:Ba) (c_l:Nat) (l:List Int) (h_l:RS EI G a_l c_l l) :Q3 116 #[Sl a_l l.length c_l] G (I (orI l)):=by
 refine JQ Tryz.func116 18 [(0,Sl a_l l.length c_l)] rfl (fun w0 G0=>?_)
 refine Jg [0] [] (Jg [0] [(3,I 0)] (Jf (Jg [0,0,0] [(6,Sl a_l l.length c_l),(7,I (l.length:Int)),(8,I 0)] (Jy ?_))))
 have hlm_h_l:l.length≤9223372036854775807:=Ho (h_l).le (h_l).max
 refine Qe (σ:=Nat) (fun q_=>(q_≤l.length)∧(orI l=orI (l.drop q_))) (fun q_=>[(3,I 0),(6,Sl a_l l.length c_l),(7,I (l.length:Int)),(8,I (q_:Int))]) (fun q_=>G) (fun q_=>[]) (fun q_=>l.length-q_) 0 ⟨(by (try dsimp only);exact Hn _),rfl⟩ (fun q_ hs=>?_)
 revert hs;revert q_;intro i hs
 obtain ⟨hi,hn⟩:=hs
 dsimp only
 refine Jg [0] [(9,Bo (decide ((i:Int)<(l.length:Int))))] (Jf (Jm (decide ((i:Int)<(l.length:Int))) (fun h1=>?_) (fun h1=>?_)))
 refine Jq (Jc (Jf (Jy (Jf (Jd ?_)))))
 obtain ⟨b1,o1,rfl⟩:=RS.addr h_l (k:=i) (by omega)
 obtain ⟨x1,hx1⟩:=QQ (l:=l) (k:=i) (by omega)
 obtain ⟨_,⟨rfl,_⟩,hc1⟩:=RS.get h_l hx1
 refine JW (b:=b1) (off:=o1) (len:=l.length) (cap:=c_l) (ik:=.i64) 10 3 1 i Kd (JO 11 3 (cs:=[I x1]) 0 (I x1) hc1 (Jb [0] [(5,I x1)] (Je (Jc (Jg [0,0,0] [(14,Bo (!decide (x1=0)))] (Jm (!decide (x1=0)) (fun h2=>?_) (fun h2=>?_)))))))
 refine Jg [0,0] [(2,I x1)] (Jn (Ju (Jj (Q1 (Ju (Jj (Jo [0] [I x1] (Jx (Jh _) (congrArg I (?_:(orI l)=x1).symm)))))))))
 rw [hn];exact orI_at hx1 (by simp_all)
 exact Jq (JN (Jc (Jd (Jb [0,0] [(8,I (Hh.wrap ((i:Int)+1)))] (Ku 8 ((i:Int)+1) Kd (Je (Ql (i+1) ⟨Kd,(by rw [hn];exact JnZ hx1 (by simp_all))⟩ (by (try dsimp only);omega))))))))
 refine KX (J1 (Ke (JV (Jc (Jg [0,0] [(2,I 0)] (Jn (Jo [0] [I 0] (Jx (Jh _) (congrArg I (?_:(orI l)=0).symm)))))))))
 rw [hn];(rw [Hs (by omega)];rfl)
theorem Jdn (G:J4) (name:Bb) (hw_name:(name).length≤140737488351232) :Q3 118 #[Sr name] G (Sr (way name)):=by
 refine JQ Tryz.func118 11 [(0,Sr name)] rfl (fun w0 G0=>?_)
 refine Jg [0] [] (Jf (Jd (Jb [0] [(6,Sr name)] (Jl 7 (.tuple #[Sr ((KM name).1),I ((KM name).2)]) (JcS G name hw_name) (Jb [0,0,0,0,0] [(3,Sr ((KM name).1))] (Je (Jc (Jg [0,0] [(2,Sr ((KM name).1))] (Jn (Jo [0] [Sr ((KM name).1)] (Jx (Jh _) (congrArg Sr (?_:(way name)=((KM name).1)).symm))))))))))))
 rfl
theorem JiM (G:J4) (a:Bb) (hw_a:(a).length≤140737488351232) (b:Bb) (hw_b:(b).length≤140737488351232) :Q3 68 #[Sr a,Sr b] G (I (Yn a b)):=by
 refine JQ Tryz.func68 15 [(0,Sr a),(1,Sr b)] rfl (fun w0 G0=>?_)
 refine Jg [0] [] (Jf (Jd (Jb [0] [(5,Sr a)] (Jl 6 (Sr (way a)) (Jdn G a hw_a) (Jb [0] [(7,Sr b)] (Jl 8 (Sr (way b)) (Jdn G b hw_b) (Jl 9 (I (ZY (way a) (way b))) (JiL G (way a) (way b)) (Jb [0,0] [(10,Sr a),(11,Sr b)] (Jl 12 (I (ZY a b)) (JiL G a b) (Kq 13 2 #[I (ZY (way a) (way b)),I (ZY a b)] 3 (fun b1=>QK (b:=b1) (o:=0) (cs:=[I (ZY (way a) (way b)),I (ZY a b)]) 0 (fun G1 hl1 hz1=>?_))))))))))))
 have hs1:RS EI G1 (At b1 0) 2 [ZY (way a) (way b),ZY a b]:=RS.lit [[I (ZY (way a) (way b))],[I (ZY a b)]] [ZY (way a) (way b),ZY a b] ⟨⟨rfl,(by (unfold ZY;repeat' split <;> omega))⟩,⟨⟨rfl,(by (unfold ZY;repeat' split <;> omega))⟩,trivial⟩⟩ hz1 (Hq rfl) (Hq rfl)
 refine Jl 14 (I (orI ([ZY (way a) (way b),ZY a b]))) (Jpy G1 (At b1 0) 2 ([ZY (way a) (way b),ZY a b]) hs1) (Jb [0] [(4,I (orI ([ZY (way a) (way b),ZY a b])))] (Je (Jc (Jn (Jo [0] [I (orI ([ZY (way a) (way b),ZY a b]))] (Jx hl1 (congrArg I (?_:(Yn a b)=(orI ([ZY (way a) (way b),ZY a b]))).symm)))))))
 rfl
def KJ (name value:Bb):Int:=if KS name=false then 3 else if 20<value.length then 2 else 0
def JaA (l:List Kb):Nat→List Kb→Int
 | _,[]=>0
 | i,x::r=>if KJ x.name x.value ≠ 0 then KJ x.name x.value else if 0<i∧0≤Yn ((l[i-1]?.getD x).name) x.name then 3 else JaA l (i+1) r
def Kn (l:List Kb):Int:=if 24<l.length then 2 else JaA l 0 l
theorem JbU {l:List Kb} {i:Nat} {x:Kb} (hx:l[i]? = some x) (h:KJ x.name x.value=0) (h2:¬ (0<i∧0≤Yn ((l[i-1]?.getD x).name) x.name)):JaA l i (l.drop i)=JaA l (i+1) (l.drop (i+1)):=by
 obtain ⟨h1,rfl⟩:=He.1 hx
 rw [Hl h1]
 show (if _ then _ else if _ then _ else _)=_
 rw [if_neg (by omega),if_neg h2]
theorem JiN {l:List Kb} {i:Nat} {x:Kb} (hx:l[i]? = some x) (h:¬ KJ x.name x.value=0):JaA l i (l.drop i)=KJ x.name x.value:=by
 obtain ⟨h1,rfl⟩:=He.1 hx
 rw [Hl h1]
 show (if _ then _ else if _ then _ else _)=_
 rw [if_pos h]
theorem JiO {l:List Kb} {i:Nat} {x y:Kb} (hx:l[i]? = some x) (h:KJ x.name x.value=0) (hi:0<i) (hy:l[i-1]? = some y) (h2:0≤Yn y.name x.name):JaA l i (l.drop i)=3:=by
 obtain ⟨h1,rfl⟩:=He.1 hx
 rw [Hl h1]
 show (if _ then _ else if _ then _ else _)=_
 rw [if_neg (by omega),if_pos ⟨hi,by rw [hy];exact h2⟩]
structure ZO (l:List Kb):Prop where
 len:l.length≤24
 ok:∀ x∈l,KJ x.name x.value=0
 ord:∀ (i j:Nat) x y,i<j→l[i]? = some x→l[j]? = some y→Yn x.name y.name<0
theorem JfH {l:List Kb}:∀ (n i:Nat),l.length≤i+n→(JaA l i (l.drop i)=0 ↔ (∀ j x,i≤j→l[j]? = some x→KJ x.name x.value=0)∧∀ j x y,i≤j+1→l[j]? = some x→l[j+1]? = some y→Yn x.name y.name<0)
 | 0,i,h=>by
  rw [Hs (by omega)]
  refine ⟨fun _=>⟨fun j x hj hx=>?_,fun j x y hj hx hy=>?_⟩,fun _=>rfl⟩
  · have:=(He.1 hx).1;omega
  · have:=(He.1 hy).1;omega
 | n+1,i,h=>by
  by_cases hi:i<l.length
  ·
   have hx:l[i]? = some l[i]:=Hp hi
   by_cases h1:KJ l[i].name l[i].value=0
   ·
    by_cases h2:0<i∧0≤Yn ((l[i-1]?.getD l[i]).name) l[i].name
    ·
     have hy:l[i-1]? = some (l[i-1]'(by omega)):=Hp (by omega)
     have h3:=h2.2
     rw [hy] at h3
     rw [JiO hx h1 h2.1 hy h3]
     constructor
     · intro hc;cases hc
     ·
      rintro ⟨_,h4⟩
      have:=h4 (i-1) _ _ (by omega) hy (by rw [show i-1+1=i by omega];exact hx)
      simp at h3;omega
    ·
     rw [JbU hx h1 h2,JfH n (i+1) (by omega)]
     constructor
     ·
      rintro ⟨a,b⟩
      refine ⟨fun j x hj hjx=>?_,fun j x y hj hjx hjy=>?_⟩
      ·
       by_cases e:j=i
       · subst e;rw [hx] at hjx;rw [← HE.inj hjx];exact h1
       · exact a j x (by omega) hjx
      ·
       by_cases e:j+1=i
       ·
        have:0<i:=by omega
        have hy:l[i-1]? = some x:=by rw [← e];exact hjx
        rw [hy] at h2
        rw [e,hx] at hjy
        rw [← HE.inj hjy]
        have:=fun hc=>h2 ⟨by omega,hc⟩
        simp at this;omega
       · exact b j x y (by omega) hjx hjy
     ·
      rintro ⟨a,b⟩
      exact ⟨fun j x hj=>a j x (by omega),fun j x y hj=>b j x y (by omega)⟩
   ·
    rw [JiN hx h1]
    exact ⟨fun hc=>absurd hc h1,fun hc=>absurd (hc.1 i _ (Hr _) hx) h1⟩
  ·
   rw [Hs (by omega)]
   refine ⟨fun _=>⟨fun j x hj hx=>?_,fun j x y hj hx hy=>?_⟩,fun _=>rfl⟩
   · have:=(He.1 hx).1;omega
   · have:=(He.1 hy).1;omega
theorem Jll {l:List Kb} (h:∀ j x y,l[j]? = some x→l[j+1]? = some y→Yn x.name y.name<0):∀ (d i:Nat) x y,l[i]? = some x→l[i+d+1]? = some y→Yn x.name y.name<0
 | 0,i,x,y,hx,hy=>h i x y hx hy
 | d+1,i,x,y,hx,hy=>by
  have hj:=(He.1 hy).1
  have hz:l[i+d+1]? = some (l[i+d+1]'(by omega)):=Hp (by omega)
  exact JcR (Jll h d i x _ hx hz) (h _ _ _ hz hy)
theorem Qd {l:List Kb}:Kn l=0 ↔ ZO l:=by
 unfold Kn
 have e:=JfH (l:=l) l.length 0 (by omega)
 rw [List.drop_zero] at e
 constructor
 ·
  intro h
  split at h
  · cases h
  ·
   have h2:=e.1 h
   refine ⟨by omega,fun x hx=>?_,fun i j x y hij hx hy=>?_⟩
   ·
    obtain ⟨k,hk⟩:=HP hx
    exact h2.1 k x (Hn _) hk
   ·
    obtain ⟨d,rfl⟩:∃ d,j=i+d+1:=⟨j-i-1,by omega⟩
    exact Jll (fun j x y hx hy=>h2.2 j x y (by omega) hx hy) d i x y hx hy
 ·
  rintro ⟨h1,h2,h3⟩
  rw [if_neg (by omega)]
  exact e.2 ⟨fun j x _ hx=>h2 x (HH hx),fun j x y _ hx hy=>h3 j (j+1) x y (by omega) hx hy⟩
def Jae (c:Kb→Int) (l:List Kb):Nat→Nat→Nat→Nat
 | 0,i,_=>i
 | f+1,i,j=>if i<j then match l[(i+j) / 2]? with
   | some x=>if c x<0 then Jae c l f ((i+j) / 2+1) j else Jae c l f i ((i+j) / 2)
   | none=>i
  else i
theorem Jcj (c:Kb→Int) (l:List Kb):∀ (f g i j:Nat),j≤i+f→j≤i+g→Jae c l f i j=Jae c l g i j
 | 0,0,_,_,_,_=>rfl
 | 0,g+1,i,j,h,_=>by unfold Jae;rw [if_neg (by omega)]
 | f+1,0,i,j,_,h=>by unfold Jae;rw [if_neg (by omega)]
 | f+1,g+1,i,j,h1,h2=>by
  unfold Jae
  split
  ·
   split
   ·
    split
    · exact Jcj c l f g _ _ (by omega) (by omega)
    · exact Jcj c l f g _ _ (by omega) (by omega)
   · rfl
  · rfl
def bsI (c:Kb→Int) (l:List Kb):Nat:=Jae c l l.length 0 l.length
theorem bs_lt {c:Kb→Int} {l:List Kb} {i j:Nat} {x:Kb} (h:i<j) (hj:j≤l.length) (hx:l[(i+j) / 2]? = some x) (hc:c x<0):Jae c l l.length i j=Jae c l l.length ((i+j) / 2+1) j:=by
 rw [Jcj c l l.length (l.length+1) i j (by omega) (by omega)]
 conv=>lhs;unfold Jae
 rw [if_pos h,hx]
 simp only
 rw [if_pos hc]
theorem bs_ge {c:Kb→Int} {l:List Kb} {i j:Nat} {x:Kb} (h:i<j) (hj:j≤l.length) (hx:l[(i+j) / 2]? = some x) (hc:¬ c x<0):Jae c l l.length i j=Jae c l l.length i ((i+j) / 2):=by
 rw [Jcj c l l.length (l.length+1) i j (by omega) (by omega)]
 conv=>lhs;unfold Jae
 rw [if_pos h,hx]
 simp only
 rw [if_neg hc]
theorem Jn0 {c:Kb→Int} {l:List Kb} {i j n:Nat} (h:¬ i<j):Jae c l n i j=i:=by
 cases n with
 | zero=>rfl
 | succ n=>unfold Jae;rw [if_neg h]
theorem Jd8 (c:Kb→Int) (l:List Kb) (hm:∀ (p q:Nat) x y,p<q→l[p]? = some x→l[q]? = some y→c y<0→c x<0):∀ (f i j:Nat),j≤i+f→i≤j→j≤l.length→(∀ p x,p<i→l[p]? = some x→c x<0)→(∀ p x,j≤p→l[p]? = some x→¬ c x<0) →
  i≤Jae c l f i j∧Jae c l f i j≤j∧(∀ p x,p<Jae c l f i j→l[p]? = some x→c x<0)∧(∀ p x,Jae c l f i j≤p→l[p]? = some x→¬ c x<0)
 | 0,i,j,h1,h2,h3,h4,h5=>by
  have:i=j:=by omega
  subst this
  exact ⟨Hr _,Hr _,h4,h5⟩
 | f+1,i,j,h1,h2,h3,h4,h5=>by
  unfold Jae
  by_cases h:i<j
  ·
   rw [if_pos h]
   have hx:l[(i+j) / 2]? = some (l[(i+j) / 2]'(by omega)):=Hp (by omega)
   rw [hx]
   simp only
   split
   ·
    rename_i hc
    have:=Jd8 c l hm f ((i+j) / 2+1) j (by omega) (by omega) h3 (fun p x hp hpx=>by
     by_cases e:p=(i+j) / 2
     · subst e;rw [hx] at hpx;rw [← HE.inj hpx];exact hc
     · exact hm p ((i+j) / 2) x _ (by omega) hpx hx hc) h5
    exact ⟨by omega,this.2.1,this.2.2⟩
   ·
    rename_i hc
    have:=Jd8 c l hm f i ((i+j) / 2) (by omega) (by omega) (by omega) h4 (fun p x hp hpx hcx=>by
     by_cases e:p=(i+j) / 2
     · subst e;rw [hx] at hpx;rw [← HE.inj hpx] at hcx;exact hc hcx
     · exact hc (hm ((i+j) / 2) p _ x (by omega) hx hpx hcx))
    exact ⟨this.1,by omega,this.2.2⟩
  ·
   rw [if_neg h]
   have:i=j:=by omega
   subst this
   exact ⟨Hr _,Hr _,h4,h5⟩
def bsF (l:List Kb) (t:Bb) (c:Kb→Bb→Int):Int×Bool:=(((bsI (fun x=>c x t) l:Nat):Int),match l[bsI (fun x=>c x t) l]? with
 | some x=>decide (c x t=0)
 | none=>false)
def Wg (x:Kb) (name:Bb):Int:=Yn x.name name
def JH (l:List Kb) (name:Bb):Int×Bool×Int:=if Kn l ≠ 0 then (0,false,Kn l) else if KS name=false then (0,false,3) else ((bsF l name Wg).1,(bsF l name Wg).2,0)
theorem Jn1 (c:Kb→Int) (l:List Kb):bsI c l≤l.length:=by
 have:∀ (f i j:Nat),i≤j→Jae c l f i j≤j:=by
  intro f
  induction f with
  | zero=>intro i j h;exact h
  | succ f ih =>
   intro i j h
   unfold Jae
   split
   ·
    split
    ·
     split
     · exact ih _ _ (by omega)
     · exact Ho (ih _ _ (by omega)) (by omega)
    · exact h
   · exact h
 exact this _ _ _ (Hn _)
theorem JfI {l:List Kb} (h:ZO l) (name:Bb):(∀ p x,p<bsI (fun x=>Wg x name) l→l[p]? = some x→Yn x.name name<0)∧(∀ p x,bsI (fun x=>Wg x name) l≤p→l[p]? = some x→¬ Yn x.name name<0):=by
 have:=Jd8 (fun x=>Wg x name) l (fun p q x y hpq hx hy hc=>JcR (h.ord p q x y hpq hx hy) hc) l.length 0 l.length (by omega) (Hn _) (Hr _) (fun p x hp=>absurd hp (Nat.not_lt_zero _)) (fun p x hp hx=>by have:=(He.1 hx).1;omega)
 exact this.2.2
theorem Jn2 {l:List Kb} (h:ZO l) (name:Bb):(bsF l name Wg).2=true ↔ ∃ x∈l,x.name=name:=by
 have hs:=JfI h name
 unfold bsF
 simp only
 constructor
 ·
  intro e
  cases hx:l[bsI (fun x=>Wg x name) l]? with
  | none=>rw [hx] at e;cases e
  | some x =>
   rw [hx] at e
   exact ⟨x,HH hx,YD.1 (of_decide_eq_true e)⟩
 ·
  rintro ⟨x,hx,rfl⟩
  obtain ⟨k,hk⟩:=HP hx
  have h1:¬ Yn x.name x.name<0:=by have:Yn x.name x.name=0:=YD.2 rfl;omega
  have h2:bsI (fun y=>Wg y x.name) l≤k:=by
   apply Nat.le_of_not_lt;intro hc;exact h1 (hs.1 k x hc hk)
  have h3:bsI (fun y=>Wg y x.name) l=k:=by
   apply Classical.byContradiction;intro hne
   have hl:=(He.1 hk).1
   have hy:l[bsI (fun y=>Wg y x.name) l]? = some (l[bsI (fun y=>Wg y x.name) l]'(by omega)):=Hp (by omega)
   exact hs.2 _ _ (Hr _) hy (h.ord _ k _ x (by omega) hy hk)
  rw [h3,hk]
  simp only [decide_eq_true_eq]
  exact YD.2 rfl
theorem Jn3 {l:List Kb} {name:Bb} (e:(bsF l name Wg).2=true):∃ x,l[bsI (fun x=>Wg x name) l]? = some x∧x.name=name:=by
 unfold bsF at e
 simp only at e
 cases hx:l[bsI (fun x=>Wg x name) l]? with
 | none=>rw [hx] at e;cases e
 | some x=>rw [hx] at e;exact ⟨x,rfl,YD.1 (of_decide_eq_true e)⟩
def YJ (l:List Kb) (name:Bb):Bb×Bool×Int:=if (JH l name).2.1=false then ([],false,(JH l name).2.2) else ((l[(JH l name).1.toNat]?.map (·.value)).getD [],true,(JH l name).2.2)
theorem JiP {l:List Kb} {name:Bb} (h:(JH l name).2.1=true):ZO l∧KS name=true∧JH l name=((bsF l name Wg).1,true,0)∧(bsF l name Wg).2=true:=by
 unfold JH at h ⊢
 split at h
 · cases h
 split at h
 · cases h
 ·
  rename_i h1 h2
  rw [if_neg h1,if_neg h2]
  have h3:(bsF l name Wg).2=true:=h
  exact ⟨Qd.1 (Decidable.not_not.1 h1),by simpa using h2,by rw [h3],h3⟩
theorem YR {l:List Kb} {name:Bb} (h:(JH l name).2.1=true):0≤(JH l name).1∧(JH l name).1<l.length:=by
 obtain ⟨h1,h2,h3,h4⟩:=JiP h
 obtain ⟨x,hx,_⟩:=Jn3 h4
 have:=(He.1 hx).1
 rw [h3];unfold bsF;simp only;omega
theorem Jcy (G:J4) (name:Bb) (value:Bb) :Q3 115 #[Sr name,Sr value] G (I (KJ name value)):=by
 refine JQ Tryz.func115 13 [(0,Sr name),(1,Sr value)] rfl (fun w0 G0=>?_)
 refine Jg [0] [] (Jf (Jy (Jf (Jd (Jb [0] [(6,Sr name)] (Jl 7 (Bo (KS name)) (ZX G name) (Jb [0,0] [(5,Bo (!(KS name)))] (Je (Jc (Jm (!(KS name)) (fun h1=>?_) (fun h1=>?_)))))))))))
 refine Jg [0] [(4,I 3)] (Jn (Ju (Jj (Jo [0] [I 3] (Jx (Jh _) (congrArg I (?_:(KJ name value)=3).symm))))))
 unfold KJ;simp_all;try omega
 refine Jg [0,0,0,0] [(9,Bo (decide (((value).length:Int) > 20)))] (Jm (decide (((value).length:Int) > 20)) (fun h2=>?_) (fun h2=>?_))
 refine Jg [0] [(4,I 2)] (Jn (Ju (Jj (Jo [0] [I 2] (Jx (Jh _) (congrArg I (?_:(KJ name value)=2).symm))))))
 unfold KJ;simp_all;try omega
 refine Jq (JN (Jc (Jg [0] [(4,I 0)] (Jn (Jo [0] [I 0] (Jx (Jh _) (congrArg I (?_:(KJ name value)=0).symm)))))))
 unfold KJ;simp_all;try omega
theorem Vc (G:J4) (a_l:Ba) (c_l:Nat) (l:List Kb) (h_l:RS QE G a_l c_l l) :Q3 65 #[Sl a_l l.length c_l] G (I (Kn l)):=by
 refine JQ Tryz.func65 39 [(0,Sl a_l l.length c_l)] rfl (fun w0 G0=>?_)
 refine Jg [0] [] (Jf (Jg [0,0,0] [(8,Bo (decide ((l.length:Int) > 24)))] (Jm (decide ((l.length:Int) > 24)) (fun h1=>?_) (fun h1=>?_))))
 refine Jg [0] [(2,I 2)] (Jn (Jj (Jo [0] [I 2] (Jx (Jh _) (congrArg I (?_:(Kn l)=2).symm)))))
 · unfold Kn;(rw [if_pos (by omega)];done)
 refine Jq (Jc (Jf (Jg [0,0,0] [(9,Sl a_l l.length c_l),(10,I (l.length:Int)),(11,I 0)] (Jy ?_))))
 have hlm_h_l:l.length≤9223372036854775807:=Ho (h_l).le (h_l).max
 refine Qe (σ:=Nat) (fun q_=>(q_≤l.length)∧(JaA l 0 l=JaA l q_ (l.drop q_))) (fun q_=>[(0,Sl a_l l.length c_l),(9,Sl a_l l.length c_l),(10,I (l.length:Int)),(11,I (q_:Int))]) (fun q_=>G) (fun q_=>[]) (fun q_=>l.length-q_) 0 ⟨(by (try dsimp only);exact Hn _),rfl⟩ (fun q_ hs=>?_)
 revert hs;revert q_;intro i hs
 obtain ⟨hi,hn⟩:=hs
 dsimp only
 refine Jg [0] [(12,Bo (decide ((i:Int)<(l.length:Int))))] (Jf (Jm (decide ((i:Int)<(l.length:Int))) (fun h2=>?_) (fun h2=>?_)))
 refine Jq (Jc (Jf (Jy (Jf (Jd (Jb [0] [(13,I (i:Int))] ?_))))))
 obtain ⟨b1,o1,rfl⟩:=RS.addr h_l (k:=i) (by omega)
 obtain ⟨x1,hx1⟩:=QQ (l:=l) (k:=i) (by omega)
 obtain ⟨_,⟨rfl,w1,_⟩,hc1⟩:=RS.get h_l hx1
 refine JW (b:=b1) (off:=o1) (len:=l.length) (cap:=c_l) (ik:=.i64) 14 111 2 i Kd (JO 15 111 (cs:=[Sr x1.name,Sr x1.value]) 0 (.agg #[Sr x1.name,Sr x1.value]) hc1 (Jv 4 #[Sr ([]),Sr ([])] 111 (fun b2=>JT [0,3] [(3,I (i:Int))] [[Sg b2 0 [Sr x1.name,Sr x1.value]]] (Je (Jc (Jf (Jf (Jd (Jb [0,2,0,2] [(17,Sr x1.name),(19,Sr x1.value)] (Jl 20 (I (KJ x1.name x1.value)) (Jcy G x1.name x1.value) (Jb [0] [(5,I (KJ x1.name x1.value))] (Je (Jc (Jg [0,0] [(22,Bo (!decide (KJ x1.name x1.value=0)))] (Jm (!decide (KJ x1.name x1.value=0)) (fun h3=>?_) (fun h3=>?_))))))))))))))))
 refine Jg [0,0] [(2,I (KJ x1.name x1.value))] (Jn (Jj (Ju (Jj (Q1 (Ju (Jj (Jo [0] [I (KJ x1.name x1.value)] (Jx (Jh _) (congrArg I (?_:(Kn l)=(KJ x1.name x1.value)).symm))))))))))
 unfold Kn;(rw [if_neg (by omega),hn];exact JiN hx1 ‹_›)
 refine Jq (Jc (Jf ?_))
 rcases HK (decide ((i:Int) > 0)) with h4 | h4
 have h4d:=h4
 try simp only [BB] at h4d
 have e1:Hh.wrap ((i:Int)-1)=((i-1:Nat):Int):=(Hv _ (by omega)).trans (show (i:Int)-1=((i-1:Nat):Int) by omega)
 obtain ⟨x2,hx2⟩:=QQ (l:=l) (k:=i-1) (by omega)
 obtain ⟨_,⟨rfl,w3,_⟩,hc2⟩:=RS.get h_l hx2
 refine Kv [] (Ws [(0,I (i:Int)),(1,Bo true),(2,Bo true),(3,Sl (At b1 o1) l.length c_l),(4,I (i:Int)),(5,I ((i-1:Nat):Int)),(6,Pt b1 (o1+(i-1)*2)),(7,Pt b1 (o1+(i-1)*2)),(8,Sr x2.name),(9,Pt b2 0),(10,Sr x1.name),(11,I (Yn x2.name x1.name)),(12,Bo (decide (Yn x2.name x1.name ≥ 0))),(13,Bo (decide (Yn x2.name x1.name ≥ 0)))] (Ko [] [(0,0),(2,0),(3,0),(4,0),(7,0),(9,0),(10,2),(12,0),(13,0)] [1,5,6,8,11] [(0,Sl (At b1 o1) l.length c_l),(9,Sl (At b1 o1) l.length c_l),(10,I (l.length:Int)),(11,I (i:Int)),(37,Bo (decide (Yn x2.name x1.name ≥ 0)))] (Kf ?_ (Kf ?_ (Kf ?_ (Kf ?_ (Kf ?_ KY))))) ?_))
 refine Jr 1 25 (Bo true) [(24,I (i:Int))] (fun X=>?_)
 exact Qa 25 (Bo (decide ((i:Int) > 0))) (Bo true) (by rw [h4]) Jp
 refine Jr 5 29 (I ((i-1:Nat):Int)) [(26,Bo true),(28,I (i:Int))] (fun X=>?_)
 exact Qa 29 (I (Hh.wrap ((i:Int)-1))) (I ((i-1:Nat):Int)) (by simp only [e1]) Jp
 refine Jr 6 30 (Pt b1 (o1+(i-1)*2)) [(26,Bo true),(27,Sl (At b1 o1) l.length c_l),(29,I ((i-1:Nat):Int))] (fun X=>?_)
 exact JW (b:=b1) (off:=o1) (len:=l.length) (cap:=c_l) (ik:=.i64) 30 111 2 (i-1) Kd Jp
 refine Jr 8 32 (Sr x2.name) [(26,Bo true),(31,Pt b1 (o1+(i-1)*2))] (fun X=>?_)
 exact JO 32 9 (cs:=[Sr x2.name,Sr x2.value]) 0 (Sr x2.name) hc2 Jp
 refine Jr 11 35 (I (Yn x2.name x1.name)) [(26,Bo true),(32,Sr x2.name),(34,Sr x1.name)] (fun X=>?_)
 exact Jl 35 (I (Yn x2.name x1.name)) (JiM G x2.name w3 x1.name w1) Jp
 refine Jc (Jm (decide (Yn x2.name x1.name ≥ 0)) (fun h5=>?_) (fun h5=>?_))
 refine Jg [0] [(2,I 3)] (Jn (Ju (Jj (Q1 (Ju (Jj (Jo [0] [I 3] (Jx (Jh _) (congrArg I (?_:(Kn l)=3).symm)))))))))
 unfold Kn;(rw [if_neg (by omega),hn];exact JiO hx1 ‹_› (by omega) ‹_› (by omega))
 exact Jq (JN (Jc (Jd (Jb [0,0] [(11,I (Hh.wrap ((i:Int)+1)))] (Ku 11 ((i:Int)+1) Kd (Je (QA [] (Ql (i+1) ⟨Kd,(by rw [hn];exact JbU hx1 ‹_› (by (intro hc_;simp_all;omega)))⟩ (by (try dsimp only);omega)))))))))
 have h4d:=h4
 try simp only [BB] at h4d
 refine Kv [] (Ws [(0,I (i:Int)),(1,Bo false),(2,Bo false),(3,undef),(4,undef),(5,undef),(6,undef),(7,undef),(8,undef),(9,undef),(10,undef),(11,undef),(12,undef),(13,Bo false)] (Ko [] [(0,0),(2,0),(3,1),(4,1),(5,1),(6,1),(7,1),(8,1),(9,1),(10,1),(11,1),(12,1),(13,0)] [1] [(0,Sl (At b1 o1) l.length c_l),(9,Sl (At b1 o1) l.length c_l),(10,I (l.length:Int)),(11,I (i:Int)),(37,Bo false)] (Kf ?_ KY) ?_))
 refine Jr 1 25 (Bo false) [(24,I (i:Int))] (fun X=>?_)
 exact Qa 25 (Bo (decide ((i:Int) > 0))) (Bo false) (by rw [h4]) Jp
 exact Jc (Qp (Jq (JN (Jc (Jd (Jb [0,0] [(11,I (Hh.wrap ((i:Int)+1)))] (Ku 11 ((i:Int)+1) Kd (Je (QA [] (Ql (i+1) ⟨Kd,(by rw [hn];exact JbU hx1 ‹_› (by (intro hc_;omega)))⟩ (by (try dsimp only);omega)))))))))))
 refine KX (J1 (Ke (JV (Jc (Jg [0] [(2,I 0)] (Jn (Jo [0] [I 0] (Jx (Jh _) (congrArg I (?_:(Kn l)=0).symm)))))))))
 unfold Kn;(rw [if_neg (by omega),hn];(rw [Hs (by omega)];rfl))
theorem Jkc (G:J4) (vs_x:Bv) (x:Kb) (h_x:QE.R G vs_x x) (name:Bb) (hw_name:(name).length≤140737488351232) :Q3 67 #[.agg vs_x.toArray,Sr name] G (I (Wg x name)):=by
 obtain ⟨rfl,w1,_⟩:=h_x
 refine JQ Tryz.func67 9 [(0,.agg #[Sr x.name,Sr x.value]),(1,Sr name)] rfl (fun w0 G0=>?_)
 refine Jf (Jd (Jv 2 #[Sr x.name,Sr x.value] 111 (fun b1=>Jb [0] [] (Je (Jc (Jf (Jd (Jb [0,2,0] [(6,Sr x.name),(7,Sr name)] (Jl 8 (I (Yn x.name name)) (JiM G x.name w1 name hw_name) (Jb [0] [(4,I (Yn x.name name))] (Je (Jc (Jn (Jo [0] [I (Yn x.name name)] (Jx (Jh _) (congrArg I (?_:(Wg x name)=(Yn x.name name)).symm))))))))))))))))
 rfl
theorem Jpz (G:J4) (a_l:Ba) (c_l:Nat) (l:List Kb) (h_l:RS QE G a_l c_l l) (target:Bb) (hw_target:(target).length≤140737488351232) (k_cmp:FuncId) (caps_cmp:Array Value) (p_cmp:Kb→Bb→Int) (hk_cmp:Jbb Tryz.prog k_cmp) (h_cmp:∀ (vs0:Bv) (x0:Kb) (hx0:QE.R G vs0 x0) (x1:Bb) (hx1:(x1).length≤140737488351232),VG Tryz.prog k_cmp (#[.agg vs0.toArray,Sr x1]++caps_cmp) G [] (fun u _ _=>u=I (p_cmp x0 x1))) :Q3 66 #[Sl a_l l.length c_l,Sr target,Fv k_cmp caps_cmp] G (.tuple #[I ((bsF l target p_cmp).1),Bo ((bsF l target p_cmp).2)]):=by
 refine JQ Tryz.func66 49 [(0,Sl a_l l.length c_l),(1,Sr target),(2,Fv k_cmp caps_cmp)] rfl (fun w0 G0=>?_)
 refine Jg [0,0] [] (Jg [0,0,0] [(8,I (l.length:Int))] (Jg [0,0,0] [(9,I 0),(10,I (l.length:Int))] (Jf (Jy ?_))))
 have hlm_h_l:l.length≤9223372036854775807:=Ho (h_l).le (h_l).max
 refine Qe (σ:=Nat×Nat) (fun q_=>(q_.1≤q_.2∧q_.2≤l.length)∧(bsI (fun x=>p_cmp x target) l=Jae (fun x=>p_cmp x target) l l.length q_.1 q_.2)) (fun q_=>[(0,Sl a_l l.length c_l),(1,Sr target),(2,Fv k_cmp caps_cmp),(8,I (l.length:Int)),(9,I (q_.1:Int)),(10,I (q_.2:Int))]) (fun q_=>G) (fun q_=>[]) (fun q_=>q_.2-q_.1) (0,l.length) ⟨⟨Hn _,Hr _⟩,rfl⟩ (fun q_ hs=>?_)
 obtain ⟨i,j⟩:=q_
 obtain ⟨hj,hn⟩:=hs
 dsimp only at hj hn
 dsimp only
 refine Jf (Jg [0,0,0] [(17,Bo (decide ((i:Int)<(j:Int))))] (Jm (decide ((i:Int)<(j:Int))) (fun h1=>?_) (fun h1=>?_)))
 refine Jq (Jc (Jy (Jg [0,0,0,0,0,0,0] [(11,I (Hh.wrap ((Ha.wrap (Hh.wrap ((i:Int)+(j:Int)))).fdiv (2 ^ 1))))] ?_)))
 have e1:Hh.wrap ((i:Int)+(j:Int))=(i:Int)+(j:Int):=Hv _ (by (have hf_:=h_l.fit;simp only [QE] at hf_;omega))
 have e2:Ha.wrap ((i:Int)+(j:Int))=(i:Int)+(j:Int):=HF _ (by omega)
 have e3:((i:Int)+(j:Int)).fdiv (2 ^ 1)=(((i+j) / 2:Nat):Int):=by rw [Ht _ (by decide)];omega
 have e4:Hh.wrap (((i+j) / 2:Nat):Int)=(((i+j) / 2:Nat):Int):=Hv _ (by omega)
 refine QW 11 (I (((i+j) / 2:Nat):Int)) (show (I (Hh.wrap ((Ha.wrap (Hh.wrap ((i:Int)+(j:Int)))).fdiv (2 ^ 1))):Value)=I (((i+j) / 2:Nat):Int) by simp only [e1,e2,e3,e4]) ?_
 clear e4 e3 e2 e1
 refine Jf (Jd (Jb [0,0,0] [(24,Fv k_cmp caps_cmp),(25,Sl a_l l.length c_l),(26,I (((i+j) / 2:Nat):Int))] ?_))
 obtain ⟨b1,o1,rfl⟩:=RS.addr h_l (k:=(i+j) / 2) (by omega)
 obtain ⟨x1,hx1⟩:=QQ (l:=l) (k:=(i+j) / 2) (by omega)
 obtain ⟨_,⟨rfl,w1,w2⟩,hc1⟩:=RS.get h_l hx1
 refine JW (b:=b1) (off:=o1) (len:=l.length) (cap:=c_l) (ik:=.i64) 27 111 2 ((i+j) / 2) Kd (JO 28 111 (cs:=[Sr x1.name,Sr x1.value]) 0 (.agg #[Sr x1.name,Sr x1.value]) hc1 (Jb [0] [(29,Sr target)] (Z3 (k:=k_cmp) (caps:=caps_cmp) (args:=#[.agg #[Sr x1.name,Sr x1.value],Sr target]) 30 (I (p_cmp x1 target)) hk_cmp (h_cmp [Sr x1.name,Sr x1.value] x1 (⟨rfl,w1,w2⟩) target ‹_›) (Jb [0] [(31,Bo (decide (p_cmp x1 target<0)))] (Je (Jc (Jm (decide (p_cmp x1 target<0)) (fun h2=>?_) (fun h2=>?_))))))))
 exact Jd (Jb [0,0,0] [(9,I (Hh.wrap ((((i+j) / 2:Nat):Int)+1)))] (Ku 9 ((((i+j) / 2:Nat):Int)+1) Kd (Je (JN (Ql ((i+j) / 2+1,j) ⟨(by (try dsimp only);omega),(by (try dsimp only);rw [hn];exact bs_lt Kd hj.2 hx1 ‹_›)⟩ (by (try dsimp only);omega))))))
 exact Jd (Jb [0,0] [(10,I (((i+j) / 2:Nat):Int))] (Je (JN (Ql (i,(i+j) / 2) ⟨(by (try dsimp only);omega),(by (try dsimp only);rw [hn];exact bs_ge Kd hj.2 hx1 Kd)⟩ (by (try dsimp only);omega)))))
 refine KX (J1 (Ke (JV (Jc (Jf (Jd (Jb [0,0,0,0,0] [(35,I (i:Int)),(39,Bo (decide ((i:Int)<(l.length:Int))))] (QU [39] (decide ((i:Int)<(l.length:Int))) (fun h3=>?_) (fun h3=>?_)))))))))
 refine Jb [0,0,0] [(40,Fv k_cmp caps_cmp),(41,Sl a_l l.length c_l),(42,I (i:Int))] ?_
 obtain ⟨b2,o2,rfl⟩:=RS.addr h_l (k:=i) (by omega)
 obtain ⟨x2,hx2⟩:=QQ (l:=l) (k:=i) (by omega)
 obtain ⟨_,⟨rfl,w3,w4⟩,hc2⟩:=RS.get h_l hx2
 refine JW (b:=b2) (off:=o2) (len:=l.length) (cap:=c_l) (ik:=.i64) 43 111 2 i Kd (JO 44 111 (cs:=[Sr x2.name,Sr x2.value]) 0 (.agg #[Sr x2.name,Sr x2.value]) hc2 (Jb [0] [(45,Sr target)] (Z3 (k:=k_cmp) (caps:=caps_cmp) (args:=#[.agg #[Sr x2.name,Sr x2.value],Sr target]) 46 (I (p_cmp x2 target)) hk_cmp (h_cmp [Sr x2.name,Sr x2.value] x2 (⟨rfl,w3,w4⟩) target hw_target) (Jb [0,0,0,0] [(6,I (i:Int)),(7,Bo (decide (p_cmp x2 target=0)))] (Je (Jc (Jn (Jo [0,0] [I (i:Int),Bo (decide (p_cmp x2 target=0))] (Jx (Jh _) ?_)))))))))
 have hf_:(bsF l target p_cmp)=((i:Int),(decide (p_cmp x2 target=0))):=by
  unfold bsF;rw [hn,Jn0 (by omega)];(simp_all;done)
 · (try rw [hf_]);(simp only [Qy];done)
 refine Jb [1,1,1,1,1,1,1,1,0,0,0] [(6,I (i:Int)),(7,Bo false)] (Je (Jc (Jn (Jo [0,0] [I (i:Int),Bo false] (Jx (Jh _) ?_)))))
 have hf_:(bsF l target p_cmp)=((i:Int),false):=by
  unfold bsF;rw [hn,Jn0 (by omega)];(simp_all;done)
 · (try rw [hf_]);(simp only [Qy];done)
theorem Jdo (G:J4) (a_l:Ba) (c_l:Nat) (l:List Kb) (h_l:RS QE G a_l c_l l) (name:Bb) (hw_name:(name).length≤140737488351232) :Q3 36 #[Sl a_l l.length c_l,Sr name] G (.tuple #[I ((JH l name).1),Bo ((JH l name).2.1),I ((JH l name).2.2)]):=by
 refine JQ Tryz.func36 26 [(0,Sl a_l l.length c_l),(1,Sr name)] rfl (fun w0 G0=>?_)
 refine Jg [0,0,0] [] (Jf (Jf (Jd (Jb [0] [(10,Sl a_l l.length c_l)] (Jl 11 (I (Kn l)) (Vc G a_l c_l l h_l) (Jb [0] [(7,I (Kn l))] (Je (Jc (Jg [0,0] [(13,Bo (!decide (Kn l=0)))] (Jm (!decide (Kn l=0)) (fun h1=>?_) (fun h1=>?_)))))))))))
 refine Jg [0,0,0,0] [(4,I 0),(5,Bo false),(6,I (Kn l))] (Jn (Jj (Jo [0,0,0] [I 0,Bo false,I (Kn l)] (Jx (Jh _) ?_))))
 have hf_:(JH l name)=(0,false,(Kn l)):=by
  unfold JH;simp_all
 · (try rw [hf_]);(simp only [Qy];done)
 refine Jq (Jc (Jf (Jf (Jd (Jb [0] [(15,Sr name)] (Jl 16 (Bo (KS name)) (ZX G name) (Jb [0] [(17,Bo (!(KS name)))] (Je (Jc (Jm (!(KS name)) (fun h2=>?_) (fun h2=>?_)))))))))))
 refine Jg [0,0,0] [(4,I 0),(5,Bo false),(6,I 3)] (Jn (Jj (Jo [0,0,0] [I 0,Bo false,I 3] (Jx (Jh _) ?_))))
 have hf_:(JH l name)=(0,false,3):=by
  unfold JH;simp_all
 · (try rw [hf_]);(simp only [Qy];done)
 refine Jq (Jc (Jf (Jd (Jb [0,0] [(19,Sl a_l l.length c_l),(20,Sr name)] (Jl 21 (.tuple #[I ((bsF l name (fun x0 x1=>Wg x0 x1)).1),Bo ((bsF l name (fun x0 x1=>Wg x0 x1)).2)]) (Jpz G a_l c_l l h_l name hw_name 67 #[] (fun x0 x1=>Wg x0 x1) (fun _ _=>by kernel_rfl) (fun vs0 x0 hx0 x1 hx1=>by obtain ⟨rfl,w1,w2⟩:=hx0;exact Jkc G [Sr x0.name,Sr x0.value] x0 (⟨rfl,w1,w2⟩) x1 hx1)) (Jb [0,0,0,0,0] [(8,I ((bsF l name (fun x0 x1=>Wg x0 x1)).1)),(9,Bo ((bsF l name (fun x0 x1=>Wg x0 x1)).2))] (Je (Jc (Jg [0,0,0,0,0] [(4,I ((bsF l name (fun x0 x1=>Wg x0 x1)).1)),(5,Bo ((bsF l name (fun x0 x1=>Wg x0 x1)).2)),(6,I 0)] (Jn (Jo [0,0,0] [I ((bsF l name (fun x0 x1=>Wg x0 x1)).1),Bo ((bsF l name (fun x0 x1=>Wg x0 x1)).2),I 0] (Jx (Jh _) ?_))))))))))))
 have hf_:(JH l name)=(((bsF l name (fun x0 x1=>Wg x0 x1)).1),((bsF l name (fun x0 x1=>Wg x0 x1)).2),0):=by
  unfold JH;simp_all
 · (try rw [hf_]);(simp only [Qy];done)
theorem JiQ (G:J4) (a_l:Ba) (c_l:Nat) (l:List Kb) (h_l:RS QE G a_l c_l l) (name:Bb) (hw_name:(name).length≤140737488351232) :YL 21 #[Sl a_l l.length c_l,Sr name] G [] (fun u G' L'=>u=.tuple #[Sr ((YJ l name).1),Bo ((YJ l name).2.1),I ((YJ l name).2.2)]∧(((YJ l name).1).length≤140737488351232)∧L'=[]):=by
 refine JQ Tryz.func21 26 [(0,Sl a_l l.length c_l),(1,Sr name)] rfl (fun w0 G0=>?_)
 refine Jg [0,0,0] [] (Jf (Jd (Jb [0,0] [(11,Sl a_l l.length c_l),(12,Sr name)] (Jl 13 (.tuple #[I ((JH l name).1),Bo ((JH l name).2.1),I ((JH l name).2.2)]) (Jdo G a_l c_l l h_l name hw_name) (Jb [0,0,0,0,0,0,0] [(7,I ((JH l name).1)),(8,Bo ((JH l name).2.1)),(9,I ((JH l name).2.2))] (Je (Jc (Jf (Jg [0,0] [(18,Bo (!((JH l name).2.1)))] (Jm (!((JH l name).2.1)) (fun h1=>?_) (fun h1=>?_)))))))))))
 refine Jg [0,0,0,0] [(4,Sr ([])),(5,Bo false),(6,I ((JH l name).2.2))] (Jn (Jj ?_))
 have hf1:YJ l name=([],false,(JH l name).2.2):=by
  unfold YJ;(simp_all;done)
 refine Jo [0,0,0] [Sr ([]),Bo false,I ((JH l name).2.2)] (JD [] (Jh _) ?_)
 rw [hf1]
 try dsimp only
 exact ⟨rfl,(Hq rfl),rfl⟩
 refine Jq (Jc (Jf (Jd (Jb [0,0] [(20,Sl a_l l.length c_l),(21,I ((JH l name).1))] ?_))))
 obtain ⟨kn1,hkn1⟩:∃ k_:Nat,(JH l name).1=(k_:Int):=⟨((JH l name).1).toNat,by (have q_:=YR (l:=l) (name:=name) ‹_›;omega)⟩
 have e1:(JH l name).1=(kn1:Int):=hkn1
 refine KG 21 (I (kn1:Int)) (congrArg I e1) ?_
 obtain ⟨b1,o1,rfl⟩:=RS.addr h_l (k:=kn1) (by (have q_:=YR (l:=l) (name:=name) ‹_›;omega))
 obtain ⟨x1,hx1⟩:=QQ (l:=l) (k:=kn1) (by (have q_:=YR (l:=l) (name:=name) ‹_›;omega))
 obtain ⟨_,⟨rfl,_,w2⟩,hc1⟩:=RS.get h_l hx1
 refine JW (b:=b1) (off:=o1) (len:=l.length) (cap:=c_l) (ik:=.i64) 22 111 2 kn1 (by (have q_:=YR (l:=l) (name:=name) ‹_›;omega)) (Jb [0] [(23,Pt b1 (o1+kn1*2+1))] (JO 24 9 (cs:=[Sr x1.name,Sr x1.value]) 1 (Sr x1.value) hc1 (Jb [0,0,0,0] [(4,Sr x1.value),(5,Bo true),(6,I ((JH l name).2.2))] (Je (Jc (Jn ?_))))))
 have hf2:YJ l name=(x1.value,true,(JH l name).2.2):=by
  unfold YJ;(simp_all;done)
 refine Jo [0,0,0] [Sr x1.value,Bo true,I ((JH l name).2.2)] (JD [] (Jh _) ?_)
 rw [hf2]
 try dsimp only
 exact ⟨rfl,w2,rfl⟩
end Go.Proofs.YteaampgpgokjmaaGreatDoor
