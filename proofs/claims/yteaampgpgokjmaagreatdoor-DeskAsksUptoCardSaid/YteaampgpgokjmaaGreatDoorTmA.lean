import Derived.Calls
import Derived.Orders
import Derived.Below
import Derived.KernelRfl
import Derived.WalkKit
import Derived.Lib.Strings
import Derived.ChangeKeysEq
import Derived.Laws.StructEq
import Derived.Deep.AppendSrc
import Derived.Lib.UnsafeStr
import Derived.Lib.AppendZerosOnto
import Derived.LaidEqlPtr
import Derived.Lib.Builder
import Derived.Lib.Overlaps
import Derived.Recover
import Derived.Lib.LaidTab
import Derived.Lib.ItoaNum
set_option linter.unusedVariables false
set_option linter.unusedSimpArgs false
namespace Go.Tx
open _root_.List renaming getElem?_eq_some_iff → Ha, getElem?_eq_getElem → Hc, length_append → Hf, getElem?_append_left → Hj, mem_flatten → Hk, all_eq_true → Hl, getElem_mem → Hn, pairwise_append → Ho, getElem?_append_right → Hq, flatten_append → Ht, flatten_cons → Hu, eq_nil_of_length_eq_zero → Hv, length_take → Hx, append_assoc → Hz, map_inj_left → HG, mem_append → HI, take_append_drop → HJ, getElem?_take → HK, Sublist → HM, take_left → HN, drop_drop → HO, drop_left → HP, map_cons → HS, length_drop → HT, map_toArray → HU, getElem?_drop → HW, mem_range → H0, length_cons → H2, map_nil → H7, mem_iff_getElem → H8, cons → H9, drop_succ_cons → Ma, sublist_append_right → Mb, drop_eq_getElem_cons → Mc, mem_map → Mf, set_eq_take_append_cons_drop → Mg, drop_eq_nil_of_le → Mi, mem_filter → Mm, length_set → Mn, perm_append_comm_assoc → Mp, mem_singleton → Mq, any_eq_true → Mt, length_nil → Mz, set_getElem_self → MA, mem_append_right → MD, mem_cons_of_mem → MH, mem_of_mem_take → MJ, mem_of_getElem? → MK, mem_of_mem_drop → ML, range → MM, mem_cons → MN
open _root_.Nat renaming eq_of_beq_eq_true → Hb, beq → He, le_of_ble_eq_true → Hi, add_mul → Hy, zero_add → HC, mul_le_mul_right → HD, add_assoc → HE, blt → HH, min_eq_left → HR, eq_zero_or_pos → HX, le_refl → H1, one_mul → H6, add_zero → Me, zero_le → Mr, le_trans → Mu, beq_refl → Mv, ble → Mw, strongRecOn → Mx, sub_mul → MB, mul_one → ME
open Result renaming andThen_ok → Hd
open _root_.Bool renaming and_eq_true → Hg, or_eq_true → HZ, false_eq_true → H4, not_eq_true' → Mh
open Sem renaming run_bind → Hh, run_pure → Hr
open _root_.Option renaming some → Hm, isSome_iff_exists → Hw, isNone_iff_eq_none → HF, getD_some → HL, map_some → HQ, map_eq_some_iff → Mj, bind_some → Ml, map_none → My, none_or → MF
open _root_.Array renaming getElem?_eq_some_iff → Hp, getD_eq_getD_getElem? → HA, getElem?_eq_getElem → HB, getElem?_eq_none → HV, getElem?_modify → HY, length_toList → H3, getElem?_setIfInBounds → H5, getElem?_replicate → Md, all_eq_true_iff_forall_mem → Mk, getElem?_push → Mo, map_congr_left → MG, mem_toList_iff → MI
open _root_.Prod renaming mk → Hs
open _root_.Int renaming toNat_natCast → Ms
open _root_.UInt8 renaming ofNat → MC
open IntKind renaming i64 → MO
abbrev Bq:=Exit→Act→World→Prop
abbrev Bf:=List (Nat×Value)
abbrev Bs:=List (List UInt8)
abbrev Bb:=List UInt8
abbrev Bv:=List Value
abbrev Ba:=Option Addr
abbrev Bp:=Array Oper
theorem J4 {p:Prop} (h:p:=by omega):p:=h
open Go.RowKit
abbrev J5:=Nat→Nat→Option Value
def J5.le (G G':J5):Prop:=∀ b o v,G b o=some v→G' b o=some v
theorem Jh (G:J5):J5.le G G:=fun _ _ _ h=>h
theorem Ja {A B C:J5} (h:J5.le A B) (k:J5.le B C):J5.le A C:=fun b o v x=>k b o v (h b o v x)
structure Vf where
 b:Nat
 off:Nat
 cs:Bv
 ob:Option Obj
 ty:Option TypeId
abbrev Bg:=List Vf
abbrev Bl:=List (List Vf)
abbrev Sg (b off:Nat) (cs:Bv):Vf:=⟨b,off,cs,none,none⟩
abbrev Vm (e:TypeId) (b off:Nat) (cs:Bv):Vf:=⟨b,off,cs,none,some e⟩
abbrev Ob (b:Nat) (x:Obj):Vf:=⟨b,0,[],some x,none⟩
def JdZ:Obj→Bool
 | .cells ..=>false
 | .pending ..=>false
 | .view ..=>false
 | .number ..=>false
 | _=>true
theorem JbY {w:World} {b o:Nat} {v:Value} {x:Obj} (h:w.cell? ⟨b,o,none⟩=some v) (hx:w.heap[b]? = some x):JdZ x=false:=by
 unfold World.cell? at h
 simp only [hx] at h
 split at h
 · rename_i e;cases e;rfl
 · cases h
def Vf.len (s:Vf):Nat:=match s.ob with
 | none=>s.cs.length
 | some _=>1
def Vf.has (s:Vf) (b o:Nat):Prop:=s.b=b∧s.off≤o∧o<s.off+s.len
def Vf.apart (s t:Vf):Prop:=∀ b o,s.has b o→¬ t.has b o
theorem Vf.apart_symm {s t:Vf} (h:s.apart t):t.apart s:=fun b o x y=>h b o y x
def shp (w:World) (b:Nat):Option (TypeId×Nat):=match w.heap[b]? with
 | some (.cells c t (0,0))=>some (t,c.size)
 | _=>none
def Vf.ok (s:Vf) (B:Nat) (w:World) (G:J5):Prop :=
 B≤s.b∧(∀ i v,s.cs[i]? = some v→w.cell? ⟨s.b,s.off+i,none⟩=some v∧w.frozen? ⟨s.b,s.off+i,none⟩=false∧G s.b (s.off+i)=none) ∧
  (∀ x,s.ob=some x→JdZ x=true∧w.heap[s.b]? = some x∧s.off=0∧s.cs=[])∧∀ e,s.ty=some e→s.off=0∧shp w s.b=some (e,s.cs.length)
structure St (w0:World) (G0:J5) (w:World) (G:J5) (L:Bl):Prop where
 below:Below w0.heap.size w0 w
 mem:∀ b o v,G b o=some v→w.cell? ⟨b,o,none⟩=some v
 grow:J5.le G0 G
 fresh:∀ b o v,G b o=some v→G0 b o=some v∨w0.heap.size≤b∧w.frozen? ⟨b,o,none⟩=false
 own:∀ s∈L.flatten,s.ok w0.heap.size w G
 apart:L.flatten.Pairwise Vf.apart
theorem St.start {w:World} {G:J5} (h:∀ b o v,G b o=some v→w.cell? ⟨b,o,none⟩=some v):St w G w G [] :=
 ⟨Below.refl _ _,h,Jh _,fun _ _ _ x=>.inl x,by simp,by simp⟩
theorem WE {w:World} {b o:Nat} {v:Value} (h:w.cell? ⟨b,o,none⟩=some v):b<w.heap.size :=
 World.block_lt_of_cell? w ⟨b,o,none⟩ h
theorem St.drew {w0 w:World} {G0 G:J5} {L:Bl} (h:St w0 G0 w G L):St w0 G0 { w with drawn:=w.drawn+1 } G L :=
 ⟨⟨h.below.os,h.below.tape,h.below.output,h.below.size,h.below.block⟩,h.mem,h.grow,h.fresh,h.own,h.apart⟩
theorem St.upd {w0 w w':World} {G0 G:J5} {A B:Bl} {c c':Bg} (h:St w0 G0 w G (A++c::B))
  (hb:Below w0.heap.size w w')
  (hkeep:∀ b o v,w.cell? ⟨b,o,none⟩=some v→(∀ s∈c,¬ s.has b o)→w'.cell? ⟨b,o,none⟩=some v∧w'.frozen? ⟨b,o,none⟩=w.frozen? ⟨b,o,none⟩)
  (hsh:∀ b x,shp w b=some x→shp w' b=some x)
  (hko:∀ b x,w.heap[b]? = some x→JdZ x=true→(∀ s∈c,¬ s.has b 0)→w'.heap[b]? = some x)
  (hok:∀ s∈c',s.ok w0.heap.size w' G)
  (hin:∀ s∈c',∀ b o,s.has b o→(∃ t∈c,t.has b o)∨w.heap.size≤b)
  (hap:c'.Pairwise Vf.apart):St w0 G0 w' G (A++c'::B):=by
 have hmemc:∀ s∈c,s∈(A++c::B).flatten:=fun s hs=>by simp;exact .inr (.inl hs)
 have inG:∀ b o v,G b o=some v→∀ s∈c,¬ s.has b o:=by
  intro b o v hv s hs hh
  obtain ⟨e,h1,h2⟩:=hh
  obtain ⟨_,hcs,hob,_⟩:=h.own s (hmemc s hs)
  cases hx:s.ob with
  | some x =>
   obtain ⟨p1,p2,p3,p4⟩:=hob x hx
   have:=JbY (h.mem _ _ _ hv) (e ▸ p2)
   rw [p1] at this;cases this
  | none =>
   simp only [Vf.len,hx] at h2
   have hl:o-s.off<s.cs.length:=by omega
   obtain ⟨_,_,h3⟩:=hcs _ _ (Hc hl)
   rw [show s.off+(o-s.off)=o by omega,e,hv] at h3
   cases h3
 have happ:(A.flatten++(c++B.flatten)).Pairwise Vf.apart:=by simpa using h.apart
 obtain ⟨hA,hcB,hAcB⟩:=Ho.1 happ
 obtain ⟨hc,hB,hcB'⟩:=Ho.1 hcB
 have other:∀ t,t∈A.flatten∨t∈B.flatten→(∀ s∈c,s.apart t)∧t∈(A++c::B).flatten:=by
  intro t ht
  refine ⟨fun s hs=>?_,by simp only [Ht,Hu,HI];rcases ht with ht | ht <;> simp [ht]⟩
  rcases ht with ht | ht
  · exact Vf.apart_symm (hAcB t ht s (by simp [hs]))
  · exact hcB' s hs t ht
 have oth:∀ t,t∈A.flatten∨t∈B.flatten→t.ok w0.heap.size w' G:=by
  intro t ht
  obtain ⟨ha,hm⟩:=other t ht
  obtain ⟨h1,h2,h4,h5⟩:=h.own t hm
  refine ⟨h1,fun i v hv=>?_,fun x hx=>?_,fun e he=>?_⟩
  ·
   obtain ⟨x1,x2,x3⟩:=h2 i v hv
   have hlen:i<t.cs.length:=(Ha.1 hv).1
   have hno:t.ob=none:=by
    cases hx:t.ob with
    | none=>rfl
    | some x=>rw [(h4 x hx).2.2.2] at hlen;simp at hlen
   obtain ⟨y1,y2⟩:=hkeep _ _ _ x1 (fun s hs hh=>ha s hs _ _ hh ⟨rfl,by omega,by simp only [Vf.len,hno];omega⟩)
   exact ⟨y1,y2.trans x2,x3⟩
  ·
   obtain ⟨p1,p2,p3,p4⟩:=h4 x hx
   exact ⟨p1,hko _ _ p2 p1 (fun s hs hh=>ha s hs _ _ hh ⟨rfl,by omega,by simp only [Vf.len,hx];omega⟩),p3,p4⟩
  ·
   obtain ⟨n,hn⟩:=h5 e he
   exact ⟨n,hsh _ _ hn⟩
 have sep:∀ s∈c',∀ t,t∈A.flatten∨t∈B.flatten→s.apart t:=by
  intro s hs t ht b o h1 h2
  obtain ⟨ha,hm⟩:=other t ht
  rcases hin s hs b o h1 with ⟨u,hu,hx⟩ | hx
  · exact ha u hu b o hx h2
  ·
   obtain ⟨e,p1,p2⟩:=h2
   obtain ⟨_,q2,q3,_⟩:=h.own t hm
   cases hob:t.ob with
   | some y =>
    have:=(q3 y hob).2.1
    have:=(Hp.1 this).1
    omega
   | none =>
    simp only [Vf.len,hob] at p2
    have hl:o-t.off<t.cs.length:=by omega
    have:=(q2 _ _ (Hc hl)).1
    have:=WE this
    omega
 refine ⟨h.below.trans hb,fun b o v hv=>(hkeep b o v (h.mem b o v hv) (inG b o v hv)).1,h.grow,fun b o v hv=>(h.fresh b o v hv).imp_right fun q=>⟨q.1,(hkeep b o v (h.mem b o v hv) (inG b o v hv)).2.trans q.2⟩,?_,?_⟩
 ·
  intro s hs
  simp only [Ht,Hu,HI] at hs
  rcases hs with hs | hs | hs
  · exact oth s (.inl hs)
  · exact hok s hs
  · exact oth s (.inr hs)
 ·
  have:(A.flatten++(c'++B.flatten)).Pairwise Vf.apart:=by
   refine Ho.2 ⟨hA,Ho.2 ⟨hap,hB,fun s hs t ht=>sep s hs t (.inr ht)⟩,?_⟩
   intro t ht s hs
   rcases HI.1 hs with hs | hs
   · exact Vf.apart_symm (sep s hs t (.inl ht))
   · exact hAcB t ht s (by simp [hs])
  simpa using this
theorem Vg {α:Type} {L:List α} {i:Nat} {c:α} (h:L[i]? = some c):∃ A B,L=A++c::B∧∀ c',L.set i c'=A++c'::B:=by
 obtain ⟨hi,hc⟩:=Ha.1 h
 refine ⟨L.take i,L.drop (i+1),?_,fun c'=>Mg.trans (if_pos hi)⟩
 rw [← hc];simp
theorem YG {w:World} {b:Nat} {x:TypeId×Nat}:shp w b=some x ↔ ∃ c,w.heap[b]? = some (.cells c x.1 (0,0))∧c.size=x.2:=by
 unfold shp
 constructor
 ·
  intro h
  split at h
  · rename_i c el hh;cases h;exact ⟨c,hh,rfl⟩
  · cases h
 ·
  rintro ⟨c,hh,hs⟩
  rw [hh];simp [hs]
theorem Jd0 {w:World} {b:Nat} {x:TypeId×Nat} (h:shp w b=some x):w.shape? b=some x∧∀ o,w.frozen? ⟨b,o,none⟩=false:=by
 obtain ⟨c,hh,hs⟩:=YG.1 h
 refine ⟨by unfold World.shape?;rw [hh];simp [hs],fun o=>by unfold World.frozen?;rw [hh];simp⟩
theorem Jnt {w:World} {b:Nat} {x:TypeId×Nat} (h:shp w b=some x):b<w.heap.size:=by
 obtain ⟨c,hh,_⟩:=YG.1 h
 exact (Hp.1 hh).1
theorem JeD {w:World} {b:Nat} {x:TypeId×Nat} (y:Obj) (h:shp w b=some x):shp (w.alloc y) b=some x:=by
 have hb:=Jnt h
 unfold shp World.alloc at *
 simp only
 rw [Mo,if_neg (by omega)];exact h
theorem JgB {w:World} {a:Addr} {v:Value} {b:Nat} {x:TypeId×Nat} (h:shp w b=some x):shp (w.setCell a v) b=some x:=by
 obtain ⟨c,hh,hs⟩:=YG.1 h
 refine YG.2 ?_
 by_cases e:a.block=b
 ·
  refine ⟨if a.spot.isSome then c else c.setIfInBounds a.off v,?_,?_⟩
  ·
   unfold World.setCell
   simp only
   rw [HY,if_pos e,hh];rfl
  · split <;> simp [hs]
 ·
  refine ⟨c,?_,hs⟩
  unfold World.setCell
  simp only
  rw [HY,if_neg e,hh]
theorem JhG (w:World) (c:Array Value) (t:TypeId) (a:Addr):(w.alloc (.cells c t)).frozen? a=w.frozen? a:=frozen?_alloc_cells w c t a
theorem Jg4 {w:World} {b:Nat} {x y:Obj} (h:w.heap[b]? = some x):(w.heap.push y)[b]? = some x:=by
 have:=(Hp.1 h).1
 rw [Mo,if_neg (by omega),h]
theorem St.alloc {w0 w:World} {G0 G:J5} {L:Bl} (h:St w0 G0 w G L) (cs:Array Value) (t:TypeId) :
  St w0 G0 (w.alloc (.cells cs t)) G ([Sg w.heap.size 0 cs.toList]::L):=by
 have h':St w0 G0 w G ([]++[]::L):=⟨h.below,h.mem,h.grow,h.fresh,by simpa using h.own,by simpa using h.apart⟩
 have hfresh:∀ o,G w.heap.size o=none:=by
  intro o
  cases hg:G w.heap.size o with
  | none=>rfl
  | some v=>have:=WE (h.mem _ _ _ hg);omega
 have:=St.upd (A:=[]) (B:=L) (c:=[]) (c':=[Sg w.heap.size 0 cs.toList]) (w':=w.alloc (.cells cs t)) h'
  ((Below.refl _ _).alloc h.below.size _) (fun b o v hv _=>⟨by rw [World.cell?_alloc_lt _ _ _ (WE hv)];exact hv,JhG _ _ _ _⟩)
  (fun b x hx=>JeD _ hx) (fun b x hx _ _=>Jg4 hx)
  (by
   intro s hs
   obtain rfl:s=_:=by simpa using hs
   refine ⟨h.below.size,fun i v hv=>⟨?_,?_,hfresh _⟩,by simp,by simp⟩
   · simp only [HC];rw [World.cell?_alloc_new];simpa using hv
   · simp only [HC];exact World.frozen?_alloc_new _ _ _ _)
  (by
   intro s hs b o hh
   obtain rfl:s=_:=by simpa using hs
   exact .inr (by simp [Vf.has] at hh;omega))
  (by simp)
 simpa using this
theorem St.allocO {w0 w:World} {G0 G:J5} {L:Bl} (h:St w0 G0 w G L) (x:Obj) (hx:JdZ x=true) :
  St w0 G0 (w.alloc x) G ([Ob w.heap.size x]::L):=by
 have h':St w0 G0 w G ([]++[]::L):=⟨h.below,h.mem,h.grow,h.fresh,by simpa using h.own,by simpa using h.apart⟩
 have hfz:∀ a:Addr,a.block<w.heap.size→(w.alloc x).frozen? a=w.frozen? a:=by
  intro a ha
  unfold World.frozen? World.alloc
  simp only
  rw [Mo,if_neg (by omega)]
 have:=St.upd (A:=[]) (B:=L) (c:=[]) (c':=[Ob w.heap.size x]) (w':=w.alloc x) h'
  ((Below.refl _ _).alloc h.below.size _) (fun b o v hv _=>⟨by rw [World.cell?_alloc_lt _ _ _ (WE hv)];exact hv,hfz _ (WE hv)⟩)
  (fun b x hx=>JeD _ hx) (fun b x hx _ _=>Jg4 hx)
  (by
   intro s hs
   obtain rfl:s=_:=by simpa using hs
   refine ⟨h.below.size,by simp,fun y hy=>?_,by simp⟩
   cases hy
   exact ⟨hx,by show (w.heap.push x)[w.heap.size]? = some x;simp,rfl,rfl⟩)
  (by
   intro s hs b o hh
   obtain rfl:s=_:=by simpa using hs
   exact .inr (by simp [Vf.has] at hh;omega))
  (by simp)
 simpa using this
theorem St.setO {w0 w:World} {G0 G:J5} {L:Bl} {i b:Nat} {x:Obj} (h:St w0 G0 w G L) (hi:L[i]? = some [Ob b x]) (y:Obj) (hy:JdZ y=true) :
  St w0 G0 { w with heap:=w.heap.setIfInBounds b y } G (L.set i [Ob b y]):=by
 obtain ⟨A,B,rfl,hset⟩:=Vg hi
 rw [hset]
 have hm:(Ob b x)∈(A++[Ob b x]::B).flatten:=by simp
 obtain ⟨hB,_,hob,_⟩:=h.own _ hm
 obtain ⟨p1,p2,_,_⟩:=hob x rfl
 simp only at hB p2
 have hlt:=(Hp.1 p2).1
 have hne:∀ b' o v,w.cell? ⟨b',o,none⟩=some v→b ≠ b':=fun b' o v hv e=>by
  have:=JbY hv (e ▸ p2)
  rw [p1] at this;cases this
 have hget:∀ k,k ≠ b→(w.heap.setIfInBounds b y)[k]? = w.heap[k]?:=fun k hk=>by
  rw [H5,if_neg (fun e=>hk e.symm)]
 refine St.upd h ⟨rfl,rfl,rfl,by simp,fun k hk=>hget k (by omega)⟩ ?_ ?_ ?_ ?_ ?_ (by simp)
 ·
  intro b' o v hv _
  have hn:=hne b' o v hv
  unfold World.cell? World.frozen? at *
  simp only at *
  rw [hget b' (fun e=>hn e.symm)]
  exact ⟨hv,rfl⟩
 ·
  intro b' z hz
  have hn:b' ≠ b:=fun e=>by
   subst e
   obtain ⟨c,hh,_⟩:=YG.1 hz
   rw [p2] at hh
   cases x <;> simp [JdZ] at p1 hh
  unfold shp at hz ⊢
  simp only
  rw [hget b' hn];exact hz
 ·
  intro b' z hz _ hno
  have:b' ≠ b:=fun e=>hno _ (Mq.2 rfl) ⟨e.symm,H1 _,by simp [Vf.len]⟩
  show (w.heap.setIfInBounds b y)[b']? = some z
  rw [hget b' this];exact hz
 ·
  intro s hs
  obtain rfl:s=_:=by simpa using hs
  refine ⟨hB,by simp,fun z hz=>?_,by simp⟩
  cases hz
  exact ⟨hy,by show (w.heap.setIfInBounds b y)[b]? = some y;simp [hlt],rfl,rfl⟩
 ·
  intro s hs b' o hh
  obtain rfl:s=_:=by simpa using hs
  exact .inl ⟨_,Mq.2 rfl,hh⟩
def J5.add (G:J5) (c:Bg):J5:=fun b o=>match G b o with
 | some v=>some v
 | none=>c.findSome? fun s=>if s.b=b∧s.off≤o then s.cs[o-s.off]? else none
theorem J5.le_add (G:J5) (c:Bg):J5.le G (G.add c):=fun b o v h=>by simp [J5.add,h]
theorem Jiv {c:Bg} {b o:Nat} {v:Value} (h:(c.findSome? fun s=>if s.b=b∧s.off≤o then s.cs[o-s.off]? else none)=some v) :
  ∃ s∈c,s.b=b∧s.off≤o∧s.cs[o-s.off]? = some v:=by
 obtain ⟨s,hs,hv⟩:=List.exists_of_findSome?_eq_some h
 split at hv
 · rename_i hh;exact ⟨s,hs,hh.1,hh.2,hv⟩
 · cases hv
theorem Vf.ok.noOb {s:Vf} {B:Nat} {w:World} {G:J5} (h:s.ok B w G) {j:Nat} {v:Value} (hv:s.cs[j]? = some v):s.ob=none:=by
 cases hx:s.ob with
 | none=>rfl
 | some x=>rw [(h.2.2.1 x hx).2.2.2] at hv;simp at hv
theorem St.freeze {w0 w:World} {G0 G:J5} {L:Bl} {i:Nat} {c:Bg} (h:St w0 G0 w G L) (hi:L[i]? = some c) :
  St w0 G0 w (G.add c) (L.set i []):=by
 obtain ⟨A,B,rfl,hset⟩:=Vg hi
 rw [hset]
 have hmemc:∀ s∈c,s∈(A++c::B).flatten:=fun s hs=>by simp;exact .inr (.inl hs)
 have happ:(A.flatten++(c++B.flatten)).Pairwise Vf.apart:=by simpa using h.apart
 obtain ⟨hA,hcB,hAcB⟩:=Ho.1 happ
 obtain ⟨hc,hB,hcB'⟩:=Ho.1 hcB
 have added:∀ b o v,G.add c b o=some v→G b o=some v∨∃ s∈c,s.b=b∧s.off≤o∧s.cs[o-s.off]? = some v:=by
  intro b o v hv
  unfold J5.add at hv
  split at hv
  · rename_i u hu;exact .inl (hu.trans hv)
  · exact .inr (Jiv hv)
 refine ⟨h.below,?_,Ja h.grow (J5.le_add _ _),?_,?_,?_⟩
 ·
  intro b o v hv
  rcases added b o v hv with hv | ⟨s,hs,rfl,h2,h3⟩
  · exact h.mem _ _ _ hv
  ·
   have:=((h.own s (hmemc s hs)).2.1 _ _ h3).1
   rwa [show s.off+(o-s.off)=o by omega] at this
 ·
  intro b o v hv
  rcases added b o v hv with hv | ⟨s,hs,rfl,h2,h3⟩
  · exact h.fresh _ _ _ hv
  ·
   have hc:=(h.own s (hmemc s hs)).2.1 _ _ h3
   rw [show s.off+(o-s.off)=o by omega] at hc
   exact .inr ⟨(h.own s (hmemc s hs)).1,hc.2.1⟩
 ·
  intro t ht
  have ht':t∈A.flatten∨t∈B.flatten:=by simpa using ht
  have hm:t∈(A++c::B).flatten:=by simp only [Ht,Hu,HI];rcases ht' with ht | ht <;> simp [ht]
  have hap:∀ s∈c,s.apart t:=fun s hs=>by
   rcases ht' with ht | ht
   · exact Vf.apart_symm (hAcB t ht s (by simp [hs]))
   · exact hcB' s hs t ht
  have hokt:=h.own t hm
  obtain ⟨h1,h2,h2o⟩:=h.own t hm
  refine ⟨h1,fun k v hv=>?_,h2o⟩
  obtain ⟨x1,x2,x3⟩:=h2 k v hv
  refine ⟨x1,x2,?_⟩
  have hk:k<t.cs.length:=(Ha.1 hv).1
  cases hg:G.add c t.b (t.off+k) with
  | none=>rfl
  | some u =>
   rcases added _ _ _ hg with hv' | ⟨s,hs,e1,e2,e3⟩
   · rw [x3] at hv';cases hv'
   ·
    have hl:t.off+k-s.off<s.cs.length:=(Ha.1 e3).1
    have n1:=(h.own s (hmemc s hs)).noOb e3
    have n2:=hokt.noOb hv
    exact (hap s hs t.b (t.off+k) ⟨e1,e2,by simp only [Vf.len,n1];omega⟩ ⟨rfl,by omega,by simp only [Vf.len,n2];omega⟩).elim
 ·
  have:(A.flatten++B.flatten).Pairwise Vf.apart :=
   Ho.2 ⟨hA,hB,fun t ht s hs=>hAcB t ht s (by simp [hs])⟩
  simpa using this
theorem St.has_lt {w0 w:World} {G0 G:J5} {L:Bl} (h:St w0 G0 w G L) {t:Vf} (ht:t∈L.flatten) {b o:Nat} (hh:t.has b o):w0.heap.size≤b∧b<w.heap.size:=by
 obtain ⟨e,p1,p2⟩:=hh
 obtain ⟨q1,q2,q3,_⟩:=h.own t ht
 subst e
 refine ⟨q1,?_⟩
 cases hob:t.ob with
 | some y=>exact (Hp.1 (q3 y hob).2.1).1
 | none =>
  simp only [Vf.len,hob] at p2
  have hl:o-t.off<t.cs.length:=by omega
  exact WE (q2 _ _ (Hc hl)).1
theorem St.call {w0 w w':World} {G0 G G':J5} {L L':Bl} (h:St w0 G0 w G L) (k:St w G w' G' L'):St w0 G0 w' G' (L'++L):=by
 have hcell:∀ b o v,w.cell? ⟨b,o,none⟩=some v→w'.cell? ⟨b,o,none⟩=some v∧w'.frozen? ⟨b,o,none⟩=w.frozen? ⟨b,o,none⟩:=fun b o v hv =>
  ⟨(k.below.cell (p:=⟨b,o,none⟩) (WE hv)).trans hv,k.below.frozen (p:=⟨b,o,none⟩) (WE hv)⟩
 refine ⟨h.below.trans (k.below.mono h.below.size),k.mem,Ja h.grow k.grow,?_,?_,?_⟩
 ·
  intro b o v hv
  rcases k.fresh b o v hv with hv | hv
  · exact (h.fresh b o v hv).imp_right fun q=>⟨q.1,(hcell b o v (h.mem b o v (by assumption))).2.trans q.2⟩
  · exact .inr ⟨Mu h.below.size hv.1,hv.2⟩
 ·
  intro s hs
  rw [Ht] at hs
  rcases HI.1 hs with hs | hs
  ·
   obtain ⟨h1,h2⟩:=k.own s hs
   exact ⟨Mu h.below.size h1,h2⟩
  ·
   obtain ⟨h1,h2,h3,h4⟩:=h.own s hs
   refine ⟨h1,fun i v hv=>?_,fun x hx=>?_,fun e he=>?_⟩
   ·
    obtain ⟨x1,x2,x3⟩:=h2 i v hv
    obtain ⟨y1,y2⟩:=hcell _ _ _ x1
    refine ⟨y1,y2.trans x2,?_⟩
    cases hg:G' s.b (s.off+i) with
    | none=>rfl
    | some u =>
     rcases k.fresh _ _ _ hg with hg | hg
     · rw [x3] at hg;cases hg
     · have:=WE x1;have:=hg.1;omega
   ·
    obtain ⟨p1,p2,p3,p4⟩:=h3 x hx
    have:=(Hp.1 p2).1
    exact ⟨p1,(k.below.block _ this).trans p2,p3,p4⟩
   ·
    obtain ⟨hn0,hn⟩:=h4 e he
    refine ⟨hn0,?_⟩
    have hb:s.b<w.heap.size:=Jnt hn
    unfold shp at hn ⊢
    rw [k.below.block _ hb];exact hn
 ·
  rw [Ht]
  refine Ho.2 ⟨k.apart,h.apart,fun s hs t ht b o h1 h2=>?_⟩
  have:=k.has_lt hs h1
  have:=h.has_lt ht h2
  omega
theorem St.drop {w0 w:World} {G0 G:J5} {L:Bl} (h:St w0 G0 w G L):St w0 G0 w G [] :=
 ⟨h.below,h.mem,h.grow,h.fresh,by simp,by simp⟩
theorem St.dropAt {w0 w:World} {G0 G:J5} {L:Bl} (h:St w0 G0 w G L) (L':Bl) (hs:L'.flatten.Sublist L.flatten):St w0 G0 w G L' :=
 ⟨h.below,h.mem,h.grow,h.fresh,fun s hx=>h.own s (hs.subset hx),h.apart.sublist hs⟩
theorem Jg5 {ρ ρ':Operand→Value} (ps:Array (Nat×Operand)) (h:∀ x∈(ps.toList.map (·.2)).toArray,ρ x=ρ' x) :
  (ps.map fun (i,x)=>(i,ρ x))=ps.map fun (i,x)=>(i,ρ' x):=by
 apply MG
 intro p hp
 have:=h p.2 (by simp;exact ⟨p.1,hp⟩)
 simp [this]
theorem VD {ρ ρ':Operand→Value} (xs:Array Operand) (h:∀ x∈xs,ρ x=ρ' x):xs.map ρ=xs.map ρ' :=
 MG h
theorem Jfe {ρ ρ':Operand→Value} (x:Option Operand) (h:∀ y∈x.toArray,ρ y=ρ' y):x.map ρ=x.map ρ':=by
 cases x with
 | none=>rfl
 | some y=>simp [h y (by simp)]
theorem Wq (ρ ρ':Operand→Value) (o:Oper) (hsel:∀ cs b,o.op ≠ .select cs b) (h:∀ x∈o.op.operands,ρ x=ρ' x):execOp ρ o=execOp ρ' o:=by
 unfold execOp
 cases ho:o.op with
 | move x=>simp only [ho,Op.operands] at h;simp only [h x (by simp)]
 | assign x=>simp only [ho,Op.operands] at h;simp only [h x (by simp)]
 | pick c a b=>simp only [ho,Op.operands] at h;simp only [h c (by simp),h a (by simp),h b (by simp)]
 | alloc e=>rfl
 | box e x=>simp only [ho,Op.operands] at h;simp only [h x (by simp)]
 | build t ps=>simp only [ho,Op.operands] at h;simp only [Jg5 ps h]
 | buildSlice t n ps=>simp only [ho,Op.operands] at h;simp only [Jg5 ps h]
 | insert t m k x=>simp only [ho,Op.operands] at h;simp only [h m (by simp),h k (by simp),h x (by simp)]
 | load t x=>simp only [ho,Op.operands] at h;simp only [h x (by simp)]
 | store t a x=>simp only [ho,Op.operands] at h;simp only [h a (by simp),h x (by simp)]
 | ready g=>rfl
 | waits g=>rfl
 | nilCheck x=>simp only [ho,Op.operands] at h;simp only [h x (by simp)]
 | binOp op t x y u=>simp only [ho,Op.operands] at h;simp only [h x (by simp),h y (by simp)]
 | unOp op t x=>simp only [ho,Op.operands] at h;simp only [h x (by simp)]
 | convert s d x=>simp only [ho,Op.operands] at h;simp only [h x (by simp)]
 | sliceToArrayPointer d x=>simp only [ho,Op.operands] at h;simp only [h x (by simp)]
 | makeInterface t x=>simp only [ho,Op.operands] at h;simp only [h x (by simp)]
 | makeFunc fn a b =>
  simp only [ho,Op.operands] at h
  simp only [VD a (fun x hx=>h x (by simp [hx])),VD b (fun x hx=>h x (by simp [hx]))]
 | makeMap t r=>simp only [ho,Op.operands] at h;simp only [Jfe r h]
 | makeChan t x=>simp only [ho,Op.operands] at h;simp only [h x (by simp)]
 | makeSlice t l c=>simp only [ho,Op.operands] at h;simp only [h l (by simp),h c (by simp)]
 | slice t x lo hi mx =>
  simp only [ho,Op.operands] at h
  simp only [h x (by simp),Jfe lo (fun y hy=>h y (by simp [hy])),Jfe hi (fun y hy=>h y (by simp [hy])),Jfe mx (fun y hy=>h y (by simp [hy]))]
 | fieldAddr s x f=>simp only [ho,Op.operands] at h;simp only [h x (by simp)]
 | field s x f=>simp only [ho,Op.operands] at h;simp only [h x (by simp)]
 | indexAddr t x i=>simp only [ho,Op.operands] at h;simp only [h x (by simp),h i (by simp)]
 | index t x i=>simp only [ho,Op.operands] at h;simp only [h x (by simp),h i (by simp)]
 | lookup t x i ok=>simp only [ho,Op.operands] at h;simp only [h x (by simp),h i (by simp)]
 | mapUpdate t m k x=>simp only [ho,Op.operands] at h;simp only [h m (by simp),h k (by simp),h x (by simp)]
 | mapEntry t m k=>simp only [ho,Op.operands] at h;simp only [h m (by simp),h k (by simp)]
 | entryStore t m k x=>simp only [ho,Op.operands] at h;simp only [h m (by simp),h k (by simp),h x (by simp)]
 | range t x=>simp only [ho,Op.operands] at h;simp only [h x (by simp)]
 | next i s=>simp only [ho,Op.operands] at h;simp only [h i (by simp)]
 | entry i=>simp only [ho,Op.operands] at h;simp only [h i (by simp)]
 | typeAssert x a b c=>simp only [ho,Op.operands] at h;simp only [h x (by simp)]
 | extract x i=>simp only [ho,Op.operands] at h;simp only [h x (by simp)]
 | call c =>
  have e:resolve ρ c o.type=resolve ρ' c o.type:=by
   simp only [ho,Op.operands] at h
   unfold Call.operands at h
   unfold resolve
   cases hc:c.callee with
   | builtin b =>
    simp only [hc] at h
    rw [VD c.args (fun x hx=>h x (by simp [hx]))]
   | value f =>
    simp only [hc] at h
    dsimp only;rw [VD c.args (fun x hx=>h x (by simp [hx])),h f (by simp)]
   | invoke r nm =>
    simp only [hc] at h
    dsimp only;rw [VD c.args (fun x hx=>h x (by simp [hx])),h r (by simp)]
  simp only [e]
 | go c =>
  have e:resolve ρ c o.type=resolve ρ' c o.type:=by
   simp only [ho,Op.operands] at h
   unfold Call.operands at h
   unfold resolve
   cases hc:c.callee with
   | builtin b =>
    simp only [hc] at h
    rw [VD c.args (fun x hx=>h x (by simp [hx]))]
   | value f =>
    simp only [hc] at h
    dsimp only;rw [VD c.args (fun x hx=>h x (by simp [hx])),h f (by simp)]
   | invoke r nm =>
    simp only [hc] at h
    dsimp only;rw [VD c.args (fun x hx=>h x (by simp [hx])),h r (by simp)]
  simp only [e]
 | defer c =>
  have e:resolve ρ c o.type=resolve ρ' c o.type:=by
   simp only [ho,Op.operands] at h
   unfold Call.operands at h
   unfold resolve
   cases hc:c.callee with
   | builtin b =>
    simp only [hc] at h
    rw [VD c.args (fun x hx=>h x (by simp [hx]))]
   | value f =>
    simp only [hc] at h
    dsimp only;rw [VD c.args (fun x hx=>h x (by simp [hx])),h f (by simp)]
   | invoke r nm =>
    simp only [hc] at h
    dsimp only;rw [VD c.args (fun x hx=>h x (by simp [hx])),h r (by simp)]
  simp only [e]
 | panic x=>simp only [ho,Op.operands] at h;simp only [h x (by simp)]
 | send c x=>simp only [ho,Op.operands] at h;simp only [h c (by simp),h x (by simp)]
 | recv t c ok=>simp only [ho,Op.operands] at h;simp only [h c (by simp)]
 | select cs bl=>exact (hsel cs bl ho).elim
def WF (w:World) (b o:Nat):Bv→World
 | []=>w
 | v::vs=>WF (w.setCell ⟨b,o,none⟩ v) b (o+1) vs
theorem JbS (vs:Bv):∀ (w:World) (b o:Nat) (a:Addr),(WF w b o vs).frozen? a=w.frozen? a:=by
 induction vs with
 | nil=>intros;rfl
 | cons v vs ih=>intro w b o a;rw [WF,ih];exact World.frozen?_setCell _ _ _ _
theorem JfA (vs:Bv) (B:Nat):∀ (w:World) (b o:Nat),B≤b→Below B w (WF w b o vs):=by
 induction vs with
 | nil=>intros;exact Below.refl _ _
 | cons v vs ih=>intro w b o hb;exact ((Below.refl B w).setCell (p:=⟨b,o,none⟩) hb v).trans (ih _ _ _ hb)
theorem JaA (vs:Bv):∀ (w:World) (b o b' o':Nat),¬ (b'=b∧o≤o'∧o'<o+vs.length) →
  (WF w b o vs).cell? ⟨b',o',none⟩=w.cell? ⟨b',o',none⟩:=by
 induction vs with
 | nil=>intros;rfl
 | cons v vs ih =>
  intro w b o b' o' h
  simp only [H2] at h
  rw [WF,ih _ _ _ _ _ (by omega)]
  exact World.cell?_setCell_other _ _ _ _ (by simp;omega)
theorem JgC (vs:Bv):∀ (w:World) (b o:Nat),(∀ j,j<vs.length→∃ u,w.cell? ⟨b,o+j,none⟩=some u) →
  ∀ j v,vs[j]? = some v→(WF w b o vs).cell? ⟨b,o+j,none⟩=some v:=by
 induction vs with
 | nil=>intro w b o _ j v h;simp at h
 | cons x vs ih =>
  intro w b o hex j v h
  rw [WF]
  cases j with
  | zero =>
   obtain rfl:x=v:=by simpa using h
   rw [JaA vs _ _ _ _ _ (by omega)]
   obtain ⟨u,hu⟩:=hex 0 (by simp)
   exact World.cell?_setCell_same _ _ _ hu
  | succ j =>
   have:=ih (w.setCell ⟨b,o,none⟩ x) b (o+1) (fun k hk=>by
    obtain ⟨u,hu⟩:=hex (k+1) (by simp;omega)
    refine ⟨u,?_⟩
    rw [World.cell?_setCell_other _ _ _ _ (by simp <;> omega)]
    rw [show o+1+k=o+(k+1) by omega];exact hu) j v (by simpa using h)
   rwa [show o+1+j=o+(j+1) by omega] at this
theorem Jj4 {w:World} {a:Addr} {v:Value} {b:Nat} {x:Obj} (h:w.heap[b]? = some x) (hx:JdZ x=true):(w.setCell a v).heap[b]? = some x:=by
 unfold World.setCell
 simp only
 rw [HY]
 split
 ·
  rename_i e
  rw [h]
  cases x <;> first | rfl | (simp [JdZ] at hx)
 · exact h
theorem JeE (vs:Bv):∀ (w:World) (b o k:Nat) (x:Obj),w.heap[k]? = some x→JdZ x=true→(WF w b o vs).heap[k]? = some x:=by
 induction vs with
 | nil=>intro w b o k x h _;exact h
 | cons v vs ih=>intro w b o k x h hx;rw [WF];exact ih _ _ _ _ _ (Jj4 h hx) hx
theorem JbZ (vs:Bv):∀ (w:World) (b o k:Nat) (x:TypeId×Nat),shp w k=some x→shp (WF w b o vs) k=some x:=by
 induction vs with
 | nil=>intro w b o k x h;exact h
 | cons v vs ih=>intro w b o k x h;rw [WF];exact ih _ _ _ _ _ (JgB h)
theorem Y7 (P:Program) (b off:Nat) (vs:Bv):∀ (w:World) (i:Nat),(∀ u∈vs,u.oneCell'=true) →
  (∀ j,j<vs.length→∃ u,w.cell? ⟨b,off+i+j,none⟩=some u)→(∀ j,j<vs.length→w.frozen? ⟨b,off+i+j,none⟩=false) →
  (storeCells ⟨b,off,none⟩ vs i).run P w=.ok () (WF w b (off+i) vs):=by
 induction vs with
 | nil=>intros;rfl
 | cons v vs ih =>
  intro w i h1 hex hfr
  have hadd:(⟨b,off,none⟩:Addr).add i=⟨b,off+i,none⟩:=by unfold Addr.add;split <;> simp_all
  obtain ⟨u,hu⟩:=hex 0 (by simp)
  have hf:=hfr 0 (by simp)
  simp only [Me] at hu hf
  have hs:(store ⟨b,off+i,none⟩ v).run P w=.ok () (w.setCell ⟨b,off+i,none⟩ v):=by
   rw [run_store P w _ v _ (h1 v (by simp))];simp [hu,hf]
  rw [storeCells,Hh,hadd,hs,Hd,WF]
  rw [ih (w.setCell ⟨b,off+i,none⟩ v) (i+1) (fun u hu=>h1 u (by simp [hu]))
   (fun j hj=>by
    obtain ⟨u,hu⟩:=hex (j+1) (by simp;omega)
    refine ⟨u,?_⟩
    rw [World.cell?_setCell_other _ _ _ _ (by simp <;> omega)]
    rw [show off+(i+1)+j=off+i+(j+1) by omega];exact hu)
   (fun j hj=>by
    rw [World.frozen?_setCell]
    have:=hfr (j+1) (by simp;omega)
    rwa [show off+i+(j+1)=off+(i+1)+j by omega] at this)]
  rfl
def Qz (cs:Bv) (k:Nat) (vs:Bv):Bv:=cs.take k++(vs++cs.drop (k+vs.length))
theorem Zk {cs vs:Bv} {k:Nat} (h:k+vs.length≤cs.length):(Qz cs k vs).length=cs.length:=by
 simp [Qz];omega
theorem Jj5 {cs vs:Bv} {k:Nat} (h:k+vs.length≤cs.length) (i:Nat) :
  (Qz cs k vs)[i]? = if k≤i∧i<k+vs.length then vs[i-k]? else cs[i]?:=by
 unfold Qz
 by_cases h1:i<k
 · rw [Hj (by simp;omega),HK,if_pos h1,if_neg (by omega)]
 ·
  rw [Hq (by simp;omega)]
  simp only [Hx,HR (show k≤cs.length by omega)]
  by_cases h2:i<k+vs.length
  · rw [Hj (by omega),if_pos ⟨by omega,h2⟩]
  ·
   rw [Hq (by omega),if_neg (by omega),HW]
   congr 1;omega
theorem St.store {w0 w:World} {G0 G:J5} {L:Bl} {i:Nat} {s:Vf} (h:St w0 G0 w G L) (hi:L[i]? = some [s]) (k:Nat) (vs:Bv)
  (hk:k+vs.length≤s.cs.length) :
  St w0 G0 (WF w s.b (s.off+k) vs) G (L.set i [⟨s.b,s.off,Qz s.cs k vs,s.ob,s.ty⟩]):=by
 obtain ⟨A,B,rfl,hset⟩:=Vg hi
 rw [hset]
 have hm:s∈(A++[s]::B).flatten:=by simp
 have hokS:=h.own s hm
 obtain ⟨hB,hown,hobs,hty⟩:=h.own s hm
 have hcell:∀ j,j<s.cs.length→∃ u,w.cell? ⟨s.b,s.off+j,none⟩=some u:=fun j hj=>⟨_,(hown j _ (Hc hj)).1⟩
 refine St.upd h (JfA vs _ w _ _ hB) ?_ (fun b x hx=>JbZ vs _ _ _ _ _ hx) (fun b x hx hox _=>JeE vs _ _ _ _ _ hx hox) ?_ ?_ (by simp)
 ·
  intro b o v hv hno
  have hno':¬ (b=s.b∧s.off+k≤o∧o<s.off+k+vs.length):=fun hh=>by
   have n:s.ob=none:=hokS.noOb (Hc (show 0<s.cs.length by omega))
   exact hno s (by simp) ⟨hh.1.symm,by omega,by simp only [Vf.len,n];omega⟩
  exact ⟨(JaA vs w _ _ _ _ hno').trans hv,JbS vs w _ _ _⟩
 ·
  intro t ht
  obtain rfl:t=_:=by simpa using ht
  refine ⟨hB,fun j v hv=>?_,fun x hx=>?_,fun e he=>?_⟩
  ·
   simp only at hv ⊢
   rw [Jj5 hk] at hv
   rw [JbS]
   split at hv
   ·
    rename_i hj
    have hl:j-k<vs.length:=by omega
    have:=JgC vs w s.b (s.off+k) (fun m hm=>by rw [HE];exact hcell (k+m) (by omega)) (j-k) v hv
    rw [show s.off+k+(j-k)=s.off+j by omega] at this
    obtain ⟨_,x2,x3⟩:=hown j _ (Hc (show j<s.cs.length by omega))
    exact ⟨this,x2,x3⟩
   ·
    rename_i hj
    obtain ⟨x1,x2,x3⟩:=hown j v hv
    refine ⟨?_,x2,x3⟩
    rw [JaA vs w _ _ _ _ (by omega)];exact x1
  ·
   obtain ⟨p1,p2,p3,p4⟩:=hobs x hx
   refine ⟨p1,JeE vs _ _ _ _ _ p2 p1,p3,?_⟩
   have:=Zk hk
   simp only at this ⊢
   rw [p4] at this ⊢
   exact Hv (by simpa using this)
  ·
   obtain ⟨n,hn⟩:=hty e he
   refine ⟨n,?_⟩
   simp only [Zk hk]
   exact JbZ vs _ _ _ _ _ hn
 ·
  intro t ht b o hh
  obtain rfl:t=_:=by simpa using ht
  obtain ⟨e,p1,p2⟩:=hh
  refine .inl ⟨s,by simp,e,p1,?_⟩
  revert p2
  simp only [Vf.len]
  cases s.ob with
  | none=>simp only [Zk hk];exact id
  | some _=>exact id
def Qf:Bf→Nat→Option Value
 | [],_=>none
 | (k,v)::r,t=>bif He k t then some v else Qf r t
structure Fr (n:Nat) (D:List Deferred) (a:Act) (fr:Bf):Prop where
 size:a.tmps.size=n
 defers:a.defers=D
 slot:∀ t v,Qf fr t=some v→a.tmps[t]? = some v
def W6 (fr:Bf):Operand→Value
 | .tmp t=>(Qf fr t).getD undef
 | .const v=>v
 | .global g=>.pointer (some ⟨g,0,none⟩)
 | .func f=>.func (.func f) #[] #[]
def cov (fr:Bf):Operand→Bool
 | .tmp t=>(Qf fr t).isSome
 | _=>true
theorem Fr.eval {n:Nat} {D:List Deferred} {a:Act} {fr:Bf} (h:Fr n D a fr) (x:Operand) (hc:cov fr x=true):a.eval x=W6 fr x:=by
 cases x with
 | tmp t =>
  simp only [cov,Hw] at hc
  obtain ⟨v,hv⟩:=hc
  simp [Act.eval,W6,hv,h.slot t v hv]
 | _=>rfl
theorem Fr.put {n:Nat} {D:List Deferred} {a:Act} {fr:Bf} (h:Fr n D a fr) (d:Nat) (v:Value) (hd:d<n):Fr n D (a.put (some d) v) ((d,v)::fr):=by
 refine ⟨by simp [Act.put,h.size],h.defers,fun t u hu=>?_⟩
 simp only [Qf] at hu
 by_cases e:d=t
 ·
  subst e
  simp at hu;subst hu
  simp [Act.put,h.size,hd]
 ·
  have:He d t=false:=by cases hb:He d t with | false=>rfl | true=>exact (e (Hb hb)).elim
  rw [this] at hu
  simp only [cond_false] at hu
  have hne:¬ d=t:=e
  simp [Act.put,H5,hne,h.slot t u hu]
theorem Fr.sub {n:Nat} {D:List Deferred} {a:Act} {fr fr':Bf} (h:Fr n D a fr) (hs:∀ p∈fr',Qf fr p.1=some p.2):Fr n D a fr':=by
 refine ⟨h.size,h.defers,fun t v hv=>h.slot t v ?_⟩
 have key:∀ l:Bf,Qf l t=some v→∃ p∈l,p.1=t∧p.2=v:=by
  intro l
  induction l with
  | nil=>intro h;cases h
  | cons p l ih =>
   obtain ⟨k,u⟩:=p
   intro hl
   simp only [Qf] at hl
   cases hb:He k t with
   | true=>rw [hb] at hl;simp at hl;exact ⟨(k,u),by simp,Hb hb,hl⟩
   | false=>rw [hb] at hl;simp at hl;obtain ⟨p,hp,r⟩:=ih hl;exact ⟨p,by simp [hp],r⟩
 obtain ⟨p,hp,rfl,rfl⟩:=key fr' hv
 exact hs p hp
theorem JcV {fr fr':Bf} (h:(fr'.map fun p=>Qf fr p.1)=fr'.map fun p=>some p.2):∀ p∈fr',Qf fr p.1=some p.2 :=
 HG.1 h
structure Cx where
 P:Program
 n:Nat
 D:List Deferred
 w0:World
 G0:J5
def KA (C:Cx) (ops:Bp) (Q:Bq) (rest:List Oper) (fr:Bf) (G:J5) (L:Bl):Prop :=
 ∀ a w,Fr C.n C.D a fr→St C.w0 C.G0 w G L→wpList C.P ops Q rest a w
def TC (C:Cx) (c:Code) (Q:Bq) (fr:Bf) (G:J5) (L:Bl):Prop :=
 ∀ a w,Fr C.n C.D a fr→St C.w0 C.G0 w G L→c.wp C.P Q a w
def TQ (C:Cx) (Q:Bq) (e:Exit) (fr:Bf) (G:J5) (L:Bl):Prop :=
 ∀ a w,Fr C.n C.D a fr→St C.w0 C.G0 w G L→Q e a w
def Qu (ops:Bp) (fr:Bf) (o:Oper):Option Bool :=
 match o.guard with
 | none=>some true
 | some (j,want) =>
  match (ops[j]?).bind (·.dst) with
  | none=>some false
  | some d=>match Qf fr d with
   | some (.bool b)=>some (b == want)
   | some _=>some false
   | none=>none
theorem Wr {ops:Bp} {fr:Bf} {o:Oper} {n:Nat} {D:List Deferred} {a:Act} (h:Fr n D a fr) {b:Bool} (hw:Qu ops fr o=some b) :
  Region.wanted o (yielded ops a.tmps)=b:=by
 unfold Qu at hw
 unfold Region.wanted
 cases hg:o.guard with
 | none=>rw [hg] at hw;simpa using hw
 | some p =>
  obtain ⟨j,want⟩:=p
  rw [hg] at hw
  simp only at hw ⊢
  unfold yielded
  cases hd:(ops[j]?).bind (·.dst) with
  | none=>rw [hd] at hw;simp at hw;subst hw;simp
  | some d =>
   rw [hd] at hw
   simp only [Ml]
   cases hl:Qf fr d with
   | none=>simp only [hl] at hw;cases hw
   | some v =>
    simp only [hl] at hw
    rw [h.slot d v hl]
    cases v <;> simp at hw <;> subst hw <;> simp
inductive Hint where
 | p
 | sk
 | ld (i:Nat)
 | st (i:Nat)
def JaB (h:Nat):Hint:=bif He h 0 then .p else bif He h 1 then .sk else bif He (h % 2) 0 then .ld (h / 2-1) else .st (h / 2-1)
def Jiw:Result Next→Value
 | .ok (.value v) _=>v
 | _=>undef
abbrev Ent:=Result Next×Nat×Bool
def JfB (P:Program) (t:TypeId):Bool:=match P.underlying t with
 | some (.struct _) | some (.array _ _)=>true
 | _=>false
def Jak (P:Program) (t:TypeId) (cs:Bv) (k:Nat):Value :=
 bif JfB P t then .agg ((cs.drop k).take (P.cellsOf t)).toArray else (cs[k]?).getD undef
def Jd1 (P:Program) (t:TypeId) (cs:Bv) (k:Nat):Bool :=
 (P.underlying t).isSome && (bif JfB P t then Mw (k+P.cellsOf t) cs.length else HH k cs.length)
def bad : Ent := (.halt (.stuck "") default, 0, false)
def Jg6 (n:Nat) (o:Oper):Bool:=match o.dst with
 | some d=>HH d n
 | none=>false
def Jg7 (fr:Bf) (x:Operand):Ba:=match W6 fr x with
 | .pointer (some a)=>some a
 | _=>none
def VE (L:Bl) (i:Nat):Option Vf:=match L[i]? with
 | some [s]=>some s
 | _=>none
def Zj:Op→Bool
 | .select ..=>true
 | _=>false
def YO (b:Bool):Option Bool→Bool
 | some c=>b == c
 | none=>false
def entP (P:Program) (n:Nat) (ops:Bp) (w:World) (o:Oper) (fr:Bf):Ent :=
 ((execOp (W6 fr) o).run P w,0,Jg6 n o && YO true (Qu ops fr o) && !Zj o.op && o.op.operands.toList.all (cov fr))
def entSk (n:Nat) (ops:Bp) (w:World) (o:Oper) (fr:Bf):Ent :=
 (.ok (.value undef) w,0,Jg6 n o && YO false (Qu ops fr o))
def Jg8 (P:Program) (n:Nat) (ops:Bp) (w:World) (o:Oper) (fr:Bf) (s:Option Vf):Ent :=
 match o.op,s with
 | .load t x,some s=>match Jg7 fr x with
  | some a=>(.ok (.value (Jak P t s.cs (a.off-s.off))) w,a.block,
    Jg6 n o && YO true (Qu ops fr o) && cov fr x && a.spot.isNone && Mw s.off a.off && Jd1 P t s.cs (a.off-s.off))
  | none=>bad
 | _,_=>bad
def entSt (P:Program) (ops:Bp) (w:World) (o:Oper) (fr:Bf) (s:Option Vf):Ent :=
 match o.op,s with
 | .store t x y,some s=>match Jg7 fr x with
  | some a=>(.ok .skip w,a.block,
    o.dst.isNone && YO true (Qu ops fr o) && cov fr x && cov fr y && a.spot.isNone && Mw s.off a.off && (P.info? t).isSome
     && He (W6 fr y).cells.toList.length (P.cellsOf t) && Mw (a.off-s.off+(W6 fr y).cells.toList.length) s.cs.length && (W6 fr y).cells.toList.all Value.oneCell')
  | none=>bad
 | _,_=>bad
def Jff (o:Oper) (fr:Bf) (s:Option Vf):Bg :=
 match o.op,s with
 | .store _ x y,some s=>match Jg7 fr x with
  | some a=>[⟨s.b,s.off,Qz s.cs (a.off-s.off) (W6 fr y).cells.toList,s.ob,s.ty⟩]
  | none=>[]
 | _,_=>[]
structure Bat where
 l:List Ent
 r:List Ent
 fr:Bf
 L:Bl
def Vc (P:Program) (n:Nat) (ops:Bp) (w:World):List Oper→List Nat→Bf→Bl→Bat
 | _,[],fr,L=>⟨[],[],fr,L⟩
 | [],_::_,fr,L=>⟨[bad],[(.ok .skip w,0,true)],fr,L⟩
 | o::os,h::hs,fr,L=>match JaB h with
  | .p =>
   let v:=Jiw ((execOp (W6 fr) o).run P default)
   let b:=Vc P n ops w os hs ((o.dst.getD 0,v)::fr) L
   ⟨entP P n ops w o fr::b.l,(.ok (.value v) w,0,true)::b.r,b.fr,b.L⟩
  | .sk =>
   let b:=Vc P n ops w os hs ((o.dst.getD 0,undef)::fr) L
   ⟨entSk n ops w o fr::b.l,(.ok (.value undef) w,0,true)::b.r,b.fr,b.L⟩
  | .ld i =>
   let v:=Jiw (Jg8 P n ops default o fr (VE L i)).1
   let b:=Vc P n ops w os hs ((o.dst.getD 0,v)::fr) L
   ⟨Jg8 P n ops w o fr (VE L i)::b.l,(.ok (.value v) w,((VE L i).map (·.b)).getD 0,true)::b.r,b.fr,b.L⟩
  | .st i =>
   let b:=Vc P n ops w os hs fr (L.set i (Jff o fr (VE L i)))
   ⟨entSt P ops w o fr (VE L i)::b.l,(.ok .skip w,((VE L i).map (·.b)).getD 0,true)::b.r,b.fr,b.L⟩
theorem JaW {L:Bl} {i:Nat} {s:Vf} (h:VE L i=some s):L[i]? = some [s]:=by
 unfold VE at h
 split at h
 · rename_i x hx;simp at h;subst h;exact hx
 · cases h
theorem JcW {fr:Bf} {x:Operand} {a:Addr} (h:Jg7 fr x=some a):W6 fr x=.pointer (some a):=by
 unfold Jg7 at h
 split at h
 · rename_i b hb;simp at h;subst h;exact hb
 · cases h
section
variable {P:Program}
theorem JcX {t:TypeId} (h:(P.underlying t).isSome=true):∃ i,P.info? t=some i:=by
 unfold Program.underlying at h
 cases hi:P.info? t with
 | none=>rw [hi] at h;simp at h
 | some i=>exact ⟨i,rfl⟩
theorem Zf {t:TypeId} {d:TypeDesc} (w:World) (h:P.underlying t=some d):(underlying t).run P w=.ok d w:=by
 simp [underlying,h]
theorem Vv {t:TypeId} {i:TypeInfo} (w:World) (h:P.info? t=some i):(sizeOf t).run P w=.ok (P.cellsOf t) w:=by
 simp [sizeOf,typeInfo,h,Program.cellsOf]
theorem Jj6 {t:TypeId} (w:World) (h:(P.underlying t).isSome=true):(isAgg t).run P w=.ok (JfB P t) w:=by
 obtain ⟨d,hd⟩:=Hw.1 h
 unfold isAgg JfB
 rw [Hh,Zf w hd,Hd,hd]
 cases d <;> rfl
theorem Wv (b o i:Nat):(⟨b,o,none⟩:Addr).add i=⟨b,o+i,none⟩:=by unfold Addr.add;split <;> simp_all
theorem Vn {t:TypeId} {w:World} {b off k:Nat} {cs:Bv} (hc:∀ i v,cs[i]? = some v→w.cell? ⟨b,off+i,none⟩=some v)
  (h:Jd1 P t cs k=true):(loadVar t ⟨b,off+k,none⟩).run P w=.ok (Jak P t cs k) w:=by
 unfold Jd1 at h
 simp only [Hg] at h
 obtain ⟨h1,h2⟩:=h
 obtain ⟨i,hi⟩:=JcX h1
 unfold loadVar Jak
 rw [Hh,Jj6 w h1,Hd]
 cases ha:JfB P t with
 | true =>
  rw [ha] at h2
  simp only [cond_true] at h2 ⊢
  have h2':k+P.cellsOf t≤cs.length:=Hi h2
  simp only [if_true]
  have hl:=run_loadCells_list (P:=P) (w:=w) ⟨b,off+k,none⟩ ((cs.drop k).take (P.cellsOf t)) (fun j v hv=>by
   rw [Wv]
   rw [HK] at hv
   split at hv
   ·
    rw [HW] at hv
    rw [HE];exact hc _ _ hv
   · cases hv)
  have hlen:((cs.drop k).take (P.cellsOf t)).length=P.cellsOf t:=by simp;omega
  rw [hlen] at hl
  simp only [Hh,Vv w hi,Hd,hl,Hr]
 | false =>
  rw [ha] at h2
  simp only [cond_false] at h2 ⊢
  have h2':k+1≤cs.length:=Hi h2
  simp only [H4,if_false]
  rw [Hc h2']
  have:=hc k _ (Hc h2')
  simp [this]
theorem Jbg {t:TypeId} {w:World} {b off:Nat} {v:Value} (hi:(P.info? t).isSome=true) (hl:v.cells.toList.length=P.cellsOf t)
  (h1:v.cells.toList.all Value.oneCell'=true) (hex:∀ j,j<v.cells.toList.length→∃ u,w.cell? ⟨b,off+j,none⟩=some u)
  (hfr:∀ j,j<v.cells.toList.length→w.frozen? ⟨b,off+j,none⟩=false) :
  (storeVar t ⟨b,off,none⟩ v).run P w=.ok () (WF w b off v.cells.toList):=by
 obtain ⟨i,hi⟩:=Hw.1 hi
 have:=Y7 P b off v.cells.toList w 0 (Hl.1 h1) (by simpa using hex) (by simpa using hfr)
 unfold storeVar
 rw [Hh,Vv w hi,Hd]
 rw [if_neg (by simpa using hl)]
 simpa using this
end
theorem Jbh (C:Cx) (ops:Bp) (Q:Bq) (G:J5):∀ (hs:List Nat) (rest:List Oper) (fr:Bf) (L:Bl),
  (∀ w,(Vc C.P C.n ops w rest hs fr L).l=(Vc C.P C.n ops w rest hs fr L).r)→
  (∀ w,KA C ops Q (rest.drop hs.length) (Vc C.P C.n ops w rest hs fr L).fr G (Vc C.P C.n ops w rest hs fr L).L)→KA C ops Q rest fr G L:=by
 intro hs
 induction hs with
 | nil =>
  intro rest fr L _ hk a w ha hw
  have:=hk w
  cases rest <;> exact this a w ha hw
 | cons p hs ih =>
  intro rest fr L heq hk
  cases rest with
  | nil=>have:=heq default;simp [Vc,bad] at this
  | cons o os =>
   cases hint:JaB p with
   | p =>
    have hn:=ih os ((o.dst.getD 0,(Jiw ((execOp (W6 fr) o).run C.P default)))::fr) L (fun w=>by have:=heq w;simp only [Vc,hint,H9.injEq] at this;exact this.2) (fun w=>by have:=hk w;simpa only [Vc,hint,H2,Ma] using this)
    intro a w ha hw
    have h0:=heq w
    simp only [Vc,hint,H9.injEq,entP,Hs.injEq,Hg,true_and] at h0
    obtain ⟨⟨hrun,⟨⟨hd,hwt⟩,hsel⟩,hcov⟩,_⟩:=h0
    have hwant:Qu ops fr o=some true:=by
     cases hx:Qu ops fr o with
     | none=>rw [hx] at hwt;simp [YO] at hwt
     | some b=>rw [hx] at hwt;simp [YO] at hwt;rw [← hwt]
    have hE:execOp a.eval o=execOp (W6 fr) o:=Wq _ _ _ (fun cs b e=>by rw [e] at hsel;simp [Zj] at hsel)
     (fun x hx=>ha.eval x (Hl.1 hcov x (by simpa using hx)))
    unfold wpList
    rw [if_pos (Wr ha hwant)]
    refine .inl ?_
    unfold Oper.wp
    rw [hE,hrun]
    unfold Jg6 at hd
    cases hdst:o.dst with
    | none=>rw [hdst] at hd;cases hd
    | some d =>
     rw [hdst] at hd hn
     show wpList C.P ops Q os (a.put o.dst (Jiw ((execOp (W6 fr) o).run C.P default))) w
     rw [hdst]
     exact hn _ _ (ha.put d (Jiw ((execOp (W6 fr) o).run C.P default)) (Hi hd)) hw
   | sk =>
    have hn:=ih os ((o.dst.getD 0,undef)::fr) L (fun w=>by have:=heq w;simp only [Vc,hint,H9.injEq] at this;exact this.2) (fun w=>by have:=hk w;simpa only [Vc,hint,H2,Ma] using this)
    intro a w ha hw
    have h0:=heq w
    simp only [Vc,hint,H9.injEq,entSk,Hs.injEq,Hg,true_and] at h0
    obtain ⟨⟨hd,hwt⟩,_⟩:=h0
    have hwant:Qu ops fr o=some false:=by
     cases hx:Qu ops fr o with
     | none=>rw [hx] at hwt;simp [YO] at hwt
     | some b=>rw [hx] at hwt;simp [YO] at hwt;rw [hwt]
    unfold wpList
    rw [if_neg (by rw [Wr ha hwant];simp)]
    unfold Jg6 at hd
    cases hdst:o.dst with
    | none=>rw [hdst] at hd;cases hd
    | some d =>
     rw [hdst] at hd hn
     exact hn _ _ (ha.put d undef (Hi hd)) hw
   | ld i =>
    have hn:=ih os ((o.dst.getD 0,(Jiw (Jg8 C.P C.n ops default o fr (VE L i)).1))::fr) L (fun w=>by have:=heq w;simp only [Vc,hint,H9.injEq] at this;exact this.2) (fun w=>by have:=hk w;simpa only [Vc,hint,H2,Ma] using this)
    intro a w ha hw
    have h0:=heq w
    simp only [Vc,hint,H9.injEq] at h0
    obtain ⟨h0,_⟩:=h0
    unfold Jg8 at h0
    split at h0
    case h_2=>simp [bad] at h0
    rename_i t x s hop hs
    split at h0
    case h_2=>simp [bad] at h0
    rename_i ad had
    rw [hs] at h0
    simp only [Hs.injEq,HQ,HL,Hg,Result.ok.injEq,Next.value.injEq,and_true] at h0
    obtain ⟨hv,hb,⟨⟨⟨⟨hd,hwt⟩,hcx⟩,hsp⟩,hof⟩,hok⟩:=h0
    have hwant:Qu ops fr o=some true:=by
     cases hx:Qu ops fr o with
     | none=>rw [hx] at hwt;simp [YO] at hwt
     | some b=>rw [hx] at hwt;simp [YO] at hwt;rw [← hwt]
    have hms:s∈L.flatten:=by
     have:=JaW hs
     obtain ⟨hi,he⟩:=Ha.1 this
     exact Hk.2 ⟨[s],he ▸ Hn hi,by simp⟩
    have hown:=(hw.own s hms).2.1
    have hof':=Hi hof
    obtain ⟨ab,ao,asp⟩:=ad
    simp only [HF] at hsp hb hof' hv hok
    subst hsp hb
    have hl:=Vn (P:=C.P) (t:=t) (w:=w) (b:=s.b) (off:=s.off) (k:=ao-s.off) (cs:=s.cs) (fun i u hu=>(hown i u hu).1) hok
    rw [show s.off+(ao-s.off)=ao by omega,hv] at hl
    have hE:a.eval x=.pointer (some ⟨s.b,ao,none⟩):=(ha.eval x hcx).trans (JcW had)
    unfold wpList
    rw [if_pos (Wr ha hwant)]
    refine .inl ?_
    unfold Oper.wp execOp
    simp only [hop,hE,Instr.loadAt,Instr.sureAddr,Hh,Hr,Hd,hl]
    unfold Jg6 at hd
    cases hdst:o.dst with
    | none=>rw [hdst] at hd;cases hd
    | some d =>
     have hVal:Jiw (Jg8 C.P C.n ops default o fr (VE L i)).1=Jak C.P t s.cs (ao-s.off):=by simp [Jg8,hop,hs,had,Jiw]
     rw [hdst] at hd hn
     rw [hVal] at hn
     show wpList C.P ops Q os (a.put o.dst (Jak C.P t s.cs (ao-s.off))) w
     rw [hdst]
     exact hn _ _ (ha.put d (Jak C.P t s.cs (ao-s.off)) (Hi hd)) hw
   | st i =>
    have hn:=ih os fr (L.set i (Jff o fr (VE L i))) (fun w=>by have:=heq w;simp only [Vc,hint,H9.injEq] at this;exact this.2) (fun w=>by have:=hk w;simpa only [Vc,hint,H2,Ma] using this)
    intro a w ha hw
    have h0:=heq w
    simp only [Vc,hint,H9.injEq] at h0
    obtain ⟨h0,_⟩:=h0
    unfold entSt at h0
    split at h0
    case h_2=>simp [bad] at h0
    rename_i t x y s hop hs
    split at h0
    case h_2=>simp [bad] at h0
    rename_i ad had
    have haft:Jff o fr (VE L i)=[⟨s.b,s.off,Qz s.cs (ad.off-s.off) (W6 fr y).cells.toList,s.ob,s.ty⟩]:=by simp [Jff,hop,hs,had]
    rw [haft] at hn
    rw [hs] at h0
    simp only [Hs.injEq,HQ,HL,Hg,true_and] at h0
    obtain ⟨hb,⟨⟨⟨⟨⟨⟨⟨⟨⟨hd,hwt⟩,hcx⟩,hcy⟩,hsp⟩,hof⟩,hinf⟩,hsz⟩,hfit⟩,hone⟩⟩:=h0
    have hwant:Qu ops fr o=some true:=by
     cases hx:Qu ops fr o with
     | none=>rw [hx] at hwt;simp [YO] at hwt
     | some b=>rw [hx] at hwt;simp [YO] at hwt;rw [← hwt]
    have hms:s∈L.flatten:=by
     have:=JaW hs
     obtain ⟨hi,he⟩:=Ha.1 this
     exact Hk.2 ⟨[s],he ▸ Hn hi,by simp⟩
    have hown:=(hw.own s hms).2.1
    have hof':=Hi hof
    have hfit':=Hi hfit
    have hsz':=Hb hsz
    obtain ⟨ab,ao,asp⟩:=ad
    simp only [HF] at hsp hb hof' hfit' hd
    subst hsp hb
    simp only at hn
    have hcell:∀ j,j<(W6 fr y).cells.toList.length→∃ u,s.cs[ao-s.off+j]? = some u:=fun j hj=>⟨_,Hc (by omega)⟩
    have hl:=Jbg (P:=C.P) (t:=t) (w:=w) (b:=s.b) (off:=ao) (v:=W6 fr y) hinf hsz' hone
     (fun j hj=>by obtain ⟨u,hu⟩:=hcell j hj;have:=(hown _ u hu).1;rw [show s.off+(ao-s.off+j)=ao+j by omega] at this;exact ⟨u,this⟩)
     (fun j hj=>by obtain ⟨u,hu⟩:=hcell j hj;have:=(hown _ u hu).2.1;rw [show s.off+(ao-s.off+j)=ao+j by omega] at this;exact this)
    have hSt:=hw.store (JaW hs) (ao-s.off) (W6 fr y).cells.toList hfit'
    rw [show s.off+(ao-s.off)=ao by omega] at hSt
    have hE:a.eval x=.pointer (some ⟨s.b,ao,none⟩):=(ha.eval x hcx).trans (JcW had)
    have hE':a.eval y=W6 fr y:=ha.eval y hcy
    unfold wpList
    rw [if_pos (Wr ha hwant)]
    refine .inl ?_
    unfold Oper.wp execOp
    simp only [hop,hE,hE',Instr.storeAt,Instr.sureAddr,Hh,Hr,Hd,hl]
    show wpList C.P ops Q os (a.put o.dst undef) _
    rw [hd]
    exact hn _ _ ha hSt
theorem BB:(∀ (p:Prop) [Decidable p],(decide p=true)=p)∧(∀ (p:Prop) [Decidable p],(decide p=false) ↔ ¬ p)∧(∀ a b:Bool,((a && b)=true)=(a=true∧b=true))∧(∀ a b:Bool,((a || b)=true)=(a=true∨b=true))∧(∀ a b:Bool,((a && b)=false) ↔ (a=true→b=false))∧(∀ a b:Bool,((a || b)=false) ↔ (a=false∧b=false))∧(∀ b:Bool,((!b)=true)=(b=false))∧(∀ b:Bool,((!b)=false)=(b=true))∧(∀ b:Bool,(¬ b=true)=(b=false))∧(∀ b:Bool,(¬ b=false)=(b=true))∧(∀ (p:Prop) [Decidable p],¬ ¬ p ↔ p)∧(∀ a b:Int,¬ a<b ↔ b≤a)∧(∀ a b:Int,¬ a≤b ↔ b<a)∧(∀ (α:Type) [BEq α] [LawfulBEq α] (a b:α),((a == b)=true) ↔ a=b)∧(∀ (α:Type) [BEq α] [LawfulBEq α] (a b:α),((a == b)=false) ↔ a ≠ b)∧(∀ (α:Type) [BEq α] [LawfulBEq α] (a b:α),((a != b)=true) ↔ a ≠ b)∧(∀ (α:Type) (a b:α),(a ≠ b)=¬ (a=b)) :=
 ⟨fun p _=>decide_eq_true_eq,fun p _=>decide_eq_false_iff_not,fun _ _=>by simp,fun _ _=>by simp,fun a b=>by cases a <;> cases b <;> simp,fun a b=>by cases a <;> cases b <;> simp,fun b=>by cases b <;> simp,fun b=>by cases b <;> simp,fun b=>by cases b <;> simp,fun b=>by cases b <;> simp,fun p _=>Decidable.not_not,fun _ _=>Int.not_lt,fun _ _=>Int.not_le,fun _ _ _ _ _=>beq_iff_eq,fun _ _ _ _ _=>beq_eq_false_iff_ne,fun _ _ _ _ _=>bne_iff_ne,fun _ _ _=>ne_eq ..⟩
theorem KY {α:Type} {p:α→Prop}:∀ x∈([]:List α),p x:=List.forall_mem_nil _
theorem Kf {α:Type} {p:α→Prop} {a:α} {l:List α} (h:p a) (t:∀ x∈l,p x):∀ x∈a::l,p x:=List.forall_mem_cons.2 ⟨h,t⟩
def Vo:List Oper→List Nat→List Nat
 | o::os,h::hs=>bif He (h % 2) 1 && HH 1 h then Vo os hs else o.dst.getD 0::Vo os hs
 | _,_=>[]
theorem Jpy {h i:Nat} (e:JaB h=.st i):(He (h % 2) 1 && HH 1 h)=true:=by
 unfold JaB at e
 cases h0:He h 0 with
 | true=>rw [h0] at e;cases e
 | false =>
  rw [h0] at e
  cases h1:He h 1 with
  | true=>rw [h1] at e;cases e
  | false =>
   rw [h1] at e
   cases h2:He (h % 2) 0 with
   | true=>rw [h2] at e;cases e
   | false =>
    have n0:h ≠ 0:=fun c=>by rw [c] at h0;cases h0
    have n1:h ≠ 1:=fun c=>by rw [c] at h1;cases h1
    have n2:h % 2 ≠ 0:=fun c=>by rw [c] at h2;cases h2
    rw [Hg]
    exact ⟨by rw [Nat.beq_eq];omega,by rw [Nat.blt_eq];omega⟩
theorem Jnu {h:Nat} (e:∀ i,JaB h ≠ .st i):(He (h % 2) 1 && HH 1 h)=false:=by
 cases hc:(He (h % 2) 1 && HH 1 h) with
 | false=>rfl
 | true =>
  exfalso
  rw [Hg,Nat.blt_eq] at hc
  have h2:=Hb hc.1
  refine e (h / 2-1) ?_
  unfold JaB
  have b0:He h 0=false:=by cases q:He h 0 with | false=>rfl | true=>have:=Hb q;omega
  have b1:He h 1=false:=by cases q:He h 1 with | false=>rfl | true=>have:=Hb q;omega
  rw [b0,b1,h2];rfl
theorem Jdi {d t:Nat} {v:Value} {fr:Bf} (h:He d t=false):Qf ((d,v)::fr) t=Qf fr t:=by
 show (bif He d t then some v else Qf fr t)=Qf fr t
 rw [h];rfl
theorem Jdj (P:Program) (n:Nat) (ops:Bp) (w:World) (t:Nat):∀ (rest:List Oper) (hs:List Nat) (fr:Bf) (L:Bl),
  (∀ d∈Vo rest hs,He d t=false)→Qf (Vc P n ops w rest hs fr L).fr t=Qf fr t
 | _,[],fr,L,_=>by cases ‹List Oper› <;> rfl
 | [],_::_,fr,L,_=>rfl
 | o::os,h::hs,fr,L,hp=>by
  cases e:JaB h with
  | st i =>
   have hq:Vo (o::os) (h::hs)=Vo os hs:=by show (bif _ then _ else _)=_;rw [Jpy e];rfl
   rw [hq] at hp
   simp only [Vc,e]
   exact Jdj P n ops w t os hs _ _ hp
  | _ =>
   have hq:Vo (o::os) (h::hs)=o.dst.getD 0::Vo os hs:=by show (bif _ then _ else _)=_;rw [Jnu (fun i=>by rw [e];simp)];rfl
   rw [hq] at hp
   simp only [Vc,e]
   rw [Jdj P n ops w t os hs _ _ (fun d hd=>hp d (MH _ hd)),Jdi (hp _ (List.mem_cons_self ..))]
def JeF (N fr:Bf) (ds:List Nat):Bool:=ds.all fun d=>(Qf N d).isSome || (Qf fr d).isNone
theorem Yr {N fr:Bf} {t:Nat}:Qf (N++fr) t=(Qf N t).or (Qf fr t):=by
 induction N with
 | nil=>rfl
 | cons p N ih =>
  obtain ⟨k,u⟩:=p
  show (bif He k t then some u else Qf (N++fr) t)=Option.or (bif He k t then some u else Qf N t) _
  cases He k t with
  | true=>rfl
  | false=>exact ih
theorem Jb0 {l:Bf} {t:Nat} {v:Value} (h:Qf l t=some v):∃ p∈l,p.1=t∧p.2=v:=by
 induction l with
 | nil=>cases h
 | cons p l ih =>
  obtain ⟨k,u⟩:=p
  simp only [Qf] at h
  cases hb:He k t with
  | true=>rw [hb] at h;simp at h;exact ⟨(k,u),by simp,Hb hb,h⟩
  | false=>rw [hb] at h;simp at h;obtain ⟨p,hp,r⟩:=ih h;exact ⟨p,by simp [hp],r⟩
theorem Jld {P:Program} {n:Nat} {ops:Bp} {w:World} {rest:List Oper} {hs:List Nat} {fr N:Bf} {L:Bl}
  (h1:(N.map fun p=>Qf (Vc P n ops w rest hs fr L).fr p.1)=N.map fun p=>some p.2) (h2:JeF N fr (Vo rest hs)=true) (t:Nat) (v:Value) (h:Qf (N++fr) t=some v):Qf (Vc P n ops w rest hs fr L).fr t=some v:=by
 rw [Yr] at h
 cases hN:Qf N t with
 | some u =>
  rw [hN] at h
  obtain ⟨p,hp,e1,e2⟩:=Jb0 hN
  have:=HG.1 h1 p hp
  rw [e1,e2] at this
  rw [this];exact h
 | none =>
  rw [hN] at h
  rw [Jdj _ _ _ _ _ _ _ _ _ (fun d hd=>?_)]
  · exact h
  ·
   cases q:He d t with
   | false=>rfl
   | true =>
    obtain rfl:=Hb q
    have:=Hl.1 h2 d hd
    have h':Qf fr d=some v:=h
    rw [hN,h'] at this;cases this
theorem Fr.sub' {n:Nat} {D:List Deferred} {a:Act} {fr fr':Bf} (h:Fr n D a fr) (hs:∀ t v,Qf fr' t=some v→Qf fr t=some v):Fr n D a fr':=⟨h.size,h.defers,fun t v hv=>h.slot t v (hs t v hv)⟩
section
variable {C:Cx} {Q:Bq} {fr:Bf} {G:J5} {L:Bl} {ops:Bp} {rest:List Oper} {o:Oper}
theorem Jb (hs:List Nat) (N:Bf) (k:KA C ops Q (rest.drop hs.length) (N++fr) G L)
  (h:∀ w,((Vc C.P C.n ops w rest hs fr L).l,N.map (fun p=>Qf (Vc C.P C.n ops w rest hs fr L).fr p.1),JeF N fr (Vo rest hs),(Vc C.P C.n ops w rest hs fr L).L) =
   ((Vc C.P C.n ops w rest hs fr L).r,N.map (fun p=>some p.2),true,L):=by intro _;as_aux_lemma=>kernel_rfl):KA C ops Q rest fr G L:=by
 refine Jbh C ops Q G hs rest fr L (fun w=>?_) (fun w=>?_)
 · have:=h w;simp only [Hs.injEq] at this;exact this.1
 ·
  have:=h w
  simp only [Hs.injEq] at this
  intro a w' ha hw
  rw [this.2.2.2] at hw
  exact k a w' (ha.sub' (Jld this.2.1 this.2.2.1)) hw
theorem JW (hs:List Nat) (N:Bf) (L':Bl) (k:KA C ops Q (rest.drop hs.length) (N++fr) G L')
  (h:∀ w,((Vc C.P C.n ops w rest hs fr L).l,N.map (fun p=>Qf (Vc C.P C.n ops w rest hs fr L).fr p.1),JeF N fr (Vo rest hs),(Vc C.P C.n ops w rest hs fr L).L) =
   ((Vc C.P C.n ops w rest hs fr L).r,N.map (fun p=>some p.2),true,L'):=by intro _;as_aux_lemma=>kernel_rfl):KA C ops Q rest fr G L:=by
 refine Jbh C ops Q G hs rest fr L (fun w=>?_) (fun w=>?_)
 · have:=h w;simp only [Hs.injEq] at this;exact this.1
 ·
  have:=h w
  simp only [Hs.injEq] at this
  intro a w' ha hw
  rw [this.2.2.2] at hw
  exact k a w' (ha.sub' (Jld this.2.1 this.2.2.1)) hw
theorem Jg {id:Nat} {l:List Oper} {y:Code} (hs:List Nat) (N:Bf) (k:TC C y Q (N++fr) G L)
  (h:∀ w,((Vc C.P C.n l.toArray w l hs fr L).l,N.map (fun p=>Qf (Vc C.P C.n l.toArray w l hs fr L).fr p.1),JeF N fr (Vo l hs),(Vc C.P C.n l.toArray w l hs fr L).L) =
   ((Vc C.P C.n l.toArray w l hs fr L).r,N.map (fun p=>some p.2),true,L):=by intro _;as_aux_lemma=>kernel_rfl)
  (hd:l.drop hs.length=[]:=by rfl):TC C (.seq (.region id l.toArray false) y) Q fr G L:=fun a w ha hw =>
 wp_seq (wp_region_lit (Jb (C:=C) hs N (by rw [hd];exact fun a w ha hw=>k a w ha hw) h a w ha hw))
theorem QF {id:Nat} {l:List Oper} {y:Code} (hs:List Nat) (N:Bf) (L':Bl) (k:TC C y Q (N++fr) G L')
  (h:∀ w,((Vc C.P C.n l.toArray w l hs fr L).l,N.map (fun p=>Qf (Vc C.P C.n l.toArray w l hs fr L).fr p.1),JeF N fr (Vo l hs),(Vc C.P C.n l.toArray w l hs fr L).L) =
   ((Vc C.P C.n l.toArray w l hs fr L).r,N.map (fun p=>some p.2),true,L'):=by intro _;as_aux_lemma=>kernel_rfl)
  (hd:l.drop hs.length=[]:=by rfl):TC C (.seq (.region id l.toArray false) y) Q fr G L:=fun a w ha hw =>
 wp_seq (wp_region_lit (JW (C:=C) hs N L' (by rw [hd];exact fun a w ha hw=>k a w ha hw) h a w ha hw))
theorem JhH {fr:Bf} {t:Nat} {v v':Value} (e:v=v') (hv:Qf fr t=some v) (s:Nat) (u:Value) (h:Qf ((t,v')::fr) s=some u):Qf fr s=some u:=by
 subst e
 cases q:He t s with
 | false=>rwa [Jdi q] at h
 | true =>
  obtain rfl:=Hb q
  simp [Qf] at h;rw [← h];exact hv
theorem Kv (t:Nat) {v:Value} (v':Value) (e:v=v') (k:KA C ops Q rest ((t,v')::fr) G L) (hv:Qf fr t=some v:=by as_aux_lemma=>kernel_rfl):KA C ops Q rest fr G L :=
 fun a w ha hw=>k a w (ha.sub' (JhH e hv)) hw
theorem QU (t:Nat) {c:Code} {v:Value} (v':Value) (e:v=v') (k:TC C c Q ((t,v')::fr) G L) (hv:Qf fr t=some v:=by as_aux_lemma=>kernel_rfl):TC C c Q fr G L :=
 fun a w ha hw=>k a w (ha.sub' (JhH e hv)) hw
theorem Jd2 (t:Nat) {x:Exit} {v:Value} (v':Value) (e:v=v') (k:TQ C Q x ((t,v')::fr) G L) (hv:Qf fr t=some v:=by as_aux_lemma=>kernel_rfl):TQ C Q x fr G L :=
 fun a w ha hw=>k a w (ha.sub' (JhH e hv)) hw
theorem Kp (t:Nat) (n:Int) (e:-9223372036854775808≤n∧n≤9223372036854775807) (k:KA C ops Q rest ((t,.int .i64 n)::fr) G L) (hv:Qf fr t=some (.int .i64 (MO.wrap n)):=by as_aux_lemma=>kernel_rfl):KA C ops Q rest fr G L :=
 Kv t _ (congrArg (Value.int .i64) (IntWalk.i64_in n e)) k hv
theorem Jbi (t:Nat) (n:Int) (e:0≤n∧n≤18446744073709551615) (k:KA C ops Q rest ((t,.int .u64 n)::fr) G L) (hv:Qf fr t=some (.int .u64 (IntKind.u64.wrap n)):=by as_aux_lemma=>kernel_rfl):KA C ops Q rest fr G L :=
 Kv t _ (congrArg (Value.int .u64) (IntWalk.u64_in n e)) k hv
theorem Jle (t:Nat) {c:Code} (n:Int) (e:-9223372036854775808≤n∧n≤9223372036854775807) (k:TC C c Q ((t,.int .i64 n)::fr) G L) (hv:Qf fr t=some (.int .i64 (MO.wrap n)):=by as_aux_lemma=>kernel_rfl):TC C c Q fr G L :=
 QU t _ (congrArg (Value.int .i64) (IntWalk.i64_in n e)) k hv
theorem Jcm (t:Nat) {c:Code} (n:Int) (e:0≤n∧n≤18446744073709551615) (k:TC C c Q ((t,.int .u64 n)::fr) G L) (hv:Qf fr t=some (.int .u64 (IntKind.u64.wrap n)):=by as_aux_lemma=>kernel_rfl):TC C c Q fr G L :=
 QU t _ (congrArg (Value.int .u64) (IntWalk.u64_in n e)) k hv
abbrev VR (ts:List Nat) (b:Bool):Bf:=ts.map fun t=>(t,Value.bool b)
theorem Jcn {ts:List Nat} {b:Bool} (h:(ts.map fun t=>Qf fr t)=ts.map fun _=>some (Value.bool b)) (s:Nat) (u:Value) (hu:Qf (VR ts b++fr) s=some u):Qf fr s=some u:=by
 rw [Yr] at hu
 cases hN:Qf (VR ts b) s with
 | none=>rw [hN] at hu;exact hu
 | some v =>
  rw [hN] at hu
  obtain ⟨p,hp,e1,e2⟩:=Jb0 hN
  obtain ⟨t,ht,rfl⟩:=Mf.1 hp
  have:=HG.1 h t ht
  simp only at e1 e2
  subst e1 e2
  rw [this];exact hu
theorem QR (ts:List Nat) (b:Bool) {p q:Prop} (h1:p→KA C ops Q rest (VR ts true++fr) G L) (h2:q→KA C ops Q rest (VR ts false++fr) G L) (hp:(b=true)=p:=by first | (simp only [BB];exact rfl) | exact rfl) (hq:(b=false)=q:=by first | (simp only [BB];exact rfl) | exact rfl)
  (h:(ts.map fun t=>Qf fr t)=ts.map fun _=>some (Value.bool b):=by as_aux_lemma=>kernel_rfl):KA C ops Q rest fr G L:=fun a w ha hw=>by
 cases b with
 | true=>exact h1 (hp ▸ rfl) a w (ha.sub' (Jcn h)) hw
 | false=>exact h2 (hq ▸ rfl) a w (ha.sub' (Jcn h)) hw
theorem Ks (g:Bool) (ts:List Nat) (hs hs':List Nat) (N:Bool→Bf) (k:KA C ops Q (rest.drop hs.length) (N g++fr) G L)
  (hl:hs'.length=hs.length:=by rfl)
  (ht:(ts.map fun t=>Qf fr t)=ts.map fun _=>some (Value.bool g):=by as_aux_lemma=>kernel_rfl)
  (h:∀ w,((Vc C.P C.n ops w rest hs (VR ts true++fr) L).l,(N true).map (fun p=>Qf (Vc C.P C.n ops w rest hs (VR ts true++fr) L).fr p.1),JeF (N true) fr (Vo rest hs),(Vc C.P C.n ops w rest hs (VR ts true++fr) L).L) =
   ((Vc C.P C.n ops w rest hs (VR ts true++fr) L).r,(N true).map (fun p=>some p.2),true,L):=by intro _;as_aux_lemma=>kernel_rfl)
  (h':∀ w,((Vc C.P C.n ops w rest hs' (VR ts false++fr) L).l,(N false).map (fun p=>Qf (Vc C.P C.n ops w rest hs' (VR ts false++fr) L).fr p.1),JeF (N false) fr (Vo rest hs'),(Vc C.P C.n ops w rest hs' (VR ts false++fr) L).L) =
   ((Vc C.P C.n ops w rest hs' (VR ts false++fr) L).r,(N false).map (fun p=>some p.2),true,L):=by intro _;as_aux_lemma=>kernel_rfl):KA C ops Q rest fr G L:=by
 have key:∀ (b:Bool) (hs:List Nat),(∀ w,((Vc C.P C.n ops w rest hs (VR ts b++fr) L).l,(N b).map (fun p=>Qf (Vc C.P C.n ops w rest hs (VR ts b++fr) L).fr p.1),JeF (N b) fr (Vo rest hs),(Vc C.P C.n ops w rest hs (VR ts b++fr) L).L) =
   ((Vc C.P C.n ops w rest hs (VR ts b++fr) L).r,(N b).map (fun p=>some p.2),true,L))→(ts.map fun t=>Qf fr t)=(ts.map fun _=>some (Value.bool b))→KA C ops Q (rest.drop hs.length) (N b++fr) G L→KA C ops Q rest fr G L:=by
  intro b hs h ht k a w ha hw
  refine Jbh C ops Q G hs rest (VR ts b++fr) L (fun w=>?_) (fun w=>?_) a w (ha.sub' (Jcn ht)) hw
  · have:=h w;simp only [Hs.injEq] at this;exact this.1
  ·
   have:=h w
   simp only [Hs.injEq] at this
   intro a' w' ha' hw'
   rw [this.2.2.2] at hw'
   refine k a' w' (ha'.sub' fun s u hu=>?_) hw'
   rw [Yr] at hu
   cases hN:Qf (N b) s with
   | some v =>
    rw [hN] at hu
    obtain ⟨p,hp,e1,e2⟩:=Jb0 hN
    have q:=HG.1 this.2.1 p hp
    rw [e1,e2] at q;rw [q];exact hu
   | none =>
    rw [hN] at hu
    have hf:Qf fr s=some u:=hu
    rw [Jdj _ _ _ _ _ _ _ _ _ (fun d hd=>?_),Yr]
    ·
     cases hb:Qf (VR ts b) s with
     | none=>exact hf
     | some v =>
      have:=Jcn ht s v (by rw [Yr,hb];rfl)
      rw [hf] at this;rw [← this];rfl
    ·
     cases q:He d s with
     | false=>rfl
     | true =>
      obtain rfl:=Hb q
      have:=Hl.1 this.2.2.1 d hd
      rw [hN,hf] at this;cases this
 cases g with
 | true=>exact key true hs h ht k
 | false=>exact key false hs' h' ht (by rw [hl];exact k)
end
section
variable {C:Cx} {Q:Bq} {fr:Bf} {G:J5} {L:Bl} {ops:Bp} {rest:List Oper} {o:Oper}
theorem Je (h:TQ C Q .normal fr G L):KA C ops Q [] fr G L:=fun a w ha hw=>h a w ha hw
theorem Jd {id:Nat} {l:List Oper} (h:KA C l.toArray Q l fr G L):TC C (.region id l.toArray false) Q fr G L :=
 fun a w ha hw=>wp_region_lit (h a w ha hw)
theorem Jf {x y:Code} (h:TC C x (Exit.then (y.wp C.P Q) Q) fr G L):TC C (.seq x y) Q fr G L:=fun a w ha hw=>wp_seq (h a w ha hw)
theorem Jq (h:TQ C Q .normal fr G L):TC C .skip Q fr G L:=fun a w ha hw=>wp_skip (h a w ha hw)
theorem Jn (h:TQ C Q .ret fr G L):TC C .ret Q fr G L:=fun a w ha hw=>wp_ret (h a w ha hw)
theorem KX {id:Nat} (h:TQ C Q (.exit id) fr G L):TC C (.exit id) Q fr G L:=fun a w ha hw=>wp_exit (h a w ha hw)
theorem Jy {id:Nat} {c:Code} (h:TC C c (Exit.inBlock id Q) fr G L):TC C (.block id c) Q fr G L:=fun a w ha hw=>wp_block (h a w ha hw)
theorem Jpz {t:Nat} {x y:Code} (b:Bool) (h1:b=true→TC C x Q fr G L) (h2:b=false→TC C y Q fr G L) (hb:Qf fr t=some (.bool b):=by kernel_rfl):TC C (.cond (.tmp t) x y) Q fr G L :=
 fun a w ha hw=>wp_cond_split (t:=b) (by simp [Act.eval,ha.slot t _ hb]) (fun e=>h1 e a w ha hw) (fun e=>h2 e a w ha hw)
theorem Jl {t:Nat} {x y:Code} (b:Bool) {p q:Prop} (h1:p→TC C x Q fr G L) (h2:q→TC C y Q fr G L) (hp:(b=true)=p:=by first | (simp only [BB];exact rfl) | exact rfl) (hq:(b=false)=q:=by first | (simp only [BB];exact rfl) | exact rfl)
  (hb:Qf fr t=some (.bool b):=by as_aux_lemma=>kernel_rfl):TC C (.cond (.tmp t) x y) Q fr G L:=Jpz b (fun e=>h1 (hp ▸ e)) (fun e=>h2 (hq ▸ e)) hb
theorem J0 {t:Nat} {x y:Code} (h:TC C x Q fr G L) (hb:Qf fr t=some (.bool true):=by kernel_rfl):TC C (.cond (.tmp t) x y) Q fr G L :=
 fun a w ha hw=>wp_cond_true (by simp [Act.eval,ha.slot t _ hb]) (h a w ha hw)
theorem Qr {t:Nat} {x y:Code} (h:TC C y Q fr G L) (hb:Qf fr t=some (.bool false):=by kernel_rfl):TC C (.cond (.tmp t) x y) Q fr G L :=
 fun a w ha hw=>wp_cond_false (by simp [Act.eval,ha.slot t _ hb]) (h a w ha hw)
theorem Jc {y:Code} (h:TC C y Q fr G L):TQ C (Exit.then (y.wp C.P Q) Q) .normal fr G L:=fun a w ha hw=>h a w ha hw
theorem Jj {K:Act→World→Prop} (h:TQ C Q .ret fr G L):TQ C (Exit.then K Q) .ret fr G L:=fun a w ha hw=>h a w ha hw
theorem J1 {K:Act→World→Prop} {id:Nat} (h:TQ C Q (.exit id) fr G L):TQ C (Exit.then K Q) (.exit id) fr G L:=fun a w ha hw=>h a w ha hw
theorem JM {id:Nat} (h:TQ C Q .normal fr G L):TQ C (Exit.inBlock id Q) .normal fr G L:=fun a w ha hw=>h a w ha hw
theorem Ju {id:Nat} (h:TQ C Q .ret fr G L):TQ C (Exit.inBlock id Q) .ret fr G L:=fun a w ha hw=>h a w ha hw
theorem JS {id:Nat} (h:TQ C Q .normal fr G L):TQ C (Exit.inBlock id Q) (.exit id) fr G L:=fun a w ha hw=>by
 show (if id=id then Q .normal a w else Q (.exit id) a w)
 rw [if_pos rfl];exact h a w ha hw
theorem VF {id id':Nat} (hne:He id' id=false) (h:TQ C Q (.exit id') fr G L):TQ C (Exit.inBlock id Q) (.exit id') fr G L:=fun a w ha hw=>by
 show (if id'=id then Q .normal a w else Q (.exit id') a w)
 rw [if_neg (fun e=>by rw [e] at hne;simp at hne)];exact h a w ha hw
def Rnd (C:Cx) {σ:Type} (inv:σ→Prop) (F:σ→Bf) (Gs:σ→J5) (Ls:σ→Bl) (μ:σ→Nat) (m:Nat) (Q:Bq):Bq :=
 Exit.then (fun a w=>∃ s,inv s∧μ s<m∧Fr C.n C.D a (F s)∧St C.w0 C.G0 w (Gs s) (Ls s)) Q
theorem JeG {P:Program} {c:Code} {Q:Bq} {σ:Type} (R:σ→Act→World→Prop) (μ:σ→Nat) (s0:σ) {a:Act} {w:World} (h₀:R s0 a w)
  (round:∀ s a w,R s a w→c.wp P (Exit.then (fun a' w'=>∃ s',R s' a' w'∧μ s'<μ s) Q) a w):(Code.loop c).wp P Q a w:=by
 intro b k cs
 have key:∀ n s a w,μ s=n→R s a w →
   ∃ e a' w',Q e a' w'∧Arrives P (lone (b.at a (.code c::.inLoop c::k)) cs w) b k cs e a' w':=by
  intro n
  induction n using Mx with
  | _ n ih =>
   intro s a w hn hI
   obtain ⟨e,a₁,w₁,hq,harr⟩:=round s a w hI b (.inLoop c::k) cs
   cases e with
   | normal =>
    obtain ⟨s₁,hI₁,hlt⟩:=hq
    obtain ⟨e₂,a₂,w₂,hq₂,harr₂⟩:=ih (μ s₁) (hn ▸ hlt) s₁ a₁ w₁ rfl hI₁
    exact ⟨e₂,a₂,w₂,hq₂,.of_steps (Steps.trans harr (.one step_inLoop)) harr₂⟩
   | exit id=>exact ⟨_,a₁,w₁,hq,.pass (x:=.inLoop c) rfl (fun _ _=>.inl (by simp)) harr⟩
   | goto l=>exact ⟨_,a₁,w₁,hq,.pass (x:=.inLoop c) rfl (fun _ _=>.inl (by simp)) harr⟩
   | ret=>exact ⟨_,a₁,w₁,hq,.pass (x:=.inLoop c) rfl (fun _ _=>.inl (by simp)) harr⟩
   | panic ch=>exact ⟨_,a₁,w₁,hq,.pass (x:=.inLoop c) rfl (fun _ _=>.inl (by simp)) harr⟩
   | outgrown=>exact ⟨_,a₁,w₁,hq,.pass (x:=.inLoop c) rfl (fun _ _=>.inl (by simp)) harr⟩
 obtain ⟨e,a',w',hq,harr⟩:=key _ s0 a w rfl h₀
 exact ⟨e,a',w',hq,.of_steps (.one step_loop) harr⟩
theorem Qc {c:Code} {σ:Type} (inv:σ→Prop) (F:σ→Bf) (Gs:σ→J5) (Ls:σ→Bl) (μ:σ→Nat) (s0:σ) (h0:inv s0)
  (round:∀ s,inv s→TC C c (Rnd C inv F Gs Ls μ (μ s) Q) (F s) (Gs s) (Ls s))
  (hfr:((F s0).map fun p=>Qf fr p.1)=(F s0).map fun p=>some p.2:=by as_aux_lemma=>kernel_rfl) (hG:Gs s0=G:=by rfl) (hL:Ls s0=L:=by rfl):TC C (.loop c) Q fr G L:=by
 intro a w ha hw
 refine JeG (fun s a w=>inv s∧Fr C.n C.D a (F s)∧St C.w0 C.G0 w (Gs s) (Ls s)) μ s0 ⟨h0,ha.sub (JcV hfr),by rw [hG,hL];exact hw⟩ ?_
 intro s a w ⟨h1,h2,h3⟩
 refine wp_mono (round s h1 a w h2 h3) (fun e a' w' hq=>?_)
 cases e with
 | normal=>obtain ⟨s',p1,p2,p3,p4⟩:=hq;exact ⟨s',⟨p1,p3,p4⟩,p2⟩
 | _=>exact hq
theorem Qh {σ:Type} {inv:σ→Prop} {F:σ→Bf} {Gs:σ→J5} {Ls:σ→Bl} {μ:σ→Nat} {m:Nat} (s:σ) (h0:inv s) (hm:μ s<m)
  (hfr:((F s).map fun p=>Qf fr p.1)=(F s).map fun p=>some p.2:=by as_aux_lemma=>kernel_rfl) (hG:Gs s=G:=by rfl) (hL:Ls s=L:=by rfl) :
  TQ C (Rnd C inv F Gs Ls μ m Q) .normal fr G L:=fun a w ha hw=>⟨s,h0,hm,ha.sub (JcV hfr),by rw [hG,hL];exact hw⟩
theorem QV {σ:Type} {inv:σ→Prop} {F:σ→Bf} {Gs:σ→J5} {Ls:σ→Bl} {μ:σ→Nat} {m:Nat} 
  (h:TQ C Q .ret fr G L):TQ C (Rnd C inv F Gs Ls μ m Q) .ret fr G L:=fun a w ha hw=>h a w ha hw
theorem Kd {σ:Type} {inv:σ→Prop} {F:σ→Bf} {Gs:σ→J5} {Ls:σ→Bl} {μ:σ→Nat} {m:Nat} {id:Nat}
  (h:TQ C Q (.exit id) fr G L):TQ C (Rnd C inv F Gs Ls μ m Q) (.exit id) fr G L:=fun a w ha hw=>h a w ha hw
def Jd3 (P:Program) (c:Code) (Q:Bq):Nat→Act→World→Prop
 | 0,_,_=>False
 | n+1,a,w=>c.wp P (Exit.then (Jd3 P c Q n) Q) a w
theorem JhI {P:Program} {c:Code} {n:Nat} {a:Act} {w:World} (h:Jd3 P c Q n a w):(Code.loop c).wp P Q a w :=
 JeG (fun (s:Nat) a w=>Jd3 P c Q s a w) id n h (fun s a w hs=>by
  cases s with
  | zero=>exact hs.elim
  | succ k=>exact wp_mono hs (fun e a' w' hq=>by
    cases e with
    | normal=>exact ⟨k,hq,Nat.lt_succ_self k⟩
    | _=>exact hq))
def TI (C:Cx) (c:Code) (Q:Bq) (n:Nat) (fr:Bf) (G:J5) (L:Bl):Prop :=
 ∀ a w,Fr C.n C.D a fr→St C.w0 C.G0 w G L→Jd3 C.P c Q n a w
theorem Jd4 {c:Code} (n:Nat) (h:TI C c Q n fr G L):TC C (.loop c) Q fr G L:=fun a w ha hw=>JhI (h a w ha hw)
theorem WA {c:Code} {n:Nat} (h:TC C c (Exit.then (Jd3 C.P c Q n) Q) fr G L):TI C c Q (n+1) fr G L:=fun a w ha hw=>h a w ha hw
theorem WR {c:Code} {n:Nat} (h:TI C c Q n fr G L):TQ C (Exit.then (Jd3 C.P c Q n) Q) .normal fr G L:=fun a w ha hw=>h a w ha hw
theorem Ye {x y:Code} {σ:Type} (inv:σ→Prop) (F:σ→Bf) (Gs:σ→J5) (Ls:σ→Bl)
  (h1:TC C x (Exit.then (fun a w=>∃ s,inv s∧Fr C.n C.D a (F s)∧St C.w0 C.G0 w (Gs s) (Ls s)) Q) fr G L)
  (h2:∀ s,inv s→TC C y Q (F s) (Gs s) (Ls s)):TC C (.seq x y) Q fr G L:=fun a w ha hw=>wp_seq (by
 refine wp_mono (h1 a w ha hw) (fun e a' w' hq=>?_)
 cases e with
 | normal=>obtain ⟨s,p1,p2,p3⟩:=hq;exact h2 s p1 a' w' p2 p3
 | _=>exact hq)
theorem QW {σ:Type} {inv:σ→Prop} {F:σ→Bf} {Gs:σ→J5} {Ls:σ→Bl} (s:σ) (h0:inv s)
  (hfr:((F s).map fun p=>Qf fr p.1)=(F s).map fun p=>some p.2:=by as_aux_lemma=>kernel_rfl) (hG:Gs s=G:=by rfl) (hL:Ls s=L:=by rfl) :
  TQ C (Exit.then (fun a w=>∃ s,inv s∧Fr C.n C.D a (F s)∧St C.w0 C.G0 w (Gs s) (Ls s)) Q) .normal fr G L:=fun a w ha hw=>⟨s,h0,ha.sub (JcV hfr),by rw [hG,hL];exact hw⟩
theorem tc_eq {c:Code} {fr':Bf} {L':Bl} (e:fr=fr') (e':L=L') (h:TC C c Q fr' G L'):TC C c Q fr G L:=by subst e e';exact h
theorem Jlf {e:Exit} {fr':Bf} {L':Bl} (e1:fr=fr') (e2:L=L') (h:TQ C Q e fr' G L'):TQ C Q e fr G L:=by subst e1 e2;exact h
theorem Zz {L':Bl} (e':L=L') (h:KA C ops Q rest fr G L'):KA C ops Q rest fr G L:=by subst e';exact h
theorem JcY {c:Code} {L':Bl} (e':L=L') (h:TC C c Q fr G L'):TC C c Q fr G L:=by subst e';exact h
theorem Jix (d:Nat) (cs:Array Value) (t:TypeId) (v:Nat→Value)
  (h:∀ b,KA C ops Q rest ((d,v b)::fr) G ([Sg b 0 cs.toList]::L))
  (hg:Qu ops fr o=some true:=by rfl) (hd:o.dst=some d:=by rfl) (hn:HH d C.n=true:=by rfl) (hsel:Zj o.op=false:=by rfl)
  (hcov:o.op.operands.toList.all (cov fr)=true:=by as_aux_lemma=>kernel_rfl)
  (hrun:∀ w,(execOp (W6 fr) o).run C.P w=.ok (.value (v w.heap.size)) { w with heap:=w.heap.push (.cells cs t) }:=by intro _;as_aux_lemma=>kernel_rfl) :
  KA C ops Q (o::rest) fr G L:=by
 intro a w ha hw
 have hE:execOp a.eval o=execOp (W6 fr) o:=Wq _ _ _ (fun cs b e=>by rw [e] at hsel;simp [Zj] at hsel)
  (fun x hx=>ha.eval x (Hl.1 hcov x (by simpa using hx)))
 unfold wpList
 rw [if_pos (Wr ha hg)]
 refine .inl ?_
 unfold Oper.wp
 rw [hE,hrun]
 show wpList C.P ops Q rest (a.put o.dst _) _
 rw [hd]
 exact h _ _ _ (ha.put d _ (Hi hn)) (hw.alloc cs t)
theorem Jv (d:Nat) (cs:Array Value) (t:TypeId)
  (h:∀ b,KA C ops Q rest ((d,.pointer (some ⟨b,0,none⟩))::fr) G ([Sg b 0 cs.toList]::L))
  (hg:Qu ops fr o=some true:=by rfl) (hd:o.dst=some d:=by rfl) (hn:HH d C.n=true:=by rfl) (hsel:Zj o.op=false:=by rfl)
  (hcov:o.op.operands.toList.all (cov fr)=true:=by as_aux_lemma=>kernel_rfl)
  (hrun:∀ w,(execOp (W6 fr) o).run C.P w=.ok (.value (.pointer (some ⟨w.heap.size,0,none⟩))) { w with heap:=w.heap.push (.cells cs t) }:=by intro _;as_aux_lemma=>kernel_rfl) :
  KA C ops Q (o::rest) fr G L:=Jix d cs t (fun b=>.pointer (some ⟨b,0,none⟩)) h hg hd hn hsel hcov hrun
theorem Jbj (d:Nat) (v:Value) (hrun:∀ w,(execOp (W6 fr) o).run C.P w=.ok (.value v) w)
  (h:KA C ops Q rest ((d,v)::fr) G L)
  (hg:Qu ops fr o=some true:=by rfl) (hd:o.dst=some d:=by rfl) (hn:HH d C.n=true:=by rfl) (hsel:Zj o.op=false:=by rfl)
  (hcov:o.op.operands.toList.all (cov fr)=true:=by as_aux_lemma=>kernel_rfl):KA C ops Q (o::rest) fr G L:=by
 intro a w ha hw
 have hE:execOp a.eval o=execOp (W6 fr) o:=Wq _ _ _ (fun cs b e=>by rw [e] at hsel;simp [Zj] at hsel)
  (fun x hx=>ha.eval x (Hl.1 hcov x (by simpa using hx)))
 unfold wpList
 rw [if_pos (Wr ha hg)]
 refine .inl ?_
 unfold Oper.wp
 rw [hE,hrun]
 show wpList C.P ops Q rest (a.put o.dst _) _
 rw [hd]
 exact h _ _ (ha.put d _ (Hi hn)) hw
end
def VC (P:Program) (f:FuncId) (args:Array Value) (G:J5) (L:Bl) (Post:Value→J5→Bl→Prop):Prop :=
 ∀ w0 G0 w,St w0 G0 w G L→Calls P f args w fun e w'=>∃ v G' L',e=.returned v∧St w0 G0 w' G' L'∧J5.le G G'∧Post v G' L'
def BP (w0:World) (G0 G:J5) (Post:Value→J5→Bl→Prop):Ending→World→Prop :=
 fun e w'=>∃ v G' L',e=.returned v∧St w0 G0 w' G' L'∧J5.le G G'∧Post v G' L'
theorem VC.mono {P:Program} {f:FuncId} {args:Array Value} {G:J5} {L:Bl} {Post Post':Value→J5→Bl→Prop}
  (h:VC P f args G L Post) (hp:∀ v G' L',J5.le G G'→Post v G' L'→Post' v G' L'):VC P f args G L Post':=fun w0 G0 w hw =>
 (h w0 G0 w hw).mono fun _ _ ⟨v,G',L',a,b,c,d⟩=>⟨v,G',L',a,b,c,hp v G' L' c d⟩
theorem VC.frame {P:Program} {f:FuncId} {args:Array Value} {G:J5} {Post:Value→J5→Bl→Prop} (h:VC P f args G [] Post) (L:Bl) :
  VC P f args G L (fun v G' L'=>∃ L1,L'=L1++L∧Post v G' L1):=fun w0 G0 w hw =>
 (h w G w (St.start hw.mem)).mono fun _ _ ⟨v,G',L',a,b,c,d⟩=>⟨v,G',L'++L,a,hw.call b,c,L',rfl,d⟩
theorem JfC {n:Nat} {args:Array Value} (fr:Bf) (hfr:(fr.map fun p=>args[p.1]?)=fr.map fun p=>some p.2) (hn:args.size≤n) :
  Fr n [] { tmps:=args++Array.replicate (n-args.size) undef,defers:=[] } fr:=by
 have h1:Fr n [] { tmps:=args++Array.replicate (n-args.size) undef,defers:=[] } []:=⟨by simp;omega,rfl,fun t v h=>by cases h⟩
 refine ⟨h1.size,rfl,fun t v hv=>?_⟩
 have hall:=HG.1 hfr
 have key:∀ l:Bf,Qf l t=some v→∃ p∈l,p.1=t∧p.2=v:=by
  intro l
  induction l with
  | nil=>intro h;cases h
  | cons p l ih =>
   obtain ⟨k,u⟩:=p
   intro hl
   simp only [Qf] at hl
   cases hb:He k t with
   | true=>rw [hb] at hl;simp at hl;exact ⟨(k,u),by simp,Hb hb,hl⟩
   | false=>rw [hb] at hl;simp at hl;obtain ⟨p,hp,r⟩:=ih hl;exact ⟨p,by simp [hp],r⟩
 obtain ⟨p,hp,rfl,rfl⟩:=key fr hv
 have:=hall p hp
 have hlt:p.1<args.size:=(Hp.1 this).1
 simp only
 rw [Array.getElem?_append_left hlt];exact this
theorem JP {P:Program} {f:FuncId} {args:Array Value} {G:J5} {L:Bl} {Post:Value→J5→Bl→Prop} {fn:Func} {c:Code}
  (hf:P.funcs[f]? = some fn) (n:Nat) (fr:Bf) (hb:fn.body=some c)
  (h:∀ w0 G0,TC ⟨P,n,[],w0,G0⟩ c (bodyPost P fn (BP w0 G0 G Post)) fr G L)
  (hn:fn.ntmps=n:=by rfl) (ha:Mw args.size n=true:=by rfl)
  (hfr:(fr.map fun p=>args[p.1]?)=fr.map fun p=>some p.2:=by as_aux_lemma=>kernel_rfl):VC P f args G L Post:=fun w0 G0 w hw =>
 calls_of_wp hf hb (h w0 G0 _ w (by rw [hn];exact JfC fr hfr (Hi ha)) hw)
section
variable {C:Cx} {Q:Bq} {fr:Bf} {G:J5} {L:Bl} {ops:Bp} {rest:List Oper} {o:Oper}
theorem Jg9 (d:Nat) {f:FuncId} {args:Array Value} {Post:Value→J5→Bl→Prop} (hc:VC C.P f args G L Post)
  (h:∀ v G' L',J5.le G G'→Post v G' L'→KA C ops Q rest ((d,v)::fr) G' L')
  (hw:Qu ops fr o=some true:=by rfl) (hd:o.dst=some d:=by rfl) (hn:HH d C.n=true:=by rfl) (hsel:Zj o.op=false:=by rfl)
  (hcov:o.op.operands.toList.all (cov fr)=true:=by as_aux_lemma=>kernel_rfl) (hrun:∀ w,(execOp (W6 fr) o).run C.P w=.ok (.enter f args) w:=by intro _;as_aux_lemma=>kernel_rfl) :
  KA C ops Q (o::rest) fr G L:=by
 intro a w ha hwS
 have hE:execOp a.eval o=execOp (W6 fr) o:=Wq _ _ _ (fun cs b e=>by rw [e] at hsel;simp [Zj] at hsel)
  (fun x hx=>ha.eval x (Hl.1 hcov x (by simpa using hx)))
 unfold wpList
 rw [if_pos (Wr ha hw)]
 refine .inl ?_
 unfold Oper.wp
 rw [hE,hrun]
 refine (hc C.w0 C.G0 w hwS).mono ?_
 rintro e w' ⟨v,G',L',rfl,hS,hle,hp⟩
 show wpList C.P ops Q rest (a.put o.dst v) w'
 rw [hd]
 exact h v G' L' hle hp _ _ (ha.put d v (Hi hn)) hS
theorem Jm (d:Nat) {f:FuncId} {args:Array Value} (v:Value) (hc:VC C.P f args G [] (fun u G' L'=>u=v))
  (h:KA C ops Q rest ((d,v)::fr) G L)
  (hw:Qu ops fr o=some true:=by rfl) (hd:o.dst=some d:=by rfl) (hn:HH d C.n=true:=by rfl) (hsel:Zj o.op=false:=by rfl)
  (hcov:o.op.operands.toList.all (cov fr)=true:=by as_aux_lemma=>kernel_rfl) (hrun:∀ w,(execOp (W6 fr) o).run C.P w=.ok (.enter f args) w:=by intro _;as_aux_lemma=>kernel_rfl) :
  KA C ops Q (o::rest) fr G L:=by
 intro a w ha hwS
 have hE:execOp a.eval o=execOp (W6 fr) o:=Wq _ _ _ (fun cs b e=>by rw [e] at hsel;simp [Zj] at hsel)
  (fun x hx=>ha.eval x (Hl.1 hcov x (by simpa using hx)))
 unfold wpList
 rw [if_pos (Wr ha hw)]
 refine .inl ?_
 unfold Oper.wp
 rw [hE,hrun]
 refine (hc w G w (St.start hwS.mem)).mono ?_
 rintro e w' ⟨u,G',L',rfl,hS,hle,rfl⟩
 show wpList C.P ops Q rest (a.put o.dst u) w'
 rw [hd]
 have hS':St w G w' G []:=⟨hS.below,fun b o v hv=>hS.mem b o v (hle b o v hv),Jh _,fun b o v hv=>.inl hv,by simp,by simp⟩
 exact h _ _ (ha.put d u (Hi hn)) (hwS.call hS')
end
instance:LawfulMonad Sem:=LawfulMonad.mk' (m:=Sem)
 (id_map:=fun x=>by show x.bind (fun a=>Sem.pure (id a))=x;exact Sem.bind_pure' x)
 (pure_bind:=fun _ _=>rfl) (bind_assoc:=fun x f g=>Sem.bind_assoc' x f g)
def Jiy (P:Program) (fr:Bf) (L:Bl):ResultVar×Nat→Value×Nat×Bool
 | (.tmp t,_)=>((Qf fr t).getD undef,0,(Qf fr t).isSome)
 | (.cell t ty,i)=>match Jg7 fr (.tmp t),VE L i with
  | some a,some s=>(Jak P ty s.cs (a.off-s.off),a.block,cov fr (.tmp t) && a.spot.isNone && Mw s.off a.off && Jd1 P ty s.cs (a.off-s.off))
  | _,_=>(undef,0,false)
def Jiz (L:Bl):(ResultVar×Nat)×Value→Value×Nat×Bool
 | ((.tmp _,_),v)=>(v,0,true)
 | ((.cell _ _,i),v)=>(v,((VE L i).map (·.b)).getD 0,true)
def QC:Bv→Value
 | [v]=>v
 | vs=>.tuple vs.toArray
theorem JiA {C:Cx} {fr:Bf} {G:J5} {L:Bl} {a:Act} {w:World} (ha:Fr C.n C.D a fr) (hw:St C.w0 C.G0 w G L) :
  ∀ (rs:List ResultVar) (is:List Nat) (vs:Bv),rs.length=is.length→rs.length=vs.length→((rs.zip is).map (Jiy C.P fr L)=((rs.zip is).zip vs).map (Jiz L)) →
   (rs.mapM (m:=Sem) fun | .tmp t=>pure (a.tmps.getD t undef) | .cell b t=>do loadVar t (← asAddr (a.tmps.getD b undef))).run C.P w=.ok vs w:=by
 intro rs
 induction rs with
 | nil=>intro is vs h1 h2 _;cases vs with | nil=>rfl | cons v vs=>simp at h2
 | cons r rs ih =>
  intro is vs h1 h2 h
  cases is with
  | nil=>simp at h1
  | cons i is =>
   cases vs with
   | nil=>simp at h2
   | cons v vs =>
    simp only [List.zip_cons_cons,HS,H9.injEq] at h
    obtain ⟨h0,ht⟩:=h
    rw [List.mapM_cons,Hh]
    have hr:(match r with | .tmp t=>(pure (a.tmps.getD t undef):Sem Value) | .cell b t=>do loadVar t (← asAddr (a.tmps.getD b undef))).run C.P w=.ok v w:=by
     cases r with
     | tmp t =>
      simp only [Jiy,Jiz,Hs.injEq,Hw,true_and] at h0
      obtain ⟨hv,u,hu⟩:=h0
      rw [hu] at hv
      simp only [HL] at hv
      subst hv
      simp [ha.slot t u hu]
     | cell b t =>
      simp only [Jiy,Jiz] at h0
      split at h0
      case h_2=>simp at h0
      rename_i ad s had hs
      rw [hs] at h0
      simp only [Hs.injEq,HQ,HL,Hg] at h0
      obtain ⟨hv,hb,⟨⟨hcx,hsp⟩,hof⟩,hok⟩:=h0
      have hms:s∈L.flatten:=by
       have:=JaW hs
       obtain ⟨hi,he⟩:=Ha.1 this
       exact Hk.2 ⟨[s],he ▸ Hn hi,by simp⟩
      have hown:=(hw.own s hms).2.1
      have hof':=Hi hof
      obtain ⟨ab,ao,asp⟩:=ad
      simp only [HF] at hsp hb hof' hv hok
      subst hsp hb
      have hl:=Vn (P:=C.P) (t:=t) (w:=w) (b:=s.b) (off:=s.off) (k:=ao-s.off) (cs:=s.cs) (fun i u hu=>(hown i u hu).1) hok
      rw [show s.off+(ao-s.off)=ao by omega,hv] at hl
      have hE:a.eval (.tmp b)=.pointer (some ⟨s.b,ao,none⟩):=(ha.eval (.tmp b) hcx).trans (JcW had)
      simp only [Act.eval] at hE
      simp [hE,asAddr,hl]
    rw [hr,Hd,Hh,ih is vs (by simpa using h1) (by simpa using h2) ht]
    rfl
theorem Jal {C:Cx} {fr:Bf} {G:J5} {L:Bl} {a:Act} {w:World} (ha:Fr C.n C.D a fr) (hw:St C.w0 C.G0 w G L) (fn:Func) (is:List Nat) (vs:Bv)
  (h:(fn.results.toList.length,fn.results.toList.length,(fn.results.toList.zip is).map (Jiy C.P fr L))=(is.length,vs.length,((fn.results.toList.zip is).zip vs).map (Jiz L))) :
  (results fn a.tmps).run C.P w=.ok (QC vs) w:=by
 simp only [Hs.injEq] at h
 have hr:=JiA ha hw fn.results.toList is vs h.1 h.2.1 h.2.2
 unfold results
 rw [Array.mapM_eq_mapM_toList,Hh,Sem.run_map];erw [hr]
 simp only [Hd,Hr]
 congr 1
 cases vs with
 | nil=>simp [QC]
 | cons v vs=>cases vs with
  | nil=>simp [QC]
  | cons u us=>simp [QC]
theorem Jo {P:Program} {n:Nat} {w0:World} {G0:J5} {fn:Func} {R:Ending→World→Prop} {fr:Bf} {G:J5} {L:Bl} (is:List Nat) (vs:Bv)
  (hR:∀ w,St w0 G0 w G L→R (.returned (QC vs)) w)
  (h:(fn.results.toList.length,fn.results.toList.length,(fn.results.toList.zip is).map (Jiy P fr L))=(is.length,vs.length,((fn.results.toList.zip is).zip vs).map (Jiz L)):=by as_aux_lemma=>kernel_rfl):TQ ⟨P,n,[],w0,G0⟩ (bodyPost P fn R) .ret fr G L:=fun a w ha hw =>
 ⟨ha.defers,QC vs,Jal ha hw fn is vs h,hR w hw⟩
theorem ZW {P:Program} {n:Nat} {w0:World} {G0:J5} {fn:Func} {R:Ending→World→Prop} {fr:Bf} {G:J5} {L:Bl} (is:List Nat) (vs:Bv)
  (hR:∀ w,St w0 G0 w G L→R (.returned (QC vs)) w)
  (h:(fn.results.toList.length,fn.results.toList.length,(fn.results.toList.zip is).map (Jiy P fr L))=(is.length,vs.length,((fn.results.toList.zip is).zip vs).map (Jiz L)):=by as_aux_lemma=>kernel_rfl):TQ ⟨P,n,[],w0,G0⟩ (bodyPost P fn R) .normal fr G L:=fun a w ha hw =>
 ⟨ha.defers,QC vs,Jal ha hw fn is vs h,hR w hw⟩
theorem Jx {w0:World} {G0 G G1:J5} {L:Bl} {Post:Value→J5→Bl→Prop} {v:Value} (hle:J5.le G G1) (hp:Post v G1 []) :
  ∀ w,St w0 G0 w G1 L→BP w0 G0 G Post (.returned v) w:=fun _ hw=>⟨v,G1,[],rfl,hw.drop,hle,hp⟩
theorem Jlg {w0:World} {G0 G G1:J5} {L:Bl} (L':Bl) {Post:Value→J5→Bl→Prop} {v:Value} (hs:L'.flatten.Sublist L.flatten) (hle:J5.le G G1) (hp:Post v G1 L') :
  ∀ w,St w0 G0 w G1 L→BP w0 G0 G Post (.returned v) w:=fun _ hw=>⟨v,G1,L',rfl,hw.dropAt L' hs,hle,hp⟩
abbrev I (n:Int):Value:=.int .i64 n
abbrev Fv (k:FuncId) (c:Array Value):Value:=.func (.func k) #[] c
abbrev U (n:Int):Value:=.int .u64 n
abbrev Y (n:Int):Value:=.int .u8 n
abbrev Bo (b:Bool):Value:=.bool b
abbrev Pt (b o:Nat):Value:=.pointer (some ⟨b,o,none⟩)
abbrev Sl (a:Ba) (n c:Nat):Value:=.slice a n c
abbrev At (b o:Nat):Ba:=some ⟨b,o,none⟩
abbrev B (l:Bb):ByteArray:=⟨l.toArray⟩
abbrev Sr (l:Bb):Value:=.string (B l)
theorem JhJ (l:Bb):(B l).size=l.length:=rfl
structure YR (α:Type) where
 sz:Nat
 bytes:Nat
 R:J5→Bv→α→Prop
 mono:∀ {G G' cs x},J5.le G G'→R G cs x→R G' cs x
 len:∀ {G cs x},R G cs x→cs.length=sz
 one:∀ {G cs x},R G cs x→∀ u∈cs,u.oneCell'=true
structure RS {α:Type} (E:YR α) (G:J5) (a:Ba) (cap:Nat) (l:List α):Prop where
 le:l.length≤cap
 fit:l.length*E.bytes≤281474976710656
 max:cap≤9223372036854775807
 nil:a=none→cap=0
 spot:∀ ad,a=some ad→0<cap→ad.spot=none
 elem:∀ ad,a=some ad→∀ i x,l[i]? = some x→∃ cs,E.R G cs x∧∀ j v,cs[j]? = some v→G ad.block (ad.off+i*E.sz+j)=some v
theorem RS.mono {α:Type} {E:YR α} {G G':J5} {a:Ba} {cap:Nat} {l:List α} (h:RS E G a cap l) (hle:J5.le G G'):RS E G' a cap l :=
 ⟨h.le,h.fit,h.max,h.nil,h.spot,fun ad ha i x hx=>by
  obtain ⟨cs,h1,h2⟩:=h.elem ad ha i x hx
  exact ⟨cs,E.mono hle h1,fun j v hv=>hle _ _ _ (h2 j v hv)⟩⟩
theorem J2 {α:Type} (E:YR α) (G:J5):RS E G none 0 [] :=
 ⟨H1 _,by simp,by simp,fun _=>rfl,by simp,by simp⟩
theorem RS.sub {α:Type} {E:YR α} {G:J5} {b o cap:Nat} {l:List α} (h:RS E G (At b o) cap l) (lo hi:Nat) (h1:lo≤hi) (h2:hi≤l.length) :
  RS E G (At b (o+lo*E.sz)) (cap-lo) ((l.take hi).drop lo):=by
 refine ⟨?_,?_,?_,by simp,by simp,?_⟩
 · have:=h.le;simp;omega
 · exact Mu (HD _ (by simp;omega)) h.fit
 · have:=h.max;omega
 ·
  intro ad ha i x hx
  cases ha
  rw [HW,HK] at hx
  split at hx
  ·
   obtain ⟨cs,h3,h4⟩:=h.elem _ rfl _ _ hx
   refine ⟨cs,h3,fun j v hv=>?_⟩
   have:=h4 j v hv
   simp only at this ⊢
   rwa [show o+(lo+i)*E.sz+j=o+lo*E.sz+i*E.sz+j by rw [Hy];omega] at this
  · cases hx
def base (n:Nat) (ops:Bp) (fr:Bf) (o:Oper) (d:Nat):Bool :=
 (match o.dst with | some e=>He e d | none=>false) && HH d n && YO true (Qu ops fr o) && !Zj o.op && o.op.operands.toList.all (cov fr)
section
variable {C:Cx} {Q:Bq} {fr:Bf} {G:J5} {L:Bl} {ops:Bp} {rest:List Oper} {o:Oper}
theorem QE (d:Nat) (hb:base C.n ops fr o d=true)
  (hx:∀ w,St C.w0 C.G0 w G L→∃ v w' G' L',(execOp (W6 fr) o).run C.P w=.ok (.value v) w'∧St C.w0 C.G0 w' G' L'∧KA C ops Q rest ((d,v)::fr) G' L') :
  KA C ops Q (o::rest) fr G L:=by
 intro a w ha hw
 unfold base at hb
 simp only [Hg] at hb
 obtain ⟨⟨⟨⟨hd,hn⟩,hwt⟩,hsel⟩,hcov⟩:=hb
 have hE:execOp a.eval o=execOp (W6 fr) o:=Wq _ _ _ (fun cs b e=>by rw [e] at hsel;simp [Zj] at hsel)
  (fun x hx=>ha.eval x (Hl.1 hcov x (by simpa using hx)))
 have hwant:Qu ops fr o=some true:=by
  cases hx:Qu ops fr o with
  | none=>rw [hx] at hwt;simp [YO] at hwt
  | some b=>rw [hx] at hwt;simp [YO] at hwt;rw [← hwt]
 have hdst:o.dst=some d:=by
  cases h:o.dst with
  | none=>rw [h] at hd;cases hd
  | some e=>rw [h] at hd;rw [Hb hd]
 obtain ⟨v,w',G',L',hr,hS,hk⟩:=hx w hw
 unfold wpList
 rw [if_pos (Wr ha hwant)]
 refine .inl ?_
 unfold Oper.wp
 rw [hE,hr]
 show wpList C.P ops Q rest (a.put o.dst _) _
 rw [hdst]
 exact hk _ _ (ha.put d _ (Hi hn)) hS
def JhK (P:Program) (fr:Bf) (o:Oper) (e sz:Nat):Option (Value×Value) :=
 match o.op with
 | .indexAddr t y i=>match P.underlying t with
  | some (.slice e')=>bif He e' e && He (P.cellsOf e) sz && (P.info? e).isSome then some (W6 fr y,W6 fr i) else none
  | _=>none
 | _=>none
theorem JpA {P:Program} {e sz:Nat} {b off len cap:Nat} {ik:IntKind} {k:Nat} (h:JhK P fr o e sz=some (.slice (some ⟨b,off,none⟩) len cap,.int ik (k:Int))) (hk:k<len) (w:World) :
  (execOp (W6 fr) o).run P w=.ok (.value (.pointer (some ⟨b,off+k*sz,none⟩))) w:=by
 unfold JhK at h
 split at h
 case h_2=>cases h
 rename_i t y i hop
 split at h
 case h_2=>cases h
 rename_i e' hu
 cases hc:(He e' e && He (P.cellsOf e) sz && (P.info? e).isSome) with
 | false=>rw [hc] at h;cases h
 | true =>
  rw [hc] at h
  simp only [cond_true,Hm.injEq,Hs.injEq] at h
  simp only [Hg] at hc
  obtain ⟨⟨h1,h2⟩,h3⟩:=hc
  obtain rfl:=Hb h1
  obtain rfl:=Hb h2
  obtain ⟨inf,hi⟩:=Hw.1 h3
  unfold execOp
  simp only [hop,h.1,h.2,Instr.indexAt,asIntOf,Hh,Hr,Hd,Zf w hu]
  have hlt:(0:Int)≤(k:Int)∧(k:Int)<(len:Int):=by omega
  simp only [hlt,and_self,if_true,Hh,Vv w hi,Hd,Hr,Ms,Wv,Bool.and_false]
def Jlh (fr:Bf) (o:Oper):Option (Nat×Value) :=
 match o.op with
 | .load t x=>some (t,W6 fr x)
 | _=>none
theorem JO (d t:Nat) {b o':Nat} {cs:Bv} (k:Nat) (v:Value) (hc:∀ j v,cs[j]? = some v→G b (o'+j)=some v)
  (h:KA C ops Q rest ((d,v)::fr) G L)
  (hb:base C.n ops fr o d=true:=by as_aux_lemma=>kernel_rfl)
  (hx:(Jlh fr o,Jd1 C.P t cs k,Jak C.P t cs k)=(some (t,Pt b (o'+k)),true,v):=by as_aux_lemma=>kernel_rfl):KA C ops Q (o::rest) fr G L:=by
 simp only [Hs.injEq] at hx
 obtain ⟨hx,hok,hv⟩:=hx
 refine QE d hb (fun w hw=>⟨v,w,G,L,?_,hw,h⟩)
 unfold Jlh at hx
 split at hx
 case h_2=>cases hx
 rename_i t' x hop
 simp only [Hm.injEq,Hs.injEq] at hx
 obtain ⟨rfl,hx⟩:=hx
 have:=Vn (P:=C.P) (t:=t') (w:=w) (b:=b) (off:=o') (k:=k) (cs:=cs) (fun i u hu=>hw.mem _ _ _ (hc i u hu)) hok
 unfold execOp
 simp only [hop,hx,Instr.loadAt,Instr.sureAddr,Hh,Hr,Hd,this,hv]
def chk2 (fr:Bf) (o:Oper):Option (Value×Value) :=
 match o.op with
 | .index _ x i=>some (W6 fr x,W6 fr i)
 | .binOp .add _ x y _=>some (W6 fr x,W6 fr y)
 | _=>none
def Jd5 (P:Program) (o:Oper):Bool:=match o.op with
 | .index t _ _ | .slice t _ _ _ _=>(match P.underlying t with | some .string=>true | _=>false)
 | _=>false
theorem Jl8 (l:Bb) (a b:Nat):(B l).extract a b=B ((l.take b).drop a):=by
 rw [Lib.extract_eq];simp [B,List.drop_take]
theorem Jnv (s t:Bb):B s++B t=B (s++t):=by
 apply ByteArray.ext;simp
theorem Jli (l:Bb) (k:Nat):(B l)[k]? = l[k]?:=by
 by_cases h:k<l.length
 ·
  have h':k<(B l).size:=h
  rw [Hc h,getElem?_pos (B l) k h'];rfl
 ·
  have h':¬ k<(B l).size:=h
  rw [List.getElem?_eq_none (by omega),getElem?_neg (B l) k h']
theorem Qx (l:Bb):(B l).toList=l:=by rw [ByteArray.toList_eq]
theorem Jbk (d:Nat) {ik:IntKind} {l:Bb} (k:Nat) (b:UInt8) (hk:l[k]? = some b) (h:KA C ops Q rest ((d,Y (b.toNat:Int))::fr) G L)
  (hb:base C.n ops fr o d=true:=by as_aux_lemma=>kernel_rfl)
  (hx:(match o.op with | .index ..=>chk2 fr o | _=>none,Jd5 C.P o)=(some (Sr l,.int ik (k:Int)),true):=by as_aux_lemma=>kernel_rfl):KA C ops Q (o::rest) fr G L:=by
 simp only [Hs.injEq] at hx
 obtain ⟨hx,hs⟩:=hx
 refine QE d hb (fun w hw=>⟨_,w,G,L,?_,hw,h⟩)
 split at hx
 case h_2=>cases hx
 rename_i t x i hop
 unfold chk2 at hx
 simp only [hop,Hm.injEq,Hs.injEq] at hx
 unfold Jd5 at hs
 simp only [hop] at hs
 have hu:C.P.underlying t=some .string:=by
  split at hs
  · rename_i hu;exact hu
  · cases hs
 unfold execOp
 simp only [hop,hx.1,hx.2,Instr.index,asIntOf,Hh,Hr,Hd,Zf w hu]
 have:(0:Int)≤(k:Int):=by omega
 simp only [this,if_true,Ms,Jli,hk,Hr,Hd]
theorem Z1 (d:Nat) (s t:Bb) (hl:s.length+t.length≤9223372036854775807) (h:KA C ops Q rest ((d,Sr (s++t))::fr) G L)
  (hb:base C.n ops fr o d=true:=by as_aux_lemma=>kernel_rfl)
  (hx:(match o.op with | .binOp .add ..=>chk2 fr o | _=>none)=some (Sr s,Sr t):=by as_aux_lemma=>kernel_rfl):KA C ops Q (o::rest) fr G L:=by
 refine QE d hb (fun w hw=>⟨_,w,G,L,?_,hw,h⟩)
 split at hx
 case h_2=>cases hx
 rename_i u x y v hop
 unfold chk2 at hx
 simp only [hop,Hm.injEq,Hs.injEq] at hx
 unfold execOp
 simp only [hop,hx.1,hx.2,eqGuard,binOp,Op.stringOp]
 have:¬ ((((B s).size+(B t).size:Nat):Int) > MO.max):=by
  simp only [JhJ,IntKind.max,IntKind.bits,IntKind.signed];simp;omega
 simp only [Jnv]
 rw [if_neg this]
 rfl
def evoO (fr:Bf):Option Operand→Option Value
 | some x=>some (W6 fr x)
 | none=>none
def JcE (fr:Bf) (o:Oper):Option (Value×Option Value×Option Value×Bool) :=
 match o.op with
 | .slice _ x lo hi mx=>some (W6 fr x,evoO fr lo,evoO fr hi,mx.isNone)
 | _=>none
def JeH (i:Option Value) (k:Nat):Prop:=(i=none∧k=0)∨∃ ik,i=some (.int ik (k:Int))
def Jbw (i:Option Value) (k len:Nat):Prop:=(i=none∧k=len)∨∃ ik,i=some (.int ik (k:Int))
theorem JfD {P:Program} {isSl:Bool} {len cap lo hi:Nat} {vlo vhi:Option Value} (h1:JeH vlo lo) (h2:Jbw vhi hi len) (h3:lo≤hi) (h4:hi≤cap) (w:World) :
  (Instr.sliceBounds isSl len cap vlo vhi none).run P w=.ok (lo,hi,cap) w:=by
 have a1:(0:Int)≤(hi:Int)∧(hi:Int)≤(cap:Int):=by omega
 have a2:(0:Int)≤(lo:Int)∧(lo:Int)≤(hi:Int):=by omega
 rcases h1 with ⟨rfl,rfl⟩ | ⟨ik,rfl⟩ <;> rcases h2 with ⟨rfl,rfl⟩ | ⟨jk,rfl⟩ <;>
  simp [Instr.sliceBounds,Instr.sliceBound,asIntOf,h3,h4]
theorem JiB (d:Nat) {l:Bb} (vlo vhi:Option Value) (lo hi:Nat) (h1:JeH vlo lo) (h2:Jbw vhi hi l.length) (h3:lo≤hi) (h4:hi≤l.length)
  (h:KA C ops Q rest ((d,Sr ((l.take hi).drop lo))::fr) G L)
  (hb:base C.n ops fr o d=true:=by as_aux_lemma=>kernel_rfl)
  (hx:(JcE fr o,Jd5 C.P o)=(some (Sr l,vlo,vhi,true),true):=by as_aux_lemma=>kernel_rfl):KA C ops Q (o::rest) fr G L:=by
 simp only [Hs.injEq] at hx
 obtain ⟨hx,hs⟩:=hx
 refine QE d hb (fun w hw=>⟨_,w,G,L,?_,hw,h⟩)
 unfold JcE at hx
 split at hx
 case h_2=>cases hx
 rename_i t x lo' hi' mx hop
 simp only [Hm.injEq,Hs.injEq,HF] at hx
 obtain ⟨hxv,hlo,hhi,rfl⟩:=hx
 unfold Jd5 at hs
 simp only [hop] at hs
 have hu:C.P.underlying t=some .string:=by
  split at hs
  · rename_i hu;exact hu
  · cases hs
 have e1:lo'.map (W6 fr)=vlo:=by rw [← hlo];cases lo' <;> rfl
 have e2:hi'.map (W6 fr)=vhi:=by rw [← hhi];cases hi' <;> rfl
 unfold execOp
 simp only [hop,hxv,e1,e2,My,Instr.sliceAt,Instr.slice,Hh,Hd,Zf w hu,Option.isSome_none,H4,if_false]
 have hbd:=JfD (P:=C.P) (isSl:=false) (len:=(B l).size) (cap:=(B l).size) h1 h2 h3 h4 w
 simp only [Hr,Hd,hbd,Jl8]
def JeI (P:Program) (o:Oper) (sz:Nat):Bool:=match o.op with
 | .slice t _ _ _ _=>(match P.underlying t with | some (.slice e)=>He (P.cellsOf e) sz && (P.info? e).isSome | _=>false)
 | _=>false
theorem Jnw {P:Program} {sz:Nat} {a:Ba} {len cap lo hi:Nat} {vlo vhi:Option Value} (hx:JcE fr o=some (.slice a len cap,vlo,vhi,true)) (hs:JeI P o sz=true)
  (h1:JeH vlo lo) (h2:Jbw vhi hi len) (h3:lo≤hi) (h4:hi≤cap) (w:World) :
  (execOp (W6 fr) o).run P w=.ok (.value (.slice (if cap=lo then a else a.map (·.add (lo*sz))) (hi-lo) (cap-lo))) w:=by
 unfold JcE at hx
 split at hx
 case h_2=>cases hx
 rename_i t x lo' hi' mx hop
 simp only [Hm.injEq,Hs.injEq,HF] at hx
 obtain ⟨hxv,hlo,hhi,rfl⟩:=hx
 unfold JeI at hs
 simp only [hop] at hs
 split at hs
 case h_2=>cases hs
 rename_i e hu
 simp only [Hg] at hs
 obtain ⟨hsz,hinf⟩:=hs
 obtain rfl:=Hb hsz
 obtain ⟨inf,hi''⟩:=Hw.1 hinf
 have e1:lo'.map (W6 fr)=vlo:=by rw [← hlo];cases lo' <;> rfl
 have e2:hi'.map (W6 fr)=vhi:=by rw [← hhi];cases hi' <;> rfl
 unfold execOp
 simp only [hop,hxv,e1,e2,My,Instr.sliceAt,Instr.slice,Hh,Hd,Zf w hu]
 have hbd:=JfD (P:=P) (isSl:=true) (len:=len) (cap:=cap) h1 h2 h3 h4 w
 simp only [Hh,Hr,Hd,hbd,Vv w hi'']
theorem RS.resl {α:Type} {E:YR α} {a:Ba} {cap:Nat} {l:List α} (hl:RS E G a cap l) (lo hi:Nat) (h3:lo≤hi) (h4:hi≤l.length) :
  RS E G (if cap=lo then a else a.map (·.add (lo*E.sz))) (cap-lo) ((l.take hi).drop lo):=by
 cases a with
 | none =>
  have h0:=hl.nil rfl
  have:=hl.le
  have:l=[]:=Hv (by omega)
  subst this h0
  simp only [List.take_nil,List.drop_nil,Nat.zero_sub,My,ite_self]
  exact J2 E G
 | some ad =>
  obtain ⟨b,off,spot⟩:=ad
  by_cases hc:cap=lo
  ·
   have:=hl.le
   have e:(l.take hi).drop lo=[]:=Mi (by simp;omega)
   rw [if_pos hc,e,hc,Nat.sub_self]
   exact ⟨by simp,by simp,by simp,by simp,by simp,by simp⟩
  ·
   have hs:=hl.spot _ rfl (by have:=hl.le;omega)
   simp only at hs
   subst hs
   rw [if_neg hc]
   simp only [HQ,Wv]
   exact hl.sub lo hi h3 h4
theorem JiC (i:Nat) {c:Bg} (hl:c.length≤1) (hi:L[i]? = some c) (h:∀ G',J5.le G G'→(∀ s∈c,∀ j v,s.cs[j]? = some v→G' s.b (s.off+j)=some v)→KA C ops Q rest fr G' (L.set i [])) :
  KA C ops Q rest fr G L:=by
 intro a w ha hw
 have hm:∀ s∈c,s∈L.flatten:=fun s hs=>by
  obtain ⟨hi',he⟩:=Ha.1 hi
  exact Hk.2 ⟨c,he ▸ Hn hi',hs⟩
 refine h (G.add c) (J5.le_add _ _) ?_ a w ha (hw.freeze hi)
 intro s hs j v hv
 have hc:c=[s]:=by
  match c,hl,hs with
  | [x],_,hs=>simp at hs;rw [hs]
 have hn:=((hw.own s (hm s hs)).2.1 j v hv).2.2
 subst hc
 simp [J5.add,hn,hv]
theorem QI (i:Nat) {b o:Nat} {cs:Bv} (h:∀ G',J5.le G G'→(∀ j v,cs[j]? = some v→G' b (o+j)=some v)→KA C ops Q rest fr G' (L.set i []))
  (hi:L[i]? = some [Sg b o cs]:=by rfl):KA C ops Q rest fr G L :=
 JiC i (by simp) hi (fun G' h1 h2=>h G' h1 (fun j v hv=>h2 _ (Mq.2 rfl) j v hv))
end
theorem St.reorder {w0 w:World} {G0 G:J5} {L:Bl} (h:St w0 G0 w G L) (L':Bl) (l:Bg) (hp:l.Perm L.flatten) (hs:L'.flatten.Sublist l):St w0 G0 w G L':=by
 refine ⟨h.below,h.mem,h.grow,h.fresh,fun s hx=>h.own s (hp.mem_iff.1 (hs.subset hx)),?_⟩
 exact ((hp.pairwise_iff (fun h=>Vf.apart_symm h)).2 h.apart).sublist hs
structure Row (sz:Nat) (a:Ba) (n cap:Nat) (xs:Bv) (r:Bg):Prop where
 len:xs.length=n*sz
 le:n≤cap
 max:cap≤9223372036854775807
 shape:(a=none∧cap=0∧r=[])∨∃ b off spare,a=some ⟨b,off,none⟩∧r=[Sg b off (xs++spare)]∧spare.length=(cap-n)*sz
theorem Row.none (sz:Nat):Row sz none 0 0 [] []:=⟨by simp,H1 _,by simp,.inl ⟨rfl,rfl,rfl⟩⟩
theorem Row.lit {sz n:Nat} {b:Nat} {cs:Bv} (h:cs.length=n*sz) (hm:n≤9223372036854775807):Row sz (At b 0) n n cs [Sg b 0 cs] :=
 ⟨h,H1 _,hm,.inr ⟨b,0,[],rfl,by simp,by simp⟩⟩
theorem Row.one {sz:Nat} {a:Ba} {n cap:Nat} {xs:Bv} {r:Bg} (h:Row sz a n cap xs r):r.length≤1:=by
 rcases h.shape with ⟨_,_,rfl⟩ | ⟨_,_,_,_,rfl,_⟩ <;> simp
def JiD (sz:Nat) (w:World) (ax:Ba) (m:Nat) (news:Bv):Prop :=
 news.length=m*sz∧(ax=none→m=0)∧∀ ad,ax=some ad→∀ j v,news[j]? = some v→w.cell? (ad.add j)=some v
theorem Yi (z:Array Value) (n:Nat):(Builtin.zeroCells z n).size=n*z.size:=by simp [Builtin.zeroCells]
theorem St.append {P:Program} {w0 w:World} {G0 G:J5} {L:Bl} (hw:St w0 G0 w G L) {i:Nat} {r:Bg} (hL:L[i]? = some r)
  {t ty e:TypeId} {inf:TypeInfo} {z:Value} (ht:P.underlying t=some (.slice e)) (hi:P.info? e=some inf) (hz:inf.zero=some z) (hzs:z.cells.size=inf.size)
  {a:Ba} {n cap:Nat} {xs:Bv} (hr:Row inf.size a n cap xs r) {ax:Ba} {m c:Nat} {news:Bv} (hx:JiD inf.size w ax m news) (h1:∀ u∈news,u.oneCell'=true)
  (h63:n+m≤9223372036854775807) (hby:n+m≤cap∨(n+m)*inf.bytes≤140737488355328∨(cap=0∧(n+m)*inf.bytes≤281474976710656)) :
  ∃ a' cap' r' w',(Builtin.append_ #[t,t] ty #[.slice a n cap,.slice ax m c]).run P w=.ok (.slice a' (n+m) cap') w'∧St w0 G0 w' G (L.set i r')∧Row inf.size a' (n+m) cap' (xs++news) r'∧(n+m≤cap→a'=a∧cap'=cap):=by
 obtain ⟨hnl,hax,hnews⟩:=hx
 have hlen:(xs++news).length=(n+m)*inf.size:=by rw [Hf,hr.len,hnl,Hy]
 have hset:L.set i r=L:=by
  obtain ⟨hi',he⟩:=Ha.1 hL
  rw [← he];exact MA hi'
 have hfirst:∀ W:World,(∀ ad,ax=some ad→∀ j v,news[j]? = some v→W.cell? (ad.add j)=some v)→(Builtin.firstCells inf.size m (.slice ax m c)).run P W=.ok news.toArray W:=by
  intro W hW
  cases ax with
  | none =>
   have hm:=hax rfl
   have:news=[]:=Hv (by rw [hnl,hm];simp)
   rw [this];exact run_firstCells_none W _ _ _ _
  | some ad=>exact run_firstCells_some W _ _ ad _ _ news hnl (hW ad rfl)
 -- a new block in the place of the old row
 have fresh:∀ (cs:Array Value),St w0 G0 (w.drew.alloc (.cells cs e)) G (L.set i [Sg w.heap.size 0 cs.toList]):=by
  intro cs
  have hA:=(hw.drew).alloc cs e
  obtain ⟨A,B',hLe,hs⟩:=Vg hL
  rw [hs]
  refine hA.reorder _ (A.flatten++([Sg w.heap.size 0 cs.toList]++(r++B'.flatten))) ?_ ?_
  ·
   rw [hLe]
   simp only [Hu,Ht]
   exact Mp _ _ _
  ·
   simp only [Hu,Ht]
   exact HM.append (HM.refl _) (HM.append (HM.refl _) (Mb _ _))
 by_cases hroom:n+m≤cap
 ·
  rcases hr.shape with ⟨rfl,rfl,rfl⟩ | ⟨b,off,spare,rfl,rfl,hsp⟩
  ·
   obtain rfl:n=0:=by omega
   obtain rfl:m=0:=by omega
   refine ⟨none,0,[],w,?_,by rw [hset];exact hw,?_,fun _=>⟨rfl,rfl⟩⟩
   ·
    have hf:=hfirst w hnews
    simp [Builtin.append_,run_underlying ht,sizeOf,typeInfo,hi,Builtin.lenOf,hf]
   ·
    have:news=[]:=Hv (by simpa using hnl)
    have hx0:xs=[]:=Hv (by simpa using hr.len)
    subst this hx0
    exact Row.none _
  ·
   have hms:(Sg b off (xs++spare))∈L.flatten:=by
    obtain ⟨hi',he⟩:=Ha.1 hL
    exact Hk.2 ⟨_,he ▸ Hn hi',by simp⟩
   have hown:=(hw.own _ hms).2.1
   simp only at hown
   have hmul:n*inf.size+m*inf.size≤cap*inf.size:=by rw [← Hy];exact HD _ hroom
   have hcap:(cap-n)*inf.size=cap*inf.size-n*inf.size:=MB _ _ _
   have hfit:n*inf.size+news.length≤(xs++spare).length:=by
    rw [Hf,hr.len,hsp,hnl,hcap];omega
   have hst:=Y7 P b (off+n*inf.size) news w 0 h1
    (fun j hj=>by
     have:=hown (n*inf.size+j) _ (Hc (show n*inf.size+j<(xs++spare).length by omega))
     rw [show off+(n*inf.size+j)=off+n*inf.size+0+j by omega] at this
     exact ⟨_,this.1⟩)
    (fun j hj=>by
     have:=hown (n*inf.size+j) _ (Hc (show n*inf.size+j<(xs++spare).length by omega))
     rw [show off+(n*inf.size+j)=off+n*inf.size+0+j by omega] at this
     exact this.2.1)
   refine ⟨some ⟨b,off,none⟩,cap,[Sg b off (Qz (xs++spare) (n*inf.size) news)],WF w b (off+n*inf.size) news,?_,hw.store hL (n*inf.size) news hfit,?_,fun _=>⟨rfl,rfl⟩⟩
   ·
    have hf:=hfirst w hnews
    simp only [Me] at hst
    simp [Builtin.append_,run_underlying ht,sizeOf,typeInfo,hi,Builtin.lenOf,hf,hroom,Wv,hst]
   ·
    refine ⟨hlen,hroom,hr.max,.inr ⟨b,off,spare.drop news.length,rfl,?_,?_⟩⟩
    ·
     congr 2
     unfold Qz
     rw [← hr.len,HN,Hz]
     congr 2
     rw [← HO,HP]
    · rw [HT,hsp,hnl,← MB];congr 1;omega
 ·
  replace hby:=hby.resolve_left hroom
  have hnx:Builtin.nextslicecap (n+m) cap*inf.bytes≤281474976710656:=by
   rcases hby with h | ⟨h0,h⟩
   · exact growslice_fits (by omega) h
   · rw [h0,nextslicecap_zero (by omega)];exact h
  have hby2:(n+m)*inf.bytes≤281474976710656:=by rcases hby with h | ⟨_,h⟩ <;> omega
  have grownOK:∀ old,Row inf.size (some ⟨w.heap.size,0,none⟩) (n+m) (grownCap w (n+m) old e) (xs++news)
    [Sg w.heap.size 0 (xs.toArray++news.toArray++Builtin.zeroCells z.cells (grownCap w (n+m) old e-(n+m))).toList]:=by
   intro old
   refine ⟨hlen,grownCap_ge w _ old e,?_,.inr ⟨w.heap.size,0,(Builtin.zeroCells z.cells (grownCap w (n+m) old e-(n+m))).toList,rfl,by simp,?_⟩⟩
   ·
    have:=grownCap_le_maxLen w (n+m) old e (by simp only [maxLen];omega)
    simp only [maxLen] at this;omega
   · rw [H3,Yi,hzs]
  have hm:0<m:=by have:=hr.le;omega
  cases ax with
  | none=>have:=hax rfl;omega
  | some ad =>
   rcases hr.shape with ⟨rfl,rfl,rfl⟩ | ⟨b,off,spare,rfl,rfl,hsp⟩
   ·
    obtain rfl:n=0:=by have:=hr.le;omega
    have hx0:xs=[]:=Hv (by simpa using hr.len)
    subst hx0
    simp only [HC] at h63 hby grownOK ⊢
    have hrun:=run_append_nil (P:=P) w t ty e inf z ht hi hz ad m c news hnl (hnews ad rfl) hm (by omega) (by omega)
    have hg:=grownOK 0
    simp only [List.nil_append,Array.empty_append] at hg ⊢
    exact ⟨_,_,_,_,hrun,fresh _,hg,fun h=>absurd h (by omega)⟩
   ·
    have hms:(Sg b off (xs++spare))∈L.flatten:=by
     obtain ⟨hi',he⟩:=Ha.1 hL
     exact Hk.2 ⟨_,he ▸ Hn hi',by simp⟩
    have hown:=(hw.own _ hms).2.1
    simp only at hown
    have holds:∀ j v,xs[j]? = some v→w.cell? ((⟨b,off,none⟩:Addr).add j)=some v:=by
     intro j v hv
     rw [Wv]
     refine (hown j v ?_).1
     rw [Hj (Ha.1 hv).1];exact hv
    have hrun:=run_append_grow (P:=P) w t ty e inf z ht hi hz ⟨b,off,none⟩ n cap xs hr.len holds ad m c news hnl (hnews ad rfl) (by omega) (by omega) hnx
    exact ⟨_,_,_,_,hrun,fresh _,grownOK cap,fun h=>absurd h hroom⟩
structure JR {α:Type} (E:YR α) (G:J5) (a:Ba) (cap:Nat) (l:List α) (r:Bg):Prop where
 ex:∃ css:List Bv,css.length=l.length∧(∀ (i:Nat) x,l[i]? = some x→∃ cs,css[i]? = some cs∧E.R G cs x)∧Row E.sz a l.length cap css.flatten r
theorem K3 {css:List Bv} {sz:Nat} (h:∀ cs∈css,cs.length=sz):css.flatten.length=css.length*sz:=by
 induction css with
 | nil=>simp
 | cons c css ih=>simp only [Hu,Hf,H2,h c (by simp),ih (fun x hx=>h x (by simp [hx])),Hy];omega
theorem JaX {css:List Bv} {sz:Nat} (h:∀ cs∈css,cs.length=sz):∀ (i:Nat) (cs:Bv) (j:Nat) (v:Value),css[i]? = some cs→cs[j]? = some v→css.flatten[i*sz+j]? = some v:=by
 induction css with
 | nil=>intro i cs j v hi;simp at hi
 | cons c css ih =>
  intro i cs j v hi hj
  have hc:=h c (by simp)
  simp only [Hu]
  cases i with
  | zero =>
   obtain rfl:c=cs:=by simpa using hi
   have:=(Ha.1 hj).1
   rw [Hj (by omega)];simpa using hj
  | succ i =>
   rw [Hq (by rw [hc,Hy];omega)]
   have:=ih (fun x hx=>h x (by simp [hx])) i cs j v (by simpa using hi) hj
   rw [hc,show (i+1)*sz+j-sz=i*sz+j by rw [Hy];omega];exact this
theorem JR.none {α:Type} (E:YR α) (G:J5):JR E G none 0 [] []:=⟨⟨[],rfl,by simp,Row.none _⟩⟩
theorem JR.mono {α:Type} {E:YR α} {G G':J5} {a:Ba} {cap:Nat} {l:List α} {r:Bg} (h:JR E G a cap l r) (hle:J5.le G G'):JR E G' a cap l r:=by
 obtain ⟨css,h1,h2,h3⟩:=h.ex
 exact ⟨⟨css,h1,fun i x hx=>by obtain ⟨cs,a,b⟩:=h2 i x hx;exact ⟨cs,a,E.mono hle b⟩,h3⟩⟩
theorem JR.le {α:Type} {E:YR α} {G:J5} {a:Ba} {cap:Nat} {l:List α} {r:Bg} (h:JR E G a cap l r):l.length≤9223372036854775807:=by
 obtain ⟨css,h1,h2,h3⟩:=h.ex
 have:=h3.le;have:=h3.max;omega
theorem JR.one {α:Type} {E:YR α} {G:J5} {a:Ba} {cap:Nat} {l:List α} {r:Bg} (h:JR E G a cap l r):r.length≤1:=by
 obtain ⟨css,h1,h2,h3⟩:=h.ex;exact h3.one
theorem Jaf {α:Type} {E:YR α} {G:J5} {l:List α} {css:List Bv} (h1:css.length=l.length) (h2:∀ (i:Nat) x,l[i]? = some x→∃ cs,css[i]? = some cs∧E.R G cs x) :
  ∀ cs∈css,cs.length=E.sz:=by
 intro cs hcs
 obtain ⟨i,hi,rfl⟩:=H8.1 hcs
 obtain ⟨cs',h3,h4⟩:=h2 i _ (Hc (h1 ▸ hi))
 rw [Hc hi] at h3
 simp at h3
 rw [h3];exact E.len h4
theorem JR.rs {α:Type} {E:YR α} {G G':J5} {a:Ba} {cap:Nat} {l:List α} {r:Bg} (h:JR E G a cap l r) (hle:J5.le G G') (hb:l.length*E.bytes≤281474976710656)
  (hr:∀ s∈r,∀ j v,s.cs[j]? = some v→G' s.b (s.off+j)=some v):RS E G' a cap l:=by
 obtain ⟨css,h1,h2,h3⟩:=h.ex
 refine ⟨h3.le,hb,h3.max,?_,?_,?_⟩
 ·
  intro ha
  rcases h3.shape with ⟨_,hc,_⟩ | ⟨b,off,spare,hx,_⟩
  · exact hc
  · rw [ha] at hx;cases hx
 ·
  intro ad ha
  rcases h3.shape with ⟨hx,_,_⟩ | ⟨b,off,spare,hx,_⟩
  · rw [ha] at hx;cases hx
  · rw [ha] at hx;cases hx;exact fun _=>rfl
 ·
  intro ad ha i x hx
  rcases h3.shape with ⟨hx',_,_⟩ | ⟨b,off,spare,hx',hre,_⟩
  · rw [ha] at hx';cases hx'
  ·
   rw [ha] at hx'
   cases hx'
   obtain ⟨cs,h4,h5⟩:=h2 i x hx
   refine ⟨cs,E.mono hle h5,fun j v hv=>?_⟩
   have hg:=JaX (Jaf h1 h2) i cs j v h4 hv
   have:=hr (Sg b off (css.flatten++spare)) (by rw [hre];simp) (i*E.sz+j) v (by
    rw [Hj (Ha.1 hg).1];exact hg)
   simpa [HE] using this
section
variable {C:Cx} {Q:Bq} {fr:Bf} {G:J5} {L:Bl} {ops:Bp} {rest:List Oper} {o:Oper}
def Ja6 (P:Program) (fr:Bf) (o:Oper) (e sz bytes:Nat):Option (Value×Value) :=
  match o.op with
  | .call c=>(match c.callee,c.args.toList,c.argTypes.toList with
    | .builtin .append,[s,x],[t,u] =>
      (match P.underlying t,P.info? e with
       | some (.slice e'),some inf=>(match inf.zero with
          | some z=>bif He t u && He e' e && He inf.size sz && He inf.bytes bytes && He z.cells.size sz then some (W6 fr s,W6 fr x) else none
          | none=>none)
       | _,_=>none)
    | _,_,_=>none)
  | _=>none
theorem Jfg {P:Program} {e sz bytes:Nat} {a ax:Ba} {n cap m c:Nat} (h:Ja6 P fr o e sz bytes=some (.slice a n cap,.slice ax m c)) :
  ∃ t ty inf z,P.underlying t=some (.slice e)∧P.info? e=some inf∧inf.zero=some z∧z.cells.size=inf.size∧inf.size=sz∧inf.bytes=bytes ∧
   ∀ w,(execOp (W6 fr) o).run P w=((Builtin.append_ #[t,t] ty #[.slice a n cap,.slice ax m c]).run P w).andThen fun v w'=>.ok (.value v) w':=by
 unfold Ja6 at h
 split at h
 case h_2=>cases h
 rename_i cl hop
 split at h
 case h_2=>cases h
 rename_i s x t u hcal hargs htys
 split at h
 case h_2=>cases h
 rename_i e' inf hu hi
 split at h
 case h_2=>cases h
 rename_i z hz
 cases hc:(He t u && He e' e && He inf.size sz && He inf.bytes bytes && He z.cells.size sz) with
 | false=>rw [hc] at h;cases h
 | true =>
  rw [hc] at h
  simp only [cond_true,Hm.injEq,Hs.injEq] at h
  simp only [Hg] at hc
  obtain ⟨⟨⟨⟨c1,c2⟩,c3⟩,c4⟩,c5⟩:=hc
  obtain rfl:=Hb c1
  obtain rfl:=Hb c2
  obtain rfl:=Hb c3
  obtain rfl:=Hb c4
  have ha:cl.args=#[s,x]:=by rw [← hargs]
  have ht:cl.argTypes=#[t,t]:=by rw [← htys]
  refine ⟨t,o.type,inf,z,hu,hi,hz,Hb c5,rfl,rfl,fun w=>?_⟩
  unfold execOp
  simp only [hop,hcal,ha,ht,resolve,invoke,builtin,Hh,Hr,Hd,HU,HS,H7,h.1,h.2]
theorem Jha {α:Type} {E:YR α} {a ax:Ba} {cap capx:Nat} {l ys:List α} {r:Bg} (d e i:Nat) (hr:JR E G a cap l r) (hy:RS E G ax capx ys)
  (h63:l.length+ys.length≤9223372036854775807) (hby:l.length+ys.length≤cap∨(l.length+ys.length)*E.bytes≤140737488355328∨(cap=0∧(l.length+ys.length)*E.bytes≤281474976710656))
  (h:∀ a' cap' r',JR E G a' cap' (l++ys) r'→(l.length+ys.length≤cap→a'=a∧cap'=cap)→KA C ops Q rest ((d,Sl a' (l.length+ys.length) cap')::fr) G (L.set i r'))
  (hL:L[i]? = some r:=by rfl)
  (hb:base C.n ops fr o d=true:=by as_aux_lemma=>kernel_rfl)
  (hc:Ja6 C.P fr o e E.sz E.bytes=some (Sl a l.length cap,Sl ax ys.length capx):=by as_aux_lemma=>kernel_rfl):KA C ops Q (o::rest) fr G L:=by
 obtain ⟨t,ty,inf,z,hu,hi,hz,hzs,hsz,hbs,hrun⟩:=Jfg hc
 obtain ⟨css,c1,c2,c3⟩:=hr.ex
 -- the cells of the second one
 have hcell:∃ dss:List Bv,dss.length=ys.length∧(∀ (k:Nat) y,ys[k]? = some y→∃ cs,dss[k]? = some cs∧E.R G cs y) ∧
   (∀ ad,ax=some ad→∀ (k:Nat) cs (j:Nat) v,dss[k]? = some cs→cs[j]? = some v→G ad.block (ad.off+k*E.sz+j)=some v):=by
  cases ax with
  | none =>
   have:ys=[]:=Hv (by have:=hy.nil rfl;have:=hy.le;omega)
   subst this
   exact ⟨[],rfl,by simp,by simp⟩
  | some ad =>
   have hch:∀ k:Nat,∃ cs,∀ y,ys[k]? = some y→E.R G cs y∧∀ j v,cs[j]? = some v→G ad.block (ad.off+k*E.sz+j)=some v:=by
    intro k
    cases hk:ys[k]? with
    | none=>exact ⟨[],by simp⟩
    | some y=>obtain ⟨cs,p1,p2⟩:=hy.elem ad rfl k y hk;exact ⟨cs,fun y' hy'=>by cases hy';exact ⟨p1,p2⟩⟩
   let f:Nat→Bv:=fun k=>Classical.choose (hch k)
   have hf:∀ (k:Nat) y,ys[k]? = some y→E.R G (f k) y∧∀ j v,(f k)[j]? = some v→G ad.block (ad.off+k*E.sz+j)=some v:=fun k=>Classical.choose_spec (hch k)
   refine ⟨(MM ys.length).map f,by simp,?_,?_⟩
   ·
    intro k y hk
    have hlt:=(Ha.1 hk).1
    exact ⟨f k,by simp [hlt],(hf k y hk).1⟩
   ·
    intro ad' had k cs j v hk hv
    cases had
    have hlt:k<ys.length:=by have:=(Ha.1 hk).1;simpa using this
    have hcs:f k=cs:=by simpa [hlt] using hk
    rw [← hcs] at hv
    exact (hf k _ (Hc hlt)).2 j v hv
 obtain ⟨dss,d1,d2,d3⟩:=hcell
 have dsz:=Jaf d1 d2
 refine QE d hb (fun w hw=>?_)
 have hreads:JiD inf.size w ax ys.length dss.flatten:=by
  refine ⟨by rw [K3 dsz,d1,hsz],fun ha=>by have:=hy.nil ha;have:=hy.le;omega,fun ad ha j v hv=>?_⟩
  have hsp:=hy.spot ad ha (by
   have hj:=(Ha.1 hv).1
   rw [K3 dsz] at hj
   have h0:0<ys.length:=by
    rcases HX ys.length with h0 | h0
    · rw [d1,h0] at hj;omega
    · exact h0
   have:=hy.le;omega)
  obtain ⟨ab,ao,asp⟩:=ad
  simp only at hsp
  subst hsp
  rw [Wv]
  refine hw.mem _ _ _ ?_
  have hj:=(Ha.1 hv).1
  rw [K3 dsz] at hj
  have hpos:0<E.sz:=by
   rcases HX E.sz with h0 | h0
   · rw [h0] at hj;omega
   · exact h0
  have hk:j / E.sz<dss.length:=(Nat.div_lt_iff_lt_mul hpos).2 hj
  have hmod:=Nat.mod_lt j hpos
  have hcs:=dsz _ (Hn hk)
  have hget:(dss[j / E.sz])[j % E.sz]? = some v:=by
   have:=JaX dsz (j / E.sz) _ (j % E.sz) ((dss[j / E.sz])[j % E.sz]'(by omega)) (Hc hk) (Hc (by omega))
   rw [Nat.div_add_mod' j E.sz,hv] at this
   rw [Hc (by omega)];exact this.symm
  have:=d3 _ ha (j / E.sz) _ (j % E.sz) v (Hc hk) hget
  simp only at this
  rwa [HE,Nat.div_add_mod' j E.sz] at this
 have hone:∀ u∈dss.flatten,u.oneCell'=true:=by
  intro u hu
  obtain ⟨cs,hcs,huc⟩:=Hk.1 hu
  obtain ⟨k,hk,rfl⟩:=H8.1 hcs
  obtain ⟨cs',p1,p2⟩:=d2 k _ (Hc (d1 ▸ hk))
  rw [Hc hk] at p1
  simp at p1
  exact E.one p2 u (p1 ▸ huc)
 rw [← hsz] at c3
 obtain ⟨a',cap',r',w',q1,q2,q3,q4⟩:=hw.append (P:=C.P) hL (ty:=ty) hu hi hz hzs c3 (c:=capx) hreads hone h63 (by rw [hbs];exact hby)
 refine ⟨_,w',G,_,by rw [hrun,q1];rfl,q2,h a' cap' r' ⟨⟨css++dss,by simp [c1,d1],?_,?_⟩⟩ q4⟩
 ·
  intro k x hx
  by_cases hlt:k<l.length
  ·
   rw [Hj hlt] at hx
   obtain ⟨cs,p1,p2⟩:=c2 k x hx
   exact ⟨cs,by rw [Hj (by omega)];exact p1,p2⟩
  ·
   rw [Hq (by omega)] at hx
   obtain ⟨cs,p1,p2⟩:=d2 _ x hx
   exact ⟨cs,by rw [Hq (by omega),c1];exact p1,p2⟩
 · rw [Ht,Hf,← hsz];exact q3
theorem Jnx {α:Type} {E:YR α} {a ax:Ba} {cap capx:Nat} {l ys:List α} {r:Bg} (d e i:Nat) (hr:JR E G a cap l r) (hy:RS E G ax capx ys)
  (h63:l.length+ys.length≤9223372036854775807) (hby:(l.length+ys.length)*E.bytes≤140737488355328)
  (h:∀ a' cap' r',JR E G a' cap' (l++ys) r'→KA C ops Q rest ((d,Sl a' (l.length+ys.length) cap')::fr) G (L.set i r'))
  (hL:L[i]? = some r:=by rfl)
  (hb:base C.n ops fr o d=true:=by as_aux_lemma=>kernel_rfl)
  (hc:Ja6 C.P fr o e E.sz E.bytes=some (Sl a l.length cap,Sl ax ys.length capx):=by as_aux_lemma=>kernel_rfl):KA C ops Q (o::rest) fr G L :=
 Jha d e i hr hy h63 (.inr (.inl hby)) (fun a' c' r' ht _=>h a' c' r' ht) hL hb hc
theorem Jl9 {α:Type} {E:YR α} {a:Ba} {cap:Nat} {l:List α} {r:Bg} (d e i j:Nat) {b:Nat} {cs:Bv} (x:α) (hr:JR E G a cap l r) (hx:E.R G cs x)
  (h63:l.length+1≤9223372036854775807) (hby:(l.length+1)*E.bytes≤140737488355328)
  (h:∀ a' cap' r',JR E G a' cap' (l++[x]) r'→KA C ops Q rest ((d,Sl a' (l.length+1) cap')::fr) G (L.set i r'))
  (hL:L[i]? = some r:=by rfl) (hj:L[j]? = some [Sg b 0 cs]:=by rfl)
  (hb:base C.n ops fr o d=true:=by as_aux_lemma=>kernel_rfl)
  (hc:Ja6 C.P fr o e E.sz E.bytes=some (Sl a l.length cap,Sl (At b 0) 1 1):=by as_aux_lemma=>kernel_rfl):KA C ops Q (o::rest) fr G L:=by
 obtain ⟨t,ty,inf,z,hu,hi,hz,hzs,hsz,hbs,hrun⟩:=Jfg hc
 obtain ⟨css,c1,c2,c3⟩:=hr.ex
 refine QE d hb (fun w hw=>?_)
 have hms:(Sg b 0 cs)∈L.flatten:=by
  obtain ⟨hi',he⟩:=Ha.1 hj
  exact Hk.2 ⟨_,he ▸ Hn hi',by simp⟩
 have hown:=(hw.own _ hms).2.1
 simp only [HC] at hown
 have hreads:JiD inf.size w (At b 0) 1 cs:=by
  refine ⟨by rw [E.len hx,hsz];simp,by simp,fun ad ha k v hv=>?_⟩
  cases ha
  rw [Wv,HC];exact (hown k v hv).1
 rw [← hsz] at c3
 obtain ⟨a',cap',r',w',q1,q2,q3,_⟩:=hw.append (P:=C.P) hL (ty:=ty) hu hi hz hzs c3 (c:=1) hreads (E.one hx) h63 (.inr (.inl (by rw [hbs];exact hby)))
 refine ⟨_,w',G,_,by rw [hrun,q1];rfl,q2,h a' cap' r' ⟨⟨css++[cs],by simp [c1],?_,?_⟩⟩⟩
 ·
  intro k y hy
  by_cases hlt:k<l.length
  ·
   rw [Hj hlt] at hy
   obtain ⟨cs',p1,p2⟩:=c2 k y hy
   exact ⟨cs',by rw [Hj (by omega)];exact p1,p2⟩
  ·
   rw [Hq (by omega)] at hy
   have hk:k-l.length=0:=by
    have:=(Ha.1 hy).1;simp at this;omega
   rw [hk] at hy
   obtain rfl:x=y:=by simpa using hy
   exact ⟨cs,by rw [Hq (by omega),c1,hk];rfl,hx⟩
 · rw [Ht,Hf,← hsz];simpa using q3
end
def wr (ops:Bp) (t:Nat):List Nat:=(MM ops.size).filter fun j=>match ops[j]? with | some o=>(match o.dst with | some d=>He d t | none=>false) | none=>false
def JaC (ops:Bp) (i:Nat):List Nat:=match ops[i]? with | some o=>(o.after.toList.filter (Region.binds .any)).map (·.on) | none=>[]
def VA (i:Nat):List Nat→Bool
 | []=>false
 | j::l=>He j i || VA i l
theorem Z2 {i : Nat} {l : List Nat} : VA i l = true ↔ i ∈ l := by
  induction l with
  | nil => simp [VA]
  | cons j l ih => simp only [VA, HZ, ih, MN]; constructor
                   · rintro (h | h)
                     · exact .inl (Hb h).symm
                     · exact .inr h
                   · rintro (rfl | h)
                     · exact .inl (Mv i)
                     · exact .inr h
def opv (ops:Bp) (f0 V:Bf) (i t:Nat):Option Value :=
 match wr ops t with
 | []=>Qf f0 t
 | [j]=>bif He j i then Qf f0 t else bif VA j (JaC ops i) then Qf V j else bif VA i (JaC ops j) then Qf f0 t else none
 | _=>none
def finv (ops:Bp) (f0 V:Bf) (t:Nat):Option Value :=
 match wr ops t with
 | []=>Qf f0 t
 | [j]=>Qf V j
 | _=>none
structure FrX (n:Nat) (D:List Deferred) (ops:Bp) (f0 V:Bf) (ls:Array Bool) (a:Act):Prop where
 size:a.tmps.size=n
 defers:a.defers=D
 old:∀ t v,Qf f0 t=some v→(∀ j o,ops[j]? = some o→ls.getD j false=true→o.dst ≠ some t)→a.tmps[t]? = some v
 new:∀ j o d v,ops[j]? = some o→ls.getD j false=true→o.dst=some d→Qf V j=some v→a.tmps[d]? = some v
 has:∀ j o d,ops[j]? = some o→ls.getD j false=true→o.dst=some d→∃ v,Qf V j=some v
def Jdk (a:Act):Bf:=a.tmps.toList.zipIdx.map fun p=>(p.2,p.1)
theorem JgD (l:Bv):∀ (k t:Nat),Qf ((l.zipIdx k).map fun p=>(p.2,p.1)) t=if k≤t then l[t-k]? else none:=by
 induction l with
 | nil=>intro k t;simp [Qf]
 | cons v l ih =>
  intro k t
  simp only [List.zipIdx_cons,HS,Qf,ih]
  cases hb:He k t with
  | true=>have:=Hb hb;subst this;simp
  | false =>
   have hne:¬ k=t:=fun e=>by rw [e] at hb;simp at hb
   simp only [cond_false]
   by_cases h:k≤t
   · rw [if_pos h,if_pos (by omega),show t-k=(t-(k+1))+1 by omega,List.getElem?_cons_succ]
   · rw [if_neg h,if_neg (by omega)]
theorem Jd6 (a:Act) (t:Nat):Qf (Jdk a) t=a.tmps[t]?:=by
 unfold Jdk;rw [JgD];simp
theorem Fr.addFull {n:Nat} {D:List Deferred} {a:Act} {nd:Bf} (h:Fr n D a nd):Fr n D a (nd++Jdk a):=by
 refine ⟨h.size,h.defers,fun t v hv=>?_⟩
 rw [Yr] at hv
 cases hl:Qf nd t with
 | some u=>rw [hl] at hv;simp at hv;subst hv;exact h.slot t _ hl
 | none=>rw [hl] at hv;simp only [MF] at hv;rw [Jd6] at hv;exact hv
theorem Fr.same {n:Nat} {D:List Deferred} {a a':Act} {nd:Bf} {d:Nat} {v:Value} (h:Fr n D a nd) (h':Fr n D a' ((d,v)::(nd++Jdk a))) :
  a'.tmps[d]? = some v∧∀ t:Nat,t ≠ d→a'.tmps[t]? = a.tmps[t]?:=by
 refine ⟨h'.slot d v (by simp [Qf]),fun t ht=>?_⟩
 by_cases hlt:t<n
 ·
  have hlt':t<a.tmps.size:=by rw [h.size];exact hlt
  have hx:a.tmps[t]? = some a.tmps[t]:=HB hlt'
  rw [hx]
  refine h'.slot t _ ?_
  have hb:He d t=false:=by cases hb:He d t with | false=>rfl | true=>exact (ht (Hb hb).symm).elim
  simp only [Qf,hb,cond_false]
  rw [Yr]
  cases hl:Qf nd t with
  | some u=>simp;have:=h.slot t u hl;rw [hx] at this;exact (Hm.inj this).symm
  | none=>simp only [MF];rw [Jd6,hx]
 · rw [HV (by rw [h'.size];omega),HV (by rw [h.size];omega)]
theorem Fr.same0 {n:Nat} {D:List Deferred} {a a':Act} {nd:Bf} (h:Fr n D a nd) (h':Fr n D a' (nd++Jdk a)):∀ t:Nat,a'.tmps[t]? = a.tmps[t]?:=by
 intro t
 by_cases hlt:t<n
 ·
  have hlt':t<a.tmps.size:=by rw [h.size];exact hlt
  have hx:a.tmps[t]? = some a.tmps[t]:=HB hlt'
  rw [hx]
  refine h'.slot t _ ?_
  rw [Yr]
  cases hl:Qf nd t with
  | some u=>simp;have:=h.slot t u hl;rw [hx] at this;exact (Hm.inj this).symm
  | none=>simp only [MF];rw [Jd6,hx]
 · rw [HV (by rw [h'.size];omega),HV (by rw [h.size];omega)]
theorem Jd7 {ops:Bp} {t j:Nat}:j∈wr ops t ↔ ∃ o,ops[j]? = some o∧o.dst=some t:=by
 unfold wr
 simp only [Mm,H0]
 constructor
 ·
  rintro ⟨h1,h2⟩
  rw [HB h1] at h2 ⊢
  simp only at h2
  cases hd:ops[j].dst with
  | none=>rw [hd] at h2;cases h2
  | some d=>rw [hd] at h2;exact ⟨_,rfl,by rw [hd,Hb h2]⟩
 ·
  rintro ⟨o,h1,h2⟩
  refine ⟨(Hp.1 h1).1,?_⟩
  rw [h1];simp [h2]
def JhL (ops:Bp) (f0 V:Bf) (i:Nat) (nd:Bf):Prop:=(nd.map fun p=>opv ops f0 V i p.1)=nd.map fun p=>some p.2
theorem FrX.need {n:Nat} {D:List Deferred} {ops:Bp} {f0 V:Bf} {ls:Array Bool} {a:Act} (h:FrX n D ops f0 V ls a) {i:Nat}
  (hi:ls.getD i false=false) (hp:∀ k∈JaC ops i,ls.getD k false=true) (hnot:∀ j,i∈JaC ops j→ls.getD j false=false)
  {nd:Bf} (hn:JhL ops f0 V i nd):Fr n D a nd:=by
 have hall:=HG.1 hn
 have hv:∀ t v,opv ops f0 V i t=some v→a.tmps[t]? = some v:=by
  intro t v hv
  unfold opv at hv
  split at hv
  ·
   rename_i hw
   refine h.old t v hv (fun j o ho _ hd=>?_)
   have:j∈wr ops t:=Jd7.2 ⟨o,ho,hd⟩
   rw [hw] at this;simp at this
  ·
   rename_i j hw
   have hj:j∈wr ops t:=by rw [hw];simp
   obtain ⟨o,ho,hd⟩:=Jd7.1 hj
   have hold:ls.getD j false=false→Qf f0 t=some v→a.tmps[t]? = some v:=by
    intro hf hl
    refine h.old t v hl (fun j' o' ho' hlj hd'=>?_)
    have:j'∈wr ops t:=Jd7.2 ⟨o',ho',hd'⟩
    rw [hw] at this
    simp at this
    rw [this,hf] at hlj;cases hlj
   cases h1:He j i with
   | true =>
    rw [h1] at hv
    simp only [cond_true] at hv
    exact hold (by rw [Hb h1];exact hi) hv
   | false =>
    rw [h1] at hv
    simp only [cond_false] at hv
    cases h2:VA j (JaC ops i) with
    | true =>
     rw [h2] at hv
     exact h.new j o t v ho (hp j (Z2.1 h2)) hd hv
    | false =>
     rw [h2] at hv
     simp only [cond_false] at hv
     cases h3:VA i (JaC ops j) with
     | true=>rw [h3] at hv;exact hold (hnot j (Z2.1 h3)) hv
     | false=>rw [h3] at hv;cases hv
  · cases hv
 refine ⟨h.size,h.defers,fun t v hl=>?_⟩
 have key:∀ l:Bf,Qf l t=some v→∃ p∈l,p.1=t∧p.2=v:=by
  intro l
  induction l with
  | nil=>intro h;cases h
  | cons p l ih =>
   obtain ⟨k,u⟩:=p
   intro hl
   simp only [Qf] at hl
   cases hb:He k t with
   | true=>rw [hb] at hl;simp at hl;exact ⟨(k,u),by simp,Hb hb,hl⟩
   | false=>rw [hb] at hl;simp at hl;obtain ⟨p,hp,r⟩:=ih hl;exact ⟨p,by simp [hp],r⟩
 obtain ⟨p,hpm,rfl,rfl⟩:=key nd hl
 exact hv _ _ (hall p hpm)
def Lsd (ops:Bp) (ls:Array Bool):Prop:=ls.size=ops.size∧∀ j,ls.getD j false=true→∀ k∈JaC ops j,ls.getD k false=true
def left (ls:Array Bool):Nat:=(ls.toList.filter (! ·)).length
section
variable {C:Cx} {Q:Bq} {ops:Bp}
def JfE (C:Cx) (ops:Bp) (Q:Bq) (f0 V:Bf) (A dn:List Nat) (G:J5) (L:Bl):Prop :=
 ∀ fuel ls a w,Lsd ops ls→left ls≤fuel→(∀ j∈A,ls.getD j false=true ↔ j∈dn)→FrX C.n C.D ops f0 V ls a→St C.w0 C.G0 w G L→wpAny C.P .any ops Q fuel ls a w
def Stab (C:Cx) (ops:Bp) (Q:Bq) (f0 V:Bf) (G:J5) (L:Bl) (j:Nat):Prop :=
 ∃ o nd d v,ops[j]? = some o∧JhL ops f0 V j nd∧o.dst=some d∧Qf V j=some v ∧
  ∀ X,KA C ops (Exit.then (fun a' w'=>Fr C.n C.D a' ((d,v)::(nd++X))∧St C.w0 C.G0 w' G L) Q) [o] (nd++X) G L
def ActK (C:Cx) (ops:Bp) (Q:Bq) (f0 V:Bf) (A dn:List Nat) (i:Nat) (o:Oper) (nd X:Bf):Bq :=
 (Exit.then (fun a' w'=>∃ V' G' L',(∀ k v,k ≠ i→Qf V k=some v→Qf V' k=some v) ∧
   (match o.dst with | some d=>∃ v,Qf V' i=some v∧Fr C.n C.D a' ((d,v)::(nd++X)) | none=>Fr C.n C.D a' (nd++X)) ∧
   St C.w0 C.G0 w' G' L'∧JfE C ops Q f0 V' A (i::dn) G' L') Q)
def ActS (C:Cx) (ops:Bp) (Q:Bq) (f0 V:Bf) (A dn:List Nat) (G:J5) (L:Bl) (i:Nat):Prop :=
 ∃ o nd,ops[i]? = some o∧JhL ops f0 V i nd ∧
  ∀ X,KA C ops (ActK C ops Q f0 V A dn i o nd X) [o] (nd++X) G L
theorem Jz {C:Cx} {Q:Bq} {ops:Bp} {f0 V:Bf} {A dn:List Nat} {G:J5} {L:Bl} (i:Nat) {o:Oper} (nd:Bf)
  (h:∀ X,KA C ops (ActK C ops Q f0 V A dn i o nd X) [o] (nd++X) G L)
  (ho:ops[i]? = some o:=by rfl) (hn:JhL ops f0 V i nd:=by unfold JhL;as_aux_lemma=>kernel_rfl):ActS C ops Q f0 V A dn G L i:=⟨o,nd,ho,hn,h⟩
theorem JeJ {i:Nat} {o:Oper} (ho:ops[i]? = some o) {K:Act→World→Prop} {a:Act} {w:World} (h:wpList C.P ops (Exit.then K Q) [o] a w):wpOp C.P ops Q i K a w:=by
 unfold wpOp
 rw [ho]
 simp only
 unfold wpList at h
 split
 ·
  rename_i hw
  rw [if_pos hw] at h
  have hQ:∀ (e:Exit) a w,e ≠ .normal→Exit.then K Q e a w→Q e a w:=fun e a w hne h=>by cases e <;> first | exact (hne rfl).elim | exact h
  rcases h with h | ⟨h1,a0,w0,h2⟩
  ·
   refine .inl ?_
   unfold Oper.wp at h ⊢
   generalize (execOp a.eval o).run C.P w=r at h ⊢
   cases r with
   | ok x w' =>
    cases x <;> simp only [Oper.upon] at h ⊢ <;> first
     | exact h
     | (refine Calls.mono h (fun e w'' he=>?_);cases e <;> first | exact he | (obtain ⟨a0,w0,h2⟩:=he;exact ⟨a0,w0,h2⟩))
   | halt x w'=>cases x <;> simp only [Oper.upon] at h ⊢ <;> exact h
  · exact .inr ⟨h1,a0,w0,h2⟩
 ·
  rename_i hw
  rw [if_neg hw] at h
  exact h
theorem JaD {ls:Array Bool} {i j:Nat} (h:i<ls.size):(ls.setIfInBounds i true).getD j false=if j=i then true else ls.getD j false:=by
 simp only [HA,H5]
 by_cases e:i=j
 · subst e;simp [h]
 · rw [if_neg e,if_neg (fun x=>e x.symm)]
theorem Jny {ls:Array Bool} {i:Nat} (h:i<ls.size) (hf:ls.getD i false=false):left (ls.setIfInBounds i true)+1=left ls:=by
 unfold left
 obtain ⟨l⟩:=ls
 simp only [List.setIfInBounds_toArray] 
 simp only [HA,List.getElem?_toArray] at hf
 simp only [List.size_toArray] at h
 induction l generalizing i with
 | nil=>simp at h
 | cons b l ih =>
  cases i with
  | zero=>simp at hf;subst hf;simp
  | succ i =>
   have:=ih (i:=i) (by simpa using hf) (by simpa using h)
   cases b <;> simp at this ⊢ <;> omega
theorem Jma {ls:Array Bool} (h:left ls=0) {j:Nat} (hj:j<ls.size):ls.getD j false=true:=by
 unfold left at h
 have h0:=Hv h
 have:=List.filter_eq_nil_iff.1 h0 ls[j] (by simp)
 rw [HA,HB hj]
 simpa using this
theorem Jd8 {ls:Array Bool} {i:Nat} (hs:ls.size=ops.size):i∈Region.ready .any ops ls ↔ i<ops.size∧ls.getD i false=false∧∀ k∈JaC ops i,ls.getD k false=true:=by
 unfold Region.ready
 simp only [Mm,H0]
 constructor
 ·
  rintro ⟨h1,h2⟩
  rw [HB h1] at h2
  simp only [HQ,HL,Hg,Mh,Mk,HZ] at h2
  refine ⟨h1,?_,fun k hk=>?_⟩
  ·
   have:i<ls.size:=by omega
   simpa [HA,this] using h2.1
  ·
   unfold JaC at hk
   rw [HB h1] at hk
   simp only [Mf,Mm,MI] at hk
   obtain ⟨e,⟨he,hb⟩,rfl⟩:=hk
   rcases h2.2 e he with hx | hx
   · rw [hb] at hx;cases hx
   · exact hx
 ·
  rintro ⟨h1,h2,h3⟩
  refine ⟨h1,?_⟩
  rw [HB h1]
  simp only [HQ,HL,Hg,Mh,Mk,HZ]
  refine ⟨?_,fun e he=>?_⟩
  ·
   have:i<ls.size:=by omega
   simpa [HA,this] using h2
  ·
   cases hb:Region.binds .any e with
   | false=>exact .inl rfl
   | true =>
    refine .inr (h3 e.on ?_)
    unfold JaC
    rw [HB h1]
    simp only [Mf,Mm,MI]
    exact ⟨e,⟨he,hb⟩,rfl⟩
def drOK (ops:Bp) (dn old avl nxt:List Nat):Bool :=
 (MM ops.size).all fun i=>(JaC ops i).all (fun k=>HH k i) &&
  (match (ops[i]?).bind (·.dst) with | some d=>(wr ops d).all (fun k=>He k i) | none=>true) &&
  (VA i dn || VA i old || VA i avl || VA i nxt || (JaC ops i).any (fun k=>!(VA k dn || VA k old || VA k avl)))
def Jhb (ops:Bp) (dn:List Nat):List Nat→Bool
 | []=>true
 | i::r=>(dn++r).any (fun k=>VA i (JaC ops k)) && Jhb ops dn r
theorem Jj7 {ops:Bp} {dn:List Nat} {ls:Array Bool} (hls:Lsd ops ls) (hdn:∀ k∈dn,ls.getD k false=true):∀ l,Jhb ops dn l=true→∀ i∈l,ls.getD i false=true:=by
 intro l
 induction l with
 | nil=>intro _ i hi;simp at hi
 | cons x r ih =>
  intro h i hi
  simp only [Jhb,Hg] at h
  have hr:=ih h.2
  rcases MN.1 hi with rfl | hi
  ·
   obtain ⟨k,hk,hm⟩:=Mt.1 h.1
   have hlk:ls.getD k false=true:=by
    rcases HI.1 hk with hk | hk
    · exact hdn k hk
    · exact hr k hk
   exact hls.2 k hlk i (Z2.1 hm)
  · exact hr i hi
theorem FrX.step {n:Nat} {D:List Deferred} {f0 V V':Bf} {ls:Array Bool} {a a':Act} (h:FrX n D ops f0 V ls a) {i:Nat} {o:Oper} (ho:ops[i]? = some o) (hls:i<ls.size)
  (hwr:∀ d,o.dst=some d→∀ k∈wr ops d,k=i) (hV:∀ k v,k ≠ i→Qf V k=some v→Qf V' k=some v)
  (hsz:a'.tmps.size=n) (hdf:a'.defers=D)
  (hst:match o.dst with | some d=>(∃ v,Qf V' i=some v∧a'.tmps[d]? = some v)∧∀ t:Nat,t ≠ d→a'.tmps[t]? = a.tmps[t]? | none=>∀ t:Nat,a'.tmps[t]? = a.tmps[t]?) :
  FrX n D ops f0 V' (ls.setIfInBounds i true) a':=by
 refine ⟨hsz,hdf,fun t v hv hno=>?_,fun j oj d v hoj hlj hd hv=>?_,fun j oj d hoj hlj hd=>?_⟩
 ·
  have hne:o.dst ≠ some t:=hno i o ho (by rw [JaD hls];simp)
  have:=h.old t v hv (fun j oj hoj hlj=>hno j oj hoj (by rw [JaD hls];split <;> simp [hlj]))
  cases hd:o.dst with
  | none=>rw [hd] at hst;rw [hst t];exact this
  | some d=>rw [hd] at hst;rw [hst.2 t (fun e=>hne (by rw [hd,e]))];exact this
 ·
  rw [JaD hls] at hlj
  by_cases e:j=i
  ·
   subst e
   rw [ho] at hoj
   cases hoj
   rw [hd] at hst
   obtain ⟨⟨u,hu,hx⟩,_⟩:=hst
   rw [hu] at hv
   cases hv;exact hx
  ·
   rw [if_neg e] at hlj
   obtain ⟨v0,hv0⟩:=h.has j oj d hoj hlj hd
   have hv1:=hV j v0 e hv0
   rw [hv] at hv1
   cases hv1
   have hold:=h.new j oj d v hoj hlj hd hv0
   cases hd':o.dst with
   | none=>rw [hd'] at hst;rw [hst d];exact hold
   | some d' =>
    rw [hd'] at hst
    rw [hst.2 d (fun ed=>e (hwr d' hd' j (Jd7.2 ⟨oj,hoj,by rw [hd,ed]⟩)))];exact hold
 ·
  rw [JaD hls] at hlj
  by_cases e:j=i
  ·
   subst e
   rw [ho] at hoj
   cases hoj
   rw [hd] at hst
   obtain ⟨⟨u,hu,_⟩,_⟩:=hst
   exact ⟨u,hu⟩
  ·
   rw [if_neg e] at hlj
   obtain ⟨v0,hv0⟩:=h.has j oj d hoj hlj hd
   exact ⟨v0,hV j v0 e hv0⟩
theorem Jlj {f0 V:Bf} {A dn:List Nat} {G:J5} {L:Bl} (old avl nxt:List Nat)
  (hst:∀ j∈avl,Stab C ops Q f0 V G L j) (hact:∀ i∈nxt,ActS C ops Q f0 V A dn G L i)
  (hfin:(∀ i∈A,i∈dn)→∀ a w ls,(∀ j,j<ops.size→ls.getD j false=true)→FrX C.n C.D ops f0 V ls a→St C.w0 C.G0 w G L→Q .normal a w)
  (hok:drOK ops dn old avl nxt=true) (hold:Jhb ops dn old=true) (hA:(nxt.all (fun i=>VA i A) && (avl.all fun j=>!VA j A) && (dn.all fun j=>VA j A) && (A.all fun j=>HH j ops.size))=true):JfE C ops Q f0 V A dn G L:=by
 have hform:=Hl.1 hok
 simp only [Hg] at hA
 obtain ⟨⟨⟨hA1,hA2⟩,hA3⟩,hA4⟩:=hA
 replace hA1:=Hl.1 hA1
 replace hA2:=Hl.1 hA2
 replace hA3:=Hl.1 hA3
 replace hA4:=Hl.1 hA4
 have back:∀ i,i<ops.size→∀ k∈JaC ops i,k<i:=fun i hi k hk=>by
  have:=hform i (H0.2 hi)
  simp only [Hg] at this
  exact Hi (Hl.1 this.1.1 k hk)
 have once:∀ i o d,ops[i]? = some o→o.dst=some d→∀ k∈wr ops d,k=i:=fun i o d ho hd k hk=>by
  have hi:=(Hp.1 ho).1
  have:=hform i (H0.2 hi)
  simp only [Hg] at this
  have h2:=this.1.2
  rw [ho] at h2
  simp only [Ml,hd] at h2
  exact Hb (Hl.1 h2 k hk)
 intro fuel
 induction fuel with
 | zero =>
  intro ls a w hls hl hdn hfr hw
  have hall:∀ j,j<ops.size→ls.getD j false=true:=fun j hj=>Jma (by omega) (by rw [hls.1];exact hj)
  refine ⟨?_,hfin (fun i hi=>(hdn i hi).1 (hall i (Hi (hA4 i hi)))) a w ls hall hfr hw⟩
  refine List.eq_nil_iff_forall_not_mem.2 (fun i hi=>?_)
  obtain ⟨h1,h2,_⟩:=(Jd8 hls.1).1 hi
  rw [hall i h1] at h2;cases h2
 | succ fuel ih =>
  intro ls a w hls hl hdn hfr hw
  refine ⟨fun hnil=>?_,fun i hi=>?_⟩
  ·
   have hall:∀ j,j<ops.size→ls.getD j false=true:=by
    intro j
    induction j using Mx with
    | _ j ihj =>
     intro hj
     cases hx:ls.getD j false with
     | true=>rfl
     | false =>
      have:j∈Region.ready .any ops ls:=(Jd8 hls.1).2 ⟨hj,hx,fun k hk=>ihj k (back j hj k hk) (by have:=back j hj k hk;omega)⟩
      rw [hnil] at this;simp at this
   exact hfin (fun i hi=>(hdn i hi).1 (hall i (Hi (hA4 i hi)))) a w ls hall hfr hw
  ·
   obtain ⟨h1,h2,h3⟩:=(Jd8 hls.1).1 hi
   have hlsz:i<ls.size:=by rw [hls.1];exact h1
   have hnot:∀ j,i∈JaC ops j→ls.getD j false=false:=fun j hj=>by
    cases hx:ls.getD j false with
    | false=>rfl
    | true=>have:=hls.2 j hx i hj;rw [h2] at this;cases this
   have hls':Lsd ops (ls.setIfInBounds i true):=by
    refine ⟨by simp [hls.1],fun j hj k hk=>?_⟩
    rw [JaD hlsz] at hj ⊢
    split
    · rfl
    ·
     by_cases e:j=i
     · subst e;exact h3 k hk
     · rw [if_neg e] at hj;exact hls.2 j hj k hk
   have hleft:=Jny hlsz h2
   -- all that is listed is done or steady
   have hin:∀ k,k<ops.size→ls.getD k false=true→(VA k dn || VA k old || VA k avl)=true:=by
    intro k
    induction k using Mx with
    | _ k ihk =>
     intro hk hlk
     have:=hform k (H0.2 hk)
     simp only [Hg,HZ] at this
     rcases this.2 with (((hx | hx) | hx) | hx) | hx
     · simp [hx]
     · simp [hx]
     · simp [hx]
     · simp [Z2.2 ((hdn k (Z2.1 (hA1 k (Z2.1 hx)))).1 hlk)]
     ·
      obtain ⟨m,hm,hmm⟩:=Mt.1 hx
      have hlm:=hls.2 k hlk m hm
      rw [ihk m (back k hk m hm) (by have:=back k hk m hm;omega) hlm] at hmm
      simp at hmm
   have hcase:i∈avl∨i∈nxt:=by
    have:=hform i (H0.2 h1)
    simp only [Hg,HZ] at this
    rcases this.2 with (((hx | hx) | hx) | hx) | hx
    ·
     have hd:=Z2.1 hx
     have:=(hdn i (Z2.1 (hA3 i hd))).2 hd
     rw [h2] at this;cases this
    ·
     have:=Jj7 hls (fun k hk=>(hdn k (Z2.1 (hA3 k hk))).2 hk) old hold i (Z2.1 hx)
     rw [h2] at this;cases this
    · exact .inl (Z2.1 hx)
    · exact .inr (Z2.1 hx)
    ·
     obtain ⟨m,hm,hmm⟩:=Mt.1 hx
     rw [hin m (by have:=back i h1 m hm;omega) (h3 m hm)] at hmm
     simp at hmm
   rcases hcase with hav | hnx
   ·
    obtain ⟨o,nd,d,v,ho,hnd,hd,hv,hrun⟩:=hst i hav
    have hF:=hfr.need h2 h3 hnot hnd
    refine wpOp_mono ?_ (JeJ (C:=C) ho (hrun (Jdk a) a w hF.addFull hw))
    rintro a' w' ⟨hf',hw'⟩
    have hs:=hF.same hf'
    refine ih _ a' w' hls' (by omega) ?_ ?_ hw'
    ·
     intro j hj
     rw [JaD hlsz]
     have hne:j ≠ i:=fun e=>by have:=hA2 i hav;rw [← e] at this;simp [Z2.2 hj] at this
     rw [if_neg hne];exact hdn j hj
    · exact hfr.step ho hlsz (fun d' hd'=>once i o d' ho hd') (fun _ _ _ h=>h) hf'.size hf'.defers (by rw [hd];exact ⟨⟨v,hv,hs.1⟩,hs.2⟩)
   ·
    obtain ⟨o,nd,ho,hnd,hrun⟩:=hact i hnx
    have hF:=hfr.need h2 h3 hnot hnd
    refine wpOp_mono ?_ (JeJ (C:=C) ho (hrun (Jdk a) a w hF.addFull hw))
    rintro a' w' ⟨V',G',L',hVV,hres,hw',hdr⟩
    refine hdr fuel _ a' w' hls' (by omega) ?_ ?_ hw'
    ·
     intro j hj
     rw [JaD hlsz]
     by_cases e:j=i
     · subst e;simp
     · rw [if_neg e];rw [hdn j hj];simp [e]
    ·
     skip
     cases hd:o.dst with
     | none =>
      rw [hd] at hres
      exact hfr.step ho hlsz (fun d' hd'=>once i o d' ho hd') hVV hres.size hres.defers (by rw [hd];exact hF.same0 hres)
     | some d =>
      rw [hd] at hres
      obtain ⟨v,hv,hf'⟩:=hres
      have hs:=hF.same hf'
      exact hfr.step ho hlsz (fun d' hd'=>once i o d' ho hd') hVV hf'.size hf'.defers (by rw [hd];exact ⟨⟨v,hv,hs.1⟩,hs.2⟩)
end
section
variable {C:Cx} {Q:Bq} {ops:Bp}
theorem Kt {id:Nat} {l:List Oper} {fr:Bf} {G:J5} {L:Bl} (A:List Nat) (h:∃ V,JfE C l.toArray Q fr V A [] G L)
  (hm:C.P.follows .mixedOrders=true:=by kernel_rfl):TC C (.region id l.toArray true) Q fr G L:=by
 intro a w ha hw
 obtain ⟨V,h⟩:=h
 refine wp_region_any hm (h _ _ a _ ⟨by simp,?_⟩ ?_ ?_ ?_ hw.drew)
 ·
  intro j hj
  rw [HA,Md] at hj
  split at hj <;> cases hj
 · unfold left;simp
 ·
  intro j _
  rw [HA,Md]
  split <;> simp
 ·
  refine ⟨ha.size,ha.defers,fun t v hv _=>ha.slot t v hv,fun j o d v _ hj=>?_,fun j o d _ hj=>?_⟩ <;>
  ·
   rw [HA,Md] at hj
   split at hj <;> cases hj
theorem Jr {f0 V:Bf} {G:J5} {L:Bl} (j d:Nat) (v:Value) {o:Oper} (nd:Bf)
  (h:∀ X,KA C ops (Exit.then (fun a' w'=>Fr C.n C.D a' ((d,v)::(nd++X))∧St C.w0 C.G0 w' G L) Q) [o] (nd++X) G L)
  (ho:ops[j]? = some o:=by rfl) (hd:o.dst=some d:=by rfl) (hn:JhL ops f0 V j nd:=by unfold JhL;as_aux_lemma=>kernel_rfl) (hv:Qf V j=some v:=by as_aux_lemma=>kernel_rfl):Stab C ops Q f0 V G L j :=
 ⟨o,nd,d,v,ho,hn,hd,hv,h⟩
theorem Jp {fr:Bf} {G:J5} {L:Bl}:KA C ops (Exit.then (fun a' w'=>Fr C.n C.D a' fr∧St C.w0 C.G0 w' G L) Q) [] fr G L :=
 fun _ _ ha hw=>⟨ha,hw⟩
def tmpsOf (o:Oper) (ops:Bp):List Nat :=
 (o.op.operands.toList.filterMap fun | .tmp t=>some t | _=>none)++(match o.guard with | some (g,_)=>((ops[g]?).bind (·.dst)).toList | none=>[])
def Jbx (ops:Bp) (f0 V:Bf) (i:Nat):Bf :=
 match ops[i]? with
 | some o=>(tmpsOf o ops).filterMap fun t=>(opv ops f0 V i t).map fun v=>(t,v)
 | none=>[]
theorem Jmb (ops:Bp) (f0 V:Bf) (i:Nat):JhL ops f0 V i (Jbx ops f0 V i):=by
 unfold JhL Jbx
 split
 ·
  refine List.map_congr_left (fun p hp=>?_)
  obtain ⟨t,_,ht⟩:=List.mem_filterMap.1 hp
  cases hv:opv ops f0 V i t with
  | none=>rw [hv] at ht;cases ht
  | some v=>rw [hv] at ht;simp at ht;rw [← ht];exact hv
 · rfl
def stE (P:Program) (n:Nat) (ops:Bp) (f0 V:Bf) (L:Bl) (w:World) (X:Bf) (p:Nat×Nat):List Ent×Option Value×Bool :=
 match ops[p.1]? with
 | some o=>((Vc P n ops w [o] [p.2] (Jbx ops f0 V p.1++X) L).l,(o.dst.bind fun d=>Qf (Vc P n ops w [o] [p.2] (Jbx ops f0 V p.1++X) L).fr d),(Qf V p.1).isSome && (He p.2 0 || He p.2 1 || He (p.2 % 2) 0))
 | none=>([],none,false)
def stR (P:Program) (n:Nat) (ops:Bp) (f0 V:Bf) (L:Bl) (w:World) (X:Bf) (p:Nat×Nat):List Ent×Option Value×Bool :=
 match ops[p.1]? with
 | some o=>((Vc P n ops w [o] [p.2] (Jbx ops f0 V p.1++X) L).r,Qf V p.1,true)
 | none=>([],none,true)
theorem Jhc {f0 V:Bf} {G:J5} {L:Bl} (hs:List (Nat×Nat))
  (h:∀ w X,hs.map (stE C.P C.n ops f0 V L w X)=hs.map (stR C.P C.n ops f0 V L w X)):∀ j∈hs.map (·.1),Stab C ops Q f0 V G L j:=by
 intro j hj
 obtain ⟨⟨j',hn⟩,hp,rfl⟩:=Mf.1 hj
 have hx:=fun w X=>HG.1 (h w X) _ hp
 simp only
 cases ho:ops[j']? with
 | none=>have:=hx default [];simp [stE,stR,ho] at this
 | some o =>
  have h0:=hx default []
  simp only [stE,stR,ho,Hs.injEq,Hg,Hw] at h0
  obtain ⟨_,hl,⟨v,hv⟩,hk⟩:=h0
  rw [hv] at hl
  cases hd:o.dst with
  | none=>rw [hd] at hl;cases hl
  | some d =>
   refine ⟨o,Jbx ops f0 V j',d,v,ho,Jmb _ _ _ _,hd,hv,fun X=>?_⟩
   refine Jbh C ops _ G [hn] [o] _ L (fun w=>?_) (fun w=>?_)
   ·
    have:=hx w X
    simp only [stE,stR,ho,Hs.injEq] at this
    exact this.1
   ·
    have hw:=hx w X
    simp only [stE,stR,ho,Hs.injEq] at hw
    have hlk:=hw.2.1
    rw [hv,hd] at hlk
    simp only [Ml] at hlk
    have hfr:(Vc C.P C.n ops w [o] [hn] (Jbx ops f0 V j'++X) L).fr=(d,v)::(Jbx ops f0 V j'++X)∧(Vc C.P C.n ops w [o] [hn] (Jbx ops f0 V j'++X) L).L=L:=by
     simp only [Vc] at hlk ⊢
     cases hh:JaB hn with
     | p=>rw [hh] at hlk;simp only [Vc,hd,HL,Qf,Mv,cond_true,Hm.injEq] at hlk ⊢;rw [hlk];simp
     | sk=>rw [hh] at hlk;simp only [Vc,hd,HL,Qf,Mv,cond_true,Hm.injEq] at hlk ⊢;rw [hlk];simp
     | ld i=>rw [hh] at hlk;simp only [Vc,hd,HL,Qf,Mv,cond_true,Hm.injEq] at hlk ⊢;rw [hlk];simp
     | st i =>
      exfalso
      unfold JaB at hh
      simp only [HZ] at hk
      rcases hk with (hk | hk) | hk
      · rw [hk] at hh;simp at hh
      ·
       cases h1:He hn 0 with
       | true=>rw [h1] at hh;simp at hh
       | false=>rw [h1,hk] at hh;simp at hh
      ·
       cases h1:He hn 0 with
       | true=>rw [h1] at hh;simp at hh
       | false=>cases h2:He hn 1 with
        | true=>rw [h1,h2] at hh;simp at hh
        | false=>rw [h1,h2,hk] at hh;simp at hh
    rw [hfr.1,hfr.2]
    exact Jp
theorem Kl {f0 V:Bf} {A dn:List Nat} {G:J5} {L:Bl} (old:List Nat) (hs:List (Nat×Nat)) (exs:List Nat) (frf:Bf)
  (hex:∀ j∈exs,Stab C ops Q f0 V G L j) (k:TQ C Q .normal frf G L)
  (hf:(frf.map fun p=>finv ops f0 V p.1)=frf.map fun p=>some p.2:=by as_aux_lemma=>kernel_rfl)
  (h:∀ w X,hs.map (stE C.P C.n ops f0 V L w X)=hs.map (stR C.P C.n ops f0 V L w X):=by intro _ _;as_aux_lemma=>kernel_rfl)
  (hok:(drOK ops dn old (hs.map (·.1)++exs) [],Jhb ops dn old)=(true,true):=by as_aux_lemma=>kernel_rfl)
  (hA:((([]:List Nat).all fun i=>VA i A) && ((hs.map (·.1)++exs).all fun j=>!VA j A) && (dn.all fun j=>VA j A) && (A.all fun j=>HH j ops.size))=true:=by as_aux_lemma=>kernel_rfl):JfE C ops Q f0 V A dn G L:=by
 refine Jlj old (hs.map (·.1)++exs) [] (fun j hj=>?_) (by simp) (fun _ a w ls hall hfr hw=>?_) (Hs.inj hok).1 (Hs.inj hok).2 hA
 ·
  rcases HI.1 hj with hj | hj
  · exact Jhc hs h j hj
  · exact hex j hj
 ·
  refine k a w ⟨hfr.size,hfr.defers,fun t v hl=>?_⟩ hw
  have hm:=HG.1 hf
  have key:∀ l:Bf,Qf l t=some v→∃ p∈l,p.1=t∧p.2=v:=by
   intro l
   induction l with
   | nil=>intro h;cases h
   | cons p l ih =>
    obtain ⟨k,u⟩:=p
    intro hl
    simp only [Qf] at hl
    cases hb:He k t with
    | true=>rw [hb] at hl;simp at hl;exact ⟨(k,u),by simp,Hb hb,hl⟩
    | false=>rw [hb] at hl;simp at hl;obtain ⟨p,hp,r⟩:=ih hl;exact ⟨p,by simp [hp],r⟩
  obtain ⟨p,hp,rfl,rfl⟩:=key frf hl
  have hv:=hm p hp
  unfold finv at hv
  split at hv
  ·
   rename_i hw'
   refine hfr.old _ _ hv (fun j o ho _ hd=>?_)
   have:j∈wr ops p.1:=Jd7.2 ⟨o,ho,hd⟩
   rw [hw'] at this;simp at this
  ·
   rename_i j hw'
   obtain ⟨o,ho,hd⟩:=Jd7.1 (show j∈wr ops p.1 by rw [hw'];simp)
   exact hfr.new j o _ _ ho (hall j (Hp.1 ho).1) hd hv
  · cases hv
theorem JF {f0 V:Bf} {A dn:List Nat} {G:J5} {L:Bl} (old:List Nat) (hs:List (Nat×Nat)) (exs nxt:List Nat)
  (hex:∀ j∈exs,Stab C ops Q f0 V G L j) (hact:∀ i∈nxt,ActS C ops Q f0 V A dn G L i)
  (hmore:(A.all fun i=>VA i dn)=false:=by rfl)
  (h:∀ w X,hs.map (stE C.P C.n ops f0 V L w X)=hs.map (stR C.P C.n ops f0 V L w X):=by intro _ _;as_aux_lemma=>kernel_rfl)
  (hok:(drOK ops dn old (hs.map (·.1)++exs) nxt,Jhb ops dn old)=(true,true):=by as_aux_lemma=>kernel_rfl)
  (hA:((nxt.all fun i=>VA i A) && ((hs.map (·.1)++exs).all fun j=>!VA j A) && (dn.all fun j=>VA j A) && (A.all fun j=>HH j ops.size))=true:=by as_aux_lemma=>kernel_rfl):JfE C ops Q f0 V A dn G L:=by
 refine Jlj old (hs.map (·.1)++exs) nxt (fun j hj=>?_) hact (fun hall=>?_) (Hs.inj hok).1 (Hs.inj hok).2 hA
 ·
  rcases HI.1 hj with hj | hj
  · exact Jhc hs h j hj
  · exact hex j hj
 ·
  exfalso
  have:(A.all fun i=>VA i dn)=true:=Hl.2 (fun i hi=>Z2.2 (hall i hi))
  rw [this] at hmore;cases hmore
theorem JpB {f0 V V':Bf} {A dn:List Nat} {G':J5} {L':Bl} {i d:Nat} {v:Value} {o:Oper} {nd X:Bf} (h:JfE C ops Q f0 V' A (i::dn) G' L')
  (hd:o.dst=some d:=by rfl) (hV:(V.map fun p=>Qf V' p.1)=V.map fun p=>some p.2:=by as_aux_lemma=>kernel_rfl) (hv:Qf V' i=some v:=by as_aux_lemma=>kernel_rfl) :
  KA C ops (ActK C ops Q f0 V A dn i o nd X) [] ((d,v)::(nd++X)) G' L':=by
 intro a w ha hw
 refine ⟨V',G',L',fun k u _ hu=>?_,by rw [hd];exact ⟨v,hv,ha⟩,hw,h⟩
 have key:∀ l:Bf,Qf l k=some u→∃ p∈l,p.1=k∧p.2=u:=by
  intro l
  induction l with
  | nil=>intro h;cases h
  | cons p l ih =>
   obtain ⟨k',u'⟩:=p
   intro hl
   simp only [Qf] at hl
   cases hb:He k' k with
   | true=>rw [hb] at hl;simp at hl;exact ⟨(k',u'),by simp,Hb hb,hl⟩
   | false=>rw [hb] at hl;simp at hl;obtain ⟨p,hp,r⟩:=ih hl;exact ⟨p,by simp [hp],r⟩
 obtain ⟨p,hp,rfl,rfl⟩:=key V hu
 exact HG.1 hV p hp
theorem Jnz {f0 V V':Bf} {A dn:List Nat} {G':J5} {L':Bl} {i:Nat} {o:Oper} {nd X:Bf} (h:JfE C ops Q f0 V' A (i::dn) G' L')
  (hd:o.dst=none:=by rfl) (hV:(V.map fun p=>Qf V' p.1)=V.map fun p=>some p.2:=by as_aux_lemma=>kernel_rfl) :
  KA C ops (ActK C ops Q f0 V A dn i o nd X) [] (nd++X) G' L':=by
 intro a w ha hw
 refine ⟨V',G',L',fun k u _ hu=>?_,by rw [hd];exact ha,hw,h⟩
 have key:∀ l:Bf,Qf l k=some u→∃ p∈l,p.1=k∧p.2=u:=by
  intro l
  induction l with
  | nil=>intro h;cases h
  | cons p l ih =>
   obtain ⟨k',u'⟩:=p
   intro hl
   simp only [Qf] at hl
   cases hb:He k' k with
   | true=>rw [hb] at hl;simp at hl;exact ⟨(k',u'),by simp,Hb hb,hl⟩
   | false=>rw [hb] at hl;simp at hl;obtain ⟨p,hp,r⟩:=ih hl;exact ⟨p,by simp [hp],r⟩
 obtain ⟨p,hp,rfl,rfl⟩:=key V hu
 exact HG.1 hV p hp
theorem JA {f0 V:Bf} {A dn:List Nat} {G':J5} {L':Bl} {i d:Nat} {v:Value} {o:Oper} {nd X:Bf} (N:Bf) (h:JfE C ops Q f0 (N++V) A (i::dn) G' L')
  (hd:o.dst=some d:=by rfl) (hV:(V.map fun p=>Qf (N++V) p.1)=V.map fun p=>some p.2:=by as_aux_lemma=>kernel_rfl) (hv:Qf (N++V) i=some v:=by as_aux_lemma=>kernel_rfl) :
  KA C ops (ActK C ops Q f0 V A dn i o nd X) [] ((d,v)::(nd++X)) G' L':=JpB h hd hV hv
theorem J6 {f0 V:Bf} {A dn:List Nat} {G':J5} {L':Bl} {i:Nat} {o:Oper} {nd X:Bf} (N:Bf) (h:JfE C ops Q f0 (N++V) A (i::dn) G' L')
  (hd:o.dst=none:=by rfl) (hV:(V.map fun p=>Qf (N++V) p.1)=V.map fun p=>some p.2:=by as_aux_lemma=>kernel_rfl) :
  KA C ops (ActK C ops Q f0 V A dn i o nd X) [] (nd++X) G' L':=Jnz h hd hV
theorem KC {rest:List Oper} {o:Oper} {fr:Bf} {G:J5} {L:Bl} (i:Nat) (L':Bl) (k:KA C ops Q rest fr G L')
  (h:∀ w,((Vc C.P C.n ops w (o::rest) [2*i+3] fr L).l,(Vc C.P C.n ops w (o::rest) [2*i+3] fr L).L)=((Vc C.P C.n ops w (o::rest) [2*i+3] fr L).r,L'):=by intro _;as_aux_lemma=>kernel_rfl):KA C ops Q (o::rest) fr G L:=by
 have hh:JaB (2*i+3)=.st i:=by
  unfold JaB
  rw [show He (2*i+3) 0=false from rfl,show He (2*i+3) 1=false from rfl,show (2*i+3) % 2=1 by omega,show (2*i+3) / 2-1=i by omega]
  rfl
 refine Jbh C ops Q G [2*i+3] (o::rest) fr L (fun w=>?_) (fun w=>?_)
 · have:=h w;simp only [Hs.injEq] at this;exact this.1
 ·
  have:=(Hs.inj (h w)).2
  rw [this]
  have hf:(Vc C.P C.n ops w (o::rest) [2*i+3] fr L).fr=fr:=by
   simp only [Vc,hh]
  rw [hf]
  exact k
end
theorem RS.addr {α:Type} {E:YR α} {G:J5} {a:Ba} {cap:Nat} {l:List α} (h:RS E G a cap l) {k:Nat} (hk:k<l.length):∃ b o,a=At b o:=by
 cases a with
 | none=>have:=h.nil rfl;have:=h.le;omega
 | some ad =>
  obtain ⟨b,o,spot⟩:=ad
  have:=h.spot _ rfl (by have:=h.le;omega)
  simp only at this
  subst this
  exact ⟨b,o,rfl⟩
theorem RS.get {α:Type} {E:YR α} {G:J5} {b o cap:Nat} {l:List α} (h:RS E G (At b o) cap l) {k:Nat} {x:α} (hk:l[k]? = some x) :
  ∃ cs,E.R G cs x∧∀ j v,cs[j]? = some v→G b (o+k*E.sz+j)=some v:=h.elem _ rfl k x hk
theorem QS {α:Type} {l:List α} {k:Nat} (h:k<l.length):∃ x,l[k]? = some x:=⟨_,Hc h⟩
section
variable {C:Cx} {Q:Bq} {fr:Bf} {G:J5} {L:Bl} {ops:Bp} {rest:List Oper} {o:Oper}
theorem JV (d e sz:Nat) {b off len cap:Nat} {ik:IntKind} (k:Nat) (hk:k<len) (h:KA C ops Q rest ((d,Pt b (off+k*sz))::fr) G L)
  (hb:base C.n ops fr o d=true:=by as_aux_lemma=>kernel_rfl)
  (hc:JhK C.P fr o e sz=some (Sl (At b off) len cap,.int ik (k:Int)):=by as_aux_lemma=>kernel_rfl):KA C ops Q (o::rest) fr G L :=
 QE d hb (fun w hw=>⟨_,w,G,L,JpA hc hk w,hw,h⟩)
def Jlk (P:Program) (fr:Bf) (o:Oper) (e sz n:Nat):Option (Value×Value) :=
 match o.op with
 | .indexAddr t y i=>match P.underlying t with
  | some (.array n' e')=>bif He e' e && He n' n && He (P.cellsOf e) sz && (P.info? e).isSome then some (W6 fr y,W6 fr i) else none
  | _=>none
 | _=>none
theorem Jmc (d e sz n:Nat) {b off:Nat} {ik:IntKind} (k:Nat) (hk:k<n) (h:KA C ops Q rest ((d,Pt b (off+k*sz))::fr) G L)
  (hb:base C.n ops fr o d=true:=by as_aux_lemma=>kernel_rfl)
  (hc:Jlk C.P fr o e sz n=some (Pt b off,.int ik (k:Int)):=by as_aux_lemma=>kernel_rfl):KA C ops Q (o::rest) fr G L:=by
 refine QE d hb (fun w hw=>⟨_,w,G,L,?_,hw,h⟩)
 unfold Jlk at hc
 split at hc
 case h_2=>cases hc
 rename_i t y i hop
 split at hc
 case h_2=>cases hc
 rename_i n' e' hu
 cases hx:(He e' e && He n' n && He (C.P.cellsOf e) sz && (C.P.info? e).isSome) with
 | false=>rw [hx] at hc;cases hc
 | true =>
  rw [hx] at hc
  simp only [cond_true,Hm.injEq,Hs.injEq] at hc
  simp only [Hg] at hx
  obtain ⟨⟨⟨h1,h0⟩,h2⟩,h3⟩:=hx
  obtain rfl:=Hb h1
  obtain rfl:=Hb h0
  obtain rfl:=Hb h2
  obtain ⟨inf,hi⟩:=Hw.1 h3
  unfold execOp
  have hlt:(0:Int)≤(k:Int)∧(k:Int)<(n':Int):=by omega
  simp only [hop,hc.1,hc.2,Instr.indexAt,asIntOf,Instr.sureAddr,Hh,Hr,Hd,Zf w hu,hlt,and_self,if_true,Vv w hi,Ms,Wv]
def JnA (P:Program) (ops:Bp) (fr:Bf) (o:Oper) (sz:Nat):Option (Value×Value) :=
 match o.op with
 | .store t x y=>bif o.dst.isNone && YO true (Qu ops fr o) && cov fr x && cov fr y && (P.info? t).isSome && He (P.cellsOf t) sz then some (W6 fr x,W6 fr y) else none
 | _=>none
theorem JnB (i k:Nat) {b off:Nat} {cs:Bv} (v:Value) (vs:Bv) (hk:k+vs.length≤cs.length)
  (h:KA C ops Q rest fr G (L.set i [Sg b off (Qz cs k vs)])) (hL:L[i]? = some [Sg b off cs]:=by rfl)
  (hc:(JnA C.P ops fr o vs.length,v.cells.toList,vs.all Value.oneCell')=(some (Pt b (off+k),v),vs,true):=by as_aux_lemma=>kernel_rfl):KA C ops Q (o::rest) fr G L:=by
 intro a w ha hw
 simp only [Hs.injEq] at hc
 obtain ⟨hc,hvs,hone⟩:=hc
 unfold JnA at hc
 split at hc
 case h_2=>cases hc
 rename_i t x y hop
 cases hx:(o.dst.isNone && YO true (Qu ops fr o) && cov fr x && cov fr y && (C.P.info? t).isSome && He (C.P.cellsOf t) vs.length) with
 | false=>rw [hx] at hc;cases hc
 | true =>
  rw [hx] at hc
  simp only [cond_true,Hm.injEq,Hs.injEq] at hc
  simp only [Hg,HF] at hx
  obtain ⟨⟨⟨⟨⟨hd,hwt⟩,hcx⟩,hcy⟩,hinf⟩,hsz⟩:=hx
  have hsz':=Hb hsz
  have hwant:Qu ops fr o=some true:=by
   cases hx:Qu ops fr o with
   | none=>rw [hx] at hwt;simp [YO] at hwt
   | some b=>rw [hx] at hwt;simp [YO] at hwt;rw [← hwt]
  have hms:(Sg b off cs)∈L.flatten:=by
   obtain ⟨hi,he⟩:=Ha.1 hL
   exact Hk.2 ⟨_,he ▸ Hn hi,by simp⟩
  have hown:=(hw.own _ hms).2.1
  simp only at hown
  have hcell:∀ j,j<vs.length→∃ u,cs[k+j]? = some u:=fun j hj=>⟨_,Hc (by omega)⟩
  have hl:=Jbg (P:=C.P) (t:=t) (w:=w) (b:=b) (off:=off+k) (v:=v) hinf (by rw [hvs,hsz']) (by rw [hvs];exact hone)
   (fun j hj=>by rw [hvs] at hj;obtain ⟨u,hu⟩:=hcell j hj;have:=(hown _ u hu).1;rw [← HE] at this;exact ⟨u,this⟩)
   (fun j hj=>by rw [hvs] at hj;obtain ⟨u,hu⟩:=hcell j hj;have:=(hown _ u hu).2.1;rw [← HE] at this;exact this)
  rw [hvs] at hl
  have hSt:=hw.store hL k vs hk
  simp only at hSt
  have hE:a.eval x=.pointer (some ⟨b,off+k,none⟩):=(ha.eval x hcx).trans hc.1
  have hE':a.eval y=v:=(ha.eval y hcy).trans hc.2
  unfold wpList
  rw [if_pos (Wr ha hwant)]
  refine .inl ?_
  unfold Oper.wp execOp
  simp only [hop,hE,hE',Instr.storeAt,Instr.sureAddr,Hh,Hr,Hd,hl]
  show wpList C.P ops Q rest (a.put o.dst undef) _
  rw [hd]
  exact h _ _ ha hSt
def Jj8 (P:Program) (fr:Bf) (o:Oper):Option Value :=
 match o.op with
 | .convert s d x=>match P.underlying s,P.underlying d with
  | some (.slice e),some .string=>(match P.underlying e with | some (.int .u8)=>some (W6 fr x) | _=>none)
  | _,_=>none
 | _=>none
theorem JiE (ns:List Int):strOfNums ns=B (ns.map fun n=>MC n.toNat):=by
 simp [strOfNums,B]
theorem JpC {P:Program} {b off len cap:Nat} {ns:List Int} (hx:Jj8 P fr o=some (.slice (some ⟨b,off,none⟩) len cap)) (hl:ns.length=len) (w:World)
  (hcell:∀ i,i<len→w.cell? ⟨b,off+i,none⟩=some (.int .u8 (ns.getD i 0))):(execOp (W6 fr) o).run P w=.ok (.value (Sr (ns.map fun n=>MC n.toNat))) w:=by
 unfold Jj8 at hx
 split at hx
 case h_2=>cases hx
 rename_i s d x hop
 split at hx
 case h_2=>cases hx
 rename_i e hs hd
 split at hx
 case h_2=>cases hx
 rename_i he
 simp only [Hm.injEq] at hx
 have:=run_convert_bytes_arg (P:=P) w s e hs he b off len cap ns hl hcell d hd
 unfold execOp
 simp only [hop,hx,Hh,this,Hd,Hr,JiE]
theorem Jbl (d i:Nat) {b off len cap:Nat} {cs:Bv} (ns:List Int) (hn:ns.length=len) (hcs:∀ j,j<len→cs[j]? = some (.int .u8 (ns.getD j 0)))
  (h:KA C ops Q rest ((d,Sr (ns.map fun n=>MC n.toNat))::fr) G L) (hL:L[i]? = some [Sg b off cs]:=by rfl)
  (hb:base C.n ops fr o d=true:=by as_aux_lemma=>kernel_rfl)
  (hx:Jj8 C.P fr o=some (Sl (At b off) len cap):=by as_aux_lemma=>kernel_rfl):KA C ops Q (o::rest) fr G L:=by
 refine QE d hb (fun w hw=>⟨_,w,G,L,JpC hx hn w (fun j hj=>?_),hw,h⟩)
 have hms:(Sg b off cs)∈L.flatten:=by
  obtain ⟨hi,he⟩:=Ha.1 hL
  exact Hk.2 ⟨_,he ▸ Hn hi,by simp⟩
 exact ((hw.own _ hms).2.1 j _ (hcs j hj)).1
theorem Jau {cs:Bv} {ns:List Int} (h:cs=ns.map (.int .u8)):∀ j,j<ns.length→cs[j]? = some (.int .u8 (ns.getD j 0)):=by
 intro j hj
 subst h
 simp [Hc hj]
theorem Km (d n:Nat) (cs:Array Value) (t:TypeId)
  (h:∀ b,KA C ops Q rest ((d,Sl (At b 0) n n)::fr) G ([Sg b 0 cs.toList]::L))
  (hg:Qu ops fr o=some true:=by rfl) (hd:o.dst=some d:=by rfl) (hn:HH d C.n=true:=by rfl) (hsel:Zj o.op=false:=by rfl)
  (hcov:o.op.operands.toList.all (cov fr)=true:=by as_aux_lemma=>kernel_rfl)
  (hrun:∀ w,(execOp (W6 fr) o).run C.P w=.ok (.value (.slice (some ⟨w.heap.size,0,none⟩) n n)) { w with heap:=w.heap.push (.cells cs t) }:=by intro _;as_aux_lemma=>kernel_rfl) :
  KA C ops Q (o::rest) fr G L:=Jix d cs t (fun b=>.slice (some ⟨b,0,none⟩) n n) h hg hd hn hsel hcov hrun
end
theorem K5 {C:Cx} {Q:Bq} {fr:Bf} {G:J5} {L:Bl} {ops:Bp} {rest:List Oper} {o:Oper} (d:Nat) (v v':Value) (e:v=v')
  (h:KA C ops Q rest ((d,v')::fr) G L)
  (hb:base C.n ops fr o d=true:=by as_aux_lemma=>kernel_rfl)
  (hr:∀ w,(execOp (W6 fr) o).run C.P w=.ok (.value v) w:=by intro _;as_aux_lemma=>kernel_rfl):KA C ops Q (o::rest) fr G L:=by
 subst e
 exact QE d hb (fun w hw=>⟨v,w,G,L,hr w,hw,h⟩)
theorem Wm {C:Cx} {ops:Bp} {Q:Bq} {f0:Bf} {A dn:List Nat} {G:J5} {L:Bl} (V:Bf) (h:JfE C ops Q f0 V A dn G L) :
  ∃ V,JfE C ops Q f0 V A dn G L:=⟨V,h⟩
def aggD:TypeDesc→Bool
 | .struct _=>true
 | .array _ _=>true
 | _=>false
def Jhd (P:Program) (t:TypeId) (cs:Array Value) (off:Nat):Option Value :=
 match P.underlying t with
 | none=>none
 | some d=>cond (aggD d) ((P.info? t).map fun _=>.agg (cs.extract off (off+P.cellsOf t))) cs[off]?
theorem Jco {P:Program} {t:TypeId} {cs:Array Value} {off:Nat} {v:Value} (h:Jhd P t cs off=some v) (w:World):(part t cs off).run P w=.ok v w:=by
 unfold Jhd at h
 split at h
 · cases h
 ·
  rename_i d hd
  cases hb:aggD d <;> rw [hb] at h
  ·
   simp only [cond_false] at h
   cases d <;> simp [aggD] at hb <;> simp [part,isAgg,run_underlying hd,h]
  ·
   simp only [cond_true] at h
   obtain ⟨i,hi,rfl⟩:=Mj.1 h
   cases d <;> simp [aggD] at hb <;> simp [part,isAgg,run_underlying hd,run_sizeOf w hi]
def eqFs (rec:TypeId→Value→Value→Option Bool) (P:Program) (xs ys:Array Value):List Field→Option Bool
 | []=>some true
 | f :: fs => if f.name = "_" then none else
  match Jhd P f.type xs f.offset,Jhd P f.type ys f.offset with
  | some a,some b=>match rec f.type a b,eqFs rec P xs ys fs with
   | some r,some s=>some (r && s)
   | _,_=>none
  | _,_=>none
def eqIs (rec:TypeId→Value→Value→Option Bool) (P:Program) (e:TypeId) (c:Nat) (xs ys:Array Value):List Nat→Option Bool
 | []=>some true
 | i::is =>
  match Jhd P e xs (i*c),Jhd P e ys (i*c) with
  | some a,some b=>match rec e a b,eqIs rec P e c xs ys is with
   | some r,some s=>some (r && s)
   | _,_=>none
  | _,_=>none
def eqB (P:Program):Nat→TypeId→Value→Value→Option Bool
 | 0,_,_,_=>none
 | d+1,t,x,y=>match P.underlying t with
  | some .bool=>match x,y with
   | .bool a,.bool b=>some (a == b)
   | _,_=>none
  | some (.int _)=>match x,y with
   | .int k a,.int k' b=>if k=k' then some (decide (a=b)) else none
   | _,_=>none
  | some .string=>match x,y with
   | .string a,.string b=>some (a.toList == b.toList)
   | _,_=>none
  | some (.struct fs)=>match x,y with
   | .agg xs,.agg ys=>if P.stoodInHeld t then none else eqFs (eqB P d) P xs ys fs.toList
   | _,_=>none
  | some (.array n e)=>match x,y with
   | .agg xs,.agg ys=>match P.info? e with
    | some _=>eqIs (eqB P d) P e (P.cellsOf e) xs ys (MM n)
    | none=>none
   | _,_=>none
  | _=>none
theorem JiF {P:Program} {d D:Nat} (ih:∀ t x y b w,eqB P d t x y=some b→(Op.equalIn D t x y).run P w=.ok b w) (xs ys:Array Value) :
  ∀ (fs:List Field) (b:Bool) (w:World),eqFs (eqB P d) P xs ys fs=some b→(Op.eqFields D xs ys fs).run P w=.ok b w
 | [],b,w,h=>by cases h;simp [Op.eqFields]
 | f::fs,b,w,h=>by
  unfold eqFs at h
  split at h
  · cases h
  rename_i hn
  split at h
  ·
   rename_i a c ha hc
   split at h
   ·
    rename_i r s hr hs
    cases h
    simp only [Op.eqFields,ne_eq,hn,not_false_eq_true,if_true,Hh,Jco ha,Jco hc,ih _ _ _ _ _ hr,Hd]
    cases r
    · simp
    · simpa using JiF ih xs ys fs s w hs
   · cases h
  · cases h
theorem JiG {P:Program} {d D:Nat} (ih:∀ t x y b w,eqB P d t x y=some b→(Op.equalIn D t x y).run P w=.ok b w) (e:TypeId) (c:Nat) (xs ys:Array Value) :
  ∀ (is:List Nat) (b:Bool) (w:World),eqIs (eqB P d) P e c xs ys is=some b→(Op.eqItems D e c xs ys is).run P w=.ok b w
 | [],b,w,h=>by cases h;simp [Op.eqItems]
 | i::is,b,w,h=>by
  unfold eqIs at h
  split at h
  ·
   rename_i a c' ha hc
   split at h
   ·
    rename_i r s hr hs
    cases h
    simp only [Op.eqItems,Hh,Jco ha,Jco hc,ih _ _ _ _ _ hr,Hd]
    cases r
    · simp
    · simpa using JiG ih e c xs ys is s w hs
   · cases h
  · cases h
theorem JhM {P:Program}:∀ (d D:Nat),d≤D→∀ (t:TypeId) (x y:Value) (b:Bool) (w:World),eqB P d t x y=some b→(Op.equalIn D t x y).run P w=.ok b w
 | 0,_,_,_,_,_,_,_,h=>by cases h
 | d+1,0,hD,_,_,_,_,_,_=>by omega
 | d+1,D+1,hD,t,x,y,b,w,h=>by
  have ih:=fun t x y b w=>JhM (P:=P) d D (by omega) t x y b w
  unfold eqB at h
  split at h
  ·
   rename_i hu
   split at h
   · cases h;simp [Op.equalIn,run_underlying hu]
   · cases h
  ·
   rename_i hu
   split at h
   ·
    split at h
    · rename_i e;cases h;subst e;exact run_equalIn_int w D t _ _ _ _ hu
    · cases h
   · cases h
  ·
   rename_i hu
   split at h
   · cases h;rw [run_equalIn_string w D t _ _ hu]
   · cases h
  ·
   rename_i fs hu
   split at h
   ·
    split at h
    · cases h
    ·
     rename_i hs
     have hfs:P.fieldsOf t=fs:=by simp [Program.fieldsOf,hu]
     rw [run_equalIn_struct w D t _ _ (by rw [hfs];exact hu) (by simpa using hs),hfs]
     exact JiF ih _ _ _ _ _ h
   · cases h
  ·
   rename_i n e hu
   split at h
   ·
    split at h
    ·
     rename_i i hi
     rw [run_equalIn_array w D _ _ hu hi]
     exact JiG ih _ _ _ _ _ _ _ h
    · cases h
   · cases h
  · cases h
def eqO (P:Program) (ρ:Operand→Value) (o:Oper):Option Value :=
 match o.op with
 | .binOp op t x y _=>match ρ x,ρ y with
  | .agg xs,.agg ys=>if P.eqGuardType P.depth t then none else match op with
   | .eql=>(eqB P 50 t (.agg xs) (.agg ys)).map .bool
   | .neq=>(eqB P 50 t (.agg xs) (.agg ys)).map fun b=>.bool (!b)
   | _=>none
  | _,_=>none
 | _=>none
theorem JpD {P:Program} {ρ:Operand→Value} {o:Oper} {v:Value} (h:eqO P ρ o=some v) (w:World):(execOp ρ o).run P w=.ok (.value v) w:=by
 unfold eqO at h
 split at h
 ·
  rename_i op t x y t' ho
  split at h
  ·
   rename_i xs ys hx hy
   split at h
   · cases h
   ·
    rename_i hg
    have hg':P.eqGuardType P.depth t=false:=by simpa using hg
    split at h
    ·
     obtain ⟨b,hb,rfl⟩:=Mj.1 h
     simp [execOp,ho,hx,hy,run_eqGuard_agg w .eql t x y xs ys hg',run_eql_struct w t xs ys,JhM 50 10000 (by omega) _ _ _ _ w hb]
    ·
     obtain ⟨b,hb,rfl⟩:=Mj.1 h
     simp [execOp,ho,hx,hy,run_eqGuard_agg w .neq t x y xs ys hg',run_neq_struct w t xs ys,JhM 50 10000 (by omega) _ _ _ _ w hb]
    · cases h
  · cases h
 · cases h
theorem Jdl {C:Cx} {Q:Bq} {fr:Bf} {G:J5} {L:Bl} {ops:Bp} {rest:List Oper} {o:Oper} (d:Nat) (v v':Value) (e:v=v')
  (h:KA C ops Q rest ((d,v')::fr) G L)
  (hb:base C.n ops fr o d=true:=by as_aux_lemma=>kernel_rfl)
  (hr:eqO C.P (W6 fr) o=some v:=by as_aux_lemma=>kernel_rfl):KA C ops Q (o::rest) fr G L:=by
 subst e
 exact QE d hb (fun w hw=>⟨v,w,G,L,JpD hr w,hw,h⟩)
def JgE {α:Type} (E:YR α) (G:J5):List Bv→List α→Prop
 | [],[]=>True
 | c::cs,x::xs=>E.R G c x∧JgE E G cs xs
 | _,_=>False
theorem JgE.get {α:Type} {E:YR α} {G:J5}:∀ {css:List Bv} {l:List α},JgE E G css l→∀ (i:Nat) (x:α),l[i]? = some x→∃ cs,css[i]? = some cs∧E.R G cs x
 | [],[],_,i,x,h=>by simp at h
 | c::cs,y::ys,⟨h1,h2⟩,0,x,h=>by simp at h;subst h;exact ⟨c,rfl,h1⟩
 | c::cs,y::ys,⟨h1,h2⟩,i+1,x,h=>by simpa using JgE.get h2 i x (by simpa using h)
 | [],_::_,h,_,_,_=>h.elim
 | _::_,[],h,_,_,_=>h.elim
theorem JgE.len {α:Type} {E:YR α} {G:J5}:∀ {css:List Bv} {l:List α},JgE E G css l→css.length=l.length∧∀ c∈css,c.length=E.sz
 | [],[],_=>⟨rfl,by simp⟩
 | c::cs,y::ys,⟨h1,h2⟩=>by
  obtain ⟨a,b⟩:=JgE.len h2
  refine ⟨by simp [a],fun d hd=>?_⟩
  rcases MN.1 hd with rfl | hd
  · exact E.len h1
  · exact b d hd
 | [],_::_,h=>h.elim
 | _::_,[],h=>h.elim
theorem JfF {sz:Nat}:∀ (css:List Bv),(∀ c∈css,c.length=sz)→∀ (i j:Nat) (cs:Bv) (v:Value),css[i]? = some cs→cs[j]? = some v→css.flatten[i*sz+j]? = some v
 | [],_,i,j,cs,v,h,_=>by simp at h
 | c::css,hc,0,j,cs,v,h,hv=>by
  simp at h;subst h
  have:=(Ha.1 hv).1
  rw [Hu,Nat.zero_mul,HC,Hj this];exact hv
 | c::css,hc,i+1,j,cs,v,h,hv=>by
  have h1:=JfF css (fun d hd=>hc d (MH _ hd)) i j cs v (by simpa using h) hv
  have h2:c.length=sz:=hc c List.mem_cons_self
  rw [Hu,Hq (by rw [h2,Hy,H6];omega),h2,show (i+1)*sz+j-sz=i*sz+j by rw [Hy,H6];omega]
  exact h1
theorem RS.lit {α:Type} {E:YR α} {G:J5} {b:Nat} (css:List Bv) (l:List α) (hA:JgE E G css l) (hG:∀ j v,css.flatten[j]? = some v→G b (0+j)=some v)
  (hfit:l.length*E.bytes≤281474976710656) (hmax:l.length≤9223372036854775807):RS E G (At b 0) l.length l:=by
 refine ⟨H1 _,hfit,hmax,by simp,by rintro _ ⟨⟩ _;rfl,?_⟩
 rintro _ ⟨⟩ i x hx
 obtain ⟨cs,h1,h2⟩:=hA.get i x hx
 refine ⟨cs,h2,fun j v hv=>?_⟩
 have:=hG _ v (JfF css hA.len.2 i j cs v h1 hv)
 simpa [HE] using this
def JaV (P:Program) (k:FuncId):Prop:=∀ args w,(callFunc k args).run P w=.ok (.enter k args) w
def Jdm (fr:Bf) (o:Oper):Option (FuncId×Array Value×Array Value) :=
 match o.op with
 | .call ⟨.value t,as_,_⟩=>match W6 fr t with
  | .func (.func k) ⟨[]⟩ caps=>some (k,as_.map (W6 fr),caps)
  | _=>none
 | _=>none
theorem ZP {C:Cx} {Q:Bq} {fr:Bf} {G:J5} {L:Bl} {ops:Bp} {rest:List Oper} {o:Oper} (d:Nat) {k:FuncId} {args caps:Array Value} (v:Value)
  (hk:JaV C.P k) (hc:VC C.P k (args++caps) G [] (fun u G' L'=>u=v))
  (h:KA C ops Q rest ((d,v)::fr) G L)
  (hx:Jdm fr o=some (k,args,caps):=by as_aux_lemma=>kernel_rfl)
  (hw:Qu ops fr o=some true:=by rfl) (hd:o.dst=some d:=by rfl) (hn:HH d C.n=true:=by rfl) (hsel:Zj o.op=false:=by rfl)
  (hcov:o.op.operands.toList.all (cov fr)=true:=by as_aux_lemma=>kernel_rfl) :
  KA C ops Q (o::rest) fr G L:=by
 refine Jm (f:=k) (args:=args++caps) d v hc h hw hd hn hsel hcov ?_
 intro w
 unfold Jdm at hx
 split at hx
 case h_2=>cases hx
 rename_i t as_ ty hop
 split at hx
 case h_2=>cases hx
 rename_i k' caps' hv
 cases hx
 simp [execOp,hop,resolve,hv,Deferred.ofValue,invoke]
 exact hk _ _
abbrev rI (x:Int):Prop:=-9223372036854775808≤x∧x<9223372036854775808
abbrev rU (x:Int):Prop:=0≤x∧x<18446744073709551616
open Go.RowKit
theorem JfG {α:Type}:∀ {L:List α} {i:Nat} {c:α},L[i]? = some c→(c::L.eraseIdx i).Perm L
 | [],_,_,h=>by simp at h
 | a::L,0,c,h=>by simp at h;subst h;simp
 | a::L,i+1,c,h=>by
  have:=JfG (L:=L) (i:=i) (c:=c) (by simpa using h)
  rw [List.eraseIdx_cons_succ]
  exact (List.Perm.swap a c _).trans (this.cons a)
theorem JaE {α:Type}:∀ {L' L:List (List α)},L'.Sublist L→L'.flatten.Sublist L.flatten
 | _,_,.slnil=>HM.refl _
 | _,_,.cons a h=>by rw [Hu];exact (JaE h).trans (Mb _ _)
 | _,_,.cons_cons a h=>by rw [Hu,Hu];exact (HM.refl _).append (JaE h)
theorem St.front {w0 w:World} {G0 G:J5} {L:Bl} (h:St w0 G0 w G L) {i:Nat} {c:Bg} (hi:L[i]? = some c):St w0 G0 w G (c::L.eraseIdx i) :=
 h.reorder _ _ (JfG hi).flatten (HM.refl _)
theorem St.flat {w0 w:World} {G0 G:J5} {L:Bl} (h:St w0 G0 w G L) (L':Bl) (e:L'.flatten=L.flatten):St w0 G0 w G L' :=
 h.dropAt L' (by rw [e];exact HM.refl _)
section
variable {C:Cx} {Q:Bq} {fr:Bf} {G:J5} {L:Bl} {ops:Bp} {rest:List Oper} {o:Oper}
theorem Jw (i:Nat) {c:Bg} (h:KA C ops Q rest fr G (c::L.eraseIdx i)) (hi:L[i]? = some c:=by rfl):KA C ops Q rest fr G L :=
 fun a w ha hw=>h a w ha (hw.front hi)
theorem Jk {e:Exit} (i:Nat) {c:Bg} (h:TQ C Q e fr G (c::L.eraseIdx i)) (hi:L[i]? = some c:=by rfl):TQ C Q e fr G L :=
 fun a w ha hw=>h a w ha (hw.front hi)
theorem Jj9 (h:KA C ops Q rest fr G ([]::L)):KA C ops Q rest fr G L:=fun a w ha hw=>h a w ha (hw.flat _ rfl)
theorem ZA {y:Code} (h:TC C y Q fr G ([]::L)):TC C y Q fr G L:=fun a w ha hw=>h a w ha (hw.flat _ rfl)
theorem ZB {e:Exit} (h:TQ C Q e fr G ([]::L)):TQ C Q e fr G L:=fun a w ha hw=>h a w ha (hw.flat _ rfl)
theorem JpE {e:Exit} (L':Bl) (hs:L'.Sublist L) (h:TQ C Q e fr G L'):TQ C Q e fr G L :=
 fun a w ha hw=>h a w ha (hw.dropAt L' (JaE hs))
theorem Qy {e:Exit} (L':Bl) (h:TQ C Q e fr G L') (hs:L'.Sublist L:=by first | exact .refl _ | (repeat' (first | exact .slnil | exact .refl _ | refine .cons_cons _ ?_ | refine .cons _ ?_))):TQ C Q e fr G L:=JpE L' hs h
theorem JfH {w:World} {G:J5} {L:Bl} {w0:World} {G0:J5} (hw:St w0 G0 w G L) {i:Nat} {c:Bg} (hl:c.length≤1) (hi:L[i]? = some c) :
  ∀ s∈c,∀ j v,s.cs[j]? = some v→(G.add c) s.b (s.off+j)=some v:=by
 have hm:∀ s∈c,s∈L.flatten:=fun s hs=>by
  obtain ⟨hi',he⟩:=Ha.1 hi
  exact Hk.2 ⟨c,he ▸ Hn hi',hs⟩
 intro s hs j v hv
 have hc:c=[s]:=by
  match c,hl,hs with
  | [x],_,hs=>simp at hs;rw [hs]
 have hn:=((hw.own s (hm s hs)).2.1 j v hv).2.2
 subst hc
 simp [J5.add,hn,hv]
theorem JnC {e:Exit} (i:Nat) {c:Bg} (hl:c.length≤1) (hi:L[i]? = some c) (h:∀ G',J5.le G G'→(∀ s∈c,∀ j v,s.cs[j]? = some v→G' s.b (s.off+j)=some v)→TQ C Q e fr G' (L.set i [])) :
  TQ C Q e fr G L:=fun a w ha hw=>h (G.add c) (J5.le_add _ _) (JfH hw hl hi) a w ha (hw.freeze hi)
theorem tc_frz {y:Code} (i:Nat) {c:Bg} (hl:c.length≤1) (hi:L[i]? = some c) (h:∀ G',J5.le G G'→(∀ s∈c,∀ j v,s.cs[j]? = some v→G' s.b (s.off+j)=some v)→TC C y Q fr G' (L.set i [])) :
  TC C y Q fr G L:=fun a w ha hw=>h (G.add c) (J5.le_add _ _) (JfH hw hl hi) a w ha (hw.freeze hi)
theorem Wg {α:Type} {E:YR α} {a:Ba} {cap:Nat} {l:List α} {r:Bg} (i:Nat) (hr:JR E G a cap l r) (hb:l.length*E.bytes≤281474976710656)
  (h:∀ G',J5.le G G'→RS E G' a cap l→KA C ops Q rest fr G' (L.set i [])) (hi:L[i]? = some r:=by rfl):KA C ops Q rest fr G L :=
 JiC i hr.one hi fun G' h1 h2=>h G' h1 (hr.rs h1 hb h2)
theorem Wy {e:Exit} {α:Type} {E:YR α} {a:Ba} {cap:Nat} {l:List α} {r:Bg} (i:Nat) (hr:JR E G a cap l r) (hb:l.length*E.bytes≤281474976710656)
  (h:∀ G',J5.le G G'→RS E G' a cap l→TQ C Q e fr G' (L.set i [])) (hi:L[i]? = some r:=by rfl):TQ C Q e fr G L :=
 JnC i hr.one hi fun G' h1 h2=>h G' h1 (hr.rs h1 hb h2)
theorem JhN {y:Code} {α:Type} {E:YR α} {a:Ba} {cap:Nat} {l:List α} {r:Bg} (i:Nat) (hr:JR E G a cap l r) (hb:l.length*E.bytes≤281474976710656)
  (h:∀ G',J5.le G G'→RS E G' a cap l→TC C y Q fr G' (L.set i [])) (hi:L[i]? = some r:=by rfl):TC C y Q fr G L :=
 tc_frz i hr.one hi fun G' h1 h2=>h G' h1 (hr.rs h1 hb h2)
def JfI (P:Program) (f:FuncId) (args:Array Value) (G:J5) (Ls:Bl) (Post:Value→J5→Bl→Prop):Prop :=
 ∀ Lr,VC P f args G (Ls++Lr) (fun u G' L'=>∃ Ls',L'=Ls'++Lr∧Post u G' Ls')
theorem JN (d:Nat) {f:FuncId} {args:Array Value} {Post:Value→J5→Bl→Prop} (hc:VC C.P f args G [] Post)
  (h:∀ v G' L1,J5.le G G'→Post v G' L1→KA C ops Q rest ((d,v)::fr) G' (L1++L))
  (hw:Qu ops fr o=some true:=by rfl) (hd:o.dst=some d:=by rfl) (hn:HH d C.n=true:=by rfl) (hsel:Zj o.op=false:=by rfl)
  (hcov:o.op.operands.toList.all (cov fr)=true:=by as_aux_lemma=>kernel_rfl) (hrun:∀ w,(execOp (W6 fr) o).run C.P w=.ok (.enter f args) w:=by intro _;as_aux_lemma=>kernel_rfl) :
  KA C ops Q (o::rest) fr G L :=
 Jg9 d (hc.frame L) (fun v G' L' hle ⟨L1,e,hp⟩=>by subst e;exact h v G' L1 hle hp) hw hd hn hsel hcov hrun
theorem Qi (d:Nat) {f:FuncId} {args:Array Value} {Ls Lr:Bl} {Post:Value→J5→Bl→Prop} (hc:JfI C.P f args G Ls Post)
  (h:∀ v G' L1,J5.le G G'→Post v G' L1→KA C ops Q rest ((d,v)::fr) G' (L1++Lr)) (hL:L=Ls++Lr:=by rfl)
  (hw:Qu ops fr o=some true:=by rfl) (hd:o.dst=some d:=by rfl) (hn:HH d C.n=true:=by rfl) (hsel:Zj o.op=false:=by rfl)
  (hcov:o.op.operands.toList.all (cov fr)=true:=by as_aux_lemma=>kernel_rfl) (hrun:∀ w,(execOp (W6 fr) o).run C.P w=.ok (.enter f args) w:=by intro _;as_aux_lemma=>kernel_rfl) :
  KA C ops Q (o::rest) fr G L:=by
 subst hL
 exact Jg9 d (hc Lr) (fun v G' L' hle ⟨L1,e,hp⟩=>by subst e;exact h v G' L1 hle hp) hw hd hn hsel hcov hrun
end
theorem JpF {w0:World} {G0 G G1:J5} {L:Bl} (L':Bl) {Post:Value→J5→Bl→Prop} {v:Value} (hs:L'.Sublist L) (hle:J5.le G G1) (hp:Post v G1 L') :
  ∀ w,St w0 G0 w G1 L→BP w0 G0 G Post (.returned v) w:=Jlg L' (JaE hs) hle hp
theorem bp_own {w0:World} {G0 G G1:J5} {L Lr:Bl} (Ls:Bl) {Post:Value→J5→Bl→Prop} {v:Value} (hs:(Ls++Lr).Sublist L) (hle:J5.le G G1) (hp:Post v G1 Ls) :
  ∀ w,St w0 G0 w G1 L→BP w0 G0 G (fun u G' L'=>∃ Ls',L'=Ls'++Lr∧Post u G' Ls') (.returned v) w:=Jlg (Ls++Lr) (JaE hs) hle ⟨Ls,rfl,hp⟩
theorem JD {w0:World} {G0 G G1:J5} {L:Bl} (L':Bl) {Post:Value→J5→Bl→Prop} {v:Value} (hle:J5.le G G1) (hp:Post v G1 L') (hs:L'.Sublist L:=by first | exact .refl _ | (repeat' (first | exact .slnil | exact .refl _ | refine .cons_cons _ ?_ | refine .cons _ ?_))) :
  ∀ w,St w0 G0 w G1 L→BP w0 G0 G Post (.returned v) w:=JpF L' hs hle hp
theorem KB {w0:World} {G0 G G1:J5} {L Lr:Bl} (Ls:Bl) {Post:Value→J5→Bl→Prop} {v:Value} (hle:J5.le G G1) (hp:Post v G1 Ls) (hs:(Ls++Lr).Sublist L:=by first | exact .refl _ | (repeat' (first | exact .slnil | exact .refl _ | refine .cons_cons _ ?_ | refine .cons _ ?_))) :
  ∀ w,St w0 G0 w G1 L→BP w0 G0 G (fun u G' L'=>∃ Ls',L'=Ls'++Lr∧Post u G' Ls') (.returned v) w:=bp_own Ls hs hle hp
section
variable {C:Cx} {Q:Bq} {fr:Bf} {G:J5} {L:Bl} {ops:Bp} {rest:List Oper} {o:Oper}
theorem JR.of_lit {α:Type} {E:YR α} {G:J5} {b:Nat} (css:List Bv) (l:List α) (hA:JgE E G css l) (hmax:l.length≤9223372036854775807) :
  JR E G (At b 0) l.length l [Sg b 0 css.flatten]:=by
 refine ⟨⟨css,hA.len.1,fun i x hx=>hA.get i x hx,?_⟩⟩
 exact Row.lit (by rw [K3 hA.len.2,hA.len.1]) hmax
theorem Qd {α:Type} {E:YR α} {a:Ba} {cap:Nat} {l:List α} {r:Bg} (d e i j:Nat) {b:Nat} {cs:Bv} (x:α) (hr:JR E G a cap l r) (hx:E.R G cs x)
  (h63:l.length+1≤9223372036854775807) (hby:(l.length+1)*E.bytes≤140737488355328)
  (h:∀ a' cap' r',JR E G a' cap' (l++[x]) r'→KA C ops Q rest ((d,Sl a' (l++[x]).length cap')::fr) G (L.set i r'))
  (hL:L[i]? = some r:=by rfl) (hj:L[j]? = some [Sg b 0 cs]:=by rfl)
  (hb:base C.n ops fr o d=true:=by as_aux_lemma=>kernel_rfl)
  (hc:Ja6 C.P fr o e E.sz E.bytes=some (Sl a l.length cap,Sl (At b 0) 1 1):=by as_aux_lemma=>kernel_rfl):KA C ops Q (o::rest) fr G L :=
 Jl9 d e i j x hr hx h63 hby (fun a' cap' r' ht=>by have:=h a' cap' r' ht;rw [Hf] at this;exact this) hL hj hb hc
theorem Jbm {α:Type} {E:YR α} {a ax:Ba} {cap capx:Nat} {l ys:List α} {r:Bg} (d e i:Nat) (hr:JR E G a cap l r) (hy:RS E G ax capx ys)
  (h63:l.length+ys.length≤9223372036854775807) (hby:(l.length+ys.length)*E.bytes≤140737488355328)
  (h:∀ a' cap' r',JR E G a' cap' (l++ys) r'→KA C ops Q rest ((d,Sl a' (l++ys).length cap')::fr) G (L.set i r'))
  (hL:L[i]? = some r:=by rfl)
  (hb:base C.n ops fr o d=true:=by as_aux_lemma=>kernel_rfl)
  (hc:Ja6 C.P fr o e E.sz E.bytes=some (Sl a l.length cap,Sl ax ys.length capx):=by as_aux_lemma=>kernel_rfl):KA C ops Q (o::rest) fr G L :=
 Jnx d e i hr hy h63 hby (fun a' cap' r' ht=>by have:=h a' cap' r' ht;rw [Hf] at this;exact this) hL hb hc
theorem RS.reslX {α:Type} {E:YR α} {a:Ba} {cap:Nat} {l:List α} (hl:RS E G a cap l) (lo hi:Nat) (h3:lo≤hi) (h4:hi≤l.length) :
  ∃ a' c',a'=(if cap=lo then a else a.map (·.add (lo*E.sz)))∧c'=cap-lo∧((l.take hi).drop lo).length=hi-lo∧hi≤cap∧RS E G a' c' ((l.take hi).drop lo) :=
 ⟨_,_,rfl,rfl,by simp;omega,Mu h4 hl.le,hl.resl lo hi h3 h4⟩
theorem RS.reslXT {α:Type} {E:YR α} {a:Ba} {cap:Nat} {l:List α} (hl:RS E G a cap l) (hi:Nat) (h4:hi≤l.length) :
  ∃ a' c',a'=(if cap=0 then a else a.map (·.add (0*E.sz)))∧c'=cap-0∧(l.take hi).length=hi-0∧hi≤cap∧RS E G a' c' (l.take hi):=by
 have:=hl.reslX 0 hi (Mr _) h4
 simpa only [List.drop_zero] using this
theorem RS.reslXD {α:Type} {E:YR α} {a:Ba} {cap:Nat} {l:List α} (hl:RS E G a cap l) (lo:Nat) (h4:lo≤l.length) :
  ∃ a' c',a'=(if cap=lo then a else a.map (·.add (lo*E.sz)))∧c'=cap-lo∧(l.drop lo).length=l.length-lo∧l.length≤cap∧RS E G a' c' (l.drop lo):=by
 have:=hl.reslX lo l.length h4 (H1 _)
 simpa only [List.take_length] using this
theorem Ws (d sz:Nat) {a a':Ba} {len cap c' n:Nat} (vlo vhi:Option Value) (lo hi:Nat) (h1:JeH vlo lo) (h2:Jbw vhi hi len) (h3:lo≤hi)
  (ha:a'=(if cap=lo then a else a.map (·.add (lo*sz)))) (hc':c'=cap-lo) (hn:n=hi-lo) (h4:hi≤cap)
  (h:KA C ops Q rest ((d,Sl a' n c')::fr) G L)
  (hb:base C.n ops fr o d=true:=by as_aux_lemma=>kernel_rfl)
  (hx:(JcE fr o,JeI C.P o sz)=(some (Sl a len cap,vlo,vhi,true),true):=by as_aux_lemma=>kernel_rfl):KA C ops Q (o::rest) fr G L:=by
 simp only [Hs.injEq] at hx
 subst ha hc' hn
 exact QE d hb (fun w hw=>⟨_,w,G,L,Jnw hx.1 hx.2 h1 h2 h3 h4 w,hw,h⟩)
theorem Jd9 (d:Nat) {l:Bb} (vlo vhi:Option Value) (lo hi:Nat) (h1:JeH vlo 0) (h2:Jbw vhi hi l.length) (h3:lo≤hi) (h4:hi≤l.length)
  (h:KA C ops Q rest ((d,Sr (l.take hi))::fr) G L)
  (hb:base C.n ops fr o d=true:=by as_aux_lemma=>kernel_rfl)
  (hx:(JcE fr o,Jd5 C.P o)=(some (Sr l,vlo,vhi,true),true):=by as_aux_lemma=>kernel_rfl):KA C ops Q (o::rest) fr G L :=
 JiB d vlo vhi 0 hi h1 h2 (Mr _) h4 (by rw [List.drop_zero];exact h) hb hx
theorem Jmd (d:Nat) {l:Bb} (vlo vhi:Option Value) (lo hi:Nat) (h1:JeH vlo lo) (h2:Jbw vhi l.length l.length) (h3:lo≤l.length)
  (h:KA C ops Q rest ((d,Sr (l.drop lo))::fr) G L)
  (hb:base C.n ops fr o d=true:=by as_aux_lemma=>kernel_rfl)
  (hx:(JcE fr o,Jd5 C.P o)=(some (Sr l,vlo,vhi,true),true):=by as_aux_lemma=>kernel_rfl):KA C ops Q (o::rest) fr G L :=
 JiB d vlo vhi lo l.length h1 h2 h3 (H1 _) (by rw [List.take_length];exact h) hb hx
theorem ZX {cs:Bv} (h:cs.all Value.oneCell'=true):∀ u∈cs,u.oneCell'=true:=Hl.1 h
end
def WN (l:Bb):Bv:=l.map fun b=>Y (b.toNat:Int)
theorem ZK (l:Bb):(WN l).length=l.length:=by simp [WN]
theorem JcF (l m:Bb):WN (l++m)=WN l++WN m:=by simp [WN]
theorem JcZ {l:Bb}:∀ u∈WN l,u.oneCell'=true:=by
 intro u hu
 obtain ⟨_,_,rfl⟩:=Mf.1 hu
 rfl
structure Jby (e:TypeId) (a:Ba) (cap:Nat) (l:Bb) (r:Bg):Prop where
 max:cap≤9223372036854775807
 shape:(a=none∧cap=0∧l=[]∧r=[])∨∃ b spare,a=some ⟨b,0,none⟩∧0<cap∧l.length+spare.length=cap∧r=[Vm e b 0 (WN l++spare)]
theorem Jby.nil (e:TypeId):Jby e none 0 [] []:=⟨by omega,.inl ⟨rfl,rfl,rfl,rfl⟩⟩
theorem St.allocT {w0 w:World} {G0 G:J5} {L:Bl} (h:St w0 G0 w G L) (cs:Array Value) (t:TypeId) :
  St w0 G0 (w.alloc (.cells cs t)) G ([Vm t w.heap.size 0 cs.toList]::L):=by
 have hA:=h.alloc cs t
 refine ⟨hA.below,hA.mem,hA.grow,hA.fresh,fun s hs=>?_,?_⟩
 ·
  rw [Hu] at hs
  rcases HI.1 hs with hs | hs
  ·
   obtain rfl:s=_:=by simpa using hs
   have:=hA.own (Sg w.heap.size 0 cs.toList) (by simp)
   exact ⟨this.1,this.2.1,this.2.2.1,fun e he=>by
    cases he
    exact ⟨rfl,YG.2 ⟨cs,by unfold World.alloc;simp,rfl⟩⟩⟩
  · exact hA.own s (by rw [Hu];exact MD _ hs)
 ·
  have:=hA.apart
  rw [Hu] at this ⊢
  obtain ⟨_,p2,p3⟩:=Ho.1 this
  exact Ho.2 ⟨by simp,p2,fun x hx y hy=>by
   obtain rfl:x=_:=by simpa using hx
   exact p3 (Sg w.heap.size 0 cs.toList) (by simp) y hy⟩
theorem St.appendB {P:Program} {w0 w:World} {G0 G:J5} {L:Bl} (hw:St w0 G0 w G L) {i:Nat} {r:Bg} (hL:L[i]? = some r)
  {t tx ty e:TypeId} {inf:TypeInfo} {z:Value} (ht:P.underlying t=some (.slice e)) (hi:P.info? e=some inf) (hz:inf.zero=some z) (hzs:z.cells.size=1) (hsz:inf.size=1) (hbs:inf.bytes=1)
  {a:Ba} {cap:Nat} {l:Bb} (hr:Jby e a cap l r) {x:Value} {news:Bb} (hs:Src P 1 tx x news.length (WN news) w)
  (hby:l.length+news.length≤140737488355328) :
  ∃ a' cap' r' w',(Builtin.append_ #[t,tx] ty #[.slice a l.length cap,x]).run P w=.ok (.slice a' (l.length+news.length) cap') w'∧St w0 G0 w' G (L.set i r')∧Jby e a' cap' (l++news) r':=by
 have hset:L.set i r=L:=by
  obtain ⟨hi',he⟩:=Ha.1 hL
  rw [← he];exact MA hi'
 have fresh:∀ (cs:Array Value),St w0 G0 (w.drew.alloc (.cells cs e)) G (L.set i [Vm e w.heap.size 0 cs.toList]):=by
  intro cs
  have hA:=St.allocT (hw.drew) cs e
  obtain ⟨A,B',hLe,hs⟩:=Vg hL
  rw [hs]
  refine hA.reorder _ (A.flatten++([Vm e w.heap.size 0 cs.toList]++(r++B'.flatten))) ?_ ?_
  ·
   rw [hLe]
   simp only [Hu,Ht]
   exact Mp _ _ _
  ·
   simp only [Hu,Ht]
   exact HM.append (HM.refl _) (HM.append (HM.refl _) (Mb _ _))
 have hs':Src P inf.size tx x news.length (WN news) w:=by rw [hsz];exact hs
 have hfit:∀ c,c<l.length+news.length→Builtin.nextslicecap (l.length+news.length) c*inf.bytes≤281474976710656:=fun c hc=>by
  rw [hbs];exact growslice_fits hc (by rw [ME];exact hby)
 rcases hr.shape with ⟨rfl,rfl,rfl,rfl⟩ | ⟨b,spare,rfl,hc0,hsp,rfl⟩
 ·
  by_cases h0:news.length=0
  ·
   have hn:news=[]:=Hv h0
   subst hn
   refine ⟨none,0,[],w,?_,by rw [hset];exact hw,Jby.nil e⟩
   have hc:=hs'.cells
   have hl:=hs'.len w
   rcases hs.kind with ⟨e',hk⟩ | hk <;> simp [Builtin.append_,run_underlying ht,run_underlying hk,sizeOf,typeInfo,hi,hl,hc] <;> simp at hl hc <;> simp [hl,hc]
  ·
   have hrun:=run_append_grow_src (P:=P) w t tx ty e inf z ht hi hz none 0 0 [] (run_firstCells_none w.drew _ _ _ _) x news.length (WN news) hs' (by omega) (by omega) (by simpa using hfit 0 (by omega))
   simp only [HC,List.nil_append,Mz] at hrun ⊢
   have hge:=grownCap_ge w news.length 0 e
   refine ⟨_,_,_,_,hrun,fresh _,⟨?_,.inr ⟨w.heap.size,(Builtin.zeroCells z.cells (grownCap w news.length 0 e-news.length)).toList,rfl,by omega,?_,by simp⟩⟩⟩
   ·
    have:=grownCap_le_maxLen w news.length 0 e (by simp only [maxLen];omega)
    simp only [maxLen] at this;omega
   ·
    have:(Builtin.zeroCells z.cells (grownCap w news.length 0 e-news.length)).toList.length=grownCap w news.length 0 e-news.length:=by
     rw [H3,Yi,hzs,ME]
    omega
 ·
  have hms:(Vm e b 0 (WN l++spare))∈L.flatten:=by
   obtain ⟨hi',he⟩:=Ha.1 hL
   exact Hk.2 ⟨_,he ▸ Hn hi',by simp⟩
  have hown:=(hw.own _ hms).2.1
  simp only [HC] at hown
  by_cases hroom:l.length+news.length≤cap
  ·
   have hlen:l.length+(WN news).length≤(WN l++spare).length:=by
    rw [Hf,ZK,ZK];omega
   have hcell:∀ j,j<(WN news).length→∃ u,w.cell? ⟨b,0+l.length+j,none⟩=some u∧w.frozen? ⟨b,0+l.length+j,none⟩=false:=fun j hj=>by
    have:=hown (l.length+j) _ (Hc (show l.length+j<(WN l++spare).length by omega))
    rw [HC]
    exact ⟨_,this.1,this.2.1⟩
   have hst:=Y7 P b 0 (WN news) w l.length JcZ (fun j hj=>by obtain ⟨u,h,_⟩:=hcell j hj;exact ⟨u,h⟩) (fun j hj=>by obtain ⟨u,_,h⟩:=hcell j hj;exact h)
   refine ⟨some ⟨b,0,none⟩,cap,[Vm e b 0 (Qz (WN l++spare) l.length (WN news))],WF w b (0+l.length) (WN news),?_,hw.store hL l.length (WN news) hlen,⟨hr.max,.inr ⟨b,spare.drop news.length,rfl,hc0,?_,?_⟩⟩⟩
   ·
    have hc:=hs'.cells
    have hl:=hs'.len w
    have ha:∀ k,(⟨b,0,none⟩:Addr).add k=⟨b,0+k,none⟩:=fun k=>Wv b 0 k
    have hst':(storeCells ⟨b,0+l.length,none⟩ (WN news) 0).run P w=.ok () (WF w b (0+l.length) (WN news)) :=
     Y7 P b (0+l.length) (WN news) w 0 JcZ (fun j hj=>by obtain ⟨u,h,_⟩:=hcell j hj;exact ⟨u,h⟩) (fun j hj=>by obtain ⟨u,_,h⟩:=hcell j hj;exact h)
    rcases hs.kind with ⟨e',hk⟩ | hk <;> simp [Builtin.append_,run_underlying ht,run_underlying hk,sizeOf,typeInfo,hi,hl,hc,hroom,ha,hsz] <;> (rw [hsz] at hc;simp only [HC] at hst' ⊢;simp [hc,hst'])
   · rw [Hf,HT];omega
   ·
    congr 2
    unfold Qz
    rw [← ZK l,HN,JcF,Hz]
    congr 2
    rw [← HO,HP,ZK]
  ·
   have hold:(Builtin.firstCells inf.size l.length (.slice (some ⟨b,0,none⟩) l.length cap)).run P w.drew=.ok (WN l).toArray w.drew:=by
    refine run_firstCells_some w.drew inf.size l.length ⟨b,0,none⟩ _ _ (WN l) (by rw [ZK,hsz,ME]) ?_
    intro j v hv
    rw [Wv,HC]
    refine (hown j v ?_).1
    rw [Hj (Ha.1 hv).1];exact hv
   have hrun:=run_append_grow_src (P:=P) w t tx ty e inf z ht hi hz (some ⟨b,0,none⟩) l.length cap (WN l) hold x news.length (WN news) hs' (by omega) (by omega) (hfit cap (by omega))
   have hge:=grownCap_ge w (l.length+news.length) cap e
   refine ⟨_,_,_,_,hrun,fresh _,⟨?_,.inr ⟨w.heap.size,(Builtin.zeroCells z.cells (grownCap w (l.length+news.length) cap e-(l.length+news.length))).toList,rfl,by omega,?_,by simp [JcF]⟩⟩⟩
   ·
    have:=grownCap_le_maxLen w (l.length+news.length) cap e (by simp only [maxLen];omega)
    simp only [maxLen] at this;omega
   ·
    have:(Builtin.zeroCells z.cells (grownCap w (l.length+news.length) cap e-(l.length+news.length))).toList.length=grownCap w (l.length+news.length) cap e-(l.length+news.length):=by
     rw [H3,Yi,hzs,ME]
    rw [Hf];omega
section
variable {C:Cx} {Q:Bq} {fr:Bf} {G:J5} {L:Bl} {ops:Bp} {rest:List Oper} {o:Oper}
def Jfh (P:Program) (fr:Bf) (o:Oper) (e:TypeId) (str:Bool):Option (Value×Value) :=
  match o.op with
  | .call c=>(match c.callee,c.args.toList,c.argTypes.toList with
    | .builtin .append,[s,x],[t,u] =>
      (match P.underlying t,P.info? e with
       | some (.slice e'),some inf=>(match inf.zero with
          | some z=>bif He e' e && He inf.size 1 && He inf.bytes 1 && He z.cells.size 1 &&
              (match P.underlying u with | some .string=>str | some (.slice _)=>!str | _=>false) then some (W6 fr s,W6 fr x) else none
          | none=>none)
       | _,_=>none)
    | _,_,_=>none)
  | _=>none
theorem JiH {P:Program} {e:TypeId} {str:Bool} {u x:Value} (h:Jfh P fr o e str=some (u,x)) :
  ∃ t tx ty inf z,P.underlying t=some (.slice e)∧P.info? e=some inf∧inf.zero=some z∧z.cells.size=1∧inf.size=1∧inf.bytes=1 ∧
   (if str then P.underlying tx=some .string else ∃ e',P.underlying tx=some (.slice e')) ∧
   ∀ w,(execOp (W6 fr) o).run P w=((Builtin.append_ #[t,tx] ty #[u,x]).run P w).andThen fun v w'=>.ok (.value v) w':=by
 unfold Jfh at h
 split at h
 case h_2=>cases h
 rename_i cl hop
 split at h
 case h_2=>cases h
 rename_i s x t tx hcal hargs htys
 split at h
 case h_2=>cases h
 rename_i e' inf hu hi
 split at h
 case h_2=>cases h
 rename_i z hz
 revert h
 generalize hk:(match P.underlying tx with | some .string=>str | some (.slice _)=>!str | _=>false)=kk
 intro h
 cases hc:(He e' e && He inf.size 1 && He inf.bytes 1 && He z.cells.size 1 && kk) with
 | false=>rw [hc] at h;cases h
 | true =>
  rw [hc] at h
  simp only [cond_true,Hm.injEq,Hs.injEq] at h
  simp only [Hg] at hc
  obtain ⟨⟨⟨⟨c2,c3⟩,c4⟩,c5⟩,c6⟩:=hc
  obtain rfl:=Hb c2
  subst c6
  have ha:cl.args=#[s,x]:=by rw [← hargs]
  have ht:cl.argTypes=#[t,tx]:=by rw [← htys]
  refine ⟨t,tx,o.type,inf,z,hu,hi,hz,Hb c5,Hb c3,Hb c4,?_,fun w=>?_⟩
  ·
   split at hk
   · rename_i hp;subst hk;rw [if_pos rfl];exact hp
   ·
    rename_i e' hp
    have:str=false:=by simpa using hk
    subst this;simp only [H4,if_false];exact ⟨e',hp⟩
   · cases hk
  ·
   unfold execOp
   simp only [hop,hcal,ha,ht,resolve,invoke,builtin,Hh,Hr,Hd,HU,HS,H7,h.1,h.2]
theorem Jme {a:Ba} {cap:Nat} {l s:Bb} {r:Bg} (d e i:Nat) (hr:Jby e a cap l r) (hby:l.length+s.length≤140737488355328)
  (h:∀ a' cap' r',Jby e a' cap' (l++s) r'→KA C ops Q rest ((d,Sl a' (l++s).length cap')::fr) G (L.set i r'))
  (hL:L[i]? = some r:=by rfl)
  (hb:base C.n ops fr o d=true:=by as_aux_lemma=>kernel_rfl)
  (hc:Jfh C.P fr o e true=some (Sl a l.length cap,Sr s):=by as_aux_lemma=>kernel_rfl):KA C ops Q (o::rest) fr G L:=by
 obtain ⟨t,tx,ty,inf,z,hu,hi,hz,hzs,hsz,hbs,hk,hrun⟩:=JiH hc
 refine QE d hb (fun w hw=>?_)
 obtain ⟨a',cap',r',w',q1,q2,q3⟩:=hw.appendB (P:=C.P) hL (ty:=ty) hu hi hz hzs hsz hbs hr (Src.ofString (P:=C.P) (w:=w) (tx:=tx) hk (B s)) hby
 refine ⟨_,w',G,_,by rw [hrun,q1];rfl,q2,?_⟩
 have:=h a' cap' r' q3
 rw [Hf] at this;exact this
theorem Jmf {a:Ba} {cap:Nat} {l:Bb} {r:Bg} (d e i j:Nat) {b:Nat} (x:UInt8) (y:Int) (hy:y=(x.toNat:Int)) (hr:Jby e a cap l r) (hby:l.length+1≤140737488355328)
  (h:∀ a' cap' r',Jby e a' cap' (l++[x]) r'→KA C ops Q rest ((d,Sl a' (l++[x]).length cap')::fr) G (L.set i r'))
  (hL:L[i]? = some r:=by rfl) (hj:L[j]? = some [Sg b 0 [Y y]]:=by rfl)
  (hb:base C.n ops fr o d=true:=by as_aux_lemma=>kernel_rfl)
  (hc:Jfh C.P fr o e false=some (Sl a l.length cap,Sl (At b 0) 1 1):=by as_aux_lemma=>kernel_rfl):KA C ops Q (o::rest) fr G L:=by
 obtain ⟨t,tx,ty,inf,z,hu,hi,hz,hzs,hsz,hbs,hk,hrun⟩:=JiH hc
 simp only [H4,if_false] at hk
 obtain ⟨e',hk⟩:=hk
 refine QE d hb (fun w hw=>?_)
 have hms:(Sg b 0 [Y y])∈L.flatten:=by
  obtain ⟨hi',he⟩:=Ha.1 hj
  exact Hk.2 ⟨_,he ▸ Hn hi',by simp⟩
 have hown:=(hw.own _ hms).2.1
 simp only [HC] at hown
 have hsrc:Src C.P 1 tx (.slice (some ⟨b,0,none⟩) 1 1) [x].length (WN [x]) w:=Src.ofSlice w hk ⟨b,0,none⟩ 1 1 (WN [x]) rfl (fun j u hu=>by
  rw [Wv,HC]
  refine (hown j u ?_).1
  rw [hy];exact hu) JcZ
 obtain ⟨a',cap',r',w',q1,q2,q3⟩:=hw.appendB (P:=C.P) hL (ty:=ty) hu hi hz hzs hsz hbs hr hsrc hby
 refine ⟨_,w',G,_,by rw [hrun,q1];rfl,q2,?_⟩
 have:=h a' cap' r' q3
 rw [Hf] at this;exact this
def JnD (fr:Bf) (o:Oper):Option Value :=
 match o.op with
 | .call c=>(match c.callee,c.args.toList with
  | .builtin .unsafeSliceData,[s]=>some (W6 fr s)
  | _,_=>none)
 | _=>none
def Jhe (a:Ba):Value:=.pointer a
theorem JnE {e:TypeId} {a:Ba} {cap:Nat} {l:Bb} {r:Bg} (d:Nat) (hr:Jby e a cap l r)
  (h:KA C ops Q rest ((d,Jhe a)::fr) G L)
  (hb:base C.n ops fr o d=true:=by as_aux_lemma=>kernel_rfl)
  (hc:JnD fr o=some (Sl a l.length cap):=by as_aux_lemma=>kernel_rfl):KA C ops Q (o::rest) fr G L:=by
 refine QE d hb (fun w hw=>⟨_,w,G,L,?_,hw,h⟩)
 unfold JnD at hc
 split at hc
 case h_2=>cases hc
 rename_i cl hop
 split at hc
 case h_2=>cases hc
 rename_i s hcal hargs
 simp only [Hm.injEq] at hc
 have ha:cl.args=#[s]:=by rw [← hargs]
 unfold execOp
 simp only [hop,hcal,ha,resolve,invoke,builtin,Hh,Hr,Hd,HU,HS,H7,hc]
 rcases hr.shape with ⟨rfl,rfl,rfl,rfl⟩ | ⟨b,spare,rfl,hc0,hsp,rfl⟩
 · rfl
 · rw [Lib.run_unsafeSliceData_row w _ _ _ _ _ (by omega)];rfl
def chkUS (P:Program) (fr:Bf) (o:Oper) (e:TypeId):Option (Value×Value) :=
 match o.op with
 | .call c=>(match c.callee,c.args.toList,c.argTypes.toList with
  | .builtin .unsafeString,[p,n],[pt,it]=>(match P.underlying pt with
   | some (.pointer e')=>bif He e' e && He (P.cellsOf e) 1 then some (W6 fr p,W6 fr n) else none
   | _=>none)
  | _,_,_=>none)
 | _=>none
theorem St.freezeW {w0 w:World} {G0 G:J5} {L:Bl} {i:Nat} {e:TypeId} {b:Nat} {cs:Bv} (hw:St w0 G0 w G L) (hL:L[i]? = some [Vm e b 0 cs]) (hpos:0<cs.length) (n:Nat):St w0 G0 (w.freeze ⟨b,0,none⟩ n) G (L.set i []):=by
 obtain ⟨A,B,rfl,hset⟩:=Vg hL
 rw [hset]
 have hm:(Vm e b 0 cs)∈(A++[Vm e b 0 cs]::B).flatten:=by simp
 obtain ⟨hB,hown,_,hty⟩:=hw.own _ hm
 obtain ⟨_,hsz⟩:=hty e rfl
 obtain ⟨c0,hh0,hs0⟩:=YG.1 hsz
 simp only at hh0 hs0 hB
 have hoth:∀ b',b' ≠ b→(w.freeze ⟨b,0,none⟩ n).heap[b']? = w.heap[b']?:=by
  intro b' hb
  unfold World.freeze
  split
  · rfl
  ·
   simp only
   rw [HY,if_neg (fun h=>hb h.symm)]
 have hthis:∃ fz,(w.freeze ⟨b,0,none⟩ n).heap[b]? = some (.cells c0 e fz):=by
  unfold World.freeze
  split
  · exact ⟨_,hh0⟩
  ·
   simp only
   rw [HY,if_pos rfl,hh0]
   exact ⟨_,rfl⟩
 obtain ⟨fz,hth⟩:=hthis
 have hcell:∀ (b' o:Nat),(w.freeze ⟨b,0,none⟩ n).cell? ⟨b',o,none⟩=w.cell? ⟨b',o,none⟩:=by
  intro b' o
  by_cases hb:b'=b
  ·
   subst hb
   unfold World.cell?
   simp only [hth,hh0]
  ·
   unfold World.cell?
   simp only [hoth b' hb]
 have hd:=hw.dropAt (A++[]::B) (by simp)
 have hap:∀ t,t∈A.flatten∨t∈B.flatten→(Vm e b 0 cs).apart t:=by
  have happ:(A.flatten++([Vm e b 0 cs]++B.flatten)).Pairwise Vf.apart:=by simpa using hw.apart
  obtain ⟨hA,hcB,hAcB⟩:=Ho.1 happ
  obtain ⟨hc,hB',hcB'⟩:=Ho.1 hcB
  intro t ht
  rcases ht with ht | ht
  · exact Vf.apart_symm (hAcB t ht _ (by simp))
  · exact hcB' _ (by simp) t ht
 have hbl:Below w0.heap.size w (w.freeze ⟨b,0,none⟩ n):=by
  refine ⟨?_,?_,?_,?_,fun k hk=>hoth k (by omega)⟩ <;> unfold World.freeze <;> split <;> simp
 have hfr:∀ b' o v,G b' o=some v→w.frozen? ⟨b',o,none⟩=false→(w.freeze ⟨b,0,none⟩ n).frozen? ⟨b',o,none⟩=false:=by
  intro b' o v hv hf
  by_cases hb:b'=b
  ·
   exfalso
   have x1:=hw.mem _ _ _ hv
   have hlt:o<cs.length:=by
    unfold World.cell? at x1
    rw [hb] at x1
    simp only [hh0] at x1
    have:=(Hp.1 (by simpa using x1)).1
    omega
   have:=(hown o _ (Hc hlt)).2.2
   simp only [HC] at this
   rw [hb,this] at hv;cases hv
  ·
   unfold World.frozen? at *
   simp only [hoth _ hb]
   exact hf
 refine ⟨hw.below.trans hbl,fun b' o v hv=>(hcell _ _).trans (hw.mem _ _ _ hv),hw.grow,fun b' o v hv=>(hw.fresh b' o v hv).imp_right fun q=>⟨q.1,hfr b' o v hv q.2⟩,fun t ht=>?_,hd.apart⟩
 have ht':t∈A.flatten∨t∈B.flatten:=by simpa using ht
 have hto:=hd.own t ht
 obtain ⟨h1,h2,h3,h4⟩:=hd.own t ht
 refine ⟨h1,fun k v hv=>?_,fun x hx=>?_,fun e' he'=>?_⟩
 ·
  obtain ⟨x1,x2,x3⟩:=h2 k v hv
  refine ⟨(hcell _ _).trans x1,?_,x3⟩
  by_cases hb:t.b=b
  ·
   exfalso
   have hno:=hto.noOb hv
   have hk:=(Ha.1 hv).1
   have hlt:t.off+k<cs.length:=by
    unfold World.cell? at x1
    rw [hb] at x1
    simp only [hh0] at x1
    have:=(Hp.1 (by simpa using x1)).1
    omega
   exact hap t ht' b (t.off+k) ⟨rfl,Mr _,by simp [Vf.len];omega⟩ ⟨hb,by omega,by simp only [Vf.len,hno];omega⟩
  ·
   unfold World.frozen? at *
   simp only [hoth _ hb]
   exact x2
 ·
  obtain ⟨p1,p2,p3,p4⟩:=h3 x hx
  refine ⟨p1,?_,p3,p4⟩
  have:t.b ≠ b:=fun hb=>by rw [hb,hh0] at p2;cases p2;simp [JdZ] at p1
  rw [hoth _ this];exact p2
 ·
  obtain ⟨q1,q2⟩:=h4 e' he'
  refine ⟨q1,?_⟩
  obtain ⟨c1,hh1,hs1⟩:=YG.1 q2
  by_cases hb:t.b=b
  ·
   exfalso
   rw [hb,hh0] at hh1
   simp only [Hm.injEq,Obj.cells.injEq] at hh1
   obtain ⟨rfl,he,_⟩:=hh1
   simp only at hs0 hs1
   have hl:0<t.cs.length:=by omega
   have hno:=hto.noOb (Hc hl)
   exact hap t ht' b 0 ⟨rfl,H1 _,by simp [Vf.len];omega⟩ ⟨hb,by omega,by simp only [Vf.len,hno];omega⟩
  · exact YG.2 ⟨c1,by rw [hoth _ hb];exact hh1,hs1⟩
theorem Jmg {e:TypeId} {a:Ba} {cap:Nat} {l:Bb} {r:Bg} (d i:Nat) (hr:Jby e a cap l r)
  (h:KA C ops Q rest ((d,Sr l)::fr) G (L.set i []))
  (hL:L[i]? = some r:=by rfl)
  (hb:base C.n ops fr o d=true:=by as_aux_lemma=>kernel_rfl)
  (hc:chkUS C.P fr o e=some (Jhe a,I (l.length:Int)):=by as_aux_lemma=>kernel_rfl):KA C ops Q (o::rest) fr G L:=by
 refine QE d hb (fun w hw=>?_)
 unfold chkUS at hc
 split at hc
 case h_2=>cases hc
 rename_i cl hop
 split at hc
 case h_2=>cases hc
 rename_i p n pt it hcal hargs htys
 split at hc
 case h_2=>cases hc
 rename_i e' hpt
 cases hx:(He e' e && He (C.P.cellsOf e) 1) with
 | false=>rw [hx] at hc;cases hc
 | true =>
  rw [hx] at hc
  simp only [cond_true,Hm.injEq,Hs.injEq] at hc
  simp only [Hg] at hx
  obtain rfl:=Hb hx.1
  have hc1:=Hb hx.2
  have ha:cl.args=#[p,n]:=by rw [← hargs]
  have ht:cl.argTypes=#[pt,it]:=by rw [← htys]
  have hrun:∀ w,(execOp (W6 fr) o).run C.P w=((Builtin.unsafeString_ #[pt,it] o.type #[Jhe a,I (l.length:Int)]).run C.P w).andThen fun v w'=>.ok (.value v) w':=by
   intro w
   unfold execOp
   simp only [hop,hcal,ha,ht,resolve,invoke,builtin,Hh,Hr,Hd,HU,HS,H7,hc.1,hc.2]
  by_cases h0:l=[]
  ·
   subst h0
   refine ⟨Sr [],w,G,L.set i [],?_,hw.dropAt _ ?_,h⟩
   ·
    rw [hrun]
    have:=Lib.run_unsafeString_none (P:=C.P) w pt it o.type a
    simp only [Mz] at this ⊢
    exact (congrArg (fun r=>Result.andThen r _) this).trans rfl
   ·
    obtain ⟨A,B,hLe,hs⟩:=Vg hL
    rw [hs,hLe];simp
  ·
   rcases hr.shape with ⟨_,_,hl,_⟩ | ⟨b,spare,rfl,hc0,hsp,rfl⟩
   · exact absurd hl h0
   ·
    have hms:(Vm e' b 0 (WN l++spare))∈L.flatten:=by
     obtain ⟨hi',he⟩:=Ha.1 hL
     exact Hk.2 ⟨_,he ▸ Hn hi',by simp⟩
    obtain ⟨_,hown,_,hty⟩:=hw.own _ hms
    simp only [HC] at hown
    have hs:=(Jd0 (hty e' rfl).2).1
    have hle:l.length≤(WN l++spare).length:=by rw [Hf,ZK];omega
    have:=Lib.run_unsafeString_row (P:=C.P) w pt it o.type e' hpt hc1 b _ hs l h0 hle (by have:=hr.max;omega) (fun j x hx=>by
     rw [Wv,HC]
     refine (hown j _ ?_).1
     rw [Hj (by rw [ZK];exact (Ha.1 hx).1)]
     simp [WN,hx])
    refine ⟨Sr l,_,G,L.set i [],?_,hw.freezeW hL (by rw [Hf,ZK];omega) l.length,h⟩
    rw [hrun]
    exact (congrArg (fun r=>Result.andThen r _) this).trans rfl
def JnF (P:Program) (fr:Bf) (o:Oper):Option Value :=
 match o.op with
 | .range t x=>(match P.underlying t with | some .string=>some (W6 fr x) | _=>none)
 | _=>none
theorem Jka (d:Nat) {l:Bb} (h:∀ b,KA C ops Q rest ((d,Pt b 0)::fr) G ([Ob b (.stringIter (B l) 0)]::L))
  (hb:base C.n ops fr o d=true:=by as_aux_lemma=>kernel_rfl)
  (hc:JnF C.P fr o=some (Sr l):=by as_aux_lemma=>kernel_rfl):KA C ops Q (o::rest) fr G L:=by
 refine QE d hb (fun w hw=>?_)
 unfold JnF at hc
 split at hc
 case h_2=>cases hc
 rename_i t x hop
 split at hc
 case h_2=>cases hc
 rename_i hu
 simp only [Hm.injEq] at hc
 refine ⟨_,w.alloc (.stringIter (B l) 0),G,_,?_,hw.allocO _ rfl,h w.heap.size⟩
 unfold execOp
 simp only [hop,hc,Instr.range,Hh,Zf w hu,Hd,Hr]
 rfl
def Jll (fr:Bf) (o:Oper):Option Value :=
 match o.op with
 | .next x true=>some (W6 fr x)
 | _=>none
theorem Jmh (d i:Nat) {b pos:Nat} {l:Bb}
  (h1:pos<l.length→KA C ops Q rest ((d,.tuple #[Bo true,I (pos:Int),.int .i32 ((Utf8.decode (B l) pos).1:Int)])::fr) G (L.set i [Ob b (.stringIter (B l) (pos+(Utf8.decode (B l) pos).2))]))
  (h2:¬ pos<l.length→KA C ops Q rest ((d,.tuple #[Bo false])::fr) G L)
  (hL:L[i]? = some [Ob b (.stringIter (B l) pos)]:=by rfl)
  (hb:base C.n ops fr o d=true:=by as_aux_lemma=>kernel_rfl)
  (hc:Jll fr o=some (Pt b 0):=by as_aux_lemma=>kernel_rfl):KA C ops Q (o::rest) fr G L:=by
 refine QE d hb (fun w hw=>?_)
 unfold Jll at hc
 split at hc
 case h_2=>cases hc
 rename_i x hop
 simp only [Hm.injEq] at hc
 have hms:(Ob b (.stringIter (B l) pos))∈L.flatten:=by
  obtain ⟨hi',he⟩:=Ha.1 hL
  exact Hk.2 ⟨_,he ▸ Hn hi',by simp⟩
 have hob:=((hw.own _ hms).2.2.1 _ rfl).2.1
 simp only at hob
 have hget:(getObj b).run C.P w=.ok (.stringIter (B l) pos) w:=by simp [getObj,Sem.run,hob]
 by_cases hp:pos<l.length
 ·
  refine ⟨_,_,G,_,?_,hw.setO hL (.stringIter (B l) (pos+(Utf8.decode (B l) pos).2)) rfl,h1 hp⟩
  unfold execOp
  simp only [hop,hc,Instr.next,Hh,hget,Hd]
  have hp':pos<(B l).size:=hp
  rw [if_pos hp']
  simp only [setObj,Hh,Sem.run,Hr,Hd,goInt,hob]
 ·
  refine ⟨_,w,G,L,?_,hw,h2 hp⟩
  unfold execOp
  simp only [hop,hc,Instr.next,Hh,hget,Hd]
  have hp':¬ pos<(B l).size:=hp
  rw [if_neg hp']
  rfl
end
section
variable {C:Cx} {Q:Bq} {fr:Bf} {G:J5} {L:Bl} {ops:Bp} {rest:List Oper} {o:Oper}
def Jlm (P:Program) (fr:Bf) (o:Oper) (e sz bytes:Nat):Option (Value×Value) :=
  match o.op with
  | .call c=>(match c.callee,c.args.toList,c.argTypes.toList with
    | .builtin .append,[s,x],[t,u] =>
      (match P.underlying t,P.underlying u,P.info? e with
       | some (.slice e'),some (.int _),some inf=>(match inf.zero with
          | some z=>bif He e' e && He inf.size sz && He inf.bytes bytes && He z.cells.size sz && !He sz 0 then some (W6 fr s,W6 fr x) else none
          | none=>none)
       | _,_,_=>none)
    | _,_,_=>none)
  | _=>none
theorem Jav {α:Type} {E:YR α} {a ax:Ba} {capx:Nat} {ys:List α} {r:Bg} (d e i:Nat) (hr:JR E G a 0 [] r) (hy:RS E G ax capx ys)
  (h:∀ a' cap' r',JR E G a' cap' ys r'→KA C ops Q rest ((d,Sl a' ys.length cap')::fr) G (L.set i r'))
  (hL:L[i]? = some r:=by rfl)
  (hb:base C.n ops fr o d=true:=by as_aux_lemma=>kernel_rfl)
  (hc:Ja6 C.P fr o e E.sz E.bytes=some (Sl a 0 0,Sl ax ys.length capx):=by as_aux_lemma=>kernel_rfl):KA C ops Q (o::rest) fr G L:=by
 refine Jha (l:=[]) d e i hr hy ?_ (.inr (.inr ⟨rfl,?_⟩)) (fun a' c' r' ht _=>?_) hL hb hc
 · have:=hy.le;have:=hy.max;simp;omega
 · simpa using hy.fit
 ·
  have:=h a' c' r' ht
  rw [Mz,HC];exact this
theorem RS.isNil {α:Type} {E:YR α} {G:J5} {a:Ba} {c:Nat} {l:List α} (h:RS E G a c l) (e:a.isNone=true):l=[]:=by
 cases a with
 | some _=>cases e
 | none =>
  have:=h.nil rfl;have:=h.le
  exact Hv (by omega)
end
section
variable {C:Cx} {Q:Bq} {fr:Bf} {G:J5} {L:Bl} {ops:Bp} {rest:List Oper} {o:Oper}
def JnG (fr:Bf) (o:Oper):Option (Value×Value×Bool) :=
 match o.op with
 | .binOp op _ x y _=>(match op with
  | .quo=>some (W6 fr x,W6 fr y,true)
  | .rem=>some (W6 fr x,W6 fr y,false)
  | _=>none)
 | _=>none
theorem Jdn (d:Nat) {k:IntKind} {x y:Int} (q:Bool) (v:Int) (hy:y ≠ 0) (hv:(bif q then k.wrap (x.tdiv y) else x.tmod y)=v)
  (h:KA C ops Q rest ((d,.int k v)::fr) G L)
  (hb:base C.n ops fr o d=true:=by as_aux_lemma=>kernel_rfl)
  (hc:JnG fr o=some (.int k x,.int k y,q):=by as_aux_lemma=>kernel_rfl):KA C ops Q (o::rest) fr G L:=by
 subst hv
 refine QE d hb (fun w hw=>⟨_,w,G,L,?_,hw,h⟩)
 unfold JnG at hc
 split at hc
 case h_2=>cases hc
 rename_i op t u u' t' hop
 unfold execOp
 split at hc
 ·
  simp only [Hm.injEq,Hs.injEq] at hc
  obtain ⟨h1,h2,rfl⟩:=hc
  simp [hop,h1,h2,eqGuard,binOp,Op.intDiv,hy]
 ·
  simp only [Hm.injEq,Hs.injEq] at hc
  obtain ⟨h1,h2,rfl⟩:=hc
  simp [hop,h1,h2,eqGuard,binOp,Op.intDiv,hy]
 · cases hc
end
def chkPE (P:Program) (fr:Bf) (o:Oper):Option (Value×Value×Bool) :=
 match o.op with
 | .binOp op t x y _=>(match P.underlying t with
  | some (.pointer e)=>bif (P.info? e).isSome && !He (P.cellsOf e) 0 then (match op with
   | .eql=>some (W6 fr x,W6 fr y,true)
   | .neq=>some (W6 fr x,W6 fr y,false)
   | _=>none) else none
  | _=>none)
 | _=>none
section
variable {C:Cx} {Q:Bq} {fr:Bf} {G:J5} {L:Bl} {ops:Bp} {rest:List Oper} {o:Oper}
theorem Jdo {P:Program} {o:Oper} {op:BinOp} {t u:TypeId} {x y:Operand} {ρ:Operand→Value} {a b:Addr} {v:Value} {w:World} (hop:o.op=.binOp op t x y u) (hx:ρ x=.pointer (some a)) (hy:ρ y=.pointer (some b))
  (h:(binOp op t (.pointer (some a)) (.pointer (some b))).run P w=.ok v w):(execOp ρ o).run P w=.ok (.value v) w:=by
 have hg:(eqGuard op t x y (.pointer (some a)) (.pointer (some b))).run P w=.ok () w:=by
  unfold eqGuard
  cases op <;> rfl
 unfold execOp
 simp only [hop,hx,hy,Hh,hg,h,Hd,Hr]
theorem Jkb (d:Nat) {b o':Nat} {eq:Bool} (h:KA C ops Q rest ((d,Bo eq)::fr) G L)
  (hb:base C.n ops fr o d=true:=by as_aux_lemma=>kernel_rfl)
  (hc:chkPE C.P fr o=some (Pt b o',Pt b o',eq):=by as_aux_lemma=>kernel_rfl):KA C ops Q (o::rest) fr G L:=by
 refine QE d hb (fun w hw=>⟨Bo eq,w,G,L,?_,hw,h⟩)
 unfold chkPE at hc
 split at hc
 case h_2=>cases hc
 rename_i op t x y u hop
 split at hc
 case h_2=>cases hc
 rename_i e hu
 cases hx:((C.P.info? e).isSome && !He (C.P.cellsOf e) 0) with
 | false=>rw [hx] at hc;cases hc
 | true =>
  rw [hx] at hc
  simp only [cond_true] at hc
  simp only [Hg,Hw] at hx
  obtain ⟨⟨inf,hi⟩,_⟩:=hx
  split at hc
  ·
   simp only [Hm.injEq,Hs.injEq] at hc
   obtain ⟨h1,h2,rfl⟩:=hc
   exact Jdo hop h1 h2 (run_eql_ptr_same w _ hu hi)
  ·
   simp only [Hm.injEq,Hs.injEq] at hc
   obtain ⟨h1,h2,rfl⟩:=hc
   exact Jdo hop h1 h2 (Lib.run_neq_ptr_same w _ hu hi)
  · cases hc
def JnH (P:Program) (fr:Bf) (o:Oper):Option (Value×TypeId×Bool) :=
 match o.op with
 | .convert s d x=>(match P.underlying s,P.underlying d with
  | some (.pointer t),some .unsafePointer=>some (W6 fr x,t,true)
  | some .unsafePointer,some (.pointer t)=>some (W6 fr x,t,false)
  | _,_=>none)
 | _=>none
theorem JiI (d i t e:Nat) (dir:Bool) {b:Nat} {cs:Bv} (h:KA C ops Q rest ((d,Pt b 0)::fr) G L)
  (hL:L[i]? = some [Vm e b 0 cs]:=by rfl)
  (hb:base C.n ops fr o d=true:=by as_aux_lemma=>kernel_rfl)
  (hc:JnH C.P fr o=some (Pt b 0,t,dir):=by as_aux_lemma=>kernel_rfl)
  (hk:((C.P.info? t).isSome && !He (C.P.cellsOf t) 0 && !He cs.length 0 && (dir || liesAt C.P C.P.depth e (cs.length / C.P.cellsOf e) 0 t 1))=true:=by as_aux_lemma=>kernel_rfl):KA C ops Q (o::rest) fr G L:=by
 refine QE d hb (fun w hw=>⟨Pt b 0,w,G,L,?_,hw,h⟩)
 unfold JnH at hc
 split at hc
 case h_2=>cases hc
 rename_i s d' x hop
 simp only [Hg,HZ,Hw,Mh] at hk
 obtain ⟨⟨⟨⟨inf,hi⟩,hz⟩,hl⟩,hlie⟩:=hk
 have hms:(Vm e b 0 cs)∈L.flatten:=by
  obtain ⟨hi',he⟩:=Ha.1 hL
  exact Hk.2 ⟨_,he ▸ Hn hi',by simp⟩
 have hsh:=(Jd0 ((hw.own _ hms).2.2.2 e rfl).2).1
 simp only at hsh
 have hcs:0<cs.length:=by
  rcases HX cs.length with h0 | h0
  · rw [h0] at hl;simp at hl
  · exact h0
 have hsz:inf.size ≠ 0:=by
  intro h0
  rw [show C.P.cellsOf t=0 by simp [Program.cellsOf,hi,h0]] at hz
  simp at hz
 unfold execOp
 split at hc
 ·
  rename_i t' hs hd
  simp only [Hm.injEq,Hs.injEq] at hc
  obtain ⟨h1,rfl,rfl⟩:=hc
  simp only [hop,h1,Hh,Lib.run_to_unsafe w ⟨b,0,none⟩ hs hd hi hsz hsh hcs,Hd,Hr]
 ·
  rename_i t' hs hd
  simp only [Hm.injEq,Hs.injEq] at hc
  obtain ⟨h1,rfl,rfl⟩:=hc
  simp only [hop,h1,Hh,Lib.run_from_unsafe w ⟨b,0,none⟩ hs hd hi hsh (by simpa using hlie),Hd,Hr]
 · cases hc
theorem Jmi (d:Nat) (cs:Array Value) (t:TypeId)
  (h:∀ b,KA C ops Q rest ((d,.pointer (some ⟨b,0,none⟩))::fr) G ([Vm t b 0 cs.toList]::L))
  (hb:base C.n ops fr o d=true:=by as_aux_lemma=>kernel_rfl)
  (hrun:∀ w,(execOp (W6 fr) o).run C.P w=.ok (.value (.pointer (some ⟨w.heap.size,0,none⟩))) { w with heap:=w.heap.push (.cells cs t) }:=by intro _;as_aux_lemma=>kernel_rfl) :
  KA C ops Q (o::rest) fr G L:=by
 refine QE d hb (fun w hw=>⟨_,_,G,_,hrun w,hw.allocT cs t,h w.heap.size⟩)
def JhO (fr:Bf) (o:Oper):Option (FuncId×Array Value) :=
 match o.op with
 | .call c=>(match c.callee with
  | .value (.func f)=>some (f,c.args.map (W6 fr))
  | _=>none)
 | _=>none
theorem JnI (d:Nat) {f:FuncId} {args:Array Value} (v:Value) (hv:∀ w,(callFunc f args).run C.P w=.ok (.value v) w)
  (h:KA C ops Q rest ((d,v)::fr) G L)
  (hb:base C.n ops fr o d=true:=by as_aux_lemma=>kernel_rfl)
  (hc:JhO fr o=some (f,args):=by as_aux_lemma=>kernel_rfl):KA C ops Q (o::rest) fr G L:=by
 refine QE d hb (fun w hw=>⟨v,w,G,L,?_,hw,h⟩)
 unfold JhO at hc
 split at hc
 case h_2=>cases hc
 rename_i c hop
 split at hc
 case h_2=>cases hc
 rename_i g hcal
 simp only [Hm.injEq,Hs.injEq] at hc
 obtain ⟨rfl,rfl⟩:=hc
 have:=hv w
 unfold execOp
 simp only [hop,resolve,hcal,W6,Deferred.ofValue,Hh,Hr,Hd,invoke]
 simpa using this
end
theorem JnJ (l:Bb) (pos:Nat):1≤(Utf8.decode (B l) pos).2:=by
 unfold Utf8.decode
 dsimp only
 (repeat' split) <;> simp
theorem Jli! (l:Bb) (k:Nat) (y:UInt8) (h:l[k]? = some y):(B l).get! k=y:=by
 unfold ByteArray.get!
 simp [h]
theorem dec_lo {l:Bb} {pos:Nat} {y:UInt8} (h:l[pos]? = some y) (hy:y.toNat<128):Utf8.decode (B l) pos=(y.toNat,1):=by
 unfold Utf8.decode
 dsimp only
 have e:(B l).get! (pos+0)=y:=Jli! l pos y h
 simp only [e]
 rw [if_pos (by omega)]
theorem dec_hi {l:Bb} {pos:Nat} {y:UInt8} (h:l[pos]? = some y) (hy:128≤y.toNat):128≤(Utf8.decode (B l) pos).1:=by
 unfold Utf8.decode
 dsimp only
 have e:(B l).get! (pos+0)=y:=Jli! l pos y h
 simp only [e]
 rw [if_neg (by omega)]
 (repeat' split) <;> simp_all [Utf8.runeError]
 all_goals omega
def Jbz (p:Int→Bool) (l:Bb):Nat→Nat→Int
 | 0,_=>-1
 | n+1,pos=>if pos<l.length then (if p ((Utf8.decode (B l) pos).1:Int) then (pos:Int) else Jbz p l n (pos+(Utf8.decode (B l) pos).2)) else -1
theorem Jln {p:Int→Bool} {l:Bb}:∀ (n m pos:Nat),l.length≤pos+n→l.length≤pos+m→Jbz p l n pos=Jbz p l m pos
 | 0,0,_,_,_=>rfl
 | 0,m+1,pos,h,_=>by unfold Jbz;rw [if_neg (by omega)]
 | n+1,0,pos,_,h=>by unfold Jbz;rw [if_neg (by omega)]
 | n+1,m+1,pos,h,h'=>by
  have:=JnJ l pos
  unfold Jbz
  rw [Jln n m _ (by omega) (by omega)]
theorem JiJ {p:Int→Bool} (hp:∀ r:Int,128≤r→p r=true) {l:Bb}:∀ (n pos:Nat),l.length≤pos+n→decide (Jbz p l n pos ≥ 0)=(l.drop pos).any fun b=>p (b.toNat:Int)
 | 0,pos,h=>by
  unfold Jbz;rw [Mi (by omega)];rfl
 | n+1,pos,h=>by
  unfold Jbz
  by_cases hl:pos<l.length
  ·
   rw [if_pos hl]
   have hg:=Hc hl
   rw [Mc hl,List.any_cons]
   by_cases hy:l[pos].toNat<128
   ·
    rw [dec_lo hg hy]
    cases hq:p (l[pos].toNat:Int) with
    | true=>simp
    | false =>
     have:=JiJ hp (l:=l) n (pos+1) (by omega)
     simp only [H4,if_false,Bool.false_or];exact this
   ·
    have h1:=dec_hi hg (by omega)
    rw [hp _ (by omega),hp _ (by omega)]
    simp
  · rw [if_neg hl,Mi (by omega)];rfl
theorem JR.ix {α:Type} {E:YR α} {G:J5} {a:Ba} {cap:Nat} {l:List α} {r:Bg} {k:Nat} {x:α} (h:JR E G a cap l r) (hx:l[k]? = some x) :
  ∃ b off Jdk cs,E.R G cs x∧a=At b off∧r=[Sg b off Jdk]∧∀ (j:Nat) v,cs[j]? = some v→Jdk[k*E.sz+j]? = some v:=by
 obtain ⟨css,h1,h2,h3⟩:=h.ex
 obtain ⟨cs,hcs,hR⟩:=h2 k x hx
 rcases h3.shape with ⟨_,hc,_⟩ | ⟨b,off,spare,ha,hr,_⟩
 · have:=h3.le;have:=(Ha.1 hx).1;omega
 ·
  refine ⟨b,off,css.flatten++spare,cs,hR,ha,hr,fun j v hv=>?_⟩
  have hsz:=Jaf h1 h2
  have hg:=JaX hsz k cs j v hcs hv
  rw [Hj (Ha.1 hg).1];exact hg
section
variable {C:Cx} {Q:Bq} {fr:Bf} {G:J5} {L:Bl} {ops:Bp} {rest:List Oper} {o:Oper}
theorem Qs (d e sz:Nat) {a:Ba} {b off len cap:Nat} {ik:IntKind} (k:Nat) (ha:a=At b off) (hk:k<len) (h:KA C ops Q rest ((d,Pt b (off+k*sz))::fr) G L)
  (hb:base C.n ops fr o d=true:=by as_aux_lemma=>kernel_rfl)
  (hc:JhK C.P fr o e sz=some (Sl a len cap,.int ik (k:Int)):=by as_aux_lemma=>kernel_rfl):KA C ops Q (o::rest) fr G L:=by
 subst ha;exact JV d e sz k hk h hb hc
theorem W4 (d t i:Nat) {b off p:Nat} {r:Bg} {Jdk cs:Bv} (k:Nat) (v:Value) (hr:r=[Sg b off Jdk]) (hc:∀ (j:Nat) v,cs[j]? = some v→Jdk[p+j]? = some v)
  (h:KA C ops Q rest ((d,v)::fr) G L) (hL:L[i]? = some r:=by rfl)
  (hb:base C.n ops fr o d=true:=by as_aux_lemma=>kernel_rfl)
  (hx:(Jlh fr o,Jd1 C.P t cs k,Jak C.P t cs k)=(some (t,Pt b (off+p+k)),true,v):=by as_aux_lemma=>kernel_rfl):KA C ops Q (o::rest) fr G L:=by
 simp only [Hs.injEq] at hx
 obtain ⟨hx,hok,hv⟩:=hx
 refine QE d hb (fun w hw=>⟨v,w,G,L,?_,hw,h⟩)
 unfold Jlh at hx
 split at hx
 case h_2=>cases hx
 rename_i t' x hop
 simp only [Hm.injEq,Hs.injEq] at hx
 obtain ⟨rfl,hx⟩:=hx
 have hm:(Sg b off Jdk)∈L.flatten:=by
  obtain ⟨hi,he⟩:=Ha.1 hL
  exact Hk.2 ⟨_,Hn hi,by rw [he,hr];simp⟩
 have hown:=(hw.own _ hm).2.1
 have:=Vn (P:=C.P) (t:=t') (w:=w) (b:=b) (off:=off+p) (k:=k) (cs:=cs) (fun i u hu=>by have:=(hown (p+i) u (hc i u hu)).1;simpa [HE] using this) hok
 unfold execOp
 simp only [hop,hx,Instr.loadAt,Instr.sureAddr,Hh,Hr,Hd,this,hv]
end
section
variable {C:Cx} {Q:Bq} {fr:Bf} {G:J5} {L:Bl} {ops:Bp} {rest:List Oper} {o:Oper}
theorem ZC (d sz:Nat) {b off len cap:Nat} (vlo vhi:Option Value) (lo hi:Nat) (h1:JeH vlo lo) (h2:Jbw vhi hi len) (h3:lo≤hi) (h4:hi≤cap) (h5:lo<cap)
  (h:KA C ops Q rest ((d,Sl (At b (off+lo*sz)) (hi-lo) (cap-lo))::fr) G L)
  (hb:base C.n ops fr o d=true:=by as_aux_lemma=>kernel_rfl)
  (hx:(JcE fr o,JeI C.P o sz)=(some (Sl (At b off) len cap,vlo,vhi,true),true):=by as_aux_lemma=>kernel_rfl):KA C ops Q (o::rest) fr G L:=by
 refine Ws d sz vlo vhi lo hi h1 h2 h3 (a':=At b (off+lo*sz)) ?_ rfl rfl h4 h hb hx
 rw [if_neg (by omega)]
 simp only [HQ,Wv]
theorem JiK (d sz:Nat) {a:Ba} {len cap:Nat} (vlo vhi:Option Value) (lo hi:Nat) (h1:JeH vlo lo) (h2:Jbw vhi hi len) (h3:lo≤hi) (h4:hi≤cap)
  (h:∀ a',KA C ops Q rest ((d,Sl a' (hi-lo) (cap-lo))::fr) G L)
  (hb:base C.n ops fr o d=true:=by as_aux_lemma=>kernel_rfl)
  (hx:(JcE fr o,JeI C.P o sz)=(some (Sl a len cap,vlo,vhi,true),true):=by as_aux_lemma=>kernel_rfl):KA C ops Q (o::rest) fr G L :=
 Ws d sz vlo vhi lo hi h1 h2 h3 rfl rfl rfl h4 (h _) hb hx
def JnK (P:Program) (fr:Bf) (o:Oper) (sz:Nat):Option (Value×Value) :=
  match o.op with
  | .call c=>(match c.callee,c.args.toList,c.argTypes.toList with
    | .builtin .copy,[s,x],[t,_] =>
      (match P.underlying t with
       | some (.slice e')=>(match P.info? e' with
          | some inf=>bif He inf.size sz then some (W6 fr s,W6 fr x) else none
          | none=>none)
       | _=>none)
    | _,_,_=>none)
  | _=>none
def Jlo (G:J5) (L:Bl) (b o:Nat) (X:Bv):Prop :=
 (∀ (j:Nat) v,X[j]? = some v→G b (o+j)=some v)∨∃ (k off:Nat) (F:Bv) (q:Nat),L[k]? = some [Sg b off F]∧o=off+q∧∀ (j:Nat) v,X[j]? = some v→F[q+j]? = some v
theorem YB (d i sz:Nat) {b off p nd cd bs os ns cs:Nat} {F:Bv} (X:Bv) (hX:X.length=Nat.min ns nd*sz) (hp:p+X.length≤F.length) (hone:∀ u∈X,u.oneCell'=true)
  (hs:Jlo G L bs os X) (h:KA C ops Q rest ((d,I ((Nat.min ns nd:Nat):Int))::fr) G (L.set i [Sg b off (Qz F p X)])) (hL:L[i]? = some [Sg b off F]:=by rfl)
  (hb:base C.n ops fr o d=true:=by as_aux_lemma=>kernel_rfl)
  (hc:JnK C.P fr o sz=some (Sl (At b (off+p)) nd cd,Sl (At bs os) ns cs):=by as_aux_lemma=>kernel_rfl):KA C ops Q (o::rest) fr G L:=by
 refine QE d hb (fun w hw=>?_)
 unfold JnK at hc
 split at hc
 case h_2=>cases hc
 rename_i cl hop
 split at hc
 case h_2=>cases hc
 rename_i s x t u hcal hargs htys
 split at hc
 case h_2=>cases hc
 rename_i e' hu
 split at hc
 case h_2=>cases hc
 rename_i inf hi
 cases hx:He inf.size sz with
 | false=>rw [hx] at hc;cases hc
 | true =>
  rw [hx] at hc
  simp only [cond_true,Hm.injEq,Hs.injEq] at hc
  obtain rfl:=Hb hx
  have ha:cl.args=#[s,x]:=by rw [← hargs]
  have ht:cl.argTypes=#[t,u]:=by rw [← htys]
  have hmem:∀ {k:Nat} {b' off':Nat} {F':Bv},L[k]? = some [Sg b' off' F']→(Sg b' off' F')∈L.flatten:=by
   intro k b' off' F' hk
   obtain ⟨hi',he⟩:=Ha.1 hk
   exact Hk.2 ⟨_,he ▸ Hn hi',by simp⟩
  have hsrc:∀ (j:Nat) v,X[j]? = some v→w.cell? ((⟨bs,os,none⟩:Addr).add j)=some v:=by
   intro j v hv
   rw [Wv]
   rcases hs with hs | ⟨k,off',F',q,hk,rfl,hq⟩
   · exact hw.mem _ _ _ (hs j v hv)
   ·
    have hown:=(hw.own _ (hmem hk)).2.1 (q+j) v (hq j v hv)
    have:=hown.1
    simp only at this
    rwa [← HE] at this
  have hown:=(hw.own _ (hmem hL)).2.1
  simp only at hown
  have hcell:∀ j,j<X.length→∃ u,F[p+j]? = some u:=fun j hj=>⟨_,Hc (by omega)⟩
  have hst:(storeCells ⟨b,off+p,none⟩ X 0).run C.P w=.ok () (WF w b (off+p+0) X):=Y7 C.P b (off+p) X w 0 hone
   (fun j hj=>by obtain ⟨u,hu⟩:=hcell j hj;have:=(hown _ u hu).1;rw [← HE] at this;exact ⟨u,by simpa using this⟩)
   (fun j hj=>by obtain ⟨u,hu⟩:=hcell j hj;have:=(hown _ u hu).2.1;rw [← HE] at this;simpa using this)
  have hfc:=run_firstCells_some (P:=C.P) (w:=w) inf.size (Nat.min ns nd) ⟨bs,os,none⟩ ns cs X hX hsrc
  have hSt:=hw.store hL p X hp
  simp only at hSt
  refine ⟨_,_,G,_,?_,hSt,h⟩
  have hrun:(Builtin.copy_ #[t,u] o.type #[Sl (At b (off+p)) nd cd,Sl (At bs os) ns cs]).run C.P w=.ok (goInt (Nat.min ns nd)) (WF w b (off+p) X):=by
   simp only [Me] at hst
   simp [Builtin.copy_,run_underlying hu,Builtin.lenOf,sizeOf,typeInfo,hi,hfc,hst]
  unfold execOp
  simp only [hop,hcal,ha,ht,resolve,invoke,builtin,Hh,Hr,Hd,HU,HS,H7,hc.1,hc.2,hrun]
  rfl
theorem JfJ (d i e sz bytes k n:Nat) {b off cap:Nat} {F:Bv} (hk:0<k) (hg:cap<n+k) (h48:(n+k)*bytes≤140737488355328) (hF:n*sz≤F.length) (h63:n+k≤9223372036854775807)
  (h:∀ b' c' zs,n+k≤c'→c'≤9223372036854775807→(F.take (n*sz)++zs).length=c'*sz→KA C ops Q rest ((d,Sl (At b' 0) (n+k) c')::fr) G ([Sg b' 0 (F.take (n*sz)++zs)]::L))
  (hL:L[i]? = some [Sg b off F]:=by rfl)
  (hb:base C.n ops fr o d=true:=by as_aux_lemma=>kernel_rfl)
  (hc:Jlm C.P fr o e sz bytes=some (Sl (At b off) n cap,I (k:Int)):=by as_aux_lemma=>kernel_rfl):KA C ops Q (o::rest) fr G L:=by
 refine QE d hb (fun w hw=>?_)
 unfold Jlm at hc
 split at hc
 case h_2=>cases hc
 rename_i cl hop
 split at hc
 case h_2=>cases hc
 rename_i s x t tx hcal hargs htys
 split at hc
 case h_2=>cases hc
 rename_i e' kn inf hu hkn hi
 split at hc
 case h_2=>cases hc
 rename_i z hz
 cases hx:(He e' e && He inf.size sz && He inf.bytes bytes && He z.cells.size sz && !He sz 0) with
 | false=>rw [hx] at hc;cases hc
 | true =>
  rw [hx] at hc
  simp only [cond_true,Hm.injEq,Hs.injEq] at hc
  simp only [Hg,Mh] at hx
  obtain ⟨⟨⟨⟨c2,c3⟩,c4⟩,c5⟩,c6⟩:=hx
  obtain rfl:=Hb c2
  obtain rfl:=Hb c3
  obtain rfl:=Hb c4
  have c5':=Hb c5
  have hs0:0<inf.size:=by
   rcases HX inf.size with h0 | h0
   · rw [h0] at c6;simp at c6
   · exact h0
  have ha:cl.args=#[s,x]:=by rw [← hargs]
  have ht:cl.argTypes=#[t,tx]:=by rw [← htys]
  have hm:(Sg b off F)∈L.flatten:=by
   obtain ⟨hi',he⟩:=Ha.1 hL
   exact Hk.2 ⟨_,he ▸ Hn hi',by simp⟩
  have hown:=(hw.drew.own _ hm).2.1
  have hold:(Builtin.firstCells inf.size n (.slice (At b off) n cap)).run C.P w.drew=.ok (F.take (n*inf.size)).toArray w.drew :=
   run_firstCells_some (P:=C.P) (w:=w.drew) inf.size n ⟨b,off,none⟩ n cap _ (by rw [Hx];omega) (fun j v hv=>by
    rw [Wv]
    rw [HK] at hv
    split at hv
    · exact (hown j v hv).1
    · cases hv)
  have hkb:k*inf.bytes≤(n+k)*inf.bytes:=HD _ (by omega)
  have hfit:Builtin.nextslicecap (n+k) cap*inf.bytes≤281474976710656:=growslice_fits (by omega) h48
  have hrun:=Lib.run_append_grow_zeros (P:=C.P) w t tx o.type e' inf z .i64 kn hu hkn hi hz (At b off) n cap (F.take (n*inf.size)) hold k hk hs0 hg (by omega) (by omega) hfit
  have hge:=grownCap_ge w (n+k) cap e'
  have hSt:=hw.drew.alloc ((F.take (n*inf.size)).toArray++Builtin.zeroCells z.cells k++Builtin.zeroCells z.cells (grownCap w (n+k) cap e'-(n+k))) e'
  have ecs:((F.take (n*inf.size)).toArray++Builtin.zeroCells z.cells k++Builtin.zeroCells z.cells (grownCap w (n+k) cap e'-(n+k))).toList=F.take (n*inf.size)++(Builtin.zeroCells z.cells k++Builtin.zeroCells z.cells (grownCap w (n+k) cap e'-(n+k))).toList:=by simp
  rw [ecs] at hSt
  refine ⟨_,_,G,_,?_,hSt,h w.heap.size (grownCap w (n+k) cap e') _ hge ?_ ?_⟩
  ·
   unfold execOp
   simp only [hop,hcal,ha,ht,resolve,invoke,builtin,Hh,Hr,Hd,HU,HS,H7,hc.1,hc.2,hrun]
   rfl
  ·
   have:=grownCap_le_maxLen w (n+k) cap e' (by simp only [maxLen];omega)
   simp only [maxLen] at this;omega
  ·
   simp only [Array.toList_append,Hf,H3,Yi,c5',Hx]
   rw [HR hF,← Hy,← Hy]
   congr 1
   omega
theorem YC {α:Type} {E:YR α} {a:Ba} {cap:Nat} {l:List α} {r:Bg} (i:Nat) (hr:JR E G a cap l r) (k:Nat) (x:α) {b off:Nat} (ha:a=At b off) (hk:k<l.length) (v:Value) (vs:Bv) (hx:E.R G vs x)
  (h:∀ r',JR E G a cap (l.set k x) r'→KA C ops Q rest fr G (L.set i r')) (hL:L[i]? = some r:=by rfl)
  (hc:(JnA C.P ops fr o vs.length,v.cells.toList,vs.all Value.oneCell')=(some (Pt b (off+k*E.sz+0),v),vs,true):=by as_aux_lemma=>kernel_rfl):KA C ops Q (o::rest) fr G L:=by
 obtain ⟨css,c1,c2,c3⟩:=hr.ex
 have hsz:=Jaf c1 c2
 rcases c3.shape with ⟨h0,hcap,_⟩ | ⟨b',off',spare,h0,rfl,hsp⟩
 · rw [h0] at ha;cases ha
 ·
  rw [h0] at ha
  cases ha
  have hvl:vs.length=E.sz:=E.len hx
  have hfl:css.flatten.length=l.length*E.sz:=by rw [K3 hsz,c1]
  have hkk:k*E.sz+E.sz≤l.length*E.sz:=by
   have:=HD E.sz (show k+1≤l.length from hk)
   rw [Hy,H6] at this;exact this
  have hset:Qz (css.flatten++spare) (k*E.sz) vs=(css.set k vs).flatten++spare:=by
   have h1:css=css.take k++(css[k]'(by omega))::css.drop (k+1):=by
    conv=>lhs;rw [← HJ k css]
    rw [Mc (by omega)]
   have h2:css.set k vs=css.take k++vs::css.drop (k+1):=by rw [Mg,if_pos (by omega)]
   have h3:(css.take k).flatten.length=k*E.sz:=by
    rw [K3 (fun cs hcs=>hsz cs (MJ hcs)),Hx,HR (by omega)]
   have h4:(css[k]'(by omega)).length=E.sz:=hsz _ (Hn _)
   unfold Qz
   rw [h2]
   conv=>lhs;rw [h1]
   simp only [Ht,Hu,Hz]
   rw [← h3,HN]
   congr 2
   rw [hvl,← h4,← HO,HP,HP]
  refine JnB i (k*E.sz) (b:=b) (off:=off) (cs:=css.flatten++spare) v vs (by rw [Hf,hvl,hfl];omega) ?_ hL hc
  rw [hset]
  refine h _ ⟨⟨css.set k vs,by simp [c1],fun j y hy=>?_,?_⟩⟩
  ·
   rw [List.getElem?_set] at hy ⊢
   by_cases e:k=j
   ·
    subst e
    rw [if_pos rfl,if_pos (by omega)]
    rw [if_pos rfl,if_pos hk] at hy
    exact ⟨vs,rfl,by rw [← Hm.inj hy];exact hx⟩
   ·
    rw [if_neg e] at hy ⊢
    exact c2 j y hy
  ·
   refine ⟨?_,by rw [Mn];exact c3.le,c3.max,.inr ⟨b,off,spare,h0,rfl,by rw [Mn];exact hsp⟩⟩
   rw [Mn,K3 (sz:=E.sz),Mn,c1]
   intro cs hcs
   rcases List.mem_or_eq_of_mem_set hcs with hcs | rfl
   · exact hsz cs hcs
   · exact hvl
end
section
variable {C:Cx} {Q:Bq} {fr:Bf} {G:J5} {L:Bl} {ops:Bp} {rest:List Oper} {o:Oper}
theorem Jaw (d sz:Nat) {b off len cap:Nat} (vhi:Option Value) (hi:Nat) (h2:Jbw vhi hi len) (h4:hi≤cap)
  (h:KA C ops Q rest ((d,Sl (At b off) hi cap)::fr) G L)
  (hb:base C.n ops fr o d=true:=by as_aux_lemma=>kernel_rfl)
  (hx:(JcE fr o,JeI C.P o sz)=(some (Sl (At b off) len cap,none,vhi,true),true):=by as_aux_lemma=>kernel_rfl):KA C ops Q (o::rest) fr G L:=by
 refine Ws d sz none vhi 0 hi (.inl ⟨rfl,rfl⟩) h2 (Mr _) (a':=At b off) ?_ (Nat.sub_zero _).symm (Nat.sub_zero _).symm h4 h hb hx
 split
 · rfl
 · simp only [HQ,Wv,Nat.zero_mul,Me]
theorem Jea (d n:Nat) (cs:Array Value) (t:TypeId)
  (h:∀ b,KA C ops Q rest ((d,Sl (At b 0) n n)::fr) G ([Vm t b 0 cs.toList]::L))
  (hb:base C.n ops fr o d=true:=by as_aux_lemma=>kernel_rfl)
  (hrun:∀ w,(execOp (W6 fr) o).run C.P w=.ok (.value (.slice (some ⟨w.heap.size,0,none⟩) n n)) { w with heap:=w.heap.push (.cells cs t) }:=by intro _;as_aux_lemma=>kernel_rfl) :
  KA C ops Q (o::rest) fr G L:=by
 refine QE d hb (fun w hw=>⟨_,_,G,_,hrun w,hw.allocT cs t,h w.heap.size⟩)
theorem Jhf (d:Nat) {f:FuncId} {args:Array Value} (v:Value) (hv:∀ w,St C.w0 C.G0 w G L→(callFunc f args).run C.P w=.ok (.value v) w)
  (h:KA C ops Q rest ((d,v)::fr) G L)
  (hb:base C.n ops fr o d=true:=by as_aux_lemma=>kernel_rfl)
  (hc:JhO fr o=some (f,args):=by as_aux_lemma=>kernel_rfl):KA C ops Q (o::rest) fr G L:=by
 refine QE d hb (fun w hw=>⟨v,w,G,L,?_,hw,h⟩)
 unfold JhO at hc
 split at hc
 case h_2=>cases hc
 rename_i c hop
 split at hc
 case h_2=>cases hc
 rename_i g hcal
 simp only [Hm.injEq,Hs.injEq] at hc
 obtain ⟨rfl,rfl⟩:=hc
 have:=hv w hw
 unfold execOp
 simp only [hop,resolve,hcal,W6,Deferred.ofValue,Hh,Hr,Hd,invoke]
 simpa using this
theorem St.untype {w0 w:World} {G0 G:J5} {L:Bl} {i e b:Nat} {cs:Bv} (hw:St w0 G0 w G L) (hL:L[i]? = some [Vm e b 0 cs]):St w0 G0 w G (L.set i [Sg b 0 cs]):=by
 obtain ⟨A,B,rfl,hset⟩:=Vg hL
 rw [hset]
 have hap:(A.flatten++([Vm e b 0 cs]++B.flatten)).Pairwise Vf.apart:=by simpa using hw.apart
 obtain ⟨hA,hcB,hAcB⟩:=Ho.1 hap
 obtain ⟨_,hB',hcB'⟩:=Ho.1 hcB
 refine ⟨hw.below,hw.mem,hw.grow,hw.fresh,fun s hs=>?_,?_⟩
 ·
  have hs':s∈A.flatten∨s=Sg b 0 cs∨s∈B.flatten:=by simpa using hs
  rcases hs' with h | rfl | h
  · exact hw.own s (by simp [h])
  ·
   have:=hw.own (Vm e b 0 cs) (by simp)
   exact ⟨this.1,this.2.1,this.2.2.1,fun _ he=>by cases he⟩
  · exact hw.own s (by simp [h])
 ·
  have:(A.flatten++([Sg b 0 cs]++B.flatten)).Pairwise Vf.apart:=by
   refine Ho.2 ⟨hA,Ho.2 ⟨by simp,hB',fun x hx y hy=>?_⟩,fun x hx y hy=>?_⟩
   ·
    obtain rfl:x=_:=by simpa using hx
    exact hcB' (Vm e b 0 cs) (by simp) y hy
   ·
    rcases HI.1 hy with hy | hy
    ·
     obtain rfl:y=_:=by simpa using hy
     exact hAcB x hx (Vm e b 0 cs) (by simp)
    · exact hAcB x hx y (MD _ hy)
  simpa using this
theorem Jax {y:Code} (i:Nat) {e b:Nat} {cs:Bv} (h:TC C y Q fr G (L.set i [Sg b 0 cs])) (hL:L[i]? = some [Vm e b 0 cs]:=by rfl):TC C y Q fr G L:=fun a w ha hw=>h a w ha (hw.untype hL)
end
theorem JnL {L:Bl} {i j:Nat} {s t:Vf} (h:L.flatten.Pairwise Vf.apart) (hi:L[i]? = some [s]) (hj:L[j]? = some [t]) (hij:i ≠ j):s.apart t:=by
 obtain ⟨hi1,hie⟩:=Ha.1 hi
 have hLe:L=L.take i++[s]::L.drop (i+1):=by rw [← hie,← Mc hi1,HJ]
 have hap:((L.take i).flatten++([s]++(L.drop (i+1)).flatten)).Pairwise Vf.apart:=by
  rw [hLe] at h;simpa using h
 obtain ⟨hA,hcB,hAcB⟩:=Ho.1 hap
 obtain ⟨_,hB',hcB'⟩:=Ho.1 hcB
 by_cases h1:j<i
 ·
  have hm:t∈(L.take i).flatten:=Hk.2 ⟨[t],MK (i:=j) (by rw [HK,if_pos h1];exact hj),by simp⟩
  exact Vf.apart_symm (hAcB t hm _ (by simp))
 ·
  have hm:t∈(L.drop (i+1)).flatten:=Hk.2 ⟨[t],MK (i:=j-(i+1)) (by rw [HW,show i+1+(j-(i+1))=j by omega];exact hj),by simp⟩
  exact hcB' s (by simp) t hm
theorem Jhg {P:Program} {w0 w:World} {G0 G:J5} {L:Bl} (hw:St w0 G0 w G L) {i j e bv b off:Nat} {X F:Bv} (hL1:L[i]? = some [Vm e bv 0 X]) (hX:0<X.length) (hL2:L[j]? = some [Sg b off F]) (hF:0<F.length) (hij:i ≠ j)
  (tS tR el size:Nat) (ht:P.underlying tS=some (.slice el)) (hz:∀ w,(Go.sizeOf el).run P w=.ok size w) (q la ca lb cb:Nat) :
  (Extern.SlicesOverlaps.overlaps #[tS,tS] #[tR] #[Sl (At bv 0) la ca,Sl (At b q) lb cb]).run P w=.ok (.bool false) w:=by
 have hm:∀ {k:Nat} {s:Vf},L[k]? = some [s]→s∈L.flatten:=by
  intro k s hk
  obtain ⟨hi',he⟩:=Ha.1 hk
  exact Hk.2 ⟨_,he ▸ Hn hi',by simp⟩
 have o1:=hw.own _ (hm hL1)
 have o2:=hw.own _ (hm hL2)
 obtain ⟨sh1,fz1⟩:=Jd0 ((o1.2.2.2 e rfl).2)
 have c2:=(o2.2.1 0 _ (Hc hF)).1
 simp only [Me] at c2 sh1 fz1
 obtain ⟨tB,kB,sh2,hlt⟩:∃ tB kB,w.shape? b=some (tB,kB)∧off<kB:=by
  unfold World.cell? at c2
  unfold World.shape?
  simp only at c2
  split at c2
  ·
   rename_i c t fz hh
   refine ⟨t,c.size,rfl,?_⟩
   exact (Hp.1 (by simpa using c2)).1
  · cases c2
 have hne:bv ≠ b:=by
  intro hb
  subst hb
  rw [sh1] at sh2
  cases sh2
  have:=JnL hw.apart hL1 hL2 hij
  exact this bv off ⟨rfl,Mr _,by simp [Vf.len];omega⟩ ⟨rfl,H1 _,by simp [Vf.len];omega⟩
 exact Lib.run_overlaps_apart w tS tR el ht size hz ⟨bv,0,none⟩ ⟨b,q,none⟩ la ca lb cb hne e tB _ kB sh1 sh2 (by omega) (fz1 0) (fz1 _)
theorem JR.lec {α:Type} {E:YR α} {G:J5} {a:Ba} {cap:Nat} {l:List α} {r:Bg} (h:JR E G a cap l r):l.length≤cap:=by
 obtain ⟨css,h1,h2,h3⟩:=h.ex
 exact h3.le
theorem JR.mx {α:Type} {E:YR α} {G:J5} {a:Ba} {cap:Nat} {l:List α} {r:Bg} (h:JR E G a cap l r):cap≤9223372036854775807:=by
 obtain ⟨css,h1,h2,h3⟩:=h.ex
 exact h3.max
theorem Jfi {css:List Bv} (i:Nat) (h:∀ cs∈css,∀ u∈cs,u.oneCell'=true):∀ u∈(css.drop i).flatten,u.oneCell'=true:=by
 intro u hu
 obtain ⟨cs,hcs,huc⟩:=Hk.1 hu
 exact h cs (ML hcs) u huc
theorem JR.opened {α:Type} {E:YR α} {G:J5} {a:Ba} {cap:Nat} {l:List α} {r:Bg} (h:JR E G a cap l r) (h0:0<l.length) :
  ∃ (b off:Nat) (css:List Bv) (spare:Bv),a=At b off∧r=[Sg b off (css.flatten++spare)]∧css.length=l.length∧(∀ (i:Nat) x,l[i]? = some x→∃ cs,css[i]? = some cs∧E.R G cs x)∧(∀ cs∈css,cs.length=E.sz)∧spare.length=(cap-l.length)*E.sz∧l.length≤cap∧cap≤9223372036854775807∧(∀ cs∈css,∀ u∈cs,u.oneCell'=true):=by
 obtain ⟨css,c1,c2,c3⟩:=h.ex
 rcases c3.shape with ⟨_,hc,_⟩ | ⟨b,off,spare,ha,hr,hsp⟩
 · have:=c3.le;omega
 ·
  refine ⟨b,off,css,spare,ha,hr,c1,c2,Jaf c1 c2,hsp,c3.le,c3.max,fun cs hcs u hu=>?_⟩
  obtain ⟨k,hk,rfl⟩:=H8.1 hcs
  obtain ⟨cs',p1,p2⟩:=c2 k _ (Hc (c1 ▸ hk))
  rw [Hc hk] at p1
  rw [Hm.inj p1] at hu
  exact E.one p2 u hu
theorem JR.made {α:Type} {E:YR α} {G:J5} {b off cap:Nat} {l:List α} {css:List Bv} {F:Bv} (h1:css.length=l.length) (h2:∀ (i:Nat) x,l[i]? = some x→∃ cs,css[i]? = some cs∧E.R G cs x)
  (hF:F.take (l.length*E.sz)=css.flatten) (hl:F.length=cap*E.sz) (hc:l.length≤cap) (hm:cap≤9223372036854775807):JR E G (At b off) cap l [Sg b off F]:=by
 refine ⟨⟨css,h1,h2,⟨?_,hc,hm,.inr ⟨b,off,F.drop (l.length*E.sz),rfl,?_,?_⟩⟩⟩⟩
 ·
  rw [← hF,Hx,hl]
  have:=HD E.sz hc
  omega
 · rw [← hF,HJ]
 · rw [HT,hl,MB]
theorem Jmj (A B S X:Bv) (hS:X.length≤S.length):Qz (Qz (A++B++S) (A.length+X.length) B) A.length X=A++X++B++S.drop X.length:=by
 have h1:Qz (A++B++S) (A.length+X.length) B=A++(B++S).take X.length++B++S.drop X.length:=by
  unfold Qz
  rw [Hz,List.take_append,List.take_of_length_le (by omega),show A.length+X.length-A.length=X.length by omega]
  have:(A++(B++S)).drop (A.length+X.length+B.length)=S.drop X.length:=by
   rw [show A.length+X.length+B.length=A.length+(B.length+X.length) by omega,← HO,HP,← HO,HP]
  rw [this];simp only [Hz]
 rw [h1]
 unfold Qz
 rw [Hz,Hz,HN]
 have h2:((B++S).take X.length).length=X.length:=by rw [Hx,Hf];omega
 rw [← HO,HP]
 conv=>lhs;rw [show List.drop X.length ((B++S).take X.length++(B++S.drop X.length))=B++S.drop X.length by rw [← h2];simp]
 simp
theorem Jkc (A Z B X:Bv) (h:X.length+B.length≤Z.length):Qz (Qz (A++Z) A.length X) (A.length+X.length) B=A++X++B++Z.drop (X.length+B.length):=by
 have h1:Qz (A++Z) A.length X=A++X++Z.drop X.length:=by
  unfold Qz
  rw [HN,← HO,HP];simp only [Hz]
 rw [h1]
 unfold Qz
 have:A.length+X.length=(A++X).length:=by simp
 rw [this,HN,← HO,HP,HO];simp only [Hz]
theorem Jlp {α:Type} {E:YR α} {G:J5} {l:List α} {css:List Bv} {x:α} {X:Bv} (i:Nat) (hi:i≤l.length) (h1:css.length=l.length) (h2:∀ (i:Nat) x,l[i]? = some x→∃ cs,css[i]? = some cs∧E.R G cs x) (hx:E.R G X x) :
  (css.take i++[X]++css.drop i).length=(l.take i++[x]++l.drop i).length∧∀ (k:Nat) y,(l.take i++[x]++l.drop i)[k]? = some y→∃ cs,(css.take i++[X]++css.drop i)[k]? = some cs∧E.R G cs y:=by
 refine ⟨by simp [h1],fun k y hy=>?_⟩
 rw [Hz] at hy ⊢
 by_cases hk:k<i
 ·
  rw [Hj (by rw [Hx];omega),HK,if_pos hk] at hy
  obtain ⟨cs,e1,e2⟩:=h2 k y hy
  exact ⟨cs,by rw [Hj (by rw [Hx];omega),HK,if_pos hk];exact e1,e2⟩
 ·
  rw [Hq (by rw [Hx];omega),Hx,HR hi] at hy
  rw [Hq (by rw [Hx];omega),Hx,HR (by omega)]
  cases hd:k-i with
  | zero=>rw [hd] at hy;exact ⟨X,rfl,by rw [← (Hm.inj hy:x=y)];exact hx⟩
  | succ m =>
   rw [hd] at hy
   have hy:(l.drop i)[m]? = some y:=hy
   rw [HW] at hy
   obtain ⟨cs,e1,e2⟩:=h2 _ y hy
   refine ⟨cs,?_,e2⟩
   show (css.drop i)[m]? = some cs
   rw [HW];exact e1
theorem Jam {css:List Bv} {sz i:Nat} (h:∀ cs∈css,cs.length=sz) (hi:i≤css.length):(css.take i).flatten.length=i*sz:=by
 rw [K3 (fun cs hcs=>h cs (MJ hcs)),Hx,HR hi]
theorem WL {css:List Bv} {sz i:Nat} (h:∀ cs∈css,cs.length=sz):(css.drop i).flatten.length=(css.length-i)*sz:=by
 rw [K3 (fun cs hcs=>h cs (ML hcs)),HT]
theorem Jdp {css:List Bv} {spare:Bv} {sz i:Nat} (h:∀ cs∈css,cs.length=sz) (hi:i≤css.length):∀ (j:Nat) v,(css.drop i).flatten[j]? = some v→(css.flatten++spare)[i*sz+j]? = some v:=by
 intro j v hv
 have hA:=Jam h hi
 have e:css.flatten++spare=(css.take i).flatten++((css.drop i).flatten++spare):=by rw [← Hz,← Ht,HJ]
 rw [e,Hq (by omega),hA,show i*sz+j-i*sz=j by omega,Hj (Ha.1 hv).1];exact hv
theorem JR.insP {α:Type} {E:YR α} {G:J5} {b off cap:Nat} {l:List α} {css:List Bv} {spare X:Bv} {x:α} (i:Nat) (hi:i≤l.length) (h1:css.length=l.length) (h2:∀ (i:Nat) x,l[i]? = some x→∃ cs,css[i]? = some cs∧E.R G cs x) (hx:E.R G X x)
  (hsp:spare.length=(cap-l.length)*E.sz) (hc:l.length+1≤cap) (hm:cap≤9223372036854775807):JR E G (At b off) cap (l.take i++[x]++l.drop i) [Sg b off (Qz (Qz (css.flatten++spare) ((i+1)*E.sz) (css.drop i).flatten) (i*E.sz) X)]:=by
 have hsz:=Jaf h1 h2
 have hXl:X.length=E.sz:=E.len hx
 have hA:=Jam hsz (i:=i) (by omega)
 have hspl:X.length≤spare.length:=by
  rw [hXl,hsp]
  exact Nat.le_mul_of_pos_left _ (by omega)
 have e:css.flatten++spare=(css.take i).flatten++(css.drop i).flatten++spare:=by
  rw [← Ht,HJ]
 have hF:Qz (Qz (css.flatten++spare) ((i+1)*E.sz) (css.drop i).flatten) (i*E.sz) X=(css.take i).flatten++X++(css.drop i).flatten++spare.drop X.length:=by
  rw [e,show (i+1)*E.sz=(css.take i).flatten.length+X.length by rw [hA,hXl,Hy,H6],← hA]
  exact Jmj _ _ _ _ hspl
 rw [hF]
 obtain ⟨g1,g2⟩:=Jlp i hi h1 h2 hx
 have hfl:(css.take i++[X]++css.drop i).flatten=(css.take i).flatten++X++(css.drop i).flatten:=by simp
 have hlen:(l.take i++[x]++l.drop i).length=l.length+1:=by simp;omega
 have hfl2:((css.take i).flatten++X++(css.drop i).flatten).length=(l.length+1)*E.sz:=by
  rw [Hf,Hf,hA,hXl,WL hsz,h1,show l.length+1=i+1+(l.length-i) by omega,Hy,Hy,H6]
 refine JR.made g1 g2 ?_ ?_ (by rw [hlen];exact hc) hm
 · rw [hfl,hlen,← hfl2,HN]
 ·
  rw [Hf,hfl2,HT,hsp,hXl]
  have:=HD E.sz hc
  have e3:(cap-l.length)*E.sz=cap*E.sz-l.length*E.sz:=MB _ _ _
  have e4:(l.length+1)*E.sz=l.length*E.sz+E.sz:=by rw [Hy,H6]
  omega
theorem JR.insG {α:Type} {E:YR α} {G:J5} {b cap:Nat} {l:List α} {css:List Bv} {spare zs X:Bv} {x:α} (i:Nat) (hi:i≤l.length) (h1:css.length=l.length) (h2:∀ (i:Nat) x,l[i]? = some x→∃ cs,css[i]? = some cs∧E.R G cs x) (hx:E.R G X x)
  (hz:((css.flatten++spare).take (i*E.sz)++zs).length=cap*E.sz) (hc:l.length+1≤cap) (hm:cap≤9223372036854775807):JR E G (At b 0) cap (l.take i++[x]++l.drop i) [Sg b 0 (Qz (Qz ((css.flatten++spare).take (i*E.sz)++zs) (i*E.sz) X) ((i+1)*E.sz) (css.drop i).flatten)]:=by
 have hsz:=Jaf h1 h2
 have hXl:X.length=E.sz:=E.len hx
 have hA:=Jam hsz (i:=i) (by omega)
 have e:(css.flatten++spare).take (i*E.sz)=(css.take i).flatten:=by
  have:css.flatten++spare=(css.take i).flatten++((css.drop i).flatten++spare):=by
   rw [← Hz,← Ht,HJ]
  rw [this,← hA,HN]
 rw [e] at hz ⊢
 have hD:=WL hsz (i:=i)
 have hmul:(l.length+1)*E.sz=i*E.sz+(E.sz+(l.length-i)*E.sz):=by
  rw [show l.length+1=i+(1+(l.length-i)) by omega,Hy,Hy,H6]
 have hmc:=HD E.sz hc
 rw [Hf,hA] at hz
 have hF:Qz (Qz ((css.take i).flatten++zs) (i*E.sz) X) ((i+1)*E.sz) (css.drop i).flatten=(css.take i).flatten++X++(css.drop i).flatten++zs.drop (X.length+(css.drop i).flatten.length):=by
  rw [show (i+1)*E.sz=(css.take i).flatten.length+X.length by rw [hA,hXl,Hy,H6],← hA]
  exact Jkc _ _ _ _ (by rw [hXl,hD,h1];omega)
 rw [hF]
 obtain ⟨g1,g2⟩:=Jlp i hi h1 h2 hx
 have hfl:(css.take i++[X]++css.drop i).flatten=(css.take i).flatten++X++(css.drop i).flatten:=by simp
 have hlen:(l.take i++[x]++l.drop i).length=l.length+1:=by simp;omega
 have hfl2:((css.take i).flatten++X++(css.drop i).flatten).length=(l.length+1)*E.sz:=by
  rw [Hf,Hf,hA,hXl,hD,h1];omega
 refine JR.made g1 g2 ?_ ?_ (by rw [hlen];exact hc) hm
 · rw [hfl,hlen,← hfl2,HN]
 ·
  rw [Hf,hfl2,HT,hXl,hD,h1]
  omega
section
variable {C:Cx} {Q:Bq} {fr:Bf} {G:J5} {L:Bl} {ops:Bp} {rest:List Oper} {o:Oper}
theorem JR.tk {α:Type} {E:YR α} {G:J5} {a:Ba} {cap:Nat} {l:List α} {r:Bg} (h:JR E G a cap l r) (i:Nat) (hi:i≤l.length):JR E G a cap (l.take i) r:=by
 obtain ⟨css,h1,h2,h3⟩:=h.ex
 have hsz:=Jaf h1 h2
 refine ⟨⟨css.take i,by simp [h1],fun k x hx=>?_,?_⟩⟩
 ·
  rw [HK] at hx ⊢
  split at hx
  · rename_i hk;rw [if_pos hk];exact h2 k x hx
  · cases hx
 ·
  have hA:=Jam hsz (i:=i) (by omega)
  refine ⟨by rw [hA,Hx,HR hi],by rw [Hx];have:=h3.le;omega,h3.max,?_⟩
  rcases h3.shape with ⟨h4,h5,h6⟩ | ⟨b,off,spare,h4,h5,h6⟩
  · exact .inl ⟨h4,h5,h6⟩
  ·
   refine .inr ⟨b,off,(css.drop i).flatten++spare,h4,?_,?_⟩
   · rw [h5,← Hz,← Ht,HJ]
   ·
    rw [Hf,h6,WL hsz,h1,Hx,HR hi,← Hy]
    congr 1
    have:=h3.le;omega
theorem Jkd {α:Type} {E:YR α} {a ax:Ba} {cap capx:Nat} {l ys:List α} {r:Bg} (d e i:Nat) (hr:JR E G a cap l r) (dss:List Bv) (d1:dss.length=ys.length) (d2:∀ (k:Nat) y,ys[k]? = some y→∃ cs,dss[k]? = some cs∧E.R G cs y)
  (hs:0<ys.length→∃ bs os,ax=At bs os∧Jlo G L bs os dss.flatten) (hroom:l.length+ys.length≤cap)
  (h:∀ r',JR E G a cap (l++ys) r'→KA C ops Q rest ((d,Sl a (l.length+ys.length) cap)::fr) G (L.set i r'))
  (hL:L[i]? = some r:=by rfl)
  (hb:base C.n ops fr o d=true:=by as_aux_lemma=>kernel_rfl)
  (hc:Ja6 C.P fr o e E.sz E.bytes=some (Sl a l.length cap,Sl ax ys.length capx):=by as_aux_lemma=>kernel_rfl):KA C ops Q (o::rest) fr G L:=by
 obtain ⟨t,ty,inf,z,hu,hi,hz,hzs,hsz,hbs,hrun⟩:=Jfg hc
 obtain ⟨css,c1,c2,c3⟩:=hr.ex
 have dsz:=Jaf d1 d2
 refine QE d hb (fun w hw=>?_)
 have hreads:JiD inf.size w ax ys.length dss.flatten:=by
  refine ⟨by rw [K3 dsz,d1,hsz],fun ha=>?_,fun ad ha j v hv=>?_⟩
  ·
   rcases HX ys.length with h0 | h0
   · exact h0
   · obtain ⟨bs,os,hax,_⟩:=hs h0;rw [ha] at hax;cases hax
  ·
   have hj:=(Ha.1 hv).1
   rw [K3 dsz] at hj
   have h0:0<ys.length:=by
    rcases HX ys.length with h0 | h0
    · rw [d1,h0] at hj;omega
    · exact h0
   obtain ⟨bs,os,hax,hsrc⟩:=hs h0
   rw [ha] at hax
   cases hax
   rw [Wv]
   rcases hsrc with hsrc | ⟨k,off',F',q,hk,rfl,hq⟩
   · exact hw.mem _ _ _ (hsrc j v hv)
   ·
    obtain ⟨hi',he⟩:=Ha.1 hk
    have hm:(Sg bs off' F')∈L.flatten:=Hk.2 ⟨_,he ▸ Hn hi',by simp⟩
    have:=((hw.own _ hm).2.1 (q+j) v (hq j v hv)).1
    simp only at this
    rwa [← HE] at this
 have hone:∀ u∈dss.flatten,u.oneCell'=true:=by
  intro u hu
  obtain ⟨cs,hcs,huc⟩:=Hk.1 hu
  obtain ⟨k,hk,rfl⟩:=H8.1 hcs
  obtain ⟨cs',p1,p2⟩:=d2 k _ (Hc (d1 ▸ hk))
  rw [Hc hk] at p1
  simp at p1
  exact E.one p2 u (p1 ▸ huc)
 rw [← hsz] at c3
 have h63:l.length+ys.length≤9223372036854775807:=by have:=c3.max;omega
 obtain ⟨a',cap',r',w',q1,q2,q3,q4⟩:=hw.append (P:=C.P) hL (ty:=ty) hu hi hz hzs c3 (c:=capx) hreads hone h63 (.inl hroom)
 obtain ⟨rfl,rfl⟩:=q4 hroom
 refine ⟨_,w',G,_,by rw [hrun,q1];rfl,q2,h r' ⟨⟨css++dss,by simp [c1,d1],?_,?_⟩⟩⟩
 ·
  intro k x hx
  by_cases hlt:k<l.length
  ·
   rw [Hj hlt] at hx
   obtain ⟨cs,p1,p2⟩:=c2 k x hx
   exact ⟨cs,by rw [Hj (by omega)];exact p1,p2⟩
  ·
   rw [Hq (by omega)] at hx
   obtain ⟨cs,p1,p2⟩:=d2 _ x hx
   exact ⟨cs,by rw [Hq (by omega),c1];exact p1,p2⟩
 · rw [Ht,Hf,← hsz];exact q3
def Jhh (n:Nat) (ops:Bp) (fr:Bf) (o:Oper):Bool :=
 o.dst.isNone && YO true (Qu ops fr o) && !Zj o.op && o.op.operands.toList.all (cov fr)
theorem Jmk (hb:Jhh C.n ops fr o=true)
  (hx:∀ w,St C.w0 C.G0 w G L→∃ v w' G' L',(execOp (W6 fr) o).run C.P w=.ok (.value v) w'∧St C.w0 C.G0 w' G' L'∧KA C ops Q rest fr G' L') :
  KA C ops Q (o::rest) fr G L:=by
 intro a w ha hw
 unfold Jhh at hb
 simp only [Hg,HF] at hb
 obtain ⟨⟨⟨hd,hwt⟩,hsel⟩,hcov⟩:=hb
 have hE:execOp a.eval o=execOp (W6 fr) o:=Wq _ _ _ (fun cs b e=>by rw [e] at hsel;simp [Zj] at hsel)
  (fun x hx=>ha.eval x (Hl.1 hcov x (by simpa using hx)))
 have hwant:Qu ops fr o=some true:=by
  cases hx:Qu ops fr o with
  | none=>rw [hx] at hwt;simp [YO] at hwt
  | some b=>rw [hx] at hwt;simp [YO] at hwt;rw [← hwt]
 obtain ⟨v,w',G',L',hr,hS,hk⟩:=hx w hw
 unfold wpList
 rw [if_pos (Wr ha hwant)]
 refine .inl ?_
 unfold Oper.wp
 rw [hE,hr]
 show wpList C.P ops Q rest (a.put o.dst _) _
 rw [hd]
 exact hk _ _ ha hS
def JnM (fr:Bf) (o:Oper):Option (Value×Value×Value×Value) :=
 match o.op with
 | .slice _ x (some lo) (some hi) (some mx)=>some (W6 fr x,W6 fr lo,W6 fr hi,W6 fr mx)
 | _=>none
theorem Jml (d sz:Nat) {a:Ba} {len cap:Nat} {k1 k2 k3:IntKind} (lo hi mx:Nat) (h1:lo≤hi) (h2:hi≤mx) (h3:mx≤cap)
  (h:∀ a',KA C ops Q rest ((d,Sl a' (hi-lo) (mx-lo))::fr) G L)
  (hb:base C.n ops fr o d=true:=by as_aux_lemma=>kernel_rfl)
  (hx:(JnM fr o,JeI C.P o sz)=(some (Sl a len cap,.int k1 (lo:Int),.int k2 (hi:Int),.int k3 (mx:Int)),true):=by as_aux_lemma=>kernel_rfl):KA C ops Q (o::rest) fr G L:=by
 simp only [Hs.injEq] at hx
 obtain ⟨hx,hs⟩:=hx
 refine QE d hb (fun w hw=>⟨Sl (if mx=lo then a else a.map (·.add (lo*sz))) (hi-lo) (mx-lo),w,G,L,?_,hw,h _⟩)
 unfold JnM at hx
 split at hx
 case h_2=>cases hx
 rename_i t x lo' hi' mx' hop
 simp only [Hm.injEq,Hs.injEq] at hx
 obtain ⟨hxv,hlo,hhi,hmx⟩:=hx
 unfold JeI at hs
 simp only [hop] at hs
 split at hs
 case h_2=>cases hs
 rename_i e hu
 simp only [Hg] at hs
 obtain ⟨hsz,hinf⟩:=hs
 obtain rfl:=Hb hsz
 obtain ⟨inf,hi''⟩:=Hw.1 hinf
 have a1:(0:Int)≤(mx:Int)∧(mx:Int)≤(cap:Int):=by omega
 have a2:(0:Int)≤(hi:Int)∧(hi:Int)≤(mx:Int):=by omega
 have a3:(0:Int)≤(lo:Int)∧(lo:Int)≤(hi:Int):=by omega
 unfold execOp
 simp only [hop,hxv,hlo,hhi,hmx,HQ,Instr.sliceAt,Instr.slice,Hh,Hd,Zf w hu]
 simp [Instr.sliceBounds,Instr.sliceBound,asIntOf,h1,h2,h3,Vv w hi'']
def JnN (P : Program) (fr : Bf) (o : Oper) (sz : Nat) : Option Value :=
  match o.op with
  | .call c => (match c.callee, c.args.toList, c.argTypes.toList with
    | .builtin .clear, [s], [t] =>
      (match P.underlying t with
       | some (.slice e') => (match P.info? e' with
          | some inf => (match inf.zero with
             | some z => bif He z.cells.size sz && z.cells.toList.all Value.oneCell' then some (W6 fr s) else none
             | none => none)
          | none => none)
       | _ => none)
    | _, _, _ => none)
  | _ => none
theorem JiL {α:Type} {E:YR α} {a:Ba} {cap:Nat} {l:List α} {r:Bg} (i:Nat) (hr:JR E G a cap l r) {b off m c':Nat} (ha:a=At b off) (hm:0<m) (hroom:l.length+m≤cap)
  (h:∀ r',JR E G a cap l r'→KA C ops Q rest fr G (L.set i r')) (hL:L[i]? = some r:=by rfl)
  (hb:Jhh C.n ops fr o=true:=by as_aux_lemma=>kernel_rfl)
  (hc:JnN C.P fr o E.sz=some (Sl (At b (off+l.length*E.sz)) m c'):=by as_aux_lemma=>kernel_rfl):KA C ops Q (o::rest) fr G L:=by
 obtain ⟨css,c1,c2,c3⟩:=hr.ex
 have hsz:=Jaf c1 c2
 have hfl:css.flatten.length=l.length*E.sz:=by rw [K3 hsz,c1]
 rcases c3.shape with ⟨h0,hcap,_⟩ | ⟨b',off',spare,h0,rfl,hsp⟩
 · rw [h0] at ha;cases ha
 ·
  rw [h0] at ha
  cases ha
  refine Jmk hb (fun w hw=>?_)
  unfold JnN at hc
  split at hc
  case h_2=>cases hc
  rename_i cl hop
  split at hc
  case h_2=>cases hc
  rename_i s t hcal hargs htys
  split at hc
  case h_2=>cases hc
  rename_i e' hu
  split at hc
  case h_2=>cases hc
  rename_i inf hi
  split at hc
  case h_2=>cases hc
  rename_i z hz
  cases hx:(He z.cells.size E.sz && z.cells.toList.all Value.oneCell') with
  | false=>rw [hx] at hc;cases hc
  | true =>
   rw [hx] at hc
   simp only [cond_true,Hm.injEq] at hc
   simp only [Hg] at hx
   have hzs:=Hb hx.1
   have hone:=Hl.1 hx.2
   have hag:cl.args=#[s]:=by rw [← hargs]
   have ht:cl.argTypes=#[t]:=by rw [← htys]
   have hZl:(Builtin.zeroCells z.cells m).toList.length=m*E.sz:=by rw [H3,Yi,hzs]
   have hZ1:∀ u∈(Builtin.zeroCells z.cells m).toList,u.oneCell'=true:=by
    intro u hu
    unfold Builtin.zeroCells at hu
    rw [Array.toList_map,Mf] at hu
    obtain ⟨k,hk,rfl⟩:=hu
    rw [Array.toList_range,H0] at hk
    have hpos:0<z.cells.size:=Nat.pos_of_ne_zero (fun h0=>by rw [h0] at hk;omega)
    have hlt:=Nat.mod_lt k hpos
    rw [getElem!_pos z.cells (k % z.cells.size) hlt]
    exact hone _ (Array.getElem_mem_toList hlt)
   have hroom2:l.length*E.sz+(Builtin.zeroCells z.cells m).toList.length≤(css.flatten++spare).length:=by
    rw [hZl,Hf,hfl,hsp,← Hy,← Hy]
    exact HD _ (by omega)
   have hm':(Sg b off (css.flatten++spare))∈L.flatten:=by
    obtain ⟨hi',he⟩:=Ha.1 hL
    exact Hk.2 ⟨_,he ▸ Hn hi',by simp⟩
   have hown:=(hw.own _ hm').2.1
   simp only at hown
   have hcell:∀ j,j<(Builtin.zeroCells z.cells m).toList.length→∃ u,(css.flatten++spare)[l.length*E.sz+j]? = some u:=fun j hj=>⟨_,Hc (by omega)⟩
   have hst:(storeCells ⟨b,off+l.length*E.sz,none⟩ (Builtin.zeroCells z.cells m).toList 0).run C.P w=.ok () (WF w b (off+l.length*E.sz+0) (Builtin.zeroCells z.cells m).toList):=Y7 C.P b (off+l.length*E.sz) _ w 0 hZ1
    (fun j hj=>by obtain ⟨u,hu⟩:=hcell j hj;have:=(hown _ u hu).1;rw [← HE] at this;exact ⟨u,by simpa using this⟩)
    (fun j hj=>by obtain ⟨u,hu⟩:=hcell j hj;have:=(hown _ u hu).2.1;rw [← HE] at this;simpa using this)
   have hSt:=hw.store hL (l.length*E.sz) (Builtin.zeroCells z.cells m).toList hroom2
   simp only at hSt
   simp only [Me] at hst
   have hm0:¬ m=0:=by omega
   have hrun:(Builtin.clear_ #[t] o.type #[Sl (At b (off+l.length*E.sz)) m c']).run C.P w=.ok (.tuple #[]) (WF w b (off+l.length*E.sz) (Builtin.zeroCells z.cells m).toList):=by
    obtain ⟨m',rfl⟩:∃ m',m=m'+1:=⟨m-1,by omega⟩
    simp [Builtin.clear_,run_underlying hu,zeroValue,typeInfo,hi,hz,hst]
   refine ⟨.tuple #[],_,G,_,?_,hSt,h _ ⟨⟨css,c1,c2,⟨c3.len,c3.le,c3.max,.inr ⟨b,off,(Builtin.zeroCells z.cells m).toList++spare.drop (m*E.sz),h0,?_,?_⟩⟩⟩⟩⟩
   ·
    unfold execOp
    simp only [hop,hcal,hag,ht,resolve,invoke,builtin,Hh,Hr,Hd,HU,HS,H7,hc,hrun]
   ·
    unfold Qz
    rw [← hfl,HN,← HO,HP,hZl]
   ·
    rw [Hf,hZl,HT,hsp]
    have:m*E.sz≤(cap-l.length)*E.sz:=HD _ (by omega)
    omega
theorem VC.up {P:Program} {f:FuncId} {args:Array Value} {G G':J5} {v:Value} (hle:J5.le G G') (h:VC P f args G [] (fun u _ _=>u=v)):VC P f args G' [] (fun u _ _=>u=v):=by
 intro w0 G0 w hw
 refine (h w G w (St.start fun b o x hx=>hw.mem b o x (hle b o x hx))).mono ?_
 rintro e w' ⟨u,G1,L',rfl,hS,hle',rfl⟩
 have hS':St w G' w' G' []:=⟨hS.below,fun b o x hx=>(hS.below.cell (p:=⟨b,o,none⟩) (WE (hw.mem b o x hx))).trans (hw.mem b o x hx),Jh _,fun b o v hv=>.inl hv,by simp,by simp⟩
 exact ⟨u,G',[],rfl,hw.call hS',Jh _,rfl⟩
theorem JiM {α:Type} {E:YR α} {a:Ba} {cap:Nat} {l:List α} {r:Bg} (d i:Nat) (hr:JR E G a cap l r) (hb:l.length*E.bytes≤281474976710656) {f:FuncId} {args:Array Value} (v:Value)
  (hc:∀ G',J5.le G G'→RS E G' a cap l→VC C.P f args G' [] (fun u _ _=>u=v))
  (h:KA C ops Q rest ((d,v)::fr) G L) (hi:L[i]? = some r:=by rfl)
  (hw:Qu ops fr o=some true:=by rfl) (hd:o.dst=some d:=by rfl) (hn:HH d C.n=true:=by rfl) (hsel:Zj o.op=false:=by rfl)
  (hcov:o.op.operands.toList.all (cov fr)=true:=by as_aux_lemma=>kernel_rfl) (hrun:∀ w,(execOp (W6 fr) o).run C.P w=.ok (.enter f args) w:=by intro _;as_aux_lemma=>kernel_rfl) :
  KA C ops Q (o::rest) fr G L:=by
 intro ac w ha hwS
 have hE:execOp ac.eval o=execOp (W6 fr) o:=Wq _ _ _ (fun cs b e=>by rw [e] at hsel;simp [Zj] at hsel)
  (fun x hx=>ha.eval x (Hl.1 hcov x (by simpa using hx)))
 unfold wpList
 rw [if_pos (Wr ha hw)]
 refine .inl ?_
 unfold Oper.wp
 rw [hE,hrun]
 have hF:=hwS.freeze hi
 have hrs:=hr.rs (J5.le_add G r) hb (JfH hwS hr.one hi)
 refine (hc (G.add r) (J5.le_add G r) hrs w (G.add r) w (St.start hF.mem)).mono ?_
 rintro e w' ⟨u,G',L',rfl,hS,hle,rfl⟩
 show wpList C.P ops Q rest (ac.put o.dst u) w'
 rw [hd]
 have hS':St w G w' G []:=⟨hS.below,fun b o x hx=>(hS.below.cell (p:=⟨b,o,none⟩) (WE (hwS.mem b o x hx))).trans (hwS.mem b o x hx),Jh _,fun b o v hv=>.inl hv,by simp,by simp⟩
 exact h _ _ (ha.put d u (Hi hn)) (hwS.call hS')
theorem JhP {n:Int} (h0:0≤n) (h1:n<128):Utf8.encode n=B [MC n.toNat]:=by
 unfold Utf8.encode
 have hv:Utf8.valid n=true:=by unfold Utf8.valid;simp;omega
 simp only [hv,if_true]
 rw [if_pos (by omega)]
theorem JnO (d:Nat) (n:Int) (l:Bb) (hn:Utf8.encode n=B l) (h:KA C ops Q rest ((d,Sr l)::fr) G L)
  (hb:base C.n ops fr o d=true:=by as_aux_lemma=>kernel_rfl)
  (hrun:∀ w,(execOp (W6 fr) o).run C.P w=.ok (.value (.string (Utf8.encode n))) w:=by intro _;as_aux_lemma=>kernel_rfl):KA C ops Q (o::rest) fr G L :=
 QE d hb fun w hw=>⟨Sr l,w,G,L,by rw [hrun,hn],hw,h⟩
end
def JiN (P:Program) (w:World) (name:String):Prop:=∃ g ev,P.globalNamed name=some g∧w.cell? ⟨g,0,none⟩=some ev∧(ev=.nilIface∨∃ te pe,ev=.iface te pe)
def TW (P : Program) (w : World) : Prop := Lib.TabIs P w "internal/strconv.uint64pow10" .u64 Lib.pow10Tab ∧ JiN P w "strconv.ErrSyntax" ∧ JiN P w "strconv.ErrRange"
theorem TW.below {P:Program} {w w':World} (h:TW P w) (hb:Below w.heap.size w w'):TW P w':=by
 obtain ⟨h1,h2,h3⟩:=h
 have er:∀ name,JiN P w name→JiN P w' name:=fun name ⟨g,ev,a,b,c⟩=>⟨g,ev,a,(hb.cell (p:=⟨g,0,none⟩) (WE b)).trans b,c⟩
 refine ⟨?_,er _ h2,er _ h3⟩
 unfold Lib.TabIs World.var? at *
 cases hg : P.globalNamed "internal/strconv.uint64pow10" with
 | none=>simp [hg] at h1
 | some g =>
  simp only [hg,Ml] at h1 ⊢
  have hlt:g<w.heap.size:=by
   rcases Nat.lt_or_ge g w.heap.size with h' | h'
   · exact h'
   · rw [HV h'] at h1;simp at h1
  rw [hb.block g hlt];exact h1
abbrev JfK (v:Value):List PanicEntry:=[{ v:=v,recovered:=false }]
def V4 (P:Program) (f:FuncId) (args:Array Value) (G:J5) (L:Bl) (Post PP:Value→J5→Bl→Prop):Prop :=
 ∀ w0 G0 w,TW P w0→St w0 G0 w G L→Calls P f args w fun e w'=>∃ v G' L',St w0 G0 w' G' L'∧J5.le G G'∧(e=.returned v∧Post v G' L'∨e=.panicked (JfK v)∧PP v G' L')
def Zg (P:Program) (f:FuncId) (args:Array Value) (G:J5) (Ls:Bl) (Post PP:Value→J5→Bl→Prop):Prop :=
 ∀ Lr,V4 P f args G (Ls++Lr) (fun u G' L'=>∃ Ls',L'=Ls'++Lr∧Post u G' Ls') (fun u G' L'=>∃ Ls',L'=Ls'++Lr∧PP u G' Ls')
theorem V4.mono {P:Program} {f:FuncId} {args:Array Value} {G:J5} {L:Bl} {Post PP Post' PP':Value→J5→Bl→Prop} (h:V4 P f args G L Post PP) (h1:∀ v G' L',Post v G' L'→Post' v G' L') (h2:∀ v G' L',PP v G' L'→PP' v G' L'):V4 P f args G L Post' PP':=fun w0 G0 w hT hw =>
 (h w0 G0 w hT hw).mono fun _ _ ⟨v,G',L',a,b,c⟩=>⟨v,G',L',a,b,c.imp (fun q=>⟨q.1,h1 _ _ _ q.2⟩) (fun q=>⟨q.1,h2 _ _ _ q.2⟩)⟩
theorem V4.frame {P:Program} {f:FuncId} {args:Array Value} {G:J5} {Post PP:Value→J5→Bl→Prop} (h:V4 P f args G [] Post PP):Zg P f args G [] Post PP:=fun Lr w0 G0 w hT hw=>by
 refine (h w G w (hT.below hw.below) (St.start hw.mem)).mono ?_
 rintro e w' ⟨v,G',L',a,b,c⟩
 exact ⟨v,G',L'++Lr,hw.call a,b,c.imp (fun q=>⟨q.1,L',rfl,q.2⟩) (fun q=>⟨q.1,L',rfl,q.2⟩)⟩
theorem JiO {w0 w w':World} {G0 G:J5} {L:Bl} (hw:St w0 G0 w G L) (hb:Below w.heap.size w w'):St w0 G0 w' G L :=
 hw.call (L':=[]) ⟨hb,fun b o u hv=>(hb.cell (p:=⟨b,o,none⟩) (WE (hw.mem b o u hv))).trans (hw.mem b o u hv),Jh _,fun b o v hv=>.inl hv,by simp,by simp⟩
theorem Ja7 {P:Program} {f:FuncId} {args:Array Value} {G:J5} {R:Value→Prop} (h:∀ w,TW P w→(∀ b o x,G b o=some x→w.cell? ⟨b,o,none⟩=some x)→Calls P f args w fun e w'=>∃ v,e=.returned v∧R v∧Below w.heap.size w w') :
  V4 P f args G [] (fun u _ L'=>R u∧L'=[]) (fun _ _ _=>False):=fun w0 G0 w hT hw=>by
 refine (h w (hT.below hw.below) hw.mem).mono ?_
 rintro e w' ⟨v,rfl,hr,hb⟩
 exact ⟨v,G,[],JiO hw hb,Jh _,.inl ⟨rfl,hr,rfl⟩⟩
theorem JhQ {P:Program} {f:FuncId} {args:Array Value} {G:J5} {v:Value} (h:∀ w,(∀ b o x,G b o=some x→w.cell? ⟨b,o,none⟩=some x)→Calls P f args w fun e w'=>e=.returned v∧Below w.heap.size w w') :
  VC P f args G [] (fun u _ _=>u=v):=fun w0 G0 w hw=>by
 refine (h w hw.mem).mono ?_
 rintro e w' ⟨rfl,hb⟩
 exact ⟨v,G,[],rfl,JiO hw hb,Jh _,rfl⟩
def BPX (w0:World) (G0 G:J5) (Post PP:Value→J5→Bl→Prop):Ending→World→Prop :=
 fun e w'=>∃ v G' L',St w0 G0 w' G' L'∧J5.le G G'∧(e=.returned v∧Post v G' L'∨e=.panicked (JfK v)∧PP v G' L')
theorem V5 {w0:World} {G0 G G1:J5} {L:Bl} {Post PP:Value→J5→Bl→Prop} {v:Value} (h:∀ w,St w0 G0 w G1 L→BP w0 G0 G Post (.returned v) w) :
  ∀ w,St w0 G0 w G1 L→BPX w0 G0 G Post PP (.returned v) w:=fun w hw=>by
 obtain ⟨u,G',L',e,a,b,c⟩:=h w hw
 exact ⟨u,G',L',a,b,.inl ⟨e,c⟩⟩
theorem W0 {P:Program} {f:FuncId} {args:Array Value} {G:J5} {L:Bl} {Post PP:Value→J5→Bl→Prop} {fn:Func} {c:Code}
  (hf:P.funcs[f]? = some fn) (n:Nat) (fr:Bf) (hb:fn.body=some c)
  (h:∀ w0 G0,TW P w0→TC ⟨P,n,[],w0,G0⟩ c (bodyPost P fn (BPX w0 G0 G Post PP)) fr G L)
  (hn:fn.ntmps=n:=by rfl) (ha:Mw args.size n=true:=by rfl)
  (hfr:(fr.map fun p=>args[p.1]?)=fr.map fun p=>some p.2:=by as_aux_lemma=>kernel_rfl):V4 P f args G L Post PP:=fun w0 G0 w hT hw =>
 calls_of_wp hf hb (h w0 G0 hT _ w (by rw [hn];exact JfC fr hfr (Hi ha)) hw)
section
variable {C:Cx} {Q:Bq} {fr:Bf} {G:J5} {L:Bl} {ops:Bp} {rest:List Oper} {o:Oper}
theorem KG (d:Nat) {f:FuncId} {args:Array Value} {Ls Lr:Bl} {Post PP:Value→J5→Bl→Prop} (hT:TW C.P C.w0) (hc:Zg C.P f args G Ls Post PP)
  (hp:∀ v G' L1,J5.le G G'→PP v G' L1→TQ C Q (.panic (JfK v)) fr G' (L1++Lr))
  (h:∀ v G' L1,J5.le G G'→Post v G' L1→KA C ops Q rest ((d,v)::fr) G' (L1++Lr)) (hL:L=Ls++Lr:=by rfl)
  (hw:Qu ops fr o=some true:=by rfl) (hd:o.dst=some d:=by rfl) (hn:HH d C.n=true:=by rfl) (hsel:Zj o.op=false:=by rfl)
  (hcov:o.op.operands.toList.all (cov fr)=true:=by as_aux_lemma=>kernel_rfl) (hrun:∀ w,(execOp (W6 fr) o).run C.P w=.ok (.enter f args) w:=by intro _;as_aux_lemma=>kernel_rfl) :
  KA C ops Q (o::rest) fr G L:=by
 subst hL
 intro a w ha hwS
 have hE:execOp a.eval o=execOp (W6 fr) o:=Wq _ _ _ (fun cs b e=>by rw [e] at hsel;simp [Zj] at hsel)
  (fun x hx=>ha.eval x (Hl.1 hcov x (by simpa using hx)))
 unfold wpList
 rw [if_pos (Wr ha hw)]
 refine .inl ?_
 unfold Oper.wp
 rw [hE,hrun]
 refine (hc Lr C.w0 C.G0 w hT hwS).mono ?_
 rintro e w' ⟨v,G',L',hS,hle,⟨rfl,L1,rfl,hq⟩ | ⟨rfl,L1,rfl,hq⟩⟩
 ·
  show wpList C.P ops Q rest (a.put o.dst v) w'
  rw [hd]
  exact h v G' L1 hle hq _ _ (ha.put d v (Hi hn)) hS
 · exact hp v G' L1 hle hq _ _ ha hS
theorem ZQ (d:Nat) {f:FuncId} {args:Array Value} {Ls Lr:Bl} {Post:Value→J5→Bl→Prop} (hT:TW C.P C.w0) (hc:Zg C.P f args G Ls Post (fun _ _ _=>False))
  (h:∀ v G' L1,J5.le G G'→Post v G' L1→KA C ops Q rest ((d,v)::fr) G' (L1++Lr)) (hL:L=Ls++Lr:=by rfl)
  (hw:Qu ops fr o=some true:=by rfl) (hd:o.dst=some d:=by rfl) (hn:HH d C.n=true:=by rfl) (hsel:Zj o.op=false:=by rfl)
  (hcov:o.op.operands.toList.all (cov fr)=true:=by as_aux_lemma=>kernel_rfl) (hrun:∀ w,(execOp (W6 fr) o).run C.P w=.ok (.enter f args) w:=by intro _;as_aux_lemma=>kernel_rfl) :
  KA C ops Q (o::rest) fr G L:=KG d hT hc (fun _ _ _ _ hp=>hp.elim) h hL hw hd hn hsel hcov hrun
theorem JaY (d:Nat) {f:FuncId} {args:Array Value} (v:Value) (hT:TW C.P C.w0) (hc:V4 C.P f args G [] (fun u _ _=>u=v) (fun _ _ _=>False))
  (h:KA C ops Q rest ((d,v)::fr) G L)
  (hw:Qu ops fr o=some true:=by rfl) (hd:o.dst=some d:=by rfl) (hn:HH d C.n=true:=by rfl) (hsel:Zj o.op=false:=by rfl)
  (hcov:o.op.operands.toList.all (cov fr)=true:=by as_aux_lemma=>kernel_rfl) (hrun:∀ w,(execOp (W6 fr) o).run C.P w=.ok (.enter f args) w:=by intro _;as_aux_lemma=>kernel_rfl) :
  KA C ops Q (o::rest) fr G L:=by
 intro a w ha hwS
 have hE:execOp a.eval o=execOp (W6 fr) o:=Wq _ _ _ (fun cs b e=>by rw [e] at hsel;simp [Zj] at hsel)
  (fun x hx=>ha.eval x (Hl.1 hcov x (by simpa using hx)))
 unfold wpList
 rw [if_pos (Wr ha hw)]
 refine .inl ?_
 unfold Oper.wp
 rw [hE,hrun]
 refine (hc w G w (hT.below hwS.below) (St.start hwS.mem)).mono ?_
 rintro e w' ⟨u,G',L',hS,hle,⟨rfl,rfl⟩ | ⟨_,hf⟩⟩
 ·
  show wpList C.P ops Q rest (a.put o.dst u) w'
  rw [hd]
  have hS':St w G w' G []:=⟨hS.below,fun b o v hv=>hS.mem b o v (hle b o v hv),Jh _,fun b o v hv=>.inl hv,by simp,by simp⟩
  exact h _ _ (ha.put d u (Hi hn)) (hwS.call hS')
 · exact hf.elim
theorem Jke (T:TypeId) (v:Value) (h:TQ C Q (.panic (JfK (.iface T v))) fr G L)
  (hg:Qu ops fr o=some true:=by rfl) (hsel:Zj o.op=false:=by rfl) (hcov:o.op.operands.toList.all (cov fr)=true:=by as_aux_lemma=>kernel_rfl)
  (hrun:∀ w,(execOp (W6 fr) o).run C.P w=.halt (.panic (.iface T v)) w:=by intro _;as_aux_lemma=>kernel_rfl):KA C ops Q (o::rest) fr G L:=by
 intro a w ha hwS
 have hE:execOp a.eval o=execOp (W6 fr) o:=Wq _ _ _ (fun cs b e=>by rw [e] at hsel;simp [Zj] at hsel)
  (fun x hx=>ha.eval x (Hl.1 hcov x (by simpa using hx)))
 unfold wpList
 rw [if_pos (Wr ha hg)]
 refine .inl ?_
 unfold Oper.wp
 rw [hE,hrun]
 exact h _ _ ha hwS
theorem J8 {K:Act→World→Prop} {ch:List PanicEntry} (h:TQ C Q (.panic ch) fr G L):TQ C (Exit.then K Q) (.panic ch) fr G L:=fun a w ha hw=>h a w ha hw
theorem Jdq {id:Nat} {ch:List PanicEntry} (h:TQ C Q (.panic ch) fr G L):TQ C (Exit.inBlock id Q) (.panic ch) fr G L:=fun a w ha hw=>h a w ha hw
theorem Jkf {σ:Type} {inv:σ→Prop} {F:σ→Bf} {Gs:σ→J5} {Ls:σ→Bl} {μ:σ→Nat} {m:Nat} {ch:List PanicEntry}
  (h:TQ C Q (.panic ch) fr G L):TQ C (Rnd C inv F Gs Ls μ m Q) (.panic ch) fr G L:=fun a w ha hw=>h a w ha hw
theorem Wt {P:Program} {n:Nat} {w0:World} {G0:J5} {fn:Func} {R:Ending→World→Prop} {ch:List PanicEntry} (hR:∀ w,St w0 G0 w G L→R (.panicked ch) w):TQ ⟨P,n,[],w0,G0⟩ (bodyPost P fn R) (.panic ch) fr G L :=
 fun a w ha hw=>⟨ha.defers,hR w hw⟩
theorem Jcp {w0:World} {G0 G G1:J5} {L:Bl} (L':Bl) {Post PP:Value→J5→Bl→Prop} {v:Value} (hle:J5.le G G1) (hp:PP v G1 L')
  (hs:L'.Sublist L:=by first | exact .refl _ | (repeat' (first | exact .slnil | exact .refl _ | refine .cons_cons _ ?_ | refine .cons _ ?_))) :
  ∀ w,St w0 G0 w G1 L→BPX w0 G0 G Post PP (.panicked (JfK v)) w:=fun _ hw=>⟨v,G1,L',hw.dropAt L' (JaE hs),hle,.inr ⟨rfl,hp⟩⟩
theorem QO {w0:World} {G0 G G1:J5} {L Lr:Bl} (Ls:Bl) {Post PP:Value→J5→Bl→Prop} {v:Value} (hle:J5.le G G1) (hp:PP v G1 Ls)
  (hs:(Ls++Lr).Sublist L:=by first | exact .refl _ | (repeat' (first | exact .slnil | exact .refl _ | refine .cons_cons _ ?_ | refine .cons _ ?_))) :
  ∀ w,St w0 G0 w G1 L→BPX w0 G0 G Post (fun u G' L'=>∃ Ls',L'=Ls'++Lr∧PP u G' Ls') (.panicked (JfK v)) w:=fun _ hw=>⟨v,G1,Ls++Lr,hw.dropAt _ (JaE hs),hle,.inr ⟨rfl,Ls,rfl,hp⟩⟩
theorem Jkg {P:Program} {n:Nat} {D:List Deferred} {w0:World} {G0:J5} (df:Deferred) (h:KA ⟨P,n,df::D,w0,G0⟩ ops Q rest fr G L)
  (hg:Qu ops fr o=some true:=by rfl) (hd:o.dst=none:=by rfl) (hsel:Zj o.op=false:=by rfl) (hcov:o.op.operands.toList.all (cov fr)=true:=by as_aux_lemma=>kernel_rfl)
  (hrun:∀ w,(execOp (W6 fr) o).run P w=.ok (.defer df) w:=by intro _;as_aux_lemma=>kernel_rfl):KA ⟨P,n,D,w0,G0⟩ ops Q (o::rest) fr G L:=by
 intro a w ha hwS
 have hE:execOp a.eval o=execOp (W6 fr) o:=Wq _ _ _ (fun cs b e=>by rw [e] at hsel;simp [Zj] at hsel)
  (fun x hx=>ha.eval x (Hl.1 hcov x (by simpa using hx)))
 unfold wpList
 rw [if_pos (Wr ha hg)]
 refine .inl ?_
 unfold Oper.wp
 rw [hE,hrun]
 show wpList P ops Q rest ({ a with defers:=df::a.defers }.put o.dst undef) w
 rw [hd]
 exact h _ _ ⟨ha.size,by show df::a.defers=df::D;rw [ha.defers],ha.slot⟩ hwS
end
end Go.Tx
