import Derived.Test.YteaampgpgokjmaaGreatDoorTmA
import Derived.Test.YteaampgpgokjmaaGreatDoorRows
import Derived.WalkKit
import Derived.ProofKit
import Derived.OpenShut
import Derived.JoinedCond
import Derived.SizedLaws
import Derived.Deep.CondSized
import Derived.WideKeyArgs
import Derived.Carry
import Derived.Shelf.Strconv.Itoa3
import Derived.Shelf.Strconv.AtoiAll
import Derived.Shelf.Strings.SplitCore
import Derived.Shelf.Strings.OnBuilder
import Derived.Shelf.Strings.Count
import Derived.Shelf.Strings.Search3
import Derived.Lib.SplitLaws
import Derived.Lib.AtoiErrMem
import Derived.BigCall
import Derived.BigGuard
import Derived.Lib.ItoaMem
import Derived.Lib.Hide
import Derived.Lib.AtoiAllCases
import Derived.Lib.ItoaLen
set_option linter.unusedVariables false
set_option linter.unusedSimpArgs false
namespace Go.Proofs.YteaampgpgokjmaaGreatDoor
open Go.Tx
open Go.ChangeShapes Go.WideShapes Go.ChangeAt Go.RowKit
open IntKind renaming u64 → Ha, u8 → Hc, i64 → Hk, signed → HS, bits → HX
open _root_.BitVec renaming ofInt → Hb, ofInt_natCast → Hs, toNat_ofNat → Hu
open _root_.Nat renaming beq → Hd, le_trans → Hi, zero_le → Ho, le_of_ble_eq_true → Hr, mod_eq_of_lt → Hx, le_refl → HE
open _root_.UInt8 renaming ofNat → He
open _root_.List renaming forall_mem_nil → Hf, length_append → Hg, getElem?_eq_some_iff → Hh, take_of_length_le → Hj, length_cons → Hl, length_nil → Hm, getElem?_eq_getElem → Hn, drop_eq_getElem_cons → Hp, drop_eq_nil_of_le → Ht, length_map → Hw, take_add_one → HB, mem_singleton → HF, findIdx?_eq_some_iff_getElem → HH, mem_of_getElem? → HI, mem_append → HJ, append_nil → HK, length_range → HN, getElem?_map → HO, take_append_drop → HR, mem_cons → HV, mem_map → HW, map → HY
open _root_.Option renaming map_eq_some_iff → Hq, bind_eq_some_iff → Hy, some → HQ
open _root_.Int renaming fdiv_eq_ediv_of_nonneg → Hv, eq_ofNat_of_zero_le → Hz, mul_le_mul_of_nonneg_right → HA, mul_assoc → HD, tdiv_eq_ediv_of_nonneg → HM, mul_nonneg → HT
open _root_.Array renaming size_replicate → HC
open IntWalk renaming i64_in → HG, u64_in → HL, rem_in → HU
open _root_.Bool renaming and_eq_true → HP
def RdF (rec:TypeId→Bv→Nat→Prop) (P:Program) (cs:Bv):List Field→Nat→Prop
 | [],_=>True
 | f::fs,n=>∃ m r,m+r≤n∧rec f.type ((cs.drop f.offset).take (P.cellsOf f.type)) m∧RdF rec P cs fs r
def Rd (P:Program) (G:J5):Nat→TypeId→Bv→Nat→Prop
 | 0,_,_,_=>False
 | d+1,t,cs,n=>match P.underlying t with
  | some .bool=>∃ b,cs=[Bo b]
  | some (.int k)=>∃ m,cs=[.int k m]∧(Lit.int k m).wf=true
  | some .string=>∃ l:Bb,cs=[Sr l]∧l.length≤140737488351232∧l.length+1≤n
  | some (.slice e)=>cs=[.slice none 0 0]∨∃ a len cap,cs=[.slice (some a) len cap]∧len≤cap∧cap≤9223372036854775807∧cap*P.bytesOf e≤140737488351232∧(0<cap→0<P.cellsOf e→a.spot=none) ∧
    ∃ ns:List Nat,ns.length=len∧ns.sum+1≤n∧∀ i m,ns[i]? = some m→∃ es,es.length=P.cellsOf e∧(∀ j v,es[j]? = some v→G a.block (a.off+i*P.cellsOf e+j)=some v)∧Rd P G d e es m
  | some (.struct fs)=>cs.length=P.cellsOf t∧RdF (Rd P G d) P cs fs.toList n
  | some (.array k e)=>cs.length=P.cellsOf t∧∃ ns:List Nat,ns.length=k∧ns.sum≤n∧∀ i m,ns[i]? = some m→Rd P G d e ((cs.drop (i*P.cellsOf e)).take (P.cellsOf e)) m
  | _=>True
def JbT (w:World):J5:=fun b o=>w.cell? ⟨b,o,none⟩
section
variable {H:Type} {enc:TypeId×Value→H} {P:Program} {w:World}
theorem JaF:∀ (ds:List (DataW H)),Rows.uptoBulkAll ds=(ds.map Rows.uptoBulk).sum
 | []=>rfl
 | d::r=>by rw [Rows.uptoBulkAll,JaF r];simp
theorem JaG (P:Program) (e:TypeId):∀ (ds:List (DataW H)) (d:DataW H) (x:Nat),d∈ds→x∈d.weights P e→x∈DataW.weightsAll P e ds
 | [],d,x,h,_=>by cases h
 | c::r,d,x,h,hx=>by
  rw [DataW.weightsAll]
  rcases HV.1 h with rfl | h
  · exact List.mem_append_left _ hx
  · exact List.mem_append_right _ (JaG P e r d x h hx)
theorem Jeb {a:Addr} {n:Nat} {cs:Bv} (h:w.cells? 0 a n=some cs):cs.length=n∧(∀ j v,cs[j]? = some v→JbT w a.block (a.off+j)=some v)∧(0<n→a.spot=none):=by
 unfold World.cells? at h
 rw [if_pos (Ho _)] at h
 have hl:=mapM_some_length h
 rw [HN] at hl
 have key:∀ j v,cs[j]? = some v→w.cell? (a.add j)=some v:=by
  intro j v hv
  have hj:j<n:=by rw [← hl];exact (Hh.1 hv).1
  rw [mapM_some_get h j j (by simp [hj]),hv]
 refine ⟨hl,fun j v hv=>?_,fun hn=>?_⟩
 ·
  have:=key j v hv
  by_cases h0:j=0
  ·
   subst h0
   obtain ⟨b,o,sp⟩:=a
   cases sp with
   | none=>simpa [Addr.add,JbT] using this
   | some s=>simp [Addr.add,World.cell?] at this;split at this <;> simp at this
  ·
   rw [Addr.add,if_neg h0] at this
   exact this
 ·
  obtain ⟨v,hv⟩:∃ v,cs[0]? = some v:=⟨_,Hn (by omega)⟩
  have:=key 0 v hv
  obtain ⟨b,o,sp⟩:=a
  cases sp with
  | none=>rfl
  | some s=>simp [Addr.add,World.cell?] at this;split at this <;> simp at this
theorem B_of (s:ByteArray):Value.string s=Sr s.data.toList:=by
 obtain ⟨⟨l⟩⟩:=s
 rfl
theorem JnP {rec:TypeId→Bv→Nat→Prop} {cs:Bv}:∀ (fs:List Field) {n m:Nat},n≤m→RdF rec P cs fs n→RdF rec P cs fs m
 | [],_,_,_,_=>trivial
 | f::fs,n,m,h,⟨x,y,h1,h2,h3⟩=>⟨x,y,Hi h1 h,h2,h3⟩
theorem JnQ {d:Nat} {cs:Bv} (ih:∀ t cs dt ps,DataW.trod enc P w 0 (fun _=>true) true d t cs=some (dt,ps)→(∀ x∈DataW.weights P t dt,x≤reachBytes)→Rd P (JbT w) d t cs (Rows.uptoBulk dt)) :
  ∀ (fs:List Field) (xs:List (DataW H×List MemPlace)),fs.mapM (fun f=>DataW.trod enc P w 0 (fun _=>true) true d f.type ((cs.drop f.offset).take (P.cellsOf f.type)))=some xs →
   (∀ x∈DataW.weightsEach P (fs.map (·.type)) (xs.map (·.1)),x≤reachBytes)→RdF (Rd P (JbT w) d) P cs fs (Rows.uptoBulkAll (xs.map (·.1)))
 | [],xs,_,_=>trivial
 | f::fs,xs,h,hw=>by
  rw [List.mapM_cons] at h
  simp only [bind,Hy,pure,HQ.injEq] at h
  obtain ⟨⟨dt,ps⟩,h1,ys,h2,rfl⟩:=h
  simp only [List.map_cons,DataW.weightsEach,HJ] at hw
  refine ⟨Rows.uptoBulk dt,Rows.uptoBulkAll (ys.map (·.1)),?_,ih _ _ _ _ h1 (fun x hx=>hw x (.inl hx)),JnQ ih fs ys h2 (fun x hx=>hw x (.inr hx))⟩
  simp [Rows.uptoBulkAll]
theorem JfL:∀ (d:Nat) (t:TypeId) (cs:Bv) (dt:DataW H) (ps:List MemPlace),DataW.trod enc P w 0 (fun _=>true) true d t cs=some (dt,ps)→(∀ x∈DataW.weights P t dt,x≤reachBytes) →
  Rd P (JbT w) d t cs (Rows.uptoBulk dt)
 | 0,_,_,_,_,h,_=>by simp [DataW.trod] at h
 | d+1,t,cs,dt,ps,h,hw=>by
  have ih:=JfL d
  unfold Rd
  cases hu:P.underlying t with
  | none=>trivial
  | some k =>
   cases k with
   | bool =>
    simp only
    unfold DataW.trod at h
    rw [hu] at h
    split at h <;> simp_all
   | int k =>
    simp only
    unfold DataW.trod at h
    rw [hu] at h
    split at h <;> simp_all
   | string =>
    simp only
    unfold DataW.trod at h
    rw [hu] at h
    split at h <;> try simp_all
    rename_i s
    obtain ⟨h1,rfl,h2⟩:=h
    have:=hw s.data.toList.length (by simp [DataW.weights])
    refine ⟨s.data.toList,Value.string.inj (B_of s),?_,?_⟩
    · simpa [reachBytes] using this
    · simp [Rows.uptoBulk]
   | slice e =>
    simp only
    unfold DataW.trod at h
    rw [hu] at h
    split at h <;> try (exfalso;simp_all;done)
    · exact .inl rfl
    ·
     rename_i e' a len cap heq
     cases heq
     dsimp only at h
     split at h
     ·
      rename_i hc
      simp only [if_true,Hy,Hq,Prod.mk.injEq] at h
      obtain ⟨xs,h1,ys,h2,rfl,_⟩:=h
      have l1:=mapM_some_length h1
      have l2:=mapM_some_length h2
      rw [HN] at l1 l2
      simp only [DataW.weights,hu,HV,HJ,Hw] at hw
      have hsz:=hw _ (.inl rfl)
      have get:∀ i z,i<len→xs[i]? = some z→∃ cs,w.cells? 0 (a.add (i*P.cellsOf e)) (P.cellsOf e)=some cs∧DataW.trod enc P w 0 (fun _=>true) true d e cs=some z:=by
       intro i z hi hz
       have:=mapM_some_get h1 i i (by simp [hi])
       rw [hz] at this
       exact Hy.1 this
      have get2:∀ i z,i<cap-len→ys[i]? = some z→∃ cs,w.cells? 0 (a.add ((len+i)*P.cellsOf e)) (P.cellsOf e)=some cs∧DataW.trod enc P w 0 (fun _=>true) true d e cs=some z:=by
       intro i z hi hz
       have:=mapM_some_get h2 i i (by simp [hi])
       rw [hz] at this
       exact Hy.1 this
      refine .inr ⟨a,len,cap,rfl,hc.2.1,hc.2.2,?_,fun hc0 he0=>?_,xs.map fun z=>Rows.uptoBulk z.1,by simp [l1],?_,?_⟩
      ·
       rw [l1,l2,show len+(cap-len)=cap by omega] at hsz
       simpa [reachBytes] using hsz
      ·
       by_cases hl:0<len
       ·
        obtain ⟨z,hz⟩:∃ z,xs[0]? = some z:=⟨_,Hn (by omega)⟩
        obtain ⟨cs,hcs,_⟩:=get 0 z hl hz
        have:=(Jeb hcs).2.2 he0
        simpa [Addr.add] using this
       ·
        obtain ⟨z,hz⟩:∃ z,ys[0]? = some z:=⟨_,Hn (by omega)⟩
        obtain ⟨cs,hcs,_⟩:=get2 0 z (by omega) hz
        have:=(Jeb hcs).2.2 he0
        rw [show len=0 by omega] at this
        simpa [Addr.add] using this
      · simp [Rows.uptoBulk,JaF,Function.comp_def]
      ·
       intro i m hm
       rw [HO,Hq] at hm
       obtain ⟨z,hz,rfl⟩:=hm
       have hi:i<len:=by rw [← l1];exact (Hh.1 hz).1
       obtain ⟨cs,hcs,hz'⟩:=get i z hi hz
       obtain ⟨c1,c2,c3⟩:=Jeb hcs
       refine ⟨cs,c1,fun j v hv=>?_,ih _ _ _ _ hz' (fun x hx=>hw x (.inr (.inl (JaG P e _ z.1 x (HW.2 ⟨z,HI hz,rfl⟩) hx))))⟩
       have:=c2 j v hv
       unfold Addr.add at this
       split at this
       · rename_i h0;rw [h0];simpa using this
       · exact this
     · cases h
   | struct fs =>
    simp only
    unfold DataW.trod at h
    rw [hu] at h
    split at h <;> try (exfalso;simp_all;done)
    rename_i fs' heq
    cases heq
    split at h
    ·
     rename_i hc
     rw [Hq] at h
     obtain ⟨xs,h1,h2⟩:=h
     cases h2
     simp only [DataW.weights,hu] at hw
     refine ⟨hc,?_⟩
     have:=JnQ ih fs.toList xs h1 hw
     revert this
     generalize fs.toList=fl
     rw [Rows.uptoBulk]
     exact JnP fl (Nat.le_succ _)
    · cases h
   | array k e =>
    simp only
    unfold DataW.trod at h
    rw [hu] at h
    split at h <;> try (exfalso;simp_all;done)
    rename_i k' e' heq
    cases heq
    split at h
    ·
     rename_i hc
     rw [Hq] at h
     obtain ⟨xs,h1,h2⟩:=h
     cases h2
     have l1:=mapM_some_length h1
     rw [HN] at l1
     simp only [DataW.weights,hu] at hw
     refine ⟨hc,xs.map fun z=>Rows.uptoBulk z.1,by simp [l1],by simp [Rows.uptoBulk,JaF,Function.comp_def],?_⟩
     intro i m hm
     rw [HO,Hq] at hm
     obtain ⟨z,hz,rfl⟩:=hm
     have hi:i<k:=by rw [← l1];exact (Hh.1 hz).1
     have:=mapM_some_get h1 i i (by simp [hi])
     rw [hz] at this
     exact ih _ _ _ _ this (fun x hx=>hw x (JaG P e _ z.1 x (HW.2 ⟨z,HI hz,rfl⟩) hx))
    · cases h
   | _=>trivial
theorem JcG (hl:laidOutB P=true) {W W':World} (hb:Below W.heap.size W W'):∀ (ts:List TypeId) (vs:Bv) (ds:List (DataW H)) (ps:List MemPlace),
  (∀ t∈ts,P.readableRec t=true∧t<P.types.size)→DataW.TrodAll enc P W 0 (fun _=>true) true ts vs ds ps→(∀ x∈ps,x.block<W.heap.size) →
  ∀ sp:Nat→Bool,(∀ p∈ps,sp p.block=true)→DataW.TrodAll enc P W' 0 sp true ts vs ds ps
 | [],vs,ds,ps,_,h,_,sp,_=>by
  obtain ⟨rfl,rfl,rfl⟩:=trodAll_nil h
  exact trodAll_mk0
 | t::ts,vs,ds,ps,hr,h,hlt,sp,hsp=>by
  obtain ⟨v,vs',d,ds',p,q,rfl,rfl,rfl,h1,h2⟩:=trodAll_cons h
  have ht:=hr t (by simp)
  refine trodAll_cons_mk ?_ (JcG hl hb ts vs' ds' q (fun u hu=>hr u (by simp [hu])) h2 (fun x hx=>hlt x (by simp [hx])) sp (fun x hx=>hsp x (by simp [hx])))
  exact WideElems.Trod_stays hl ht.1 ht.2 h1 (fun x hx=>hb.same (hlt x (by simp [hx]))) (fun x hx=>hsp x (by simp [hx]))
def JiP (P:Program) (ts:List TypeId):Bool:=ts.all fun t=>P.readableRec t && decide (t<P.types.size)
theorem JnR {f:Func} {s:ChangeSpec} {fresh handsOn again:Bool} {W W':World} {args:Array Value} {ds gs:List (DataW H)} {before:List MemPlace} {t:TypeId}
  (hl:laidOutB P=true) (hr:JiP P f.params.toList=true) (hv:s.vars=[])
  (hW:DataW.Whole enc P f.params.toList s.vars false W args.toList ds gs before)
  (ho:s.fn H ds={ results:=[.lit (.bool true)],args:=ds }) (ht:f.resultTypes=#[t]) (hu:P.underlying t=some .bool) (hb:Below W.heap.size W W') :
  s.post enc P f false fresh handsOn again W args (.bool true) W':=by
 obtain ⟨p,q,hA,hV,rfl,hfz,hnd⟩:=hW
 have hV0:=hV
 rw [hv] at hV
 obtain ⟨rfl,rfl⟩:=trodVars_none hV
 have hW:DataW.Whole enc P f.params.toList s.vars false W args.toList ds [] (p++[]):=⟨p,[],hA,hV0,rfl,hfz,hnd⟩
 have hlt:=hW.lt
 simp only [HK] at hlt hfz hnd
 have hrf:∀ t∈f.params.toList,P.readableRec t=true∧t<P.types.size:=by
  intro t ht
  have:=List.all_eq_true.1 hr t ht
  simpa using this
 have hargs:=JcG hl hb _ _ _ _ hrf hA hlt
 have hvars:∀ sp,DataW.TrodVars enc P W' sp s.vars [] []:=by intro sp;rw [hv];rfl
 have hres:∀ (b:Nat) (sp:Nat→Bool) (hd:Bool),DataW.TrodAll enc P W' b sp hd f.resultTypes.toList ((Value.bool true).resultList f.resultTypes.size) [.lit (.bool true)] []:=by
  intro b sp hd
  rw [ht]
  exact trodAll_cons_mk (p:=[]) (p':=[]) (shut_bool hu true) trodAll_mk0
 refine ⟨ds,[],p++[],[],p,[],hW,?_,?_,?_,hb.frame _,fun _=>⟨ok_one ht rfl (okWide_bool_mk hu _),[.lit (.bool true)]++ds,[],([]++p)++[],⟨[]++p,[],trodAll_append (hargs (fun _=>true) (fun _ _=>rfl)) (hres 0 (fun _=>true) true),?_,rfl,?_,fun h=>by cases h⟩,?_⟩⟩
 · rw [HK,ho];exact hres _ _ _
 · rw [HK,ho];exact hargs _ (fun x hx=>by simpa using hlt x hx)
 · rw [HK,ho];exact hvars _
 · exact hvars _
 ·
  intro b off hp
  rw [hb.frozen (hlt (.cell b off) (by simpa using hp))]
  exact hfz b off (by simpa using hp)
 ·
  intro x hx _
  simpa using hx
end
inductive LK where
 | bool
 | int (k:IntKind)
 | str
 | sl (t:TypeId)
def JhR (rec:TypeId→Option (List LK)) (P:Program):Nat→List Field→Option (List LK)
 | _,[]=>some []
 | off,f::fs=>if f.offset=off then match rec f.type with
  | some ks=>if ks.length=P.cellsOf f.type then (JhR rec P (off+ks.length) fs).map (ks++·) else none
  | none=>none
  else none
def JfM (P:Program):Nat→TypeId→Option (List LK)
 | 0,_=>none
 | m+1,t=>match P.underlying t with
  | some .bool=>some [.bool]
  | some (.int k)=>some [.int k]
  | some .string=>some [.str]
  | some (.slice _)=>some [.sl t]
  | some (.struct fs)=>match JhR (JfM P m) P 0 fs.toList with
   | some ks=>if ks.length=P.cellsOf t then some ks else none
   | none=>none
  | some (.array k e)=>match JfM P m e with
   | some ks=>if ks.length=P.cellsOf e∧P.cellsOf t=k*ks.length then some (List.replicate k ks).flatten else none
   | none=>none
  | _=>none
def RdK (P:Program) (G:J5):LK→Value→Nat→Prop
 | .bool,v,_=>∃ b,v=Bo b
 | .int k,v,_=>∃ m,v=.int k m∧(Lit.int k m).wf=true
 | .str,v,n=>∃ l:Bb,v=Sr l∧l.length≤140737488351232∧l.length+1≤n
 | .sl t,v,n=>∃ d,Rd P G d t [v] n
def RdL (P:Program) (G:J5):List LK→Bv→Nat→Prop
 | [],cs,_=>cs=[]
 | k::ks,cs,n=>∃ v cs' m r,cs=v::cs'∧m+r≤n∧RdK P G k v m∧RdL P G ks cs' r
section
variable {P:Program} {G:J5}
theorem Jmm {rec:TypeId→Bv→Nat→Prop} {cs:Bv}:∀ (fs:List Field) {n m:Nat},n≤m→RdF rec P cs fs n→RdF rec P cs fs m
 | [],_,_,_,_=>trivial
 | f::fs,n,m,h,⟨x,y,h1,h2,h3⟩=>⟨x,y,Hi h1 h,h2,h3⟩
theorem JpG:∀ (d:Nat) (t:TypeId) (cs:Bv) {n m:Nat},n≤m→Rd P G d t cs n→Rd P G d t cs m
 | 0,_,_,_,_,_,h=>h
 | d+1,t,cs,n,m,hle,h=>by
  unfold Rd at h ⊢
  split at h
  · exact h
  · exact h
  ·
   obtain ⟨l,a,b,c⟩:=h
   exact ⟨l,a,b,Hi c hle⟩
  ·
   rcases h with h | ⟨a,len,cap,h1,h2,h3,h4,h5,ns,h6,h7,h8⟩
   · exact .inl h
   · exact .inr ⟨a,len,cap,h1,h2,h3,h4,h5,ns,h6,Hi h7 hle,h8⟩
  · exact ⟨h.1,Jmm _ hle h.2⟩
  ·
   obtain ⟨h1,ns,h2,h3,h4⟩:=h
   exact ⟨h1,ns,h2,Hi h3 hle,h4⟩
  · trivial
theorem Jdr:∀ {ks:List LK} {cs:Bv} {n m:Nat},n≤m→RdL P G ks cs n→RdL P G ks cs m
 | [],_,_,_,_,h=>h
 | _::_,_,_,_,h,⟨v,cs',a,b,h1,h2,h3,h4⟩=>⟨v,cs',a,b,h1,Hi h2 h,h3,h4⟩
theorem JnS:∀ {k:LK} {v:Value} {n m:Nat},n≤m→RdK P G k v n→RdK P G k v m
 | .bool,_,_,_,_,h=>h
 | .int _,_,_,_,_,h=>h
 | .str,_,_,_,h,⟨l,a,b,c⟩=>⟨l,a,b,Hi c h⟩
 | .sl t,_,_,_,h,⟨d,hd⟩=>⟨d,JpG d _ _ h hd⟩
theorem Jc0:∀ {k1 k2:List LK} {c1 c2:Bv} {m r:Nat},RdL P G k1 c1 m→RdL P G k2 c2 r→RdL P G (k1++k2) (c1++c2) (m+r)
 | [],_,_,_,m,r,h,h'=>by cases h;exact Jdr (Nat.le_add_left _ _) h'
 | k::ks,k2,c1,c2,m,r,⟨v,cs',a,b,h1,h2,h3,h4⟩,h'=>by
  subst h1
  exact ⟨v,cs'++c2,a,b+r,rfl,by omega,h3,Jc0 h4 h'⟩
theorem JiQ {d m:Nat} (ih:∀ (t:TypeId) (ks:List LK) (cs:Bv) (n:Nat),JfM P m t=some ks→Rd P G d t cs n→RdL P G ks cs n) {cs:Bv} :
  ∀ (fs:List Field) (off:Nat) (ks:List LK) (n:Nat),JhR (JfM P m) P off fs=some ks→off+ks.length=cs.length→RdF (Rd P G d) P cs fs n→RdL P G ks (cs.drop off) n
 | [],off,ks,n,h,hl,_=>by
  cases h
  exact Ht (by simp at hl;omega)
 | f::fs,off,ks,n,h,hl,⟨a,b,h1,h2,h3⟩=>by
  unfold JhR at h
  split at h
  ·
   rename_i ho
   split at h
   ·
    rename_i k1 hk
    split at h
    ·
     rename_i hk1
     obtain ⟨k2,h4,rfl⟩:=Hq.1 h
     have:=JiQ ih fs _ k2 b h4 (by simp at hl;omega) h3
     have h5:=ih _ _ _ _ hk h2
     rw [ho] at h5
     have:=Jdr h1 (Jc0 h5 this)
     rwa [hk1,← List.drop_drop,HR] at this
    · cases h
   · cases h
  · cases h
theorem JhS:∀ (m d:Nat) (t:TypeId) (ks:List LK) (cs:Bv) (n:Nat),JfM P m t=some ks→Rd P G d t cs n→RdL P G ks cs n
 | 0,_,_,_,_,_,h,_=>by cases h
 | _+1,0,_,_,_,_,_,h=>by cases h
 | m+1,d+1,t,ks,cs,n,h,hr=>by
  have ih:=fun t ks cs n=>JhS m d t ks cs n
  have hr0:=hr
  unfold JfM at h
  unfold Rd at hr
  split at h
  ·
   rename_i hu;rw [hu] at hr;cases h
   obtain ⟨b,rfl⟩:=hr
   exact ⟨_,_,0,0,rfl,by omega,⟨b,rfl⟩,rfl⟩
  ·
   rename_i hu;rw [hu] at hr;cases h
   obtain ⟨b,rfl,hw⟩:=hr
   exact ⟨_,_,0,0,rfl,by omega,⟨b,rfl,hw⟩,rfl⟩
  ·
   rename_i hu;rw [hu] at hr;cases h
   obtain ⟨b,rfl,h1,h2⟩:=hr
   exact ⟨_,_,n,0,rfl,by omega,⟨b,rfl,h1,h2⟩,rfl⟩
  ·
   rename_i hu;rw [hu] at hr;cases h
   obtain ⟨v,rfl⟩:∃ v,cs=[v]:=by
    rcases hr with rfl | ⟨a,len,cap,rfl,_⟩
    · exact ⟨_,rfl⟩
    · exact ⟨_,rfl⟩
   exact ⟨_,_,n,0,rfl,by omega,⟨d+1,hr0⟩,rfl⟩
  ·
   rename_i fs hu;rw [hu] at hr
   split at h
   ·
    rename_i ks' hk
    split at h
    ·
     rename_i hl
     cases h
     obtain ⟨hc,hf⟩:=hr
     have:=JiQ ih _ 0 _ _ hk (by omega) hf
     simpa using this
    · cases h
   · cases h
  ·
   rename_i k e hu;rw [hu] at hr
   split at h
   ·
    rename_i ke hk
    split at h
    ·
     rename_i hl
     cases h
     obtain ⟨hc,ns,hn,hs,hx⟩:=hr
     have key:∀ (j:Nat),j≤k→RdL P G (List.replicate j ke).flatten (cs.drop ((k-j)*P.cellsOf e)) ((ns.drop (k-j)).sum):=by
      intro j
      induction j with
      | zero =>
       intro _
       refine Ht ?_
       rw [Nat.sub_zero,hc,hl.2,hl.1]
       exact HE _
      | succ j ihj =>
       intro hj
       have h1:=ihj (by omega)
       have hlt:k-(j+1)<ns.length:=by omega
       have h2:=ih _ _ _ _ hk (hx (k-(j+1)) ns[k-(j+1)] (Hn hlt))
       have h3:=Jc0 h2 h1
       rw [show k-j=(k-(j+1))+1 by omega,Nat.succ_mul,← List.drop_drop,HR] at h3
       rw [List.replicate_succ,List.flatten_cons,Hp hlt,List.sum_cons]
       exact h3
     have:=key k (HE _)
     rw [Nat.sub_self,Nat.zero_mul,List.drop_zero,List.drop_zero] at this
     exact Jdr hs this
    · cases h
   · cases h
  · cases h
theorem Jlq {α:Type} {p:Nat→α→Prop}:∀ (n:Nat),(∀ i,i<n→∃ x,p i x)→∃ l:List α,l.length=n∧∀ i x,l[i]? = some x→p i x
 | 0,_=>⟨[],rfl,fun i x h=>by simp at h⟩
 | n+1,h=>by
  obtain ⟨l,h1,h2⟩:=Jlq n (fun i hi=>h i (by omega))
  obtain ⟨x,hx⟩:=h n (by omega)
  refine ⟨l++[x],by simp [h1],fun i y hy=>?_⟩
  rw [List.getElem?_append] at hy
  split at hy
  · exact h2 i y hy
  ·
   rename_i hi
   have:i=l.length:=by
    have:=(Hh.1 hy).1
    simp at this;omega
   subst this
   simp at hy
   subst hy
   rw [h1];exact hx
theorem Jhi {α:Type} {size:α→Nat}:∀ (l:List α) (ns:List Nat),l.length=ns.length→(∀ i x,l[i]? = some x→size x≤ns.getD i 0)→(l.map size).sum≤ns.sum
 | [],_,_,_=>by simp
 | x::l,[],h,_=>by simp at h
 | x::l,n::ns,h,hx=>by
  have h1:=hx 0 x rfl
  have h2:=Jhi l ns (by simpa using h) (fun i y hy=>by simpa using hx (i+1) y (by simpa using hy))
  simp at h1 ⊢
  omega
theorem JnT {α:Type} {E:YR α} {size:α→Nat} {t e:TypeId} {ks:List LK} {v:Value} {n:Nat} (h:RdK P G (.sl t) v n) (hu:P.underlying t=some (.slice e)) (hk:JfM P 50 e=some ks)
  (hE:∀ cs m,RdL P G ks cs m→∃ x,E.R G cs x∧size x≤m) (hpos:0<P.cellsOf e) (hz:P.cellsOf e=E.sz) (hb:P.bytesOf e=E.bytes) :
  ∃ a cap l,v=Sl a l.length cap∧RS E G a cap l∧(l.map size).sum≤n∧cap*E.bytes≤140737488351232:=by
 obtain ⟨d,h⟩:=h
 cases d with
 | zero=>cases h
 | succ d =>
  unfold Rd at h
  rw [hu] at h
  rcases h with h | ⟨a,len,cap,h,h1,h2,h3,h4,ns,h5,h6,h7⟩
  ·
   cases h
   exact ⟨none,0,[],rfl,J2 E G,by simp,by simp⟩
  ·
   cases h
   have hx:∀ i:Nat,i<len→∃ x:α,∃ es,E.R G es x∧size x≤ns.getD i 0∧∀ j v,es[j]? = some v→G a.block (a.off+i*E.sz+j)=some v:=by
    intro i hi
    obtain ⟨es,he1,he2,he3⟩:=h7 i ns[i] (Hn (by omega))
    obtain ⟨x,hx1,hx2⟩:=hE es _ (JhS 50 d e ks es _ hk he3)
    refine ⟨x,es,hx1,?_,?_⟩
    · rw [List.getD_eq_getElem?_getD,Hn (by omega)];exact hx2
    · rw [← hz];exact he2
   obtain ⟨l,hl,hx⟩:=Jlq len hx
   refine ⟨some a,cap,l,by rw [hl],⟨by omega,?_,h2,by simp,?_,?_⟩,?_,by rw [← hb];exact h3⟩
   ·
    rw [hb] at h3
    have:=Nat.mul_le_mul_right E.bytes (show l.length≤cap by omega)
    omega
   ·
    rintro _ ⟨⟩ hc0
    exact h4 hc0 hpos
   ·
    rintro _ ⟨⟩ i x hix
    obtain ⟨es,h8,_,h9⟩:=hx i x hix
    exact ⟨es,h8,h9⟩
   ·
    have:=Jhi (size:=size) l ns (by omega) (fun i x hix=>by obtain ⟨_,_,h,_⟩:=hx i x hix;exact h)
    omega
def aggT (P:Program) (t:TypeId):Bool:=match P.underlying t with
 | some (.struct _)=>true
 | some (.array _ _)=>true
 | _=>false
def RdV (P:Program) (G:J5) (t:TypeId) (v:Value) (m:Nat):Prop :=
 (aggT P t=true→∃ cs:Bv,v=.agg cs.toArray∧∀ ks,JfM P 50 t=some ks→RdL P G ks cs m)∧(aggT P t=false→∀ k,JfM P 50 t=some [k]→RdK P G k v m)
theorem RdV.agg {t:TypeId} {v:Value} {m:Nat} (h:RdV P G t v m) (ks:List LK) (ha:aggT P t=true) (hk:JfM P 50 t=some ks):∃ cs:Bv,v=.agg cs.toArray∧RdL P G ks cs m:=by
 obtain ⟨cs,h1,h2⟩:=h.1 ha
 exact ⟨cs,h1,h2 ks hk⟩
theorem RdV.one {t:TypeId} {v:Value} {m:Nat} (h:RdV P G t v m) (k:LK) (ha:aggT P t=false) (hk:JfM P 50 t=some [k]):RdK P G k v m:=h.2 ha k hk
theorem rdV_of {H:Type} {enc:TypeId×Value→H} {W:World} {base:Nat} {t:TypeId} {v:Value} {d:DataW H} {ps:List MemPlace}
  (h:DataW.Trod enc P W 0 (fun _=>true) true t v d ps) (hok:Value.okWide P W .any base t v) (hw:∀ x∈DataW.weights P t d,x≤reachBytes):RdV P (JbT W) t v (Rows.uptoBulk d):=by
 obtain ⟨fuel,h⟩:=h
 have hr:=JfL _ _ _ _ _ h hw
 have hf:=fun ks hk=>JhS 50 _ _ ks _ _ hk hr
 unfold Value.okWide at hok
 constructor
 ·
  intro ha
  unfold aggT at ha
  split at ha
  ·
   rename_i hu
   rw [hu] at hok
   obtain ⟨cs,rfl,_⟩:=hok
   exact ⟨cs.toList,by simp,hf⟩
  ·
   rename_i hu
   rw [hu] at hok
   obtain ⟨cs,rfl,_⟩:=hok
   exact ⟨cs.toList,by simp,hf⟩
  · cases ha
 ·
  intro ha k hk
  obtain ⟨u,cs',m,r,h1,h2,h3,h4⟩:=hf _ hk
  have h4:cs'=[]:=h4
  subst h4
  have hv:v=u∨∃ cs,v=.agg cs:=by
   cases v <;> simp_all [Value.cells]
  rcases hv with rfl | ⟨cs,rfl⟩
  ·
   have:m≤Rows.uptoBulk d:=by omega
   exact (Jdr (ks:=[k]) (cs:=[v]) (n:=m) this ⟨v,[],m,0,rfl,by omega,h3,rfl⟩).elim fun a ⟨b,c,e,f1,f2,f3,f4⟩=>by
    cases f1
    exact JnS (by omega) f3
  ·
   exfalso
   unfold aggT at ha
   split at ha
   · cases ha
   · cases ha
   ·
    rename_i h1 h2
    unfold Cell.okWide at hok
    split at hok
    · rename_i hu;exact h1 _ hu
    · rename_i hu;exact h2 _ _ hu
    ·
     split at hok <;> first | (rename_i hu;cases hu;done) | skip
     all_goals (unfold Cell.ok at hok;split at hok <;> simp_all)
def RdA (P:Program) (G:J5):List TypeId→Bv→Nat→Prop
 | [],vs,_=>vs=[]
 | t::ts,vs,n=>∃ v vs' m r,vs=v::vs'∧m+r≤n∧RdV P G t v m∧RdA P G ts vs' r
theorem JnU {H:Type} {enc:TypeId×Value→H} {W:World} {base:Nat}:∀ (ts:List TypeId) (vs:Bv) (ds:List (DataW H)) (ps:List MemPlace),DataW.TrodAll enc P W 0 (fun _=>true) true ts vs ds ps →
  (∀ (j:Nat) t v,ts[j]? = some t→vs[j]? = some v→Value.okWide P W .any base t v)→(∀ x∈DataW.weightsEach P ts ds,x≤reachBytes)→RdA P (JbT W) ts vs (Rows.uptoBulkAll ds)
 | [],vs,ds,ps,h,_,_=>(trodAll_nil h).1
 | t::ts,vs,ds,ps,h,hok,hw=>by
  obtain ⟨v,vs',d,ds',p,q,rfl,rfl,rfl,h1,h2⟩:=trodAll_cons h
  simp only [DataW.weightsEach,HJ] at hw
  refine ⟨v,vs',Rows.uptoBulk d,Rows.uptoBulkAll ds',rfl,by simp [Rows.uptoBulkAll],rdV_of h1 (hok 0 t v rfl rfl) (fun x hx=>hw x (.inl hx)),JnU ts vs' ds' q h2 (fun j t v h3 h4=>hok (j+1) t v (by simpa using h3) (by simpa using h4)) (fun x hx=>hw x (.inr hx))⟩
theorem all_le {l:List Nat} {N:Nat} (h:l.all (fun x=>decide (x≤N))=true):∀ x∈l,x≤N:=fun x hx=>by simpa using List.all_eq_true.1 h x hx
theorem JnV {Q:TypeId→Value→Prop} {ts:Array TypeId} {vs:Array Value} (h:∀ (j:Nat) t v,ts[j]? = some t→vs[j]? = some v→Q t v) (j:Nat) (t:TypeId) (v:Value)
  (h1:ts.toList[j]? = some t) (h2:vs.toList[j]? = some v):Q t v:=h j t v (by simpa using h1) (by simpa using h2)
theorem own:ownKnob Tryz.prog.godebug=none:=by kernel_rfl
theorem JpH:laidOutB Tryz.prog=true:=by kernel_rfl
end
abbrev YS (k:FuncId) (args:Array Value) (G:J5) (L:Bl) (p:Value→J5→Bl→Prop):Prop:=VC Tryz.prog k args G L p
abbrev QZ (k:FuncId) (args:Array Value) (G:J5) (v:Value):Prop:=VC Tryz.prog k args G [] (fun u _ _=>u=v)
theorem Jkh {α β:Type} {f:β→α→β} {z:β} {l:List α} {i:Nat} {x:α} (h:l[i]? = some x):(l.take (i+1)).foldl f z=f ((l.take i).foldl f z) x:=by
 rw [HB,h];simp
def numL (n:Int):List Int:=[Hc.wrap (n.fdiv (2 ^ 56)),Hc.wrap (n.fdiv (2 ^ 48)),Hc.wrap (n.fdiv (2 ^ 40)),Hc.wrap (n.fdiv (2 ^ 32)),Hc.wrap (n.fdiv (2 ^ 24)),Hc.wrap (n.fdiv (2 ^ 16)),Hc.wrap (n.fdiv (2 ^ 8)),Hc.wrap (n.fdiv (2 ^ 0))]
def K0 (n:Int):Bb:=(numL n).map fun x=>He x.toNat
@[simp] theorem JiR (n:Int):(K0 n).length=8:=by simp [K0,numL]
theorem WG {x:Int} (h0:0≤x) (h1:x<18446744073709551616):Ha.wrap x=x:=HL _ (by omega)
theorem JhT (x:Int):Hc.wrap x=x % 256:=by
 simp [IntKind.wrap,HS,HX]
theorem Jcq (x:Int):Ha.wrap x=x % 18446744073709551616:=by
 simp [IntKind.wrap,HS,HX]
def EErr:YR Int:=⟨1,8,fun _ cs x=>cs=[I x],fun _ h=>h,fun h=>by rw [h];rfl,fun h u hu=>by rw [h] at hu;cases HF.1 hu;rfl⟩
def QJ {α:Type} (p:α→Bool) (l:List α):Int:=match l.findIdx? p with | some i=>(i:Int) | none=>-1
theorem Vw {α:Type} {p:α→Bool} {l:List α} {i:Nat} {x:α} (h:l[i]? = some x) (hp:p x=true) (hi:(l.take i).any p=false):QJ p l=(i:Int):=by
 have:l.findIdx? p=some i:=by
  rw [HH]
  obtain ⟨h1,h2⟩:=Hh.1 h
  refine ⟨h1,by rw [h2];exact hp,fun j hj=>?_⟩
  have h3:(l.take i)[j]? = some l[j]:=by rw [List.getElem?_take,if_pos hj,Hn (by omega)]
  have:=List.any_eq_false.1 hi _ (HI h3)
  simpa using this
 simp [QJ,this]
theorem V6 {α:Type} {p:α→Bool} {l:List α} {i:Nat} {x:α} (h:l[i]? = some x) (hp:p x=false) (hi:(l.take i).any p=false):(l.take (i+1)).any p=false:=by
 rw [HB,h];simp [hi,hp]
theorem Y8 {α:Type} {p:α→Bool} {l:List α} (hi:l.any p=false):QJ p l=-1:=by
 have:l.findIdx? p=none:=by
  rw [List.findIdx?_eq_none_iff]
  intro x hx
  simpa using List.any_eq_false.1 hi x hx
 simp [QJ,this]
theorem V7 {α:Type} (p:α→Bool) (l:List α):decide (QJ p l ≥ 0)=l.any p:=by
 cases h:l.any p with
 | false=>rw [Y8 h];rfl
 | true =>
  have:(l.findIdx? p).isSome:=by rw [List.findIdx?_isSome];exact h
  obtain ⟨i,hi⟩:=Option.isSome_iff_exists.1 this
  simp [QJ,hi]
theorem Jlr {x:Int} (h:0≤x∧x<18446744073709551616):Ha.wrap ((Hb 64 x &&& Hb 64 4294967295).toNat:Int)=x % 4294967296:=by
 obtain ⟨m,rfl⟩:=Hz h.1
 have e:(4294967295:Int)=((4294967295:Nat):Int):=rfl
 rw [e,BitVec.toNat_and,Hs,Hs,Hu,Hu,Hx (by omega),Hx (by omega)]
 have e2:m &&& 4294967295=m % 4294967296:=Nat.and_two_pow_sub_one_eq_mod m 32
 rw [e2,WG (by omega) (by omega)]
 omega
theorem JnW (x:Int):x.fdiv (2 ^ 32)=x / 4294967296:=Hv _ (by decide)
theorem JhU {a b:Int} (ha:0≤a∧a<4294967296) (hb:0≤b∧b<4294967296):0≤a*b∧a*b≤18446744065119617025:=by
 refine ⟨HT ha.1 hb.1,?_⟩
 have h1:a*b≤4294967295*b:=HA (by omega) hb.1
 omega
theorem JnX {x y:Int} (hx:0≤x∧x<18446744073709551616) (hy:0≤y∧y<18446744073709551616) :
  Ha.wrap (Ha.wrap (Ha.wrap (x.fdiv (2 ^ 32)*y.fdiv (2 ^ 32)) +
   (Ha.wrap (Ha.wrap (x.fdiv (2 ^ 32)*Ha.wrap ((Hb 64 y &&& Hb 64 4294967295).toNat:Int)) +
    (Ha.wrap (Ha.wrap ((Hb 64 x &&& Hb 64 4294967295).toNat:Int)*Ha.wrap ((Hb 64 y &&& Hb 64 4294967295).toNat:Int))).fdiv (2 ^ 32))).fdiv (2 ^ 32)) +
   (Ha.wrap (Ha.wrap ((Hb 64 (Ha.wrap (Ha.wrap (x.fdiv (2 ^ 32)*Ha.wrap ((Hb 64 y &&& Hb 64 4294967295).toNat:Int)) +
    (Ha.wrap (Ha.wrap ((Hb 64 x &&& Hb 64 4294967295).toNat:Int)*Ha.wrap ((Hb 64 y &&& Hb 64 4294967295).toNat:Int))).fdiv (2 ^ 32))) &&& Hb 64 4294967295).toNat:Int) +
    Ha.wrap (Ha.wrap ((Hb 64 x &&& Hb 64 4294967295).toNat:Int)*y.fdiv (2 ^ 32)))).fdiv (2 ^ 32))=x*y / 18446744073709551616:=by
 rw [Jlr hx,Jlr hy]
 simp only [JnW]
 have hx1:0≤x / 4294967296∧x / 4294967296<4294967296:=by omega
 have hx0:0≤x % 4294967296∧x % 4294967296<4294967296:=by omega
 have hy1:0≤y / 4294967296∧y / 4294967296<4294967296:=by omega
 have hy0:0≤y % 4294967296∧y % 4294967296<4294967296:=by omega
 have ex:x=x / 4294967296*4294967296+x % 4294967296:=by omega
 have ey:y=y / 4294967296*4294967296+y % 4294967296:=by omega
 have exy:x*y=(x / 4294967296*(y / 4294967296))*18446744073709551616+(x / 4294967296*(y % 4294967296)+x % 4294967296*(y / 4294967296))*4294967296+x % 4294967296*(y % 4294967296):=by
  generalize x / 4294967296=x1 at *
  generalize x % 4294967296=x0 at *
  generalize y / 4294967296=y1 at *
  generalize y % 4294967296=y0 at *
  subst ex ey
  simp only [Int.mul_add,Int.add_mul]
  have r:∀ a b:Int,a*4294967296*(b*4294967296)=a*b*18446744073709551616:=fun a b=>by
   rw [HD a,Int.mul_comm 4294967296,HD b,← HD a];rfl
  have r1:∀ a b:Int,a*4294967296*b=a*b*4294967296:=fun a b=>by rw [HD,Int.mul_comm 4294967296,← HD]
  have r2:∀ a b:Int,a*(b*4294967296)=a*b*4294967296:=fun a b=>by rw [HD]
  rw [r,r1,r2]
  omega
 rw [exy]
 have b11:=JhU hx1 hy1
 have b10:=JhU hx1 hy0
 have b01:=JhU hx0 hy1
 have b00:=JhU hx0 hy0
 generalize x / 4294967296*(y / 4294967296)=p11 at *
 generalize x / 4294967296*(y % 4294967296)=p10 at *
 generalize x % 4294967296*(y / 4294967296)=p01 at *
 generalize x % 4294967296*(y % 4294967296)=p00 at *
 clear exy ex ey
 rw [WG (x:=p00) (by omega) (by omega),WG (x:=p10) (by omega) (by omega),WG (x:=p01) (by omega) (by omega),WG (x:=p11) (by omega) (by omega)]
 rw [WG (x:=p10+p00 / 4294967296) (by omega) (by omega),Jlr ⟨by omega,by omega⟩]
 rw [WG (x:=(p10+p00 / 4294967296) % 4294967296+p01) (by omega) (by omega)]
 rw [WG (x:=p11+(p10+p00 / 4294967296) / 4294967296) (by omega) (by omega)]
 rw [WG (by omega) (by omega)]
 omega
def WH (hi lo:Int):Int:=Ha.wrap ((Hb 64 (Ha.wrap (hi*2 ^ 3)) ||| Hb 64 (lo.fdiv (2 ^ 61))).toNat:Int)
theorem Jls {hi lo:Int} (h:0≤hi∧hi<2305843009213693951) (hl:0≤lo∧lo<18446744073709551616):WH hi lo=hi*8+lo / 2305843009213693952:=by
 obtain ⟨a,rfl⟩:=Hz h.1
 obtain ⟨b,rfl⟩:=Hz hl.1
 unfold WH
 have e1:Ha.wrap ((a:Int)*2 ^ 3)=((a*8:Nat):Int):=by rw [WG (by omega) (by omega)];omega
 have e2:(b:Int).fdiv (2 ^ 61)=((b / 2305843009213693952:Nat):Int):=by
  rw [Hv _ (by decide)];omega
 rw [e1,e2,BitVec.toNat_or,Hs,Hs,Hu,Hu,Hx (by omega),Hx (by omega)]
 have e3:a*8 ||| b / 2305843009213693952=a*8+b / 2305843009213693952:=by
  have:=Nat.shiftLeft_add_eq_or_of_lt (i:=3) (b:=b / 2305843009213693952) (by omega) a
  rw [Nat.shiftLeft_eq] at this
  exact this.symm
 rw [e3,WG (by omega) (by omega)]
 omega
structure JbA (u z q r:Int):Prop where
 u0:0≤u
 u1:u<18446744073709551608
 z0:0≤z
 z1:z<4294967296
 r0:0≤r
 r1:r<4294967296
 q0:0≤q
 e:u=q*4294967295+r
 up:u*4294967296+z<(q+1)*18446744073709551608
theorem Jec {u z:Int} (h:0≤u∧u<18446744073709551608) (hz:0≤z∧z<4294967296) :
  JbA u z (Ha.wrap (u.tdiv 4294967295)) (Ha.wrap (u-Ha.wrap (Ha.wrap (u.tdiv 4294967295)*4294967295))):=by
 have e:u.tdiv 4294967295=u / 4294967295:=HM h.1
 rw [e,WG (x:=u / 4294967295) (by omega) (by omega),WG (x:=u / 4294967295*4294967295) (by omega) (by omega),WG (by omega) (by omega)]
 exact ⟨h.1,h.2,hz.1,hz.2,by omega,by omega,by omega,by omega,by omega⟩
theorem YT {u z q r:Int} (h:JbA u z q r) (hc:q ≥ 4294967296∨Ha.wrap (q*4294967288) > Ha.wrap (Ha.wrap (4294967296*r)+z)) :
  0<q∧Ha.wrap (q-1)=q-1∧Ha.wrap (r+4294967295)=r+4294967295∧u*4294967296+z<q*18446744073709551608:=by
 obtain ⟨h1,h2,h3,h4,h5,h6,h7,h8,h9⟩:=h
 have key:u*4294967296+z<q*18446744073709551608:=by
  rcases Int.lt_or_le q 4294967296 with hq | hq
  ·
   rcases hc with hc | hc
   · omega
   ·
    rw [WG (x:=q*4294967288) (by omega) (by omega),WG (x:=4294967296*r) (by omega) (by omega),WG (by omega) (by omega)] at hc
    omega
  · omega
 have hq:0<q:=by omega
 exact ⟨hq,WG (by omega) (by omega),WG (by omega) (by omega),key⟩
theorem JfN {u z q r:Int} (h:JbA u z q r) (hc:q ≥ 4294967296∨Ha.wrap (q*4294967288) > Ha.wrap (Ha.wrap (4294967296*r)+z)) (hr:r+4294967295<4294967296) :
  JbA u z (q-1) (r+4294967295):=by
 have:=YT h hc
 obtain ⟨h1,h2,h3,h4,h5,h6,h7,h8,h9⟩:=h
 exact ⟨h1,h2,h3,h4,by omega,hr,by omega,by omega,by omega⟩
structure Dig (u z q:Int):Prop where
 q0:0≤q
 q1:q<4294967296
 lo:q*18446744073709551608≤u*4294967296+z
 up:u*4294967296+z<(q+1)*18446744073709551608
theorem JfO {u z q r:Int} (h:JbA u z q r) (hc:q<4294967296∧Ha.wrap (q*4294967288)≤Ha.wrap (Ha.wrap (4294967296*r)+z)):Dig u z q:=by
 obtain ⟨h1,h2,h3,h4,h5,h6,h7,h8,h9⟩:=h
 have hc2:=hc.2
 rw [WG (x:=q*4294967288) (by omega) (by omega),WG (x:=4294967296*r) (by omega) (by omega),WG (by omega) (by omega)] at hc2
 exact ⟨h7,hc.1,by omega,h9⟩
theorem Jed {u z q r:Int} (h:JbA u z q r) (hc:q ≥ 4294967296∨Ha.wrap (q*4294967288) > Ha.wrap (Ha.wrap (4294967296*r)+z)) (hr:r+4294967295 ≥ 4294967296):Dig u z (q-1):=by
 have:=YT h hc
 obtain ⟨h1,h2,h3,h4,h5,h6,h7,h8,h9⟩:=h
 exact ⟨by omega,by omega,by omega,by omega⟩
def Jds (lo:Int):Int:=Ha.wrap (lo*2 ^ 3)
def WT (lo:Int):Int:=(Jds lo).fdiv (2 ^ 32)
def Z3 (lo:Int):Int:=Ha.wrap ((Hb 64 (Jds lo) &&& Hb 64 4294967295).toNat:Int)
def WD (u z q:Int):Int:=Ha.wrap (Ha.wrap (Ha.wrap (u*4294967296)+z)-Ha.wrap (q*18446744073709551608))
theorem Jlt (lo:Int):Jds lo=lo*8 % 18446744073709551616:=by unfold Jds;rw [Jcq];omega
theorem Jlu (lo:Int):0≤Jds lo∧Jds lo<18446744073709551616:=by rw [Jlt];omega
theorem Jlv (lo:Int):WT lo=Jds lo / 4294967296:=JnW _
theorem Jlw (lo:Int):Z3 lo=Jds lo % 4294967296:=Jlr (Jlu lo)
theorem Jfj {u z q:Int} (h:Dig u z q) (hu:0≤u) (hz:0≤z):WD u z q=u*4294967296+z-q*18446744073709551608∧0≤WD u z q∧WD u z q<18446744073709551608:=by
 obtain ⟨h1,h2,h3,h4⟩:=h
 have:WD u z q=u*4294967296+z-q*18446744073709551608:=by
  unfold WD;simp only [Jcq];omega
 rw [this];omega
theorem Jfk {hi lo:Int} (h:0≤hi∧hi<2305843009213693951) (hl:0≤lo∧lo<18446744073709551616):0≤WH hi lo∧WH hi lo<18446744073709551608:=by
 rw [Jls h hl];omega
theorem Jfl (lo:Int):0≤WT lo∧WT lo<4294967296:=by rw [Jlv];have:=Jlu lo;omega
theorem JhV (lo:Int):0≤Z3 lo∧Z3 lo<4294967296:=by rw [Jlw];omega
theorem Jfm {hi lo q q0:Int} (h:0≤hi∧hi<2305843009213693951) (hl:0≤lo∧lo<18446744073709551616) (h1:Dig (WH hi lo) (WT lo) q) (h2:Dig (WD (WH hi lo) (WT lo) q) (Z3 lo) q0) :
  Ha.wrap (Ha.wrap (q*4294967296)+q0)=(hi*18446744073709551616+lo) / 2305843009213693951 ∧
  (WD (WD (WH hi lo) (WT lo) q) (Z3 lo) q0).fdiv (2 ^ 3)=(hi*18446744073709551616+lo) % 2305843009213693951:=by
 have e1:=Jfj h1 (Jfk h hl).1 (Jfl lo).1
 have e2:=Jfj h2 e1.2.1 (JhV lo).1
 have e3:=Jls h hl
 have e4:=Jlt lo
 have e5:=Jlv lo
 have e6:=Jlw lo
 rw [Hv _ (by decide),e2.1,e1.1,e3,e5,e6,e4]
 rw [e1.1,e3,e5,e6,e4] at e2
 rw [e5,e3,e4] at e1
 have a1:=h1.q0;have a2:=h1.q1;have b1:=h2.q0;have b2:=h2.q1
 simp only [Jcq]
 clear h1 h2 e3 e4 e5 e6
 omega
theorem Jmn {a b:Int} (ha:0≤a∧a<18446744073709551616) (hb:0≤b∧b<18446744073709551616):0≤a*b / 18446744073709551616∧a*b / 18446744073709551616<18446744073709551616:=by
 have h0:=HT ha.1 hb.1
 have h1:a*b≤18446744073709551615*b:=HA (by omega) hb.1
 omega
def WO (a b:Int):Int:=a*b % 2305843009213693951
theorem Jcr (a b:Int):0≤WO a b∧WO a b<2305843009213693951:=by unfold WO;omega
def JeK (m:Int) (b:UInt8):Int:=(WO m 1099511628211+(b.toNat:Int)+1) % 2305843009213693951
def Ji (s:Bb):Int:=s.foldl JeK 1
theorem JnY (m:Int) (b:UInt8):0≤JeK m b∧JeK m b<2305843009213693951:=by unfold JeK;omega
theorem JnZ (s:Bb):∀ m:Int,0≤m∧m<2305843009213693951→0≤s.foldl JeK m∧s.foldl JeK m<2305843009213693951:=by
 induction s with
 | nil=>intro m h;exact h
 | cons b s ih=>intro m h;exact ih _ (JnY m b)
theorem QT (s:Bb):0≤Ji s∧Ji s<2305843009213693951:=JnZ s 1 (by omega)
theorem wf_i64 {n:Int} (h:(Lit.int .i64 n).wf=true):-9223372036854775808≤n∧n<9223372036854775808:=by
 simp [Lit.wf,IntKind.min,IntKind.max,HS,HX] at h;omega
abbrev JcH (k:FuncId) (args:Array Value) (G:J5) (L:Bl) (p:Value→J5→Bl→Prop):Prop:=JfI Tryz.prog k args G L p
structure Kc where
 name:Bb
 value:Bb
deriving DecidableEq
structure ZD where
 name:Bb
 value:Bb
 n:Int
 tag:Int
deriving DecidableEq
structure JX where
 epoch:Int
 root:Int
 prev:Int
 at_:Int
deriving DecidableEq
structure We where
 least:Int
 most:Int
 lost:Int
 gap:Int
 next:Int
 asked:Int
deriving DecidableEq
structure Yj where
 kind:Int
 who:Int
 n:Int
 at_:Int
deriving DecidableEq
structure Q4 where
 name:Bb
 entries:List Kc
 sides:List Int
deriving DecidableEq
structure Q5 where
 head:JX
 proof:Q4
deriving DecidableEq
structure Q3 where
 most:Int
 wait:List ZD
deriving DecidableEq
structure KT where
 queue:Q3
 batch:Int
 every:Int
 now:Int
 heads:List JX
 books:List (List Kc)
deriving DecidableEq
structure Qp where
 name:Bb
 key:Int
 head:JX
 wanted:Bs
 had:Int
deriving DecidableEq
structure JU where
 to_:Int
 from_:Int
 since:Int
 due:Int
 heads:List JX
 reply:Q5
deriving DecidableEq
structure Ve where
 now:Int
 way:List JU
deriving DecidableEq
structure Kx where
 names:Bs
 keys:List Int
 most:Int
 batch:Int
 every:Int
 least:Int
 top:Int
 lost:Int
 reach:Int
deriving DecidableEq
structure K6 where
 kind:Int
 who:Int
 value:Bb
 fates:List Int
 letter:JU
deriving DecidableEq
structure Wl where
 clerk:KT
 owners:List Qp
 polls:List We
 net:Ve
deriving DecidableEq
def EI:YR Int:=⟨1,8,fun G cs x=>cs=[I x]∧(-9223372036854775808≤x∧x<9223372036854775808),fun hle h=>by obtain ⟨rfl,h0⟩:=h;exact ⟨rfl,h0⟩,fun h=>by obtain ⟨rfl,h0⟩:=h;rfl,fun h=>by obtain ⟨rfl,h0⟩:=h;exact ZX rfl⟩
def EU:YR Int:=⟨1,8,fun G cs x=>cs=[U x]∧(0≤x∧x<18446744073709551616),fun hle h=>by obtain ⟨rfl,h0⟩:=h;exact ⟨rfl,h0⟩,fun h=>by obtain ⟨rfl,h0⟩:=h;rfl,fun h=>by obtain ⟨rfl,h0⟩:=h;exact ZX rfl⟩
def ES:YR (Bb):=⟨1,16,fun G cs x=>cs=[Sr x]∧((x).length≤140737488351232),fun hle h=>by obtain ⟨rfl,h0⟩:=h;exact ⟨rfl,h0⟩,fun h=>by obtain ⟨rfl,h0⟩:=h;rfl,fun h=>by obtain ⟨rfl,h0⟩:=h;exact ZX rfl⟩
def QK:YR Kc:=⟨2,32,fun G cs x=>cs=[Sr x.name,Sr x.value]∧((x.name).length≤140737488351232)∧((x.value).length≤140737488351232),fun hle h=>by obtain ⟨rfl,h0,h1⟩:=h;exact ⟨rfl,h0,h1⟩,fun h=>by obtain ⟨rfl,h0,h1⟩:=h;rfl,fun h=>by obtain ⟨rfl,h0,h1⟩:=h;exact ZX rfl⟩
def Q6:YR ZD:=⟨4,48,fun G cs x=>cs=[Sr x.name,Sr x.value,U x.n,U x.tag]∧((x.name).length≤140737488351232)∧((x.value).length≤140737488351232)∧(0≤x.n∧x.n<18446744073709551616)∧(0≤x.tag∧x.tag<18446744073709551616),fun hle h=>by obtain ⟨rfl,h0,h1,h2,h3⟩:=h;exact ⟨rfl,h0,h1,h2,h3⟩,fun h=>by obtain ⟨rfl,h0,h1,h2,h3⟩:=h;rfl,fun h=>by obtain ⟨rfl,h0,h1,h2,h3⟩:=h;exact ZX rfl⟩
def KO:YR JX:=⟨4,32,fun G cs x=>cs=[I x.epoch,U x.root,U x.prev,I x.at_]∧(-9223372036854775808≤x.epoch∧x.epoch<9223372036854775808)∧(0≤x.root∧x.root<18446744073709551616)∧(0≤x.prev∧x.prev<18446744073709551616)∧(-9223372036854775808≤x.at_∧x.at_<9223372036854775808),fun hle h=>by obtain ⟨rfl,h0,h1,h2,h3⟩:=h;exact ⟨rfl,h0,h1,h2,h3⟩,fun h=>by obtain ⟨rfl,h0,h1,h2,h3⟩:=h;rfl,fun h=>by obtain ⟨rfl,h0,h1,h2,h3⟩:=h;exact ZX rfl⟩
def WK:YR We:=⟨6,48,fun G cs x=>cs=[I x.least,I x.most,I x.lost,I x.gap,I x.next,I x.asked]∧(-9223372036854775808≤x.least∧x.least<9223372036854775808)∧(-9223372036854775808≤x.most∧x.most<9223372036854775808)∧(-9223372036854775808≤x.lost∧x.lost<9223372036854775808)∧(-9223372036854775808≤x.gap∧x.gap<9223372036854775808)∧(-9223372036854775808≤x.next∧x.next<9223372036854775808)∧(-9223372036854775808≤x.asked∧x.asked<9223372036854775808),fun hle h=>by obtain ⟨rfl,h0,h1,h2,h3,h4,h5⟩:=h;exact ⟨rfl,h0,h1,h2,h3,h4,h5⟩,fun h=>by obtain ⟨rfl,h0,h1,h2,h3,h4,h5⟩:=h;rfl,fun h=>by obtain ⟨rfl,h0,h1,h2,h3,h4,h5⟩:=h;exact ZX rfl⟩
def Wn:YR Yj:=⟨4,32,fun G cs x=>cs=[I x.kind,I x.who,I x.n,I x.at_]∧(-9223372036854775808≤x.kind∧x.kind<9223372036854775808)∧(-9223372036854775808≤x.who∧x.who<9223372036854775808)∧(-9223372036854775808≤x.n∧x.n<9223372036854775808)∧(-9223372036854775808≤x.at_∧x.at_<9223372036854775808),fun hle h=>by obtain ⟨rfl,h0,h1,h2,h3⟩:=h;exact ⟨rfl,h0,h1,h2,h3⟩,fun h=>by obtain ⟨rfl,h0,h1,h2,h3⟩:=h;rfl,fun h=>by obtain ⟨rfl,h0,h1,h2,h3⟩:=h;exact ZX rfl⟩
def JfP:YR Q4:=⟨3,64,fun G cs x=>∃ a0 c0 a1 c1,cs=[Sr x.name,Sl a0 x.entries.length c0,Sl a1 x.sides.length c1]∧((x.name).length≤140737488351232)∧(RS QK G a0 c0 x.entries)∧(RS EU G a1 c1 x.sides),fun hle h=>by obtain ⟨a0,c0,a1,c1,rfl,h0,h1,h2⟩:=h;exact ⟨a0,c0,a1,c1,rfl,h0,h1.mono hle,h2.mono hle⟩,fun h=>by obtain ⟨a0,c0,a1,c1,rfl,h0,h1,h2⟩:=h;rfl,fun h=>by obtain ⟨a0,c0,a1,c1,rfl,h0,h1,h2⟩:=h;exact ZX rfl⟩
def Jki:YR Q5:=⟨7,96,fun G cs x=>∃ a0 c0 a1 c1,cs=[I x.head.epoch,U x.head.root,U x.head.prev,I x.head.at_,Sr x.proof.name,Sl a0 x.proof.entries.length c0,Sl a1 x.proof.sides.length c1]∧(-9223372036854775808≤x.head.epoch∧x.head.epoch<9223372036854775808)∧(0≤x.head.root∧x.head.root<18446744073709551616)∧(0≤x.head.prev∧x.head.prev<18446744073709551616)∧(-9223372036854775808≤x.head.at_∧x.head.at_<9223372036854775808)∧((x.proof.name).length≤140737488351232)∧(RS QK G a0 c0 x.proof.entries)∧(RS EU G a1 c1 x.proof.sides),fun hle h=>by obtain ⟨a0,c0,a1,c1,rfl,h0,h1,h2,h3,h4,h5,h6⟩:=h;exact ⟨a0,c0,a1,c1,rfl,h0,h1,h2,h3,h4,h5.mono hle,h6.mono hle⟩,fun h=>by obtain ⟨a0,c0,a1,c1,rfl,h0,h1,h2,h3,h4,h5,h6⟩:=h;rfl,fun h=>by obtain ⟨a0,c0,a1,c1,rfl,h0,h1,h2,h3,h4,h5,h6⟩:=h;exact ZX rfl⟩
def Jkj:YR Q3:=⟨2,32,fun G cs x=>∃ a0 c0,cs=[I x.most,Sl a0 x.wait.length c0]∧(-9223372036854775808≤x.most∧x.most<9223372036854775808)∧(RS Q6 G a0 c0 x.wait),fun hle h=>by obtain ⟨a0,c0,rfl,h0,h1⟩:=h;exact ⟨a0,c0,rfl,h0,h1.mono hle⟩,fun h=>by obtain ⟨a0,c0,rfl,h0,h1⟩:=h;rfl,fun h=>by obtain ⟨a0,c0,rfl,h0,h1⟩:=h;exact ZX rfl⟩
def QA:YR (List Kc):=⟨1,24,fun G cs x=>∃ a0 c0,cs=[Sl a0 x.length c0]∧(RS QK G a0 c0 x),fun hle h=>by obtain ⟨a0,c0,rfl,h0⟩:=h;exact ⟨a0,c0,rfl,h0.mono hle⟩,fun h=>by obtain ⟨a0,c0,rfl,h0⟩:=h;rfl,fun h=>by obtain ⟨a0,c0,rfl,h0⟩:=h;exact ZX rfl⟩
def JaH:YR KT:=⟨7,104,fun G cs x=>∃ a0 c0 a1 c1 a2 c2,cs=[I x.queue.most,Sl a0 x.queue.wait.length c0,I x.batch,I x.every,I x.now,Sl a1 x.heads.length c1,Sl a2 x.books.length c2]∧(-9223372036854775808≤x.queue.most∧x.queue.most<9223372036854775808)∧(RS Q6 G a0 c0 x.queue.wait)∧(-9223372036854775808≤x.batch∧x.batch<9223372036854775808)∧(-9223372036854775808≤x.every∧x.every<9223372036854775808)∧(-9223372036854775808≤x.now∧x.now<9223372036854775808)∧(RS KO G a1 c1 x.heads)∧(RS QA G a2 c2 x.books),fun hle h=>by obtain ⟨a0,c0,a1,c1,a2,c2,rfl,h0,h1,h2,h3,h4,h5,h6⟩:=h;exact ⟨a0,c0,a1,c1,a2,c2,rfl,h0,h1.mono hle,h2,h3,h4,h5.mono hle,h6.mono hle⟩,fun h=>by obtain ⟨a0,c0,a1,c1,a2,c2,rfl,h0,h1,h2,h3,h4,h5,h6⟩:=h;rfl,fun h=>by obtain ⟨a0,c0,a1,c1,a2,c2,rfl,h0,h1,h2,h3,h4,h5,h6⟩:=h;exact ZX rfl⟩
def Q9:YR Qp:=⟨8,88,fun G cs x=>∃ a0 c0,cs=[Sr x.name,U x.key,I x.head.epoch,U x.head.root,U x.head.prev,I x.head.at_,Sl a0 x.wanted.length c0,I x.had]∧((x.name).length≤140737488351232)∧(0≤x.key∧x.key<18446744073709551616)∧(-9223372036854775808≤x.head.epoch∧x.head.epoch<9223372036854775808)∧(0≤x.head.root∧x.head.root<18446744073709551616)∧(0≤x.head.prev∧x.head.prev<18446744073709551616)∧(-9223372036854775808≤x.head.at_∧x.head.at_<9223372036854775808)∧(RS ES G a0 c0 x.wanted)∧(-9223372036854775808≤x.had∧x.had<9223372036854775808),fun hle h=>by obtain ⟨a0,c0,rfl,h0,h1,h2,h3,h4,h5,h6,h7⟩:=h;exact ⟨a0,c0,rfl,h0,h1,h2,h3,h4,h5,h6.mono hle,h7⟩,fun h=>by obtain ⟨a0,c0,rfl,h0,h1,h2,h3,h4,h5,h6,h7⟩:=h;rfl,fun h=>by obtain ⟨a0,c0,rfl,h0,h1,h2,h3,h4,h5,h6,h7⟩:=h;exact ZX rfl⟩
def Kn:YR JU:=⟨12,152,fun G cs x=>∃ a0 c0 a1 c1 a2 c2,cs=[I x.to_,I x.from_,I x.since,I x.due,Sl a0 x.heads.length c0,I x.reply.head.epoch,U x.reply.head.root,U x.reply.head.prev,I x.reply.head.at_,Sr x.reply.proof.name,Sl a1 x.reply.proof.entries.length c1,Sl a2 x.reply.proof.sides.length c2]∧(-9223372036854775808≤x.to_∧x.to_<9223372036854775808)∧(-9223372036854775808≤x.from_∧x.from_<9223372036854775808)∧(-9223372036854775808≤x.since∧x.since<9223372036854775808)∧(-9223372036854775808≤x.due∧x.due<9223372036854775808)∧(RS KO G a0 c0 x.heads)∧(-9223372036854775808≤x.reply.head.epoch∧x.reply.head.epoch<9223372036854775808)∧(0≤x.reply.head.root∧x.reply.head.root<18446744073709551616)∧(0≤x.reply.head.prev∧x.reply.head.prev<18446744073709551616)∧(-9223372036854775808≤x.reply.head.at_∧x.reply.head.at_<9223372036854775808)∧((x.reply.proof.name).length≤140737488351232)∧(RS QK G a1 c1 x.reply.proof.entries)∧(RS EU G a2 c2 x.reply.proof.sides),fun hle h=>by obtain ⟨a0,c0,a1,c1,a2,c2,rfl,h0,h1,h2,h3,h4,h5,h6,h7,h8,h9,h10,h11⟩:=h;exact ⟨a0,c0,a1,c1,a2,c2,rfl,h0,h1,h2,h3,h4.mono hle,h5,h6,h7,h8,h9,h10.mono hle,h11.mono hle⟩,fun h=>by obtain ⟨a0,c0,a1,c1,a2,c2,rfl,h0,h1,h2,h3,h4,h5,h6,h7,h8,h9,h10,h11⟩:=h;rfl,fun h=>by obtain ⟨a0,c0,a1,c1,a2,c2,rfl,h0,h1,h2,h3,h4,h5,h6,h7,h8,h9,h10,h11⟩:=h;exact ZX rfl⟩
def ENet:YR Ve:=⟨2,32,fun G cs x=>∃ a0 c0,cs=[I x.now,Sl a0 x.way.length c0]∧(-9223372036854775808≤x.now∧x.now<9223372036854775808)∧(RS Kn G a0 c0 x.way),fun hle h=>by obtain ⟨a0,c0,rfl,h0,h1⟩:=h;exact ⟨a0,c0,rfl,h0,h1.mono hle⟩,fun h=>by obtain ⟨a0,c0,rfl,h0,h1⟩:=h;rfl,fun h=>by obtain ⟨a0,c0,rfl,h0,h1⟩:=h;exact ZX rfl⟩
def Jkk:YR Kx:=⟨9,104,fun G cs x=>∃ a0 c0 a1 c1,cs=[Sl a0 x.names.length c0,Sl a1 x.keys.length c1,I x.most,I x.batch,I x.every,I x.least,I x.top,I x.lost,I x.reach]∧(RS ES G a0 c0 x.names)∧(RS EU G a1 c1 x.keys)∧(-9223372036854775808≤x.most∧x.most<9223372036854775808)∧(-9223372036854775808≤x.batch∧x.batch<9223372036854775808)∧(-9223372036854775808≤x.every∧x.every<9223372036854775808)∧(-9223372036854775808≤x.least∧x.least<9223372036854775808)∧(-9223372036854775808≤x.top∧x.top<9223372036854775808)∧(-9223372036854775808≤x.lost∧x.lost<9223372036854775808)∧(-9223372036854775808≤x.reach∧x.reach<9223372036854775808),fun hle h=>by obtain ⟨a0,c0,a1,c1,rfl,h0,h1,h2,h3,h4,h5,h6,h7,h8⟩:=h;exact ⟨a0,c0,a1,c1,rfl,h0.mono hle,h1.mono hle,h2,h3,h4,h5,h6,h7,h8⟩,fun h=>by obtain ⟨a0,c0,a1,c1,rfl,h0,h1,h2,h3,h4,h5,h6,h7,h8⟩:=h;rfl,fun h=>by obtain ⟨a0,c0,a1,c1,rfl,h0,h1,h2,h3,h4,h5,h6,h7,h8⟩:=h;exact ZX rfl⟩
def Wh:YR K6:=⟨16,208,fun G cs x=>∃ a0 c0 a1 c1 a2 c2 a3 c3,cs=[I x.kind,I x.who,Sr x.value,Sl a0 x.fates.length c0,I x.letter.to_,I x.letter.from_,I x.letter.since,I x.letter.due,Sl a1 x.letter.heads.length c1,I x.letter.reply.head.epoch,U x.letter.reply.head.root,U x.letter.reply.head.prev,I x.letter.reply.head.at_,Sr x.letter.reply.proof.name,Sl a2 x.letter.reply.proof.entries.length c2,Sl a3 x.letter.reply.proof.sides.length c3]∧(-9223372036854775808≤x.kind∧x.kind<9223372036854775808)∧(-9223372036854775808≤x.who∧x.who<9223372036854775808)∧((x.value).length≤140737488351232)∧(RS EI G a0 c0 x.fates)∧(-9223372036854775808≤x.letter.to_∧x.letter.to_<9223372036854775808)∧(-9223372036854775808≤x.letter.from_∧x.letter.from_<9223372036854775808)∧(-9223372036854775808≤x.letter.since∧x.letter.since<9223372036854775808)∧(-9223372036854775808≤x.letter.due∧x.letter.due<9223372036854775808)∧(RS KO G a1 c1 x.letter.heads)∧(-9223372036854775808≤x.letter.reply.head.epoch∧x.letter.reply.head.epoch<9223372036854775808)∧(0≤x.letter.reply.head.root∧x.letter.reply.head.root<18446744073709551616)∧(0≤x.letter.reply.head.prev∧x.letter.reply.head.prev<18446744073709551616)∧(-9223372036854775808≤x.letter.reply.head.at_∧x.letter.reply.head.at_<9223372036854775808)∧((x.letter.reply.proof.name).length≤140737488351232)∧(RS QK G a2 c2 x.letter.reply.proof.entries)∧(RS EU G a3 c3 x.letter.reply.proof.sides),fun hle h=>by obtain ⟨a0,c0,a1,c1,a2,c2,a3,c3,rfl,h0,h1,h2,h3,h4,h5,h6,h7,h8,h9,h10,h11,h12,h13,h14,h15⟩:=h;exact ⟨a0,c0,a1,c1,a2,c2,a3,c3,rfl,h0,h1,h2,h3.mono hle,h4,h5,h6,h7,h8.mono hle,h9,h10,h11,h12,h13,h14.mono hle,h15.mono hle⟩,fun h=>by obtain ⟨a0,c0,a1,c1,a2,c2,a3,c3,rfl,h0,h1,h2,h3,h4,h5,h6,h7,h8,h9,h10,h11,h12,h13,h14,h15⟩:=h;rfl,fun h=>by obtain ⟨a0,c0,a1,c1,a2,c2,a3,c3,rfl,h0,h1,h2,h3,h4,h5,h6,h7,h8,h9,h10,h11,h12,h13,h14,h15⟩:=h;exact ZX rfl⟩
def Jfn:YR (List JX):=⟨1,24,fun G cs x=>∃ a0 c0,cs=[Sl a0 x.length c0]∧(RS KO G a0 c0 x),fun hle h=>by obtain ⟨a0,c0,rfl,h0⟩:=h;exact ⟨a0,c0,rfl,h0.mono hle⟩,fun h=>by obtain ⟨a0,c0,rfl,h0⟩:=h;rfl,fun h=>by obtain ⟨a0,c0,rfl,h0⟩:=h;exact ZX rfl⟩
def VG:YR (List Int):=⟨1,24,fun G cs x=>∃ a0 c0,cs=[Sl a0 x.length c0]∧(RS EI G a0 c0 x),fun hle h=>by obtain ⟨a0,c0,rfl,h0⟩:=h;exact ⟨a0,c0,rfl,h0.mono hle⟩,fun h=>by obtain ⟨a0,c0,rfl,h0⟩:=h;rfl,fun h=>by obtain ⟨a0,c0,rfl,h0⟩:=h;exact ZX rfl⟩
abbrev JiS (x:ZD):Bv:=[Sr x.name,Sr x.value,U x.n,U x.tag]
abbrev Jkl (x:ZD):Value:=.agg #[Sr x.name,Sr x.value,U x.n,U x.tag]
abbrev KW (x:KT) (a0:Ba) (c0:Nat) (a1:Ba) (c1:Nat) (a2:Ba) (c2:Nat):Bv:=[I x.queue.most,Sl a0 x.queue.wait.length c0,I x.batch,I x.every,I x.now,Sl a1 x.heads.length c1,Sl a2 x.books.length c2]
abbrev QG (x:KT) (a0:Ba) (c0:Nat) (a1:Ba) (c1:Nat) (a2:Ba) (c2:Nat):Value:=.agg #[I x.queue.most,Sl a0 x.queue.wait.length c0,I x.batch,I x.every,I x.now,Sl a1 x.heads.length c1,Sl a2 x.books.length c2]
abbrev W7 (x:K6) (a0:Ba) (c0:Nat) (a1:Ba) (c1:Nat) (a2:Ba) (c2:Nat) (a3:Ba) (c3:Nat):Bv:=[I x.kind,I x.who,Sr x.value,Sl a0 x.fates.length c0,I x.letter.to_,I x.letter.from_,I x.letter.since,I x.letter.due,Sl a1 x.letter.heads.length c1,I x.letter.reply.head.epoch,U x.letter.reply.head.root,U x.letter.reply.head.prev,I x.letter.reply.head.at_,Sr x.letter.reply.proof.name,Sl a2 x.letter.reply.proof.entries.length c2,Sl a3 x.letter.reply.proof.sides.length c3]
abbrev JfQ (x:K6) (a0:Ba) (c0:Nat) (a1:Ba) (c1:Nat) (a2:Ba) (c2:Nat) (a3:Ba) (c3:Nat):Value:=.agg #[I x.kind,I x.who,Sr x.value,Sl a0 x.fates.length c0,I x.letter.to_,I x.letter.from_,I x.letter.since,I x.letter.due,Sl a1 x.letter.heads.length c1,I x.letter.reply.head.epoch,U x.letter.reply.head.root,U x.letter.reply.head.prev,I x.letter.reply.head.at_,Sr x.letter.reply.proof.name,Sl a2 x.letter.reply.proof.entries.length c2,Sl a3 x.letter.reply.proof.sides.length c3]
abbrev Jdt (x:JX):Bv:=[I x.epoch,U x.root,U x.prev,I x.at_]
abbrev VS (x:JX):Value:=.agg #[I x.epoch,U x.root,U x.prev,I x.at_]
abbrev Ky (x:JU) (a0:Ba) (c0:Nat) (a1:Ba) (c1:Nat) (a2:Ba) (c2:Nat):Bv:=[I x.to_,I x.from_,I x.since,I x.due,Sl a0 x.heads.length c0,I x.reply.head.epoch,U x.reply.head.root,U x.reply.head.prev,I x.reply.head.at_,Sr x.reply.proof.name,Sl a1 x.reply.proof.entries.length c1,Sl a2 x.reply.proof.sides.length c2]
abbrev Q1 (x:JU) (a0:Ba) (c0:Nat) (a1:Ba) (c1:Nat) (a2:Ba) (c2:Nat):Value:=.agg #[I x.to_,I x.from_,I x.since,I x.due,Sl a0 x.heads.length c0,I x.reply.head.epoch,U x.reply.head.root,U x.reply.head.prev,I x.reply.head.at_,Sr x.reply.proof.name,Sl a1 x.reply.proof.entries.length c1,Sl a2 x.reply.proof.sides.length c2]
abbrev KU (x:Qp) (a0:Ba) (c0:Nat):Bv:=[Sr x.name,U x.key,I x.head.epoch,U x.head.root,U x.head.prev,I x.head.at_,Sl a0 x.wanted.length c0,I x.had]
abbrev KF (x:Qp) (a0:Ba) (c0:Nat):Value:=.agg #[Sr x.name,U x.key,I x.head.epoch,U x.head.root,U x.head.prev,I x.head.at_,Sl a0 x.wanted.length c0,I x.had]
abbrev Vd (x:We):Bv:=[I x.least,I x.most,I x.lost,I x.gap,I x.next,I x.asked]
abbrev Vh (x:We):Value:=.agg #[I x.least,I x.most,I x.lost,I x.gap,I x.next,I x.asked]
abbrev VW (x:Q4) (a0:Ba) (c0:Nat) (a1:Ba) (c1:Nat):Bv:=[Sr x.name,Sl a0 x.entries.length c0,Sl a1 x.sides.length c1]
abbrev Jag (x:Q4) (a0:Ba) (c0:Nat) (a1:Ba) (c1:Nat):Value:=.agg #[Sr x.name,Sl a0 x.entries.length c0,Sl a1 x.sides.length c1]
abbrev ZR (x:Q5) (a0:Ba) (c0:Nat) (a1:Ba) (c1:Nat):Bv:=[I x.head.epoch,U x.head.root,U x.head.prev,I x.head.at_,Sr x.proof.name,Sl a0 x.proof.entries.length c0,Sl a1 x.proof.sides.length c1]
abbrev WV (x:Q5) (a0:Ba) (c0:Nat) (a1:Ba) (c1:Nat):Value:=.agg #[I x.head.epoch,U x.head.root,U x.head.prev,I x.head.at_,Sr x.proof.name,Sl a0 x.proof.entries.length c0,Sl a1 x.proof.sides.length c1]
abbrev WI (x:Kx) (a0:Ba) (c0:Nat) (a1:Ba) (c1:Nat):Bv:=[Sl a0 x.names.length c0,Sl a1 x.keys.length c1,I x.most,I x.batch,I x.every,I x.least,I x.top,I x.lost,I x.reach]
abbrev YK (x:Kx) (a0:Ba) (c0:Nat) (a1:Ba) (c1:Nat):Value:=.agg #[Sl a0 x.names.length c0,Sl a1 x.keys.length c1,I x.most,I x.batch,I x.every,I x.least,I x.top,I x.lost,I x.reach]
abbrev ZU (x:Wl) (a0:Ba) (c0:Nat) (a1:Ba) (c1:Nat) (a2:Ba) (c2:Nat) (a3:Ba) (c3:Nat) (a4:Ba) (c4:Nat) (a5:Ba) (c5:Nat):Bv:=[I x.clerk.queue.most,Sl a0 x.clerk.queue.wait.length c0,I x.clerk.batch,I x.clerk.every,I x.clerk.now,Sl a1 x.clerk.heads.length c1,Sl a2 x.clerk.books.length c2,Sl a3 x.owners.length c3,Sl a4 x.polls.length c4,I x.net.now,Sl a5 x.net.way.length c5]
abbrev VT (x:Wl) (a0:Ba) (c0:Nat) (a1:Ba) (c1:Nat) (a2:Ba) (c2:Nat) (a3:Ba) (c3:Nat) (a4:Ba) (c4:Nat) (a5:Ba) (c5:Nat):Value:=.agg #[I x.clerk.queue.most,Sl a0 x.clerk.queue.wait.length c0,I x.clerk.batch,I x.clerk.every,I x.clerk.now,Sl a1 x.clerk.heads.length c1,Sl a2 x.clerk.books.length c2,Sl a3 x.owners.length c3,Sl a4 x.polls.length c4,I x.net.now,Sl a5 x.net.way.length c5]
open Go.Proofs Go.Shelf
theorem JfR (w:World) (k:Nat) (os:Array Obj):Below w.heap.size w (Sort.grow (w.drewN k) os):=by
 refine ⟨rfl,rfl,rfl,by simp [Sort.grow,World.drewN],fun b hb=>?_⟩
 simp [Sort.grow,World.drewN,Array.getElem?_append,hb]
theorem Jn0 {P:Program} {ρ:Ren} (L:LaysM.n171 P ρ) (G:J5) (n:Int) (h:-9223372036854775808≤n∧n<9223372036854775808):V4 P (ρ.f 171) #[I n] G [] (fun u _ L'=>u=Sr (Lib.itoa n)∧L'=[]) (fun _ _ _=>False) :=
 Ja7 fun w hT _=>(Any.strconv_Itoa L n h.1 (by omega) w hT.1).mono fun e w' ⟨he,k,os,hw⟩=>⟨_,he,rfl,hw ▸ JfR w k os⟩
def Jbn (s:Bb):Option Int:=match Lib.atoiAll s with | .ok v=>some v | _=>none
theorem Jhj {s:Bb} {v:Int} (h:Jbn s=some v):-9223372036854775808≤v∧v<9223372036854775808:=by
 unfold Jbn at h
 split at h
 ·
  rename_i u hu
  cases h
  have:=Lib.atoiAll_bounds hu
  omega
 · cases h
theorem Jn1 {P : Program} {ρ : Ren} (L : LaysC.n172 P ρ) (g1 : P.globalNamed "strconv.ErrSyntax" = some (ρ.g 15)) (g2 : P.globalNamed "strconv.ErrRange" = some (ρ.g 16)) (G : J5) (s : Bb) (hs : s.length ≤ 140737488355328) :
  V4 P (ρ.f 172) #[Sr s] G [] (fun u _ L'=>((∃ v,Jbn s=some v∧u=.tuple #[I v,.nilIface])∨(Jbn s=none∧∃ v N,u=.tuple #[I v,.iface (ρ.t 168) (Pt N 0)]))∧L'=[]) (fun _ _ _=>False) :=
 Ja7 fun w hT _=>by
  have hd:(B s).data.toList=s:=by simp [B]
  have hz:(B s).size=s.length:=by rw [Lib.size_eq,hd]
  obtain ⟨_,⟨q1,e1,k1,c1,d1⟩,⟨q2,e2,k2,c2,d2⟩⟩:=hT
  obtain rfl:q1=ρ.g 15:=HQ.inj (k1.symm.trans g1)
  obtain rfl:q2=ρ.g 16:=HQ.inj (k2.symm.trans g2)
  cases ha:Lib.atoiAll s
  ·
   rename_i v
   refine (Any.strconv_Atoi_ok L (B s) (by omega) v (by rw [hd];exact ha) w).mono ?_
   rintro e w' ⟨rfl,hw⟩
   refine ⟨_,rfl,.inl ⟨v,by unfold Jbn;rw [ha],rfl⟩,?_⟩
   rcases hw with rfl | ⟨t,rfl⟩
   · exact Below.refl _ _
   · exact Lib.bytesWorld_below _ _ _
  ·
   refine (Any.strconv_Atoi_syntax L (B s) (by omega) (by rw [hd];exact ha) e1 w c1 d1).mono ?_
   rintro e w' ⟨N,rfl,_,_,hb⟩
   exact ⟨_,rfl,.inr ⟨by unfold Jbn;rw [ha],_,N,rfl⟩,hb⟩
  ·
   refine (Any.strconv_Atoi_range L (B s) (by omega) (by rw [hd];exact ha) e2 w c2 d2).mono ?_
   rintro e w' ⟨N,rfl,_,_,hb⟩
   exact ⟨_,rfl,.inr ⟨by unfold Jbn;rw [ha],_,N,rfl⟩,hb⟩
def JJ (s:Bb):Bs:=Lib.split s [32]
theorem Jee (s:Bb):(B s).data.toList=s:=by simp [B]
theorem JhJ (s:Bb):(B s).size=s.length:=by rw [Lib.size_eq,Jee]
theorem Jb1 (s:Bb):(Lib.splitB ⟨#[32]⟩ 0 (Lib.countB (B s) ⟨#[32]⟩) (B s)).map (·.data.toList)=JJ s:=by
 rw [Lib.splitB_data,Jee]
 show Lib.splitK _ 0 (Lib.count (B s).data.toList _) s=_
 rw [Jee];rfl
theorem Jhk (sep:Bb) (n:Nat):∀ (k:Nat) (s:Bb),s.length≤n→∀ x∈Lib.splitK sep 0 k s,x.length≤n
 | 0,s,h,x,hx=>by unfold Lib.splitK at hx;rw [HF.1 hx];exact h
 | k+1,s,h,x,hx=>by
  unfold Lib.splitK at hx
  split at hx
  · rw [HF.1 hx];exact h
  ·
   rcases HV.1 hx with rfl | hx
   · rw [List.length_take];omega
   · exact Jhk sep n k _ (by rw [List.length_drop];omega) x hx
theorem JfS {s x:Bb} (h:x∈JJ s):x.length≤s.length:=Jhk _ _ _ _ (HE _) x h
theorem Vp (s:Bb):0<(JJ s).length:=by
 rw [← Jb1,Hw]
 have:=Lib.splitB_all ⟨#[32]⟩ (by decide) 0 _ (B s) rfl
 omega
theorem flat1 {α β:Type} (f:α→β):∀ l:List α,(l.map fun x=>[f x]).flatten=l.map f
 | []=>rfl
 | x::l=>by simp only [List.map_cons,List.flatten_cons,flat1 f l];rfl
theorem JiT (G:J5):∀ l:List ByteArray,(∀ x∈l,x.data.toList.length≤140737488351232)→JgE ES G (l.map fun x=>[Value.string x]) (l.map (·.data.toList))
 | [],_=>trivial
 | x::l,h=>⟨⟨by show [Value.string x]=[Value.string (B x.data.toList)];simp [B],h x (List.mem_cons_self ..)⟩,JiT G l fun y hy=>h y (List.mem_cons_of_mem _ hy)⟩
theorem Jkm {P:Program} {ρ:Ren} (L:Lays.n221 P ρ) (L1:Lays.n138 P ρ) (L2:Lays.n143 P ρ) (hi9:(P.info? (ρ.t 9)).map (fun i=>(i.zero,i.size,i.bytes))=some (some (.string ByteArray.empty),1,16)) (G:J5) (s:Bb) (hs:s.length<4294967281) :
  VC P (ρ.f 221) #[Sr s,Sr [32],I 0,I (-1)] G [] (fun u G' L'=>∃ b r,u=Sl (At b 0) (JJ s).length (JJ s).length∧JR ES G' (At b 0) (JJ s).length (JJ s) r∧L'=[r]):=fun w0 G0 w hw=>by
 have hz:=JhJ s
 have hlen:=Lib.splitB_all ⟨#[32]⟩ (by decide) 0 _ (B s) rfl
 have hle:=Lib.countB_le ⟨#[32]⟩ (by decide) (B s).size (B s) (HE _)
 have hc:=Any.strings_Count_one L1 (B s) 32 w
 rw [show Lib.countByte (B s).data.toList 32=Lib.countB (B s) ⟨#[32]⟩ from (Lib.count_one 32 (B s).data.toList).symm] at hc
 refine (Any.strings_genSplit_core L hi9 (B s) ⟨#[32]⟩ 0 (-1) (Lib.countB (B s) ⟨#[32]⟩+1) w (by omega) (by decide) (Ho _) (fun x c _=>by
  have:=Any.strings_Index_one L2 x 32 (w.alloc (.cells c (ρ.t 9)))
  rw [← Lib.index_one] at this
  exact this) hc (by decide) (by decide) (by rw [if_pos (by decide)];omega)).mono ?_
 rintro e w' ⟨rfl,rfl⟩
 rw [Nat.add_sub_cancel,hlen]
 have e2:Lib.cellsOf (Lib.splitB ⟨#[32]⟩ 0 (Lib.countB (B s) ⟨#[32]⟩) (B s)) (Lib.countB (B s) ⟨#[32]⟩+1)=((Lib.splitB ⟨#[32]⟩ 0 (Lib.countB (B s) ⟨#[32]⟩) (B s)).map Value.string).toArray:=by rw [← hlen];exact Lib.cellsOf_full _
 rw [e2]
 have hl:(JJ s).length=Lib.countB (B s) ⟨#[32]⟩+1:=by rw [← Jb1,Hw];exact hlen
 have hw2:=hw.alloc ((Lib.splitB ⟨#[32]⟩ 0 (Lib.countB (B s) ⟨#[32]⟩) (B s)).map Value.string).toArray (ρ.t 9)
 have hr:JR ES G (At w.heap.size 0) (JJ s).length (JJ s) [Sg w.heap.size 0 ((Lib.splitB ⟨#[32]⟩ 0 (Lib.countB (B s) ⟨#[32]⟩) (B s)).map Value.string)]:=by
  have:=JR.of_lit (E:=ES) (G:=G) (b:=w.heap.size) _ _ (JiT G (Lib.splitB ⟨#[32]⟩ 0 (Lib.countB (B s) ⟨#[32]⟩) (B s)) (fun x hx=>by
   have:x.data.toList∈JJ s:=by rw [← Jb1];exact HW.2 ⟨x,hx,rfl⟩
   have:=JfS this;omega)) (by rw [Hw,hlen];omega)
  rw [Jb1] at this
  rwa [show ((Lib.splitB ⟨#[32]⟩ 0 (Lib.countB (B s) ⟨#[32]⟩) (B s)).map fun x=>[Value.string x]).flatten=(Lib.splitB ⟨#[32]⟩ 0 (Lib.countB (B s) ⟨#[32]⟩) (B s)).map Value.string from flat1 _ _] at this
 exact ⟨_,G,[[Sg w.heap.size 0 ((Lib.splitB ⟨#[32]⟩ 0 (Lib.countB (B s) ⟨#[32]⟩) (B s)).map Value.string)]],rfl,by simpa using hw2,Jh _,w.heap.size,_,by rw [hl],hr,rfl⟩
theorem Jn2 {P:Program} {ρ:Ren} (L:Lays.n156 P ρ) (X:Builder.Extra P ρ) (G:J5) (b o c:Nat) (l:Bs) (sep:Bb) (hr:RS ES G (At b o) c l) (hne:l ≠ []) (hn:l.length≤140737488355328) (hj:(Lib.join l sep).length≤140737488355328) :
  VC P (ρ.f 156) #[Sl (At b o) l.length c,Sr sep] G [] (fun u _ _=>u=Sr (Lib.join l sep)):=JhQ fun w hG=>by
 have hm:(l.map B).map (·.data.toList)=l:=by rw [List.map_map];exact (List.map_congr_left fun x _=>Jee x).trans (List.map_id _)
 have hget:∀ (j:Nat) x,(l.map B)[j]? = some x→w.cell? ⟨b,o+j,none⟩=some (.string x):=fun j x hx=>by
  rw [HO] at hx
  obtain ⟨y,hy,rfl⟩:=Hq.1 hx
  obtain ⟨cs,⟨rfl,_⟩,h2⟩:=hr.elem _ rfl j y hy
  have:=hG _ _ _ (h2 0 _ rfl)
  simpa [ES] using this
 have hb:b<w.heap.size:=by
  cases l with
  | nil=>exact (hne rfl).elim
  | cons x l=>exact WE (hget 0 _ rfl)
 have:=Any.strings_Join L X b o c (l.map B) (B sep) w hget hb (by rw [Hw];exact hn) (by rw [Hw];exact hr.le) (by rw [hm,Jee];exact hj)
 rw [hm,Jee,Hw] at this
 exact this
open Go.Lib Go.Sort
def Je9:Go.Shelf.Ren:=⟨fun x=>if Hd x 129 then 223 else if Hd x 138 then 132 else if Hd x 143 then 133 else if Hd x 156 then 50 else if Hd x 165 then 90 else if Hd x 166 then 91 else if Hd x 169 then 92 else if Hd x 171 then 46 else if Hd x 172 then 192 else if Hd x 195 then 188 else if Hd x 197 then 189 else if Hd x 205 then 267 else if Hd x 217 then 228 else if Hd x 218 then 190 else if Hd x 219 then 191 else if Hd x 221 then 77 else if Hd x 224 then 230 else if Hd x 225 then 229 else if Hd x 240 then 144 else if Hd x 241 then 145 else if Hd x 243 then 76 else if Hd x 244 then 232 else if Hd x 245 then 233 else if Hd x 246 then 130 else if Hd x 247 then 255 else if Hd x 260 then 227 else if Hd x 266 then 253 else if Hd x 267 then 231 else if Hd x 268 then 131 else if Hd x 276 then 197 else if Hd x 277 then 198 else if Hd x 279 then 256 else if Hd x 280 then 257 else if Hd x 281 then 258 else if Hd x 282 then 259 else if Hd x 283 then 184 else if Hd x 284 then 185 else if Hd x 285 then 186 else if Hd x 286 then 187 else if Hd x 287 then 265 else if Hd x 314 then 254 else if Hd x 316 then 266 else if Hd x 317 then 222 else if Hd x 318 then 224 else if Hd x 319 then 225 else if Hd x 320 then 226 else if Hd x 321 then 271 else if Hd x 322 then 272 else if Hd x 337 then 251 else if Hd x 338 then 252 else x,fun x=>if Hd x 31 then 22 else if Hd x 37 then 35 else if Hd x 46 then 98 else if Hd x 51 then 132 else if Hd x 53 then 41 else if Hd x 70 then 163 else if Hd x 72 then 165 else if Hd x 75 then 168 else if Hd x 76 then 169 else if Hd x 80 then 171 else if Hd x 85 then 336 else if Hd x 105 then 273 else if Hd x 119 then 330 else if Hd x 127 then 227 else if Hd x 138 then 332 else if Hd x 139 then 333 else if Hd x 143 then 352 else if Hd x 145 then 354 else if Hd x 146 then 133 else if Hd x 164 then 280 else if Hd x 167 then 335 else if Hd x 168 then 338 else if Hd x 171 then 268 else if Hd x 173 then 271 else if Hd x 175 then 344 else if Hd x 210 then 347 else if Hd x 212 then 310 else if Hd x 213 then 311 else if Hd x 232 then 342 else if Hd x 233 then 343 else x,fun x=>if Hd x 1 then 3 else if Hd x 3 then 4 else if Hd x 4 then 5 else if Hd x 15 then 8 else if Hd x 16 then 9 else if Hd x 17 then 2 else if Hd x 18 then 6 else if Hd x 19 then 7 else x⟩
theorem Jfo:LaysM.n171 Tryz.prog Je9:={
 mixed:=rfl,
 f129:=Tryz.func223.trans (by kernel_rfl),
 f171:=Tryz.func46.trans (by kernel_rfl),
 f243:=Tryz.func76.trans (by kernel_rfl),
 f246:=Tryz.func130.trans (by kernel_rfl),
 f283:=Tryz.func184.trans (by kernel_rfl),
 f284:=Tryz.func185.trans (by kernel_rfl),
 f285:=Tryz.func186.trans (by kernel_rfl),
 f286:=Tryz.func187.trans (by kernel_rfl),
 f317:=Tryz.func222.trans (by kernel_rfl),
 f318:=Tryz.func224.trans (by kernel_rfl),
 f319:=Tryz.func225.trans (by kernel_rfl),
 f320:=Tryz.func226.trans (by kernel_rfl),
 f337:=Tryz.func251.trans (by kernel_rfl),
 f338:=Tryz.func252.trans (by kernel_rfl),
 t0:=by kernel_rfl,
 a0:=fun _=>by kernel_rfl,
 z0:=fun _=>by kernel_rfl,
 v0:=fun _=>by kernel_rfl,
 t2:=by kernel_rfl,
 a2:=fun _=>by kernel_rfl,
 z2:=fun _=>by kernel_rfl,
 v2:=fun _=>by kernel_rfl,
 t3:=by kernel_rfl,
 a3:=fun _=>by kernel_rfl,
 z3:=fun _=>by kernel_rfl,
 v3:=fun _=>by kernel_rfl,
 t4:=by kernel_rfl,
 a4:=fun _=>by kernel_rfl,
 z4:=fun _=>by kernel_rfl,
 v4:=fun _=>by kernel_rfl,
 t5:=by kernel_rfl,
 a5:=fun _=>by kernel_rfl,
 z5:=fun _=>by kernel_rfl,
 v5:=fun _=>by kernel_rfl,
 t9:=by kernel_rfl,
 a9:=fun _=>by kernel_rfl,
 z9:=fun _=>by kernel_rfl,
 v9:=fun _=>by kernel_rfl,
 t20:=by kernel_rfl,
 a20:=fun _=>by kernel_rfl,
 z20:=fun _=>by kernel_rfl,
 v20:=fun _=>by kernel_rfl,
 t37:=by kernel_rfl,
 a37:=fun _=>by kernel_rfl,
 z37:=fun _=>by kernel_rfl,
 v37:=fun _=>by kernel_rfl,
 t46:=by kernel_rfl,
 a46:=fun _=>by kernel_rfl,
 z46:=fun _=>by kernel_rfl,
 v46:=fun _=>by kernel_rfl,
 t51:=by kernel_rfl,
 a51:=fun _=>by kernel_rfl,
 z51:=fun _=>by kernel_rfl,
 v51:=fun _=>by kernel_rfl,
 t53:=by kernel_rfl,
 a53:=fun _=>by kernel_rfl,
 z53:=fun _=>by kernel_rfl,
 v53:=fun _=>by kernel_rfl,
 t171:=by kernel_rfl,
 a171:=fun _=>by kernel_rfl,
 z171:=fun _=>by kernel_rfl,
 v171:=fun _=>by kernel_rfl,
 t173:=by kernel_rfl,
 a173:=fun _=>by kernel_rfl,
 z173:=fun _=>by kernel_rfl,
 v173:=fun _=>by kernel_rfl,
 t212:=by kernel_rfl,
 a212:=fun _=>by kernel_rfl,
 z212:=fun _=>by kernel_rfl,
 v212:=fun _=>by kernel_rfl,
 t213:=by kernel_rfl,
 a213:=fun _=>by kernel_rfl,
 z213:=fun _=>by kernel_rfl,
 t232:=by kernel_rfl,
 a232:=fun _=>by kernel_rfl,
 z232:=fun _=>by kernel_rfl,
 v232:=fun _=>by kernel_rfl,
 t233:=by kernel_rfl,
 a233:=fun _=>by kernel_rfl,
 z233:=fun _=>by kernel_rfl,
 v233:=fun _=>by kernel_rfl,
 g17:=by kernel_rfl,
 g18:=by kernel_rfl,
 g19:=by kernel_rfl,
 i0:=by kernel_rfl,
 i2:=by kernel_rfl,
 i3:=by kernel_rfl,
 i4:=by kernel_rfl,
 i5:=by kernel_rfl,
 i9:=by kernel_rfl,
 i20:=by kernel_rfl,
 i37:=by kernel_rfl,
 i46:=by kernel_rfl,
 i51:=by kernel_rfl,
 i53:=by kernel_rfl,
 i171:=by kernel_rfl,
 i173:=by kernel_rfl,
 i212:=by kernel_rfl,
 i232:=by kernel_rfl,
 i233:=by kernel_rfl,
 m17:=by kernel_rfl,
 m18:=by kernel_rfl,
 m19:=by kernel_rfl }
theorem JpI:LaysC.n172 Tryz.prog Je9:={
 mixed:=rfl,
 f129:=Tryz.func223.trans (by kernel_rfl),
 f171:=Tryz.func46.trans (by kernel_rfl),
 f172:=Tryz.func192.trans (by kernel_rfl),
 f205:=Tryz.func267.trans (by kernel_rfl),
 f243:=Tryz.func76.trans (by kernel_rfl),
 f244:=Tryz.func232.trans (by kernel_rfl),
 f245:=Tryz.func233.trans (by kernel_rfl),
 f246:=Tryz.func130.trans (by kernel_rfl),
 f247:=Tryz.func255.trans (by kernel_rfl),
 f279:=Tryz.func256.trans (by kernel_rfl),
 f280:=Tryz.func257.trans (by kernel_rfl),
 f281:=Tryz.func258.trans (by kernel_rfl),
 f282:=Tryz.func259.trans (by kernel_rfl),
 f283:=Tryz.func184.trans (by kernel_rfl),
 f284:=Tryz.func185.trans (by kernel_rfl),
 f285:=Tryz.func186.trans (by kernel_rfl),
 f286:=Tryz.func187.trans (by kernel_rfl),
 f287:=Tryz.func265.trans (by kernel_rfl),
 f316:=Tryz.func266.trans (by kernel_rfl),
 f317:=Tryz.func222.trans (by kernel_rfl),
 f318:=Tryz.func224.trans (by kernel_rfl),
 f319:=Tryz.func225.trans (by kernel_rfl),
 f320:=Tryz.func226.trans (by kernel_rfl),
 f321:=Tryz.func271.trans (by kernel_rfl),
 f322:=Tryz.func272.trans (by kernel_rfl),
 f337:=Tryz.func251.trans (by kernel_rfl),
 f338:=Tryz.func252.trans (by kernel_rfl),
 t0:=by kernel_rfl,
 a0:=fun _=>by kernel_rfl,
 z0:=fun _=>by kernel_rfl,
 v0:=fun _=>by kernel_rfl,
 t2:=by kernel_rfl,
 a2:=fun _=>by kernel_rfl,
 z2:=fun _=>by kernel_rfl,
 v2:=fun _=>by kernel_rfl,
 t3:=by kernel_rfl,
 a3:=fun _=>by kernel_rfl,
 z3:=fun _=>by kernel_rfl,
 v3:=fun _=>by kernel_rfl,
 t4:=by kernel_rfl,
 a4:=fun _=>by kernel_rfl,
 z4:=fun _=>by kernel_rfl,
 v4:=fun _=>by kernel_rfl,
 t5:=by kernel_rfl,
 a5:=fun _=>by kernel_rfl,
 z5:=fun _=>by kernel_rfl,
 v5:=fun _=>by kernel_rfl,
 t9:=by kernel_rfl,
 a9:=fun _=>by kernel_rfl,
 z9:=fun _=>by kernel_rfl,
 v9:=fun _=>by kernel_rfl,
 t20:=by kernel_rfl,
 a20:=fun _=>by kernel_rfl,
 z20:=fun _=>by kernel_rfl,
 v20:=fun _=>by kernel_rfl,
 t21:=by kernel_rfl,
 a21:=fun _=>by kernel_rfl,
 z21:=fun _=>by kernel_rfl,
 v21:=fun _=>by kernel_rfl,
 t37:=by kernel_rfl,
 a37:=fun _=>by kernel_rfl,
 z37:=fun _=>by kernel_rfl,
 v37:=fun _=>by kernel_rfl,
 t46:=by kernel_rfl,
 a46:=fun _=>by kernel_rfl,
 z46:=fun _=>by kernel_rfl,
 v46:=fun _=>by kernel_rfl,
 t51:=by kernel_rfl,
 a51:=fun _=>by kernel_rfl,
 z51:=fun _=>by kernel_rfl,
 v51:=fun _=>by kernel_rfl,
 t53:=by kernel_rfl,
 a53:=fun _=>by kernel_rfl,
 z53:=fun _=>by kernel_rfl,
 v53:=fun _=>by kernel_rfl,
 t75:=by kernel_rfl,
 a75:=fun _=>by kernel_rfl,
 z75:=fun _=>by kernel_rfl,
 v75:=fun _=>by kernel_rfl,
 t76:=by kernel_rfl,
 a76:=fun _=>by kernel_rfl,
 z76:=fun _=>by kernel_rfl,
 v76:=fun _=>by kernel_rfl,
 t85:=by kernel_rfl,
 a85:=fun _=>by kernel_rfl,
 z85:=fun _=>by kernel_rfl,
 v85:=fun _=>by kernel_rfl,
 t127:=by kernel_rfl,
 a127:=fun _=>by kernel_rfl,
 z127:=fun _=>by kernel_rfl,
 v127:=fun _=>by kernel_rfl,
 t143:=by kernel_rfl,
 a143:=fun _=>by kernel_rfl,
 z143:=fun _=>by kernel_rfl,
 v143:=fun _=>by kernel_rfl,
 t145:=by kernel_rfl,
 a145:=fun _=>by kernel_rfl,
 z145:=fun _=>by kernel_rfl,
 v145:=fun _=>by kernel_rfl,
 t167:=by kernel_rfl,
 a167:=fun _=>by kernel_rfl,
 z167:=fun _=>by kernel_rfl,
 v167:=fun _=>by kernel_rfl,
 t168:=by kernel_rfl,
 a168:=fun _=>by kernel_rfl,
 z168:=fun _=>by kernel_rfl,
 v168:=fun _=>by kernel_rfl,
 t171:=by kernel_rfl,
 a171:=fun _=>by kernel_rfl,
 z171:=fun _=>by kernel_rfl,
 v171:=fun _=>by kernel_rfl,
 t173:=by kernel_rfl,
 a173:=fun _=>by kernel_rfl,
 z173:=fun _=>by kernel_rfl,
 v173:=fun _=>by kernel_rfl,
 t175:=by kernel_rfl,
 a175:=fun _=>by kernel_rfl,
 z175:=fun _=>by kernel_rfl,
 v175:=fun _=>by kernel_rfl,
 t210:=by kernel_rfl,
 a210:=fun _=>by kernel_rfl,
 z210:=fun _=>by kernel_rfl,
 v210:=fun _=>by kernel_rfl,
 t212:=by kernel_rfl,
 a212:=fun _=>by kernel_rfl,
 z212:=fun _=>by kernel_rfl,
 v212:=fun _=>by kernel_rfl,
 t213:=by kernel_rfl,
 a213:=fun _=>by kernel_rfl,
 z213:=fun _=>by kernel_rfl,
 t232:=by kernel_rfl,
 a232:=fun _=>by kernel_rfl,
 z232:=fun _=>by kernel_rfl,
 v232:=fun _=>by kernel_rfl,
 t233:=by kernel_rfl,
 a233:=fun _=>by kernel_rfl,
 z233:=fun _=>by kernel_rfl,
 v233:=fun _=>by kernel_rfl,
 g15:=by kernel_rfl,
 g16:=by kernel_rfl,
 g17:=by kernel_rfl,
 g18:=by kernel_rfl,
 g19:=by kernel_rfl,
 t80:=by kernel_rfl,
 a80:=fun _=>by kernel_rfl,
 z80:=fun _=>by kernel_rfl,
 v80:=fun _=>by kernel_rfl,
 i0:=by kernel_rfl,
 i2:=by kernel_rfl,
 i3:=by kernel_rfl,
 i4:=by kernel_rfl,
 i5:=by kernel_rfl,
 i9:=by kernel_rfl,
 i20:=by kernel_rfl,
 i21:=by kernel_rfl,
 i37:=by kernel_rfl,
 i46:=by kernel_rfl,
 i51:=by kernel_rfl,
 i53:=by kernel_rfl,
 i75:=by kernel_rfl,
 i76:=by kernel_rfl,
 i80:=by kernel_rfl,
 i85:=by kernel_rfl,
 i127:=by kernel_rfl,
 i143:=by kernel_rfl,
 i145:=by kernel_rfl,
 i167:=by kernel_rfl,
 i168:=by kernel_rfl,
 i171:=by kernel_rfl,
 i173:=by kernel_rfl,
 i175:=by kernel_rfl,
 i210:=by kernel_rfl,
 i212:=by kernel_rfl,
 i232:=by kernel_rfl,
 i233:=by kernel_rfl,
 m15:=by kernel_rfl,
 m16:=by kernel_rfl,
 m17:=by kernel_rfl,
 m18:=by kernel_rfl,
 m19:=by kernel_rfl,
 c0:=by kernel_rfl,
 c2:=by kernel_rfl,
 c3:=by kernel_rfl,
 c4:=by kernel_rfl,
 c5:=by kernel_rfl,
 c9:=by kernel_rfl,
 c20:=by kernel_rfl,
 c21:=by kernel_rfl,
 c37:=by kernel_rfl,
 c46:=by kernel_rfl,
 c51:=by kernel_rfl,
 c53:=by kernel_rfl,
 c75:=by kernel_rfl,
 c76:=by kernel_rfl,
 c80:=by kernel_rfl,
 c85:=by kernel_rfl,
 c127:=by kernel_rfl,
 c143:=by kernel_rfl,
 c145:=by kernel_rfl,
 c167:=by kernel_rfl,
 c168:=by kernel_rfl,
 c171:=by kernel_rfl,
 c173:=by kernel_rfl,
 c175:=by kernel_rfl,
 c210:=by kernel_rfl,
 c212:=by kernel_rfl,
 c213:=by kernel_rfl,
 c232:=by kernel_rfl,
 c233:=by kernel_rfl }
theorem JpJ:Lays.n221 Tryz.prog Je9:={
 mixed:=rfl,
 f138:=Tryz.func132.trans (by kernel_rfl),
 f143:=Tryz.func133.trans (by kernel_rfl),
 f195:=Tryz.func188.trans (by kernel_rfl),
 f197:=Tryz.func189.trans (by kernel_rfl),
 f217:=Tryz.func228.trans (by kernel_rfl),
 f218:=Tryz.func190.trans (by kernel_rfl),
 f219:=Tryz.func191.trans (by kernel_rfl),
 f221:=Tryz.func77.trans (by kernel_rfl),
 f224:=Tryz.func230.trans (by kernel_rfl),
 f225:=Tryz.func229.trans (by kernel_rfl),
 f260:=Tryz.func227.trans (by kernel_rfl),
 f266:=Tryz.func253.trans (by kernel_rfl),
 f267:=Tryz.func231.trans (by kernel_rfl),
 f268:=Tryz.func131.trans (by kernel_rfl),
 f314:=Tryz.func254.trans (by kernel_rfl),
 t0:=by kernel_rfl,
 a0:=fun _=>by kernel_rfl,
 z0:=fun _=>by kernel_rfl,
 v0:=fun _=>by kernel_rfl,
 t3:=by kernel_rfl,
 a3:=fun _=>by kernel_rfl,
 z3:=fun _=>by kernel_rfl,
 v3:=fun _=>by kernel_rfl,
 t4:=by kernel_rfl,
 a4:=fun _=>by kernel_rfl,
 z4:=fun _=>by kernel_rfl,
 v4:=fun _=>by kernel_rfl,
 t5:=by kernel_rfl,
 a5:=fun _=>by kernel_rfl,
 z5:=fun _=>by kernel_rfl,
 v5:=fun _=>by kernel_rfl,
 t9:=by kernel_rfl,
 a9:=fun _=>by kernel_rfl,
 z9:=fun _=>by kernel_rfl,
 v9:=fun _=>by kernel_rfl,
 t21:=by kernel_rfl,
 a21:=fun _=>by kernel_rfl,
 z21:=fun _=>by kernel_rfl,
 v21:=fun _=>by kernel_rfl,
 t31:=by kernel_rfl,
 a31:=fun _=>by kernel_rfl,
 z31:=fun _=>by kernel_rfl,
 v31:=fun _=>by kernel_rfl,
 t46:=by kernel_rfl,
 a46:=fun _=>by kernel_rfl,
 z46:=fun _=>by kernel_rfl,
 v46:=fun _=>by kernel_rfl,
 t51:=by kernel_rfl,
 a51:=fun _=>by kernel_rfl,
 z51:=fun _=>by kernel_rfl,
 v51:=fun _=>by kernel_rfl,
 t105:=by kernel_rfl,
 a105:=fun _=>by kernel_rfl,
 z105:=fun _=>by kernel_rfl,
 v105:=fun _=>by kernel_rfl,
 t119:=by kernel_rfl,
 a119:=fun _=>by kernel_rfl,
 z119:=fun _=>by kernel_rfl,
 t138:=by kernel_rfl,
 a138:=fun _=>by kernel_rfl,
 z138:=fun _=>by kernel_rfl,
 v138:=fun _=>by kernel_rfl,
 t139:=by kernel_rfl,
 a139:=fun _=>by kernel_rfl,
 z139:=fun _=>by kernel_rfl,
 v139:=fun _=>by kernel_rfl,
 t146:=by kernel_rfl,
 a146:=fun _=>by kernel_rfl,
 z146:=fun _=>by kernel_rfl,
 v146:=fun _=>by kernel_rfl,
 g1:=by kernel_rfl,
 g3:=by kernel_rfl,
 g4:=by kernel_rfl }
theorem JpK:Lays.n138 Tryz.prog Je9:={
 mixed:=rfl,
 f138:=Tryz.func132.trans (by kernel_rfl),
 f143:=Tryz.func133.trans (by kernel_rfl),
 f195:=Tryz.func188.trans (by kernel_rfl),
 f217:=Tryz.func228.trans (by kernel_rfl),
 f218:=Tryz.func190.trans (by kernel_rfl),
 f219:=Tryz.func191.trans (by kernel_rfl),
 f224:=Tryz.func230.trans (by kernel_rfl),
 f225:=Tryz.func229.trans (by kernel_rfl),
 f266:=Tryz.func253.trans (by kernel_rfl),
 f267:=Tryz.func231.trans (by kernel_rfl),
 f314:=Tryz.func254.trans (by kernel_rfl),
 t0:=by kernel_rfl,
 a0:=fun _=>by kernel_rfl,
 z0:=fun _=>by kernel_rfl,
 v0:=fun _=>by kernel_rfl,
 t3:=by kernel_rfl,
 a3:=fun _=>by kernel_rfl,
 z3:=fun _=>by kernel_rfl,
 v3:=fun _=>by kernel_rfl,
 t4:=by kernel_rfl,
 a4:=fun _=>by kernel_rfl,
 z4:=fun _=>by kernel_rfl,
 v4:=fun _=>by kernel_rfl,
 t5:=by kernel_rfl,
 a5:=fun _=>by kernel_rfl,
 z5:=fun _=>by kernel_rfl,
 v5:=fun _=>by kernel_rfl,
 t9:=by kernel_rfl,
 a9:=fun _=>by kernel_rfl,
 z9:=fun _=>by kernel_rfl,
 v9:=fun _=>by kernel_rfl,
 t46:=by kernel_rfl,
 a46:=fun _=>by kernel_rfl,
 z46:=fun _=>by kernel_rfl,
 v46:=fun _=>by kernel_rfl,
 t51:=by kernel_rfl,
 a51:=fun _=>by kernel_rfl,
 z51:=fun _=>by kernel_rfl,
 v51:=fun _=>by kernel_rfl,
 t146:=by kernel_rfl,
 a146:=fun _=>by kernel_rfl,
 z146:=fun _=>by kernel_rfl,
 v146:=fun _=>by kernel_rfl,
 g1:=by kernel_rfl }
theorem JpL:Lays.n143 Tryz.prog Je9:={
 mixed:=rfl,
 f143:=Tryz.func133.trans (by kernel_rfl),
 f217:=Tryz.func228.trans (by kernel_rfl),
 f219:=Tryz.func191.trans (by kernel_rfl),
 f224:=Tryz.func230.trans (by kernel_rfl),
 f225:=Tryz.func229.trans (by kernel_rfl),
 f266:=Tryz.func253.trans (by kernel_rfl),
 f267:=Tryz.func231.trans (by kernel_rfl),
 f314:=Tryz.func254.trans (by kernel_rfl),
 t3:=by kernel_rfl,
 a3:=fun _=>by kernel_rfl,
 z3:=fun _=>by kernel_rfl,
 v3:=fun _=>by kernel_rfl,
 t4:=by kernel_rfl,
 a4:=fun _=>by kernel_rfl,
 z4:=fun _=>by kernel_rfl,
 v4:=fun _=>by kernel_rfl,
 t5:=by kernel_rfl,
 a5:=fun _=>by kernel_rfl,
 z5:=fun _=>by kernel_rfl,
 v5:=fun _=>by kernel_rfl,
 t9:=by kernel_rfl,
 a9:=fun _=>by kernel_rfl,
 z9:=fun _=>by kernel_rfl,
 v9:=fun _=>by kernel_rfl,
 t46:=by kernel_rfl,
 a46:=fun _=>by kernel_rfl,
 z46:=fun _=>by kernel_rfl,
 v46:=fun _=>by kernel_rfl,
 t51:=by kernel_rfl,
 a51:=fun _=>by kernel_rfl,
 z51:=fun _=>by kernel_rfl,
 v51:=fun _=>by kernel_rfl,
 t146:=by kernel_rfl,
 a146:=fun _=>by kernel_rfl,
 z146:=fun _=>by kernel_rfl,
 v146:=fun _=>by kernel_rfl,
 g1:=by kernel_rfl }
theorem JpM:Lays.n156 Tryz.prog Je9:={
 mixed:=rfl,
 f156:=Tryz.func50.trans (by kernel_rfl),
 f165:=Tryz.func90.trans (by kernel_rfl),
 f166:=Tryz.func91.trans (by kernel_rfl),
 f169:=Tryz.func92.trans (by kernel_rfl),
 f240:=Tryz.func144.trans (by kernel_rfl),
 f241:=Tryz.func145.trans (by kernel_rfl),
 f276:=Tryz.func197.trans (by kernel_rfl),
 f277:=Tryz.func198.trans (by kernel_rfl),
 t0:=by kernel_rfl,
 a0:=fun _=>by kernel_rfl,
 z0:=fun _=>by kernel_rfl,
 v0:=fun _=>by kernel_rfl,
 t3:=by kernel_rfl,
 a3:=fun _=>by kernel_rfl,
 z3:=fun _=>by kernel_rfl,
 v3:=fun _=>by kernel_rfl,
 t4:=by kernel_rfl,
 a4:=fun _=>by kernel_rfl,
 z4:=fun _=>by kernel_rfl,
 v4:=fun _=>by kernel_rfl,
 t9:=by kernel_rfl,
 a9:=fun _=>by kernel_rfl,
 z9:=fun _=>by kernel_rfl,
 v9:=fun _=>by kernel_rfl,
 t20:=by kernel_rfl,
 a20:=fun _=>by kernel_rfl,
 z20:=fun _=>by kernel_rfl,
 v20:=fun _=>by kernel_rfl,
 t31:=by kernel_rfl,
 a31:=fun _=>by kernel_rfl,
 z31:=fun _=>by kernel_rfl,
 v31:=fun _=>by kernel_rfl,
 t37:=by kernel_rfl,
 a37:=fun _=>by kernel_rfl,
 z37:=fun _=>by kernel_rfl,
 v37:=fun _=>by kernel_rfl,
 t70:=by kernel_rfl,
 a70:=fun _=>by kernel_rfl,
 z70:=fun _=>by kernel_rfl,
 v70:=fun _=>by kernel_rfl,
 t72:=by kernel_rfl,
 a72:=fun _=>by kernel_rfl,
 z72:=fun _=>by kernel_rfl,
 v72:=fun _=>by kernel_rfl,
 t75:=by kernel_rfl,
 a75:=fun _=>by kernel_rfl,
 z75:=fun _=>by kernel_rfl,
 v75:=fun _=>by kernel_rfl,
 t76:=by kernel_rfl,
 a76:=fun _=>by kernel_rfl,
 z76:=fun _=>by kernel_rfl,
 v76:=fun _=>by kernel_rfl,
 t127:=by kernel_rfl,
 a127:=fun _=>by kernel_rfl,
 z127:=fun _=>by kernel_rfl,
 v127:=fun _=>by kernel_rfl,
 t164:=by kernel_rfl,
 a164:=fun _=>by kernel_rfl,
 z164:=fun _=>by kernel_rfl,
 v164:=fun _=>by kernel_rfl }
theorem extraB:Builder.Extra Tryz.prog Je9:={ sizeBuilder:=by kernel_rfl,liesBuilder:=by kernel_rfl,t5:=by kernel_rfl,a5:=fun _=>by kernel_rfl,z5:=fun _=>by kernel_rfl,v5:=fun _=>by kernel_rfl,infoByte:=by kernel_rfl,cellsByte:=by kernel_rfl,sizeByte:=by kernel_rfl,neB5:=by decide }
theorem JfT (G:J5) (n:Int) (h:-9223372036854775808≤n∧n<9223372036854775808):V4 Tryz.prog 46 #[I n] G [] (fun u _ _=>u=Sr (Lib.itoa n)) (fun _ _ _=>False):=(Jn0 Jfo G n h).mono (fun _ _ _ h=>h.1) (fun _ _ _ h=>h)
theorem Jn3 (G:J5) (s:Bb) (hs:s.length≤140737488355328):V4 Tryz.prog 192 #[Sr s] G [] (fun u _ L'=>((∃ v,Jbn s=some v∧u=.tuple #[I v,.nilIface])∨(Jbn s=none∧∃ v N,u=.tuple #[I v,.iface (Je9.t 168) (Pt N 0)]))∧L'=[]) (fun _ _ _=>False):=Jn1 JpI (by kernel_rfl) (by kernel_rfl) G s hs
theorem Jkn (G:J5) (s:Bb) (hs:s.length<4294967281):VC Tryz.prog 77 #[Sr s,Sr [32],I 0,I (-1)] G [] (fun u G' L'=>∃ b r,u=Sl (At b 0) (JJ s).length (JJ s).length∧JR ES G' (At b 0) (JJ s).length (JJ s) r∧L'=[r]):=Jkm JpJ JpK JpL (by kernel_rfl) G s hs
theorem Jdu (G:J5) (b o c:Nat) (l:Bs) (sep:Bb) (hr:RS ES G (At b o) c l) (hne:l ≠ []) (hn:l.length≤140737488355328) (hj:(Lib.join l sep).length≤140737488355328) :
  VC Tryz.prog 50 #[Sl (At b o) l.length c,Sr sep] G [] (fun u _ _=>u=Sr (Lib.join l sep)):=Jn2 JpM extraB G b o c l sep hr hne hn hj
theorem Jmo (G:J5) (s:Bb) (hs:s.length<4294967281):YS 47 #[Sr s,Sr ([32])] G [] (fun u G' L'=>∃ (a1:Ba) (c2:Nat) (r3:Bg),u=Sl a1 ((JJ s).length) c2∧(JR ES G' a1 c2 (JJ s) r3)∧L'=[r3]):=by
 refine JP Tryz.func47 8 [(0,Sr s),(1,Sr ([32]))] rfl (fun w0 G0=>?_)
 refine Jg [0] [] (Jf (Jd (Jb [0,0] [(5,Sr s),(6,Sr ([32]))] (JN 7 (Jkn G s J4) (fun v G1 L1 hl1 hp=>?_)))))
 obtain ⟨b1,r1,rfl,hr1,rfl⟩:=hp
 refine Jb [0] [(4,Sl (At b1 0) ((JJ s).length) ((JJ s).length))] (Je (Jc (Jn (Jk 0 ?_))))
 have hf1:JJ s=(JJ s):=by
  rfl
 refine Jo [0] [Sl (At b1 0) ((JJ s).length) ((JJ s).length)] (JD [r1] hl1 ?_)
 rw [hf1]
 try dsimp only
 exact ⟨(At b1 0),((JJ s).length),r1,rfl,hr1,rfl⟩
set_option maxHeartbeats 4000000 in
set_option maxRecDepth 100000 in
theorem fmtU (u : Nat) (hu : u < 18446744073709551616) (w : World) (htab : Lib.TabIs Tryz.prog w "internal/strconv.uint64pow10" .u64 Lib.pow10Tab) :
  Calls Tryz.prog 196 #[.int .u64 u,.int .i64 10] w fun e w'=>e=.returned (.string ⟨(Lib.itoa u).toArray⟩)∧∃ k os,w'=Sort.grow (w.drewN k) os:=by
 have e283:∀ args w,(callFunc 184 args).run Tryz.prog w=.ok (.enter 184 args) w:=enters_of Tryz.func184 (by kernel_rfl) rfl
 have e284:∀ args w,(callFunc 185 args).run Tryz.prog w=.ok (.enter 185 args) w:=enters_of Tryz.func185 (by kernel_rfl) rfl
 have e285:∀ args w,(callFunc 186 args).run Tryz.prog w=.ok (.enter 186 args) w:=enters_of Tryz.func186 (by kernel_rfl) rfl
 by_cases hs:u<100
 ·
  go_enter Tryz.func196,Tryz.ntmps196
  go_wp2_with (go_at_fn 184;refine (Any.internal_strconv_small (ρ:=Je9) { Jfo with } u hs _).mono ?_;rintro e w' ⟨rfl,rfl⟩)
  go_ret
  refine ⟨?_,0,#[],by simp [World.drewN_zero]⟩
  rw [Lib.itoa_nonneg];rfl
 ·
  have hu1:1≤u:=by omega
  have hnd20:Lib.nDigits u≤20:=by have:=Lib.numDigits_eq u hu1 hu;split at this <;> omega
  have hb3:Lib.nDigits u≤23:=by omega
  have hal:Tryz.prog.arrayLen 268=24:=by kernel_rfl
  have hsl1:∀ W,(Instr.sliceAt 268 (.pointer (some ⟨w.heap.size,0,none⟩)) none (some (.int .i64 (Lib.nDigits u:Int))) none).run Tryz.prog W=.ok (.slice (some ⟨w.heap.size,0,none⟩) (Lib.nDigits u) 24) W:=fun W=>by
   rw [run_sliceAt_array_h W 268 ⟨w.heap.size,0,none⟩ (by kernel_rfl) .i64 (Lib.nDigits u:Int) (by omega) (by rw [hal];omega),hal,show Tryz.prog.elem 268=5 from by kernel_rfl]
   go_simp
  have hH0:Holds (fun (b:UInt8)=>Value.int .u8 (b.toNat:Int)) (w.alloc (.cells Lib.zeros24 268)) w.heap.size 0 (Array.replicate (Lib.nDigits u) (0:UInt8)):=fun j hj=>by
   have hj':j<Lib.nDigits u:=by simpa using hj
   refine ⟨?_,World.frozen?_alloc_new _ _ _ _⟩
   rw [World.cell?_alloc_new,Lib.zeros24_at _ (by omega),getElem!_pos _ j hj]
   simp
  have hfmt:=Any.internal_strconv_formatBase10 (ρ:=Je9) { Jfo with } w.heap.size 0 24 u (Array.replicate (Lib.nDigits u) 0) (w.alloc (.cells Lib.zeros24 268)) hH0 (by rw [HC];exact Lib.lt_pow_nDigits u) hu (by rw [HC];omega)
  rw [HC] at hfmt
  have HH0:=Lib.hid hH0
  clear hH0 hal
  go_enter Tryz.func196,Tryz.ntmps196
  go_wp2_with (first
   | (go_at_fn 185;refine (Any.internal_strconv_numDigits (ρ:=Je9) { Jfo with } u hu1 hu _ (Lib.tabIs_alloc htab _)).mono ?_;rintro e w' ⟨rfl,rfl⟩))
  go_at_fn 186
  refine hfmt.mono ?_
  rintro e w' ⟨rfl,k,v',dk,rfl,hF⟩
  have hcv:(convert 35 9 (.slice (some ⟨w.heap.size,0,none⟩) (Lib.nDigits u) 24)).run Tryz.prog ((putRow (fun (b:UInt8)=>Value.int .u8 (b.toNat:Int)) (w.alloc (.cells Lib.zeros24 268)) w.heap.size 0 dk).drewN k)=.ok (.string ⟨(Lib.decDigits u).toArray⟩) ((putRow (fun (b:UInt8)=>Value.int .u8 (b.toNat:Int)) (w.alloc (.cells Lib.zeros24 268)) w.heap.size 0 dk).drewN k):=by
   have h:=run_convert_bytes_back (P:=Tryz.prog) ((putRow (fun (b:UInt8)=>Value.int .u8 (b.toNat:Int)) (w.alloc (.cells Lib.zeros24 268)) w.heap.size 0 dk).drewN k) 35 9 5 ⟨w.heap.size,0,none⟩ 24 (Lib.decDigits u) (by kernel_rfl) (by kernel_rfl) (by kernel_rfl) (fun j hj=>by
    rw [Lib.row_is_numeral hF j hj,Lib.add_plain,World.cell?_drewN]
    exact cell?_putRow (fun (b:UInt8)=>Value.int .u8 (b.toNat:Int)) _ w.heap.size 0 _ dk HH0.out (by rw [hF.size,HC]) j (by rw [hF.size];rw [Lib.decDigits_length] at hj;exact hj))
   rw [Lib.decDigits_length] at h
   exact h
  go_wp2
  go_ret
  obtain ⟨os,_,e⟩:=putRow_grow_new (fun (b:UInt8)=>Value.int .u8 (b.toNat:Int)) w #[.cells Lib.zeros24 268] w.heap.size 0 dk (HE _)
  refine ⟨?_,k,os,by rw [alloc_eq_grow,e];rfl⟩
  rw [Lib.itoa_nonneg]
  rfl
theorem Jn4 (G:J5) (m:Int) (h:0≤m∧m<18446744073709551616):V4 Tryz.prog 196 #[U m,I 10] G [] (fun u _ _=>u=Sr (Lib.itoa m)) (fun _ _ _=>False):=by
 obtain ⟨u,rfl⟩:∃ u:Nat,m=u:=⟨m.toNat,by omega⟩
 exact (Ja7 (R:=fun v=>v=Sr (Lib.itoa u)) fun w hT _=>(fmtU u (by omega) w hT.1).mono fun e w' ⟨he,k,os,hw⟩=>⟨_,he,rfl,hw ▸ JfR w k os⟩).mono (fun _ _ _ h=>h.1) (fun _ _ _ h=>h)
theorem JiU (G:J5)  (m:Int) (hw_m:rU m) :V4 Tryz.prog 143 #[U m,I 10] G [] (fun u G' L'=>((0:Int)=0)∧u=Sr (Lib.itoa m)∧L'=[]) (fun _ _ _=>False):=by
 refine W0 Tryz.func143 8 [(0,U m),(1,I 10)] rfl (fun w0 G0 hT=>Jg [0] [] (Jf (Jd (Jb [0,0] [(5,U m),(6,I 10)] (JaY 7 (Sr (Lib.itoa m)) hT (Jn4 G m hw_m) (Jb [0] [(4,Sr (Lib.itoa m))] (Je (Jc (Jn ?_)))))))))
 have hf1:(0:Int)=0∧Lib.itoa m=Lib.itoa m:=by
  exact ⟨rfl,rfl⟩
 refine Jo [0] [Sr (Lib.itoa m)] (V5 (JD [] (Jh _) ?_))
 rw [hf1.2]
 try dsimp only
 exact ⟨hf1.1,rfl,rfl⟩
theorem Yu (n:Int) (G:J5):VC Tryz.prog 182 #[U n] G [] (fun u G' L'=>u=Sr (K0 n)):=by
 refine JP Tryz.func182 19 [(0,U n)] rfl (fun w0 G0=>?_)
 refine Jg [0] [] (Jf (Jd (Jv 3 #[Y 0,Y 0,Y 0,Y 0,Y 0,Y 0,Y 0,Y 0] 307 (fun b1=>Je (Jc (Jf (Jg [0] [(5,I 0)] (Jy (Jd4 9 (WA (Jg [0] [(6,Bo true)] (Jf (J0 (Jq (Jc (Jf (Jy (Jg [0,0] [(4,I 0)] (Jd (JW [0,0,0,0,0,0,0,0,3] [] [[Sg b1 0 [Y (Hc.wrap ((n).fdiv (2 ^ 56))),Y 0,Y 0,Y 0,Y 0,Y 0,Y 0,Y 0]]] (Je (JM (Jc (Jd ?_))))))))))))))))))))))))
 refine Jb [0,0] [(5,I 1)] (Je (WR (WA (Jg [0] [(6,Bo true)] (Jf (J0 (Jq (Jc (Jf (Jy (Jg [0,0] [(4,I 1)] (Jd (JW [0,0,0,0,0,0,0,0,3] [] [[Sg b1 0 [Y (Hc.wrap ((n).fdiv (2 ^ 56))),Y (Hc.wrap ((n).fdiv (2 ^ 48))),Y 0,Y 0,Y 0,Y 0,Y 0,Y 0]]] (Je (JM (Jc (Jd (Jb [0,0] [(5,I 2)] (Je (WR (WA ?_)))))))))))))))))))))
 refine Jg [0] [(6,Bo true)] (Jf (J0 (Jq (Jc (Jf (Jy (Jg [0,0] [(4,I 2)] (Jd (JW [0,0,0,0,0,0,0,0,3] [] [[Sg b1 0 [Y (Hc.wrap ((n).fdiv (2 ^ 56))),Y (Hc.wrap ((n).fdiv (2 ^ 48))),Y (Hc.wrap ((n).fdiv (2 ^ 40))),Y 0,Y 0,Y 0,Y 0,Y 0]]] (Je (JM (Jc (Jd (Jb [0,0] [(5,I 3)] (Je (WR (WA (Jg [0] [(6,Bo true)] (Jf (J0 (Jq (Jc (Jf (Jy ?_))))))))))))))))))))))))
 refine Jg [0,0] [(4,I 3)] (Jd (JW [0,0,0,0,0,0,0,0,3] [] [[Sg b1 0 [Y (Hc.wrap ((n).fdiv (2 ^ 56))),Y (Hc.wrap ((n).fdiv (2 ^ 48))),Y (Hc.wrap ((n).fdiv (2 ^ 40))),Y (Hc.wrap ((n).fdiv (2 ^ 32))),Y 0,Y 0,Y 0,Y 0]]] (Je (JM (Jc (Jd (Jb [0,0] [(5,I 4)] (Je (WR (WA (Jg [0] [(6,Bo true)] (Jf (J0 (Jq (Jc (Jf (Jy (Jg [0,0] [(4,I 4)] (Jd (JW [0,0,0,0,0,0,0,0,3] [] [[Sg b1 0 [Y (Hc.wrap ((n).fdiv (2 ^ 56))),Y (Hc.wrap ((n).fdiv (2 ^ 48))),Y (Hc.wrap ((n).fdiv (2 ^ 40))),Y (Hc.wrap ((n).fdiv (2 ^ 32))),Y (Hc.wrap ((n).fdiv (2 ^ 24))),Y 0,Y 0,Y 0]]] (Je (JM (Jc (Jd (Jb [0,0] [(5,I 5)] (Je ?_))))))))))))))))))))))))))
 refine WR (WA (Jg [0] [(6,Bo true)] (Jf (J0 (Jq (Jc (Jf (Jy (Jg [0,0] [(4,I 5)] (Jd (JW [0,0,0,0,0,0,0,0,3] [] [[Sg b1 0 [Y (Hc.wrap ((n).fdiv (2 ^ 56))),Y (Hc.wrap ((n).fdiv (2 ^ 48))),Y (Hc.wrap ((n).fdiv (2 ^ 40))),Y (Hc.wrap ((n).fdiv (2 ^ 32))),Y (Hc.wrap ((n).fdiv (2 ^ 24))),Y (Hc.wrap ((n).fdiv (2 ^ 16))),Y 0,Y 0]]] (Je (JM (Jc (Jd (Jb [0,0] [(5,I 6)] (Je (WR (WA (Jg [0] [(6,Bo true)] (Jf ?_)))))))))))))))))))))
 refine J0 (Jq (Jc (Jf (Jy (Jg [0,0] [(4,I 6)] (Jd (JW [0,0,0,0,0,0,0,0,3] [] [[Sg b1 0 [Y (Hc.wrap ((n).fdiv (2 ^ 56))),Y (Hc.wrap ((n).fdiv (2 ^ 48))),Y (Hc.wrap ((n).fdiv (2 ^ 40))),Y (Hc.wrap ((n).fdiv (2 ^ 32))),Y (Hc.wrap ((n).fdiv (2 ^ 24))),Y (Hc.wrap ((n).fdiv (2 ^ 16))),Y (Hc.wrap ((n).fdiv (2 ^ 8))),Y 0]]] (Je (JM (Jc (Jd (Jb [0,0] [(5,I 7)] (Je (WR (WA (Jg [0] [(6,Bo true)] (Jf (J0 (Jq (Jc (Jf (Jy (Jg [0,0] [(4,I 7)] (Jd ?_))))))))))))))))))))))))
 refine JW [0,0,0,0,0,0,0,0,3] [] [[Sg b1 0 [Y (Hc.wrap ((n).fdiv (2 ^ 56))),Y (Hc.wrap ((n).fdiv (2 ^ 48))),Y (Hc.wrap ((n).fdiv (2 ^ 40))),Y (Hc.wrap ((n).fdiv (2 ^ 32))),Y (Hc.wrap ((n).fdiv (2 ^ 24))),Y (Hc.wrap ((n).fdiv (2 ^ 16))),Y (Hc.wrap ((n).fdiv (2 ^ 8))),Y (Hc.wrap ((n).fdiv (2 ^ 0)))]]] (Je (JM (Jc (Jd (Jb [0,0] [(5,I 8)] (Je (WR (WA (Jg [0] [(6,Bo false)] (Jf (Qr (KX (J1 (J1 (JS (Jc (Jf (Jd (Jb [0] [(17,Sl (At b1 0) 8 8)] (Jbl (b:=b1) (off:=0) (len:=8) (cap:=8) (cs:=HY (Value.int .u8) [Hc.wrap ((n).fdiv (2 ^ 56)),Hc.wrap ((n).fdiv (2 ^ 48)),Hc.wrap ((n).fdiv (2 ^ 40)),Hc.wrap ((n).fdiv (2 ^ 32)),Hc.wrap ((n).fdiv (2 ^ 24)),Hc.wrap ((n).fdiv (2 ^ 16)),Hc.wrap ((n).fdiv (2 ^ 8)),Hc.wrap ((n).fdiv (2 ^ 0))]) 18 0 [Hc.wrap ((n).fdiv (2 ^ 56)),Hc.wrap ((n).fdiv (2 ^ 48)),Hc.wrap ((n).fdiv (2 ^ 40)),Hc.wrap ((n).fdiv (2 ^ 32)),Hc.wrap ((n).fdiv (2 ^ 24)),Hc.wrap ((n).fdiv (2 ^ 16)),Hc.wrap ((n).fdiv (2 ^ 8)),Hc.wrap ((n).fdiv (2 ^ 0))] rfl (Jau (ns:=[Hc.wrap ((n).fdiv (2 ^ 56)),Hc.wrap ((n).fdiv (2 ^ 48)),Hc.wrap ((n).fdiv (2 ^ 40)),Hc.wrap ((n).fdiv (2 ^ 32)),Hc.wrap ((n).fdiv (2 ^ 24)),Hc.wrap ((n).fdiv (2 ^ 16)),Hc.wrap ((n).fdiv (2 ^ 8)),Hc.wrap ((n).fdiv (2 ^ 0))]) rfl) (Jb [0] [(2,Sr (([Hc.wrap ((n).fdiv (2 ^ 56)),Hc.wrap ((n).fdiv (2 ^ 48)),Hc.wrap ((n).fdiv (2 ^ 40)),Hc.wrap ((n).fdiv (2 ^ 32)),Hc.wrap ((n).fdiv (2 ^ 24)),Hc.wrap ((n).fdiv (2 ^ 16)),Hc.wrap ((n).fdiv (2 ^ 8)),Hc.wrap ((n).fdiv (2 ^ 0))]:List Int).map fun n=>He n.toNat))] (Je (Jc (Jn (Jo [0] [Sr (([Hc.wrap ((n).fdiv (2 ^ 56)),Hc.wrap ((n).fdiv (2 ^ 48)),Hc.wrap ((n).fdiv (2 ^ 40)),Hc.wrap ((n).fdiv (2 ^ 32)),Hc.wrap ((n).fdiv (2 ^ 24)),Hc.wrap ((n).fdiv (2 ^ 16)),Hc.wrap ((n).fdiv (2 ^ 8)),Hc.wrap ((n).fdiv (2 ^ 0))]:List Int).map fun n=>He n.toNat)] (Jx (Jh _) ?_))))))))))))))))))))))))))
 rfl
def ZE:JX:=⟨0,0,0,0⟩
def JK (h:JX):Int :=
 if h.epoch<0∨1000000<h.epoch∨2305843009213693951≤h.root∨2305843009213693951≤h.prev∨h.at_<0∨1000000000<h.at_ then 4 else if h.epoch=0∧h.prev ≠ 0 then 3 else 0
theorem Zl {h:JX} (e:JK h=0):0≤h.epoch∧h.epoch≤1000000∧h.root<2305843009213693951∧h.prev<2305843009213693951∧0≤h.at_∧h.at_≤1000000000∧(h.epoch=0→h.prev=0):=by
 unfold JK at e;split at e
 · cases e
 split at e
 · cases e
 omega
def V8 (h:JX):Bb:=((([3]++K0 (Ha.wrap h.epoch))++K0 h.root)++K0 h.prev)++K0 (Ha.wrap h.at_)
def Wb (h:JX):Bb×Int:=if JK h ≠ 0 then ([],JK h) else (V8 h,0)
theorem JpN {x y:UInt8}:((x.toNat:Int)=(y.toNat:Int)) ↔ x=y:=⟨fun h=>UInt8.toNat.inj (by omega),fun h=>by rw [h]⟩
theorem Jfa (h:JX):(V8 h).length=33:=by simp [V8]
theorem Z9 (h:JX) (G:J5):VC Tryz.prog 41 #[.agg #[I h.epoch,U h.root,U h.prev,I h.at_]] G [] (fun u G' L'=>u=I (JK h)):=by
 refine JP Tryz.func41 41 [(0,.agg #[I h.epoch,U h.root,U h.prev,I h.at_])] rfl (fun w0 G0=>?_)
 refine Jf (Jd (Jv 1 #[I h.epoch,U h.root,U h.prev,I h.at_] 43 (fun b1=>Jb [0] [] (Je (Jc (Jf (Jy (Jf (Jd (Jb [0,2,0,0] [(7,Bo (decide (h.epoch<0)))] (Ks (decide (h.epoch<0)) [7] [1,1,1,0] [0,2,0,0] (fun bb=>[(11,Bo (bb || (decide (h.epoch > 1000000))))]) (Jb [0] [(12,Bo ((decide (h.epoch<0)) || (decide (h.epoch > 1000000))))] (Ks ((decide (h.epoch<0)) || (decide (h.epoch > 1000000))) [12] [1,1,1,0] [0,2,0,0] (fun bb=>[(16,Bo (bb || (decide (h.root ≥ 2305843009213693951))))]) (Jb [0] [(17,Bo (((decide (h.epoch<0)) || (decide (h.epoch > 1000000))) || (decide (h.root ≥ 2305843009213693951))))] (Ks (((decide (h.epoch<0)) || (decide (h.epoch > 1000000))) || (decide (h.root ≥ 2305843009213693951))) [17] [1,1,1,0] [0,2,0,0] (fun bb=>[(21,Bo (bb || (decide (h.prev ≥ 2305843009213693951))))]) (Jb [0] [(22,Bo ((((decide (h.epoch<0)) || (decide (h.epoch > 1000000))) || (decide (h.root ≥ 2305843009213693951))) || (decide (h.prev ≥ 2305843009213693951))))] (Ks ((((decide (h.epoch<0)) || (decide (h.epoch > 1000000))) || (decide (h.root ≥ 2305843009213693951))) || (decide (h.prev ≥ 2305843009213693951))) [22] [1,1,1,0] [0,2,0,0] (fun bb=>[(26,Bo (bb || (decide (h.at_<0))))]) ?_)))))))))))))))))
 refine Jb [0] [(27,Bo (((((decide (h.epoch<0)) || (decide (h.epoch > 1000000))) || (decide (h.root ≥ 2305843009213693951))) || (decide (h.prev ≥ 2305843009213693951))) || (decide (h.at_<0))))] (Ks (((((decide (h.epoch<0)) || (decide (h.epoch > 1000000))) || (decide (h.root ≥ 2305843009213693951))) || (decide (h.prev ≥ 2305843009213693951))) || (decide (h.at_<0))) [27] [1,1,1,0] [0,2,0,0] (fun bb=>[(31,Bo (bb || (decide (h.at_ > 1000000000))))]) (Jb [0] [(3,Bo ((((((decide (h.epoch<0)) || (decide (h.epoch > 1000000))) || (decide (h.root ≥ 2305843009213693951))) || (decide (h.prev ≥ 2305843009213693951))) || (decide (h.at_<0))) || (decide (h.at_ > 1000000000))))] (Je (Jc (Jl ((((((decide (h.epoch<0)) || (decide (h.epoch > 1000000))) || (decide (h.root ≥ 2305843009213693951))) || (decide (h.prev ≥ 2305843009213693951))) || (decide (h.at_<0))) || (decide (h.at_ > 1000000000))) (fun h1=>?_) (fun h1=>?_))))))
 refine Jg [0] [(2,I 4)] (Jn (Ju (Jj (Jo [0] [I 4] (Jx (Jh _) ?_)))))
 refine congrArg I ?_;unfold JK;(repeat' split) <;> first | rfl | omega
 refine Jf (Jd (Jb [0,2,0,0] [(36,Bo (decide (h.epoch=0)))] (Ks (decide (h.epoch=0)) [36] [0,2,0,0] [1,1,1,0] (fun bb=>[(40,Bo (bb && (!decide (h.prev=0))))]) (Jb [0] [(32,Bo ((decide (h.epoch=0)) && (!decide (h.prev=0))))] (Je (Jc (Jl ((decide (h.epoch=0)) && (!decide (h.prev=0))) (fun h2=>?_) (fun h2=>?_))))))))
 refine Jg [0] [(2,I 3)] (Jn (Ju (Jj (Jo [0] [I 3] (Jx (Jh _) ?_)))))
 refine congrArg I ?_;unfold JK;(repeat' split) <;> first | rfl | omega
 refine Jq (JM (Jc (Jg [0] [(2,I 0)] (Jn (Jo [0] [I 0] (Jx (Jh _) ?_))))))
 refine congrArg I ?_;unfold JK;(repeat' split) <;> first | rfl | omega
theorem JhW (h:JX) (G:J5):VC Tryz.prog 195 #[.agg #[I h.epoch,U h.root,U h.prev,I h.at_]] G [] (fun u G' L'=>u=.tuple #[Sr ((Wb h).1),I ((Wb h).2)]):=by
 refine JP Tryz.func195 30 [(0,.agg #[I h.epoch,U h.root,U h.prev,I h.at_])] rfl (fun w0 G0=>?_)
 refine Jf (Jd (Jv 1 #[I h.epoch,U h.root,U h.prev,I h.at_] 43 (fun b1=>Jb [0,0] [] (Je (Jc (Jf (Jf (Jd (Jb [2] [(5,.agg #[I h.epoch,U h.root,U h.prev,I h.at_])] (Jm 6 (I (JK h)) (Z9 h G) (Jb [0] [(4,I (JK h))] (Je (Jc (Jg [0,0] [(8,Bo (!decide (JK h=0)))] (Jl (!decide (JK h=0)) (fun h1=>?_) (fun h1=>?_))))))))))))))))
 refine Jg [0,0,0] [(2,Sr ([])),(3,I (JK h))] (Jn (Jj (Jo [0,0] [Sr ([]),I (JK h)] (Jx (Jh _) ?_))))
 (unfold Wb;rw [if_pos (by omega)];rfl)
 refine Jq (Jc (Jf (Kt [0] (Wm [(2,Pt b1 0),(3,I h.epoch),(4,U (Ha.wrap h.epoch)),(5,Sr (K0 (Ha.wrap h.epoch))),(7,Pt b1 1),(8,U h.root),(9,Sr (K0 h.root)),(11,Pt b1 2),(12,U h.prev),(13,Sr (K0 h.prev)),(15,Pt b1 3),(16,I h.at_),(17,U (Ha.wrap h.at_)),(18,Sr (K0 (Ha.wrap h.at_)))] (JF [] [(2,0),(3,2),(4,0),(7,0),(8,2),(11,0),(12,2),(15,0),(16,2),(17,0)] [5,9,13,18] [0] (Kf ?_ (Kf ?_ (Kf ?_ (Kf ?_ KY)))) (Kf ?_ KY))))))
 refine Jr 5 15 (Sr (K0 (Ha.wrap h.epoch))) [(14,U (Ha.wrap h.epoch))] (fun X=>?_)
 exact Jm 15 (Sr (K0 (Ha.wrap h.epoch))) (Yu (Ha.wrap h.epoch) G) Jp
 refine Jr 9 19 (Sr (K0 h.root)) [(18,U h.root)] (fun X=>?_)
 exact Jm 19 (Sr (K0 h.root)) (Yu h.root G) Jp
 refine Jr 13 23 (Sr (K0 h.prev)) [(22,U h.prev)] (fun X=>?_)
 exact Jm 23 (Sr (K0 h.prev)) (Yu h.prev G) Jp
 refine Jr 18 28 (Sr (K0 (Ha.wrap h.at_))) [(27,U (Ha.wrap h.at_))] (fun X=>?_)
 exact Jm 28 (Sr (K0 (Ha.wrap h.at_))) (Yu (Ha.wrap h.at_) G) Jp
 refine Jz 0 [] (fun X=>?_)
 refine Km 10 1 #[Y 3] 5 (fun b2=>JA [(0,Sl (At b2 0) 1 1),(1,Sr (([3]:List Int).map fun n=>He n.toNat)),(6,Sr ((([3]:List Int).map fun n=>He n.toNat)++(K0 (Ha.wrap h.epoch)))),(10,Sr (((([3]:List Int).map fun n=>He n.toNat)++(K0 (Ha.wrap h.epoch)))++(K0 h.root))),(14,Sr ((((([3]:List Int).map fun n=>He n.toNat)++(K0 (Ha.wrap h.epoch)))++(K0 h.root))++(K0 h.prev))),(19,Sr (((((([3]:List Int).map fun n=>He n.toNat)++(K0 (Ha.wrap h.epoch)))++(K0 h.root))++(K0 h.prev))++(K0 (Ha.wrap h.at_)))),(20,Sr (((((([3]:List Int).map fun n=>He n.toNat)++(K0 (Ha.wrap h.epoch)))++(K0 h.root))++(K0 h.prev))++(K0 (Ha.wrap h.at_)))),(21,I 0)] (Kl [] [(2,0),(3,4),(4,0),(7,0),(8,4),(11,0),(12,4),(15,0),(16,4),(17,0),(20,0),(21,0)] [1,5,6,9,10,13,14,18,19] [(2,Sr (((((([3]:List Int).map fun n=>He n.toNat)++(K0 (Ha.wrap h.epoch)))++(K0 h.root))++(K0 h.prev))++(K0 (Ha.wrap h.at_)))),(3,I 0)] (Kf ?_ (Kf ?_ (Kf ?_ (Kf ?_ (Kf ?_ (Kf ?_ (Kf ?_ (Kf ?_ (Kf ?_ KY))))))))) ?_))
 refine Jr 1 11 (Sr (([3]:List Int).map fun n=>He n.toNat)) [(10,Sl (At b2 0) 1 1)] (fun X=>?_)
 exact Jbl (b:=b2) (off:=0) (len:=1) (cap:=1) (cs:=HY (Value.int .u8) [3]) 11 0 [3] rfl (Jau (ns:=[3]) rfl) Jp
 refine Jr 5 15 (Sr (K0 (Ha.wrap h.epoch))) [(14,U (Ha.wrap h.epoch))] (fun X=>?_)
 exact Jm 15 (Sr (K0 (Ha.wrap h.epoch))) (Yu (Ha.wrap h.epoch) G) Jp
 refine Jr 6 16 (Sr ((([3]:List Int).map fun n=>He n.toNat)++(K0 (Ha.wrap h.epoch)))) [(11,Sr (([3]:List Int).map fun n=>He n.toNat)),(15,Sr (K0 (Ha.wrap h.epoch)))] (fun X=>?_)
 exact Z1 16 (([3]:List Int).map fun n=>He n.toNat) (K0 (Ha.wrap h.epoch)) (by simp) Jp
 refine Jr 9 19 (Sr (K0 h.root)) [(18,U h.root)] (fun X=>?_)
 exact Jm 19 (Sr (K0 h.root)) (Yu h.root G) Jp
 refine Jr 10 20 (Sr (((([3]:List Int).map fun n=>He n.toNat)++(K0 (Ha.wrap h.epoch)))++(K0 h.root))) [(16,Sr ((([3]:List Int).map fun n=>He n.toNat)++(K0 (Ha.wrap h.epoch)))),(19,Sr (K0 h.root))] (fun X=>?_)
 exact Z1 20 ((([3]:List Int).map fun n=>He n.toNat)++(K0 (Ha.wrap h.epoch))) (K0 h.root) (by simp) Jp
 refine Jr 13 23 (Sr (K0 h.prev)) [(22,U h.prev)] (fun X=>?_)
 exact Jm 23 (Sr (K0 h.prev)) (Yu h.prev G) Jp
 refine Jr 14 24 (Sr ((((([3]:List Int).map fun n=>He n.toNat)++(K0 (Ha.wrap h.epoch)))++(K0 h.root))++(K0 h.prev))) [(20,Sr (((([3]:List Int).map fun n=>He n.toNat)++(K0 (Ha.wrap h.epoch)))++(K0 h.root))),(23,Sr (K0 h.prev))] (fun X=>?_)
 exact Z1 24 (((([3]:List Int).map fun n=>He n.toNat)++(K0 (Ha.wrap h.epoch)))++(K0 h.root)) (K0 h.prev) (by simp) Jp
 refine Jr 18 28 (Sr (K0 (Ha.wrap h.at_))) [(27,U (Ha.wrap h.at_))] (fun X=>?_)
 exact Jm 28 (Sr (K0 (Ha.wrap h.at_))) (Yu (Ha.wrap h.at_) G) Jp
 refine Jr 19 29 (Sr (((((([3]:List Int).map fun n=>He n.toNat)++(K0 (Ha.wrap h.epoch)))++(K0 h.root))++(K0 h.prev))++(K0 (Ha.wrap h.at_)))) [(24,Sr ((((([3]:List Int).map fun n=>He n.toNat)++(K0 (Ha.wrap h.epoch)))++(K0 h.root))++(K0 h.prev))),(28,Sr (K0 (Ha.wrap h.at_)))] (fun X=>?_)
 exact Z1 29 ((((([3]:List Int).map fun n=>He n.toNat)++(K0 (Ha.wrap h.epoch)))++(K0 h.root))++(K0 h.prev)) (K0 (Ha.wrap h.at_)) (by simp) Jp
 refine Jc (Jn (Jo [0,0] [Sr (((((([3]:List Int).map fun n=>He n.toNat)++(K0 (Ha.wrap h.epoch)))++(K0 h.root))++(K0 h.prev))++(K0 (Ha.wrap h.at_))),I 0] (Jx (Jh _) ?_)))
 (unfold Wb;rw [if_neg (by omega)];rfl)
theorem Jmp  (G:J5):VC Tryz.prog 223 #[U 2305843009213693951] G [] (fun u G' L'=>u=I 61):=by
 refine JP Tryz.func223 25 [(0,U 2305843009213693951)] rfl (fun w0 G0=>?_)
 refine Jg [0] [(2,I 0)] (Jf (Jg [0,0] [(4,Bo true)] (J0 (Jg [0,0,0] [(0,U 536870911)] (Jd (Jb [0] [(2,I 32)] (Je (Jc (Jf (Jg [0,0] [(8,Bo true)] (J0 (Jg [0,0,0] [(0,U 8191)] (Jd (Jb [0,0,0] [(2,I 48)] (Je (Jc (Jf (Jg [0,0] [(14,Bo true)] (J0 ?_)))))))))))))))))))
 refine Jg [0,0,0] [(0,U 31)] (Jd (Jb [0,0,0] [(2,I 56)] (Je (Jc (Jg [0,0,0,0,0,0,0] [(2,I 61)] (Jn (Jo [0] [I 61] (Jx (Jh _) ?_))))))))
 rfl
theorem Jn5  (G:J5):VC Tryz.prog 221 #[U 2305843009213693951] G [] (fun u G' L'=>u=I 3):=by
 refine JP Tryz.func221 6 [(0,U 2305843009213693951)] rfl (fun w0 G0=>?_)
 refine Jg [0] [] (Jf (Jd (Jb [0] [(3,U 2305843009213693951)] (Jm 4 (I 61) (Jmp  G) (Jb [0,0] [(2,I 3)] (Je (Jc (Jn (Jo [0] [I 3] (Jx (Jh _) ?_))))))))))
 rfl
theorem Jhl (x y:Int) (hx:rU x) (hy:rU y) (G:J5):VC Tryz.prog 54 #[U x,U y] G [] (fun u G' L'=>u=.tuple #[U (x*y / 18446744073709551616),U (x*y % 18446744073709551616)]):=by
 refine JP Tryz.func54 51 [(0,U x),(1,U y)] rfl (fun w0 G0=>?_)
 refine Jg [0,0] [] (Jg [0,0,0] [(6,U (Ha.wrap ((Hb 64 x &&& Hb 64 4294967295).toNat:Int)))] (Jg [0,0,0] [(7,U ((x).fdiv (2 ^ 32)))] (Jg [0,0,0] [(8,U (Ha.wrap ((Hb 64 y &&& Hb 64 4294967295).toNat:Int)))] (Jg [0,0,0] [(9,U ((y).fdiv (2 ^ 32)))] (Jg [0,0,0,0] [(10,U (Ha.wrap ((Ha.wrap ((Hb 64 x &&& Hb 64 4294967295).toNat:Int))*(Ha.wrap ((Hb 64 y &&& Hb 64 4294967295).toNat:Int)))))] (Jg [0,0,0,0,0,0,0] [(11,U (Ha.wrap ((Ha.wrap (((x).fdiv (2 ^ 32))*(Ha.wrap ((Hb 64 y &&& Hb 64 4294967295).toNat:Int))))+((Ha.wrap ((Ha.wrap ((Hb 64 x &&& Hb 64 4294967295).toNat:Int))*(Ha.wrap ((Hb 64 y &&& Hb 64 4294967295).toNat:Int)))).fdiv (2 ^ 32)))))] (Jg [0,0,0] [(12,U (Ha.wrap ((Hb 64 (Ha.wrap ((Ha.wrap (((x).fdiv (2 ^ 32))*(Ha.wrap ((Hb 64 y &&& Hb 64 4294967295).toNat:Int))))+((Ha.wrap ((Ha.wrap ((Hb 64 x &&& Hb 64 4294967295).toNat:Int))*(Ha.wrap ((Hb 64 y &&& Hb 64 4294967295).toNat:Int)))).fdiv (2 ^ 32)))) &&& Hb 64 4294967295).toNat:Int)))] (Jg [0,0,0] [(13,U ((Ha.wrap ((Ha.wrap (((x).fdiv (2 ^ 32))*(Ha.wrap ((Hb 64 y &&& Hb 64 4294967295).toNat:Int))))+((Ha.wrap ((Ha.wrap ((Hb 64 x &&& Hb 64 4294967295).toNat:Int))*(Ha.wrap ((Hb 64 y &&& Hb 64 4294967295).toNat:Int)))).fdiv (2 ^ 32)))).fdiv (2 ^ 32)))] (Jg [0,0,0,0,0,0] [(12,U (Ha.wrap ((Ha.wrap ((Hb 64 (Ha.wrap ((Ha.wrap (((x).fdiv (2 ^ 32))*(Ha.wrap ((Hb 64 y &&& Hb 64 4294967295).toNat:Int))))+((Ha.wrap ((Ha.wrap ((Hb 64 x &&& Hb 64 4294967295).toNat:Int))*(Ha.wrap ((Hb 64 y &&& Hb 64 4294967295).toNat:Int)))).fdiv (2 ^ 32)))) &&& Hb 64 4294967295).toNat:Int))+(Ha.wrap ((Ha.wrap ((Hb 64 x &&& Hb 64 4294967295).toNat:Int))*((y).fdiv (2 ^ 32)))))))] (Jg [0,0,0,0,0,0,0,0,0] [(4,U (Ha.wrap ((Ha.wrap ((Ha.wrap (((x).fdiv (2 ^ 32))*((y).fdiv (2 ^ 32))))+((Ha.wrap ((Ha.wrap (((x).fdiv (2 ^ 32))*(Ha.wrap ((Hb 64 y &&& Hb 64 4294967295).toNat:Int))))+((Ha.wrap ((Ha.wrap ((Hb 64 x &&& Hb 64 4294967295).toNat:Int))*(Ha.wrap ((Hb 64 y &&& Hb 64 4294967295).toNat:Int)))).fdiv (2 ^ 32)))).fdiv (2 ^ 32))))+((Ha.wrap ((Ha.wrap ((Hb 64 (Ha.wrap ((Ha.wrap (((x).fdiv (2 ^ 32))*(Ha.wrap ((Hb 64 y &&& Hb 64 4294967295).toNat:Int))))+((Ha.wrap ((Ha.wrap ((Hb 64 x &&& Hb 64 4294967295).toNat:Int))*(Ha.wrap ((Hb 64 y &&& Hb 64 4294967295).toNat:Int)))).fdiv (2 ^ 32)))) &&& Hb 64 4294967295).toNat:Int))+(Ha.wrap ((Ha.wrap ((Hb 64 x &&& Hb 64 4294967295).toNat:Int))*((y).fdiv (2 ^ 32)))))).fdiv (2 ^ 32)))))] ?_))))))))))
 exact Jg [0,0,0,0] [(5,U (Ha.wrap (x*y)))] (Jn (Jo [0,0] [U (Ha.wrap ((Ha.wrap ((Ha.wrap (((x).fdiv (2 ^ 32))*((y).fdiv (2 ^ 32))))+((Ha.wrap ((Ha.wrap (((x).fdiv (2 ^ 32))*(Ha.wrap ((Hb 64 y &&& Hb 64 4294967295).toNat:Int))))+((Ha.wrap ((Ha.wrap ((Hb 64 x &&& Hb 64 4294967295).toNat:Int))*(Ha.wrap ((Hb 64 y &&& Hb 64 4294967295).toNat:Int)))).fdiv (2 ^ 32)))).fdiv (2 ^ 32))))+((Ha.wrap ((Ha.wrap ((Hb 64 (Ha.wrap ((Ha.wrap (((x).fdiv (2 ^ 32))*(Ha.wrap ((Hb 64 y &&& Hb 64 4294967295).toNat:Int))))+((Ha.wrap ((Ha.wrap ((Hb 64 x &&& Hb 64 4294967295).toNat:Int))*(Ha.wrap ((Hb 64 y &&& Hb 64 4294967295).toNat:Int)))).fdiv (2 ^ 32)))) &&& Hb 64 4294967295).toNat:Int))+(Ha.wrap ((Ha.wrap ((Hb 64 x &&& Hb 64 4294967295).toNat:Int))*((y).fdiv (2 ^ 32)))))).fdiv (2 ^ 32)))),U (Ha.wrap (x*y))] (Jx (Jh _) (congr (congrArg (fun a b=>Value.tuple #[U a,U b]) (JnX hx hy)) (Jcq _)))))
set_option maxRecDepth 20000 in
theorem Jmq (hi lo:Int) (hx:0≤hi∧hi<2305843009213693951) (hy:rU lo) (G:J5):VC Tryz.prog 183 #[U hi,U lo,U 2305843009213693951] G [] (fun u G' L'=>u=.tuple #[U ((hi*18446744073709551616+lo) / 2305843009213693951),U ((hi*18446744073709551616+lo) % 2305843009213693951)]):=by
 refine JP Tryz.func183 135 [(0,U hi),(1,U lo),(2,U 2305843009213693951)] rfl (fun w0 G0=>?_)
 refine Jg [0,0] [] (Jf (Jg [0,0] [(20,Bo false)] (Qr (Jq (Jc (Jf (Jg [0,0,0] [(24,Bo (decide (2305843009213693951≤hi)))] (Jl (decide (2305843009213693951≤hi)) (fun h1=>?_) (fun h1=>?_)))))))))
 exfalso;omega
 refine Jq (Jc (Jf (Jg [0,0] [(27,Bo (decide (hi=0)))] (Jl (decide (hi=0)) (fun h2=>?_) (fun h2=>?_)))))
 refine Jf ?_
 have e1:Ha.wrap ((lo).tdiv 2305843009213693951)=lo / 2305843009213693951:=IntWalk.u64_quo _ _ (by omega)
 have e2:(lo).tmod 2305843009213693951=lo % 2305843009213693951:=HU _ _ (by omega)
 refine Kt [] (Wm [(0,U lo),(1,U 2305843009213693951),(2,U (lo / 2305843009213693951)),(3,U lo),(4,U 2305843009213693951),(5,U (lo % 2305843009213693951)),(6,U (lo / 2305843009213693951)),(7,U (lo % 2305843009213693951))] (Kl [] [(0,0),(1,0),(3,0),(4,0),(6,0),(7,0)] [2,5] [(6,U (lo / 2305843009213693951)),(7,U (lo % 2305843009213693951))] (Kf ?_ (Kf ?_ KY)) ?_))
 refine Jr 2 30 (U (lo / 2305843009213693951)) [(28,U lo),(29,U 2305843009213693951)] (fun X=>?_)
 exact K5 30 (U (Ha.wrap ((lo).tdiv 2305843009213693951))) (U (lo / 2305843009213693951)) (by simp only [e1]) Jp
 refine Jr 5 33 (U (lo % 2305843009213693951)) [(31,U lo),(32,U 2305843009213693951)] (fun X=>?_)
 exact K5 33 (U ((lo).tmod 2305843009213693951)) (U (lo % 2305843009213693951)) (by simp only [e2]) Jp
 refine Jc (Jn (Jj (Jo [0,0] [U (lo / 2305843009213693951),U (lo % 2305843009213693951)] (Jx (Jh _) ?_))))
 · (subst h2;simp [QC];done)
 refine Jq (Jc (Jf (Jd (Jb [0] [(34,U 2305843009213693951)] (Jm 35 (I 3) (Jn5  G) (Jb [0,0] [(8,U 3)] (Je (Jc (Jg [0,0,0,0] [(2,U 18446744073709551608)] (Jg [0,0,0] [(9,U 4294967295)] (Jg [0,0,0] [(10,U 4294967288)] (Jg [0,0,0,0,0,0,0,0,0] [(11,U (Ha.wrap ((Hb 64 (Ha.wrap (hi*2 ^ 3)) ||| Hb 64 ((lo).fdiv (2 ^ 61))).toNat:Int)))] ?_))))))))))))
 have e3:Ha.wrap ((Hb 64 (Ha.wrap (hi*2 ^ 3)) ||| Hb 64 ((lo).fdiv (2 ^ 61))).toNat:Int)=WH hi lo:=rfl
 refine QU 11 (U (WH hi lo)) (congrArg U e3) ?_
 clear e3
 refine Jg [0,0,0,0] [(12,U (Ha.wrap (lo*2 ^ 3)))] ?_
 have e4:Ha.wrap (lo*2 ^ 3)=Jds lo:=rfl
 refine QU 12 (U (Jds lo)) (congrArg U e4) ?_
 clear e4
 refine Jg [0,0,0] [(13,U ((Jds lo).fdiv (2 ^ 32)))] ?_
 have e5:(Jds lo).fdiv (2 ^ 32)=WT lo:=rfl
 refine QU 13 (U (WT lo)) (congrArg U e5) ?_
 clear e5
 refine Jg [0,0,0] [(14,U (Ha.wrap ((Hb 64 (Jds lo) &&& Hb 64 4294967295).toNat:Int)))] ?_
 have e6:Ha.wrap ((Hb 64 (Jds lo) &&& Hb 64 4294967295).toNat:Int)=Z3 lo:=rfl
 refine QU 14 (U (Z3 lo)) (congrArg U e6) ?_
 clear e6
 refine Jg [0,0,0,0] [(15,U (Ha.wrap ((WH hi lo).tdiv 4294967295)))] (Jg [0,0,0,0,0,0] [(16,U (Ha.wrap ((WH hi lo)-(Ha.wrap ((Ha.wrap ((WH hi lo).tdiv 4294967295))*4294967295)))))] (Jf (Jy ?_)))
 refine Qc (σ:=Int×Int) (fun s=>(JbA (WH hi lo) (WT lo) s.1 s.2)) (fun s=>[(2,U 18446744073709551608),(8,U 3),(9,U 4294967295),(10,U 4294967288),(11,U (WH hi lo)),(13,U (WT lo)),(14,U (Z3 lo)),(15,U s.1),(16,U s.2)]) (fun s=>G) (fun s=>[]) (fun s=>s.1.toNat) (Ha.wrap ((WH hi lo).tdiv 4294967295),Ha.wrap (WH hi lo-Ha.wrap (Ha.wrap ((WH hi lo).tdiv 4294967295)*4294967295))) (Jec (Jfk hx hy) (Jfl lo)) (fun s hs=>?_)
 obtain ⟨q,r⟩:=s
 have hI:=hs
 dsimp only at hI
 dsimp only
 refine Jf (Jf (Jd (Jb [0,0,0] [(69,Bo (decide (q ≥ 4294967296)))] (Ks (decide (q ≥ 4294967296)) [69] [1,1,1,1,1,1,1,1,0] [0,0,0,0,0,0,0,0,0] (fun bb=>[(78,Bo (bb || (decide (Ha.wrap (q*4294967288) > Ha.wrap ((Ha.wrap (4294967296*r))+(WT lo))))))]) (Je (Jc (Jl ((decide (q ≥ 4294967296)) || (decide (Ha.wrap (q*4294967288) > Ha.wrap ((Ha.wrap (4294967296*r))+(WT lo))))) (fun h3=>?_) (fun h3=>?_))))))))
 refine Jq (Jc (Jy (Jg [0,0,0] [(15,U (Ha.wrap (q-1)))] (Jcm 15 (q-1) (by (have hm:=YT hI ‹_›;have:=hI.e;have:=hI.u1;have:=hI.r0;have:=hI.r1;omega)) (Jg [0,0,0,0] [(16,U (Ha.wrap (r+4294967295)))] (Jcm 16 (r+4294967295) (by (have hm:=YT hI ‹_›;have:=hI.e;have:=hI.u1;have:=hI.r0;have:=hI.r1;omega)) (Jg [0,0] [(85,Bo (decide (r+4294967295 ≥ 4294967296)))] (Jl (decide (r+4294967295 ≥ 4294967296)) (fun h4=>?_) (fun h4=>?_)))))))))
 refine KX (VF rfl (Kd (JS (Jc (Jg [0,0,0,0,0,0,0,0,0] [(17,U (Ha.wrap ((Ha.wrap ((Ha.wrap ((WH hi lo)*4294967296))+(WT lo)))-(Ha.wrap ((q-1)*18446744073709551608)))))] ?_)))))
 have e7:Ha.wrap ((Ha.wrap ((Ha.wrap ((WH hi lo)*4294967296))+(WT lo)))-(Ha.wrap ((q-1)*18446744073709551608)))=WD (WH hi lo) (WT lo) (q-1):=rfl
 refine QU 17 (U (WD (WH hi lo) (WT lo) (q-1))) (congrArg U e7) ?_
 clear e7
 refine Jg [0,0,0,0] [(18,U (Ha.wrap ((WD (WH hi lo) (WT lo) (q-1)).tdiv 4294967295)))] (Jg [0,0,0,0,0,0] [(16,U (Ha.wrap ((WD (WH hi lo) (WT lo) (q-1))-(Ha.wrap ((Ha.wrap ((WD (WH hi lo) (WT lo) (q-1)).tdiv 4294967295))*4294967295)))))] (Jf (Jy ?_)))
 have hD1:Dig (WH hi lo) (WT lo) (q-1):=by exact Jed hI ‹_› (by omega)
 have hb1:=Jfj hD1 (Jfk hx hy).1 (Jfl lo).1
 refine Qc (σ:=Int×Int) (fun s=>(JbA (WD (WH hi lo) (WT lo) (q-1)) (Z3 lo) s.1 s.2)) (fun s=>[(2,U 18446744073709551608),(8,U 3),(9,U 4294967295),(10,U 4294967288),(14,U (Z3 lo)),(15,U (q-1)),(16,U s.2),(17,U (WD (WH hi lo) (WT lo) (q-1))),(18,U s.1)]) (fun s=>G) (fun s=>[]) (fun s=>s.1.toNat) (Ha.wrap ((WD (WH hi lo) (WT lo) (q-1)).tdiv 4294967295),Ha.wrap (WD (WH hi lo) (WT lo) (q-1)-Ha.wrap (Ha.wrap ((WD (WH hi lo) (WT lo) (q-1)).tdiv 4294967295)*4294967295))) (Jec hb1.2 (JhV lo)) (fun s hs=>?_)
 obtain ⟨q2,r2⟩:=s
 have hJ:=hs
 dsimp only at hJ
 dsimp only
 refine Jf (Jf (Jd (Jb [0,0,0] [(104,Bo (decide (q2 ≥ 4294967296)))] (Ks (decide (q2 ≥ 4294967296)) [104] [1,1,1,1,1,1,1,1,0] [0,0,0,0,0,0,0,0,0] (fun bb=>[(113,Bo (bb || (decide (Ha.wrap (q2*4294967288) > Ha.wrap ((Ha.wrap (4294967296*r2))+(Z3 lo))))))]) (Je (Jc (Jl ((decide (q2 ≥ 4294967296)) || (decide (Ha.wrap (q2*4294967288) > Ha.wrap ((Ha.wrap (4294967296*r2))+(Z3 lo))))) (fun h5=>?_) (fun h5=>?_))))))))
 refine Jq (Jc (Jy (Jg [0,0,0] [(18,U (Ha.wrap (q2-1)))] (Jcm 18 (q2-1) (by (have hm:=YT hJ ‹_›;have:=hJ.e;have:=hJ.u1;have:=hJ.r0;have:=hJ.r1;omega)) (Jg [0,0,0,0] [(16,U (Ha.wrap (r2+4294967295)))] (Jcm 16 (r2+4294967295) (by (have hm:=YT hJ ‹_›;have:=hJ.e;have:=hJ.u1;have:=hJ.r0;have:=hJ.r1;omega)) (Jg [0,0] [(120,Bo (decide (r2+4294967295 ≥ 4294967296)))] (Jl (decide (r2+4294967295 ≥ 4294967296)) (fun h6=>?_) (fun h6=>?_)))))))))
 refine KX (VF rfl (Kd (JS (Jc (Jg [0,0,0,0,0,0,0,0,0,0,0,0,0,0,0,0] [(6,U (Ha.wrap ((Ha.wrap ((q-1)*4294967296))+(q2-1)))),(7,U ((Ha.wrap ((Ha.wrap ((Ha.wrap ((WD (WH hi lo) (WT lo) (q-1))*4294967296))+(Z3 lo)))-(Ha.wrap ((q2-1)*18446744073709551608)))).fdiv (2 ^ 3)))] ?_)))))
 have e8:Ha.wrap ((Ha.wrap ((Ha.wrap ((WD (WH hi lo) (WT lo) (q-1))*4294967296))+(Z3 lo)))-(Ha.wrap ((q2-1)*18446744073709551608)))=WD (WD (WH hi lo) (WT lo) (q-1)) (Z3 lo) (q2-1):=rfl
 refine QU 7 (U ((WD (WD (WH hi lo) (WT lo) (q-1)) (Z3 lo) (q2-1)).fdiv (2 ^ 3))) (show (U ((Ha.wrap ((Ha.wrap ((Ha.wrap ((WD (WH hi lo) (WT lo) (q-1))*4294967296))+(Z3 lo)))-(Ha.wrap ((q2-1)*18446744073709551608)))).fdiv (2 ^ 3)):Value)=U ((WD (WD (WH hi lo) (WT lo) (q-1)) (Z3 lo) (q2-1)).fdiv (2 ^ 3)) by simp only [e8]) ?_
 clear e8
 refine Jn (Jo [0,0] [U (Ha.wrap ((Ha.wrap ((q-1)*4294967296))+(q2-1))),U ((WD (WD (WH hi lo) (WT lo) (q-1)) (Z3 lo) (q2-1)).fdiv (2 ^ 3))] (Jx (Jh _) ?_))
 (have hD2:Dig _ _ _:=(by exact Jed hJ ‹_› (by omega));have he:=Jfm hx hy hD1 hD2;exact congr (congrArg (fun a b=>Value.tuple #[U a,U b]) he.1) he.2)
 exact Jq (JM (Qh (q2-1,r2+4294967295) (JfN hJ ‹_› J4) (by dsimp only;have:=(YT hJ ‹_›).1;omega)))
 refine KX (J1 (Kd (JS (Jc (Jg [0,0,0,0,0,0,0,0,0,0,0,0,0,0,0,0] [(6,U (Ha.wrap ((Ha.wrap ((q-1)*4294967296))+q2))),(7,U ((Ha.wrap ((Ha.wrap ((Ha.wrap ((WD (WH hi lo) (WT lo) (q-1))*4294967296))+(Z3 lo)))-(Ha.wrap (q2*18446744073709551608)))).fdiv (2 ^ 3)))] ?_)))))
 have e9:Ha.wrap ((Ha.wrap ((Ha.wrap ((WD (WH hi lo) (WT lo) (q-1))*4294967296))+(Z3 lo)))-(Ha.wrap (q2*18446744073709551608)))=WD (WD (WH hi lo) (WT lo) (q-1)) (Z3 lo) q2:=rfl
 refine QU 7 (U ((WD (WD (WH hi lo) (WT lo) (q-1)) (Z3 lo) q2).fdiv (2 ^ 3))) (show (U ((Ha.wrap ((Ha.wrap ((Ha.wrap ((WD (WH hi lo) (WT lo) (q-1))*4294967296))+(Z3 lo)))-(Ha.wrap (q2*18446744073709551608)))).fdiv (2 ^ 3)):Value)=U ((WD (WD (WH hi lo) (WT lo) (q-1)) (Z3 lo) q2).fdiv (2 ^ 3)) by simp only [e9]) ?_
 clear e9
 refine Jn (Jo [0,0] [U (Ha.wrap ((Ha.wrap ((q-1)*4294967296))+q2)),U ((WD (WD (WH hi lo) (WT lo) (q-1)) (Z3 lo) q2).fdiv (2 ^ 3))] (Jx (Jh _) ?_))
 (have hD2:Dig _ _ _:=(by exact JfO hJ ‹_›);have he:=Jfm hx hy hD1 hD2;exact congr (congrArg (fun a b=>Value.tuple #[U a,U b]) he.1) he.2)
 exact Jq (JM (Qh (q-1,r+4294967295) (JfN hI ‹_› J4) (by dsimp only;have:=(YT hI ‹_›).1;omega)))
 refine KX (J1 (Kd (JS (Jc (Jg [0,0,0,0,0,0,0,0,0] [(17,U (Ha.wrap ((Ha.wrap ((Ha.wrap ((WH hi lo)*4294967296))+(WT lo)))-(Ha.wrap (q*18446744073709551608)))))] ?_)))))
 have e10:Ha.wrap ((Ha.wrap ((Ha.wrap ((WH hi lo)*4294967296))+(WT lo)))-(Ha.wrap (q*18446744073709551608)))=WD (WH hi lo) (WT lo) q:=rfl
 refine QU 17 (U (WD (WH hi lo) (WT lo) q)) (congrArg U e10) ?_
 clear e10
 refine Jg [0,0,0,0] [(18,U (Ha.wrap ((WD (WH hi lo) (WT lo) q).tdiv 4294967295)))] (Jg [0,0,0,0,0,0] [(16,U (Ha.wrap ((WD (WH hi lo) (WT lo) q)-(Ha.wrap ((Ha.wrap ((WD (WH hi lo) (WT lo) q).tdiv 4294967295))*4294967295)))))] (Jf (Jy ?_)))
 have hD1:Dig (WH hi lo) (WT lo) q:=by exact JfO hI ‹_›
 have hb1:=Jfj hD1 (Jfk hx hy).1 (Jfl lo).1
 refine Qc (σ:=Int×Int) (fun s=>(JbA (WD (WH hi lo) (WT lo) q) (Z3 lo) s.1 s.2)) (fun s=>[(2,U 18446744073709551608),(8,U 3),(9,U 4294967295),(10,U 4294967288),(14,U (Z3 lo)),(15,U q),(16,U s.2),(17,U (WD (WH hi lo) (WT lo) q)),(18,U s.1)]) (fun s=>G) (fun s=>[]) (fun s=>s.1.toNat) (Ha.wrap ((WD (WH hi lo) (WT lo) q).tdiv 4294967295),Ha.wrap (WD (WH hi lo) (WT lo) q-Ha.wrap (Ha.wrap ((WD (WH hi lo) (WT lo) q).tdiv 4294967295)*4294967295))) (Jec hb1.2 (JhV lo)) (fun s hs=>?_)
 obtain ⟨q2,r2⟩:=s
 have hJ:=hs
 dsimp only at hJ
 dsimp only
 refine Jf (Jf (Jd (Jb [0,0,0] [(104,Bo (decide (q2 ≥ 4294967296)))] (Ks (decide (q2 ≥ 4294967296)) [104] [1,1,1,1,1,1,1,1,0] [0,0,0,0,0,0,0,0,0] (fun bb=>[(113,Bo (bb || (decide (Ha.wrap (q2*4294967288) > Ha.wrap ((Ha.wrap (4294967296*r2))+(Z3 lo))))))]) (Je (Jc (Jl ((decide (q2 ≥ 4294967296)) || (decide (Ha.wrap (q2*4294967288) > Ha.wrap ((Ha.wrap (4294967296*r2))+(Z3 lo))))) (fun h7=>?_) (fun h7=>?_))))))))
 refine Jq (Jc (Jy (Jg [0,0,0] [(18,U (Ha.wrap (q2-1)))] (Jcm 18 (q2-1) (by (have hm:=YT hJ ‹_›;have:=hJ.e;have:=hJ.u1;have:=hJ.r0;have:=hJ.r1;omega)) (Jg [0,0,0,0] [(16,U (Ha.wrap (r2+4294967295)))] (Jcm 16 (r2+4294967295) (by (have hm:=YT hJ ‹_›;have:=hJ.e;have:=hJ.u1;have:=hJ.r0;have:=hJ.r1;omega)) (Jg [0,0] [(120,Bo (decide (r2+4294967295 ≥ 4294967296)))] (Jl (decide (r2+4294967295 ≥ 4294967296)) (fun h8=>?_) (fun h8=>?_)))))))))
 refine KX (VF rfl (Kd (JS (Jc (Jg [0,0,0,0,0,0,0,0,0,0,0,0,0,0,0,0] [(6,U (Ha.wrap ((Ha.wrap (q*4294967296))+(q2-1)))),(7,U ((Ha.wrap ((Ha.wrap ((Ha.wrap ((WD (WH hi lo) (WT lo) q)*4294967296))+(Z3 lo)))-(Ha.wrap ((q2-1)*18446744073709551608)))).fdiv (2 ^ 3)))] ?_)))))
 have e11:Ha.wrap ((Ha.wrap ((Ha.wrap ((WD (WH hi lo) (WT lo) q)*4294967296))+(Z3 lo)))-(Ha.wrap ((q2-1)*18446744073709551608)))=WD (WD (WH hi lo) (WT lo) q) (Z3 lo) (q2-1):=rfl
 refine QU 7 (U ((WD (WD (WH hi lo) (WT lo) q) (Z3 lo) (q2-1)).fdiv (2 ^ 3))) (show (U ((Ha.wrap ((Ha.wrap ((Ha.wrap ((WD (WH hi lo) (WT lo) q)*4294967296))+(Z3 lo)))-(Ha.wrap ((q2-1)*18446744073709551608)))).fdiv (2 ^ 3)):Value)=U ((WD (WD (WH hi lo) (WT lo) q) (Z3 lo) (q2-1)).fdiv (2 ^ 3)) by simp only [e11]) ?_
 clear e11
 refine Jn (Jo [0,0] [U (Ha.wrap ((Ha.wrap (q*4294967296))+(q2-1))),U ((WD (WD (WH hi lo) (WT lo) q) (Z3 lo) (q2-1)).fdiv (2 ^ 3))] (Jx (Jh _) ?_))
 (have hD2:Dig _ _ _:=(by exact Jed hJ ‹_› (by omega));have he:=Jfm hx hy hD1 hD2;exact congr (congrArg (fun a b=>Value.tuple #[U a,U b]) he.1) he.2)
 exact Jq (JM (Qh (q2-1,r2+4294967295) (JfN hJ ‹_› J4) (by dsimp only;have:=(YT hJ ‹_›).1;omega)))
 refine KX (J1 (Kd (JS (Jc (Jg [0,0,0,0,0,0,0,0,0,0,0,0,0,0,0,0] [(6,U (Ha.wrap ((Ha.wrap (q*4294967296))+q2))),(7,U ((Ha.wrap ((Ha.wrap ((Ha.wrap ((WD (WH hi lo) (WT lo) q)*4294967296))+(Z3 lo)))-(Ha.wrap (q2*18446744073709551608)))).fdiv (2 ^ 3)))] ?_)))))
 have e12:Ha.wrap ((Ha.wrap ((Ha.wrap ((WD (WH hi lo) (WT lo) q)*4294967296))+(Z3 lo)))-(Ha.wrap (q2*18446744073709551608)))=WD (WD (WH hi lo) (WT lo) q) (Z3 lo) q2:=rfl
 refine QU 7 (U ((WD (WD (WH hi lo) (WT lo) q) (Z3 lo) q2).fdiv (2 ^ 3))) (show (U ((Ha.wrap ((Ha.wrap ((Ha.wrap ((WD (WH hi lo) (WT lo) q)*4294967296))+(Z3 lo)))-(Ha.wrap (q2*18446744073709551608)))).fdiv (2 ^ 3)):Value)=U ((WD (WD (WH hi lo) (WT lo) q) (Z3 lo) q2).fdiv (2 ^ 3)) by simp only [e12]) ?_
 clear e12
 refine Jn (Jo [0,0] [U (Ha.wrap ((Ha.wrap (q*4294967296))+q2)),U ((WD (WD (WH hi lo) (WT lo) q) (Z3 lo) q2).fdiv (2 ^ 3))] (Jx (Jh _) ?_))
 (have hD2:Dig _ _ _:=(by exact JfO hJ ‹_›);have he:=Jfm hx hy hD1 hD2;exact congr (congrArg (fun a b=>Value.tuple #[U a,U b]) he.1) he.2)
theorem Jmr (hi lo:Int) (hx:rU hi) (hy:rU lo) (G:J5):VC Tryz.prog 129 #[U hi,U lo,U 2305843009213693951] G [] (fun u G' L'=>u=U ((hi*18446744073709551616+lo) % 2305843009213693951)):=by
 refine JP Tryz.func129 19 [(0,U hi),(1,U lo),(2,U 2305843009213693951)] rfl (fun w0 G0=>?_)
 refine Jg [0] [] (Jf (Jd (Jb [0,0,0,0,0] [(12,U ((hi).tmod 2305843009213693951)),(13,U lo),(14,U 2305843009213693951)] ?_)))
 have e1:(hi).tmod 2305843009213693951=hi % 2305843009213693951:=HU _ _ (by omega)
 refine Kv 12 (U (hi % 2305843009213693951)) (congrArg U e1) ?_
 clear e1
 exact Jm 15 (.tuple #[U (((hi % 2305843009213693951)*18446744073709551616+lo) / 2305843009213693951),U (((hi % 2305843009213693951)*18446744073709551616+lo) % 2305843009213693951)]) (Jmq (hi % 2305843009213693951) lo J4 J4 G) (Jb [0,0,0,0,0] [(8,U (((hi % 2305843009213693951)*18446744073709551616+lo) % 2305843009213693951))] (Je (Jc (Jg [0,0] [(6,U (((hi % 2305843009213693951)*18446744073709551616+lo) % 2305843009213693951))] (Jn (Jo [0] [U (((hi % 2305843009213693951)*18446744073709551616+lo) % 2305843009213693951)] (Jx (Jh _) (congrArg U J4))))))))
theorem Jms (a b:Int) (hx:rU a) (hy:rU b) (G:J5):VC Tryz.prog 75 #[U a,U b] G [] (fun u G' L'=>u=U (WO a b)):=by
 refine JP Tryz.func75 16 [(0,U a),(1,U b)] rfl (fun w0 G0=>?_)
 exact Jg [0] [] (Jf (Jd (Jb [0,0] [(8,U a),(9,U b)] (Jm 10 (.tuple #[U (a*b / 18446744073709551616),U (a*b % 18446744073709551616)]) (Jhl a b J4 J4 G) (Jb [0,0,0,0,0] [(5,U (a*b / 18446744073709551616)),(6,U (a*b % 18446744073709551616))] (Je (Jc (Jf (Jd (Jb [0,0] [(13,U (a*b / 18446744073709551616)),(14,U (a*b % 18446744073709551616))] (Jm 15 (U (((a*b / 18446744073709551616)*18446744073709551616+(a*b % 18446744073709551616)) % 2305843009213693951)) (Jmr (a*b / 18446744073709551616) (a*b % 18446744073709551616) (by exact Jmn J4 J4) J4 G) (Jb [0] [(4,U (((a*b / 18446744073709551616)*18446744073709551616+(a*b % 18446744073709551616)) % 2305843009213693951))] (Je (Jc (Jn (Jo [0] [U (((a*b / 18446744073709551616)*18446744073709551616+(a*b % 18446744073709551616)) % 2305843009213693951)] (Jx (Jh _) (congrArg U (by unfold WO;omega)))))))))))))))))))
def Qo (k a b:Int):Bb:=(([k]:List Int).map (fun n=>He n.toNat)++K0 a)++K0 b
theorem ZZ (k a b:Int):(Qo k a b).length=17:=by simp [Qo]
theorem Ya (l:Bb) (hl:l.length≤140737488355328) (G:J5):VC Tryz.prog 44 #[Sr l] G [] (fun u G' L'=>u=U (Ji l)):=by
 refine JP Tryz.func44 21 [(0,Sr l)] rfl (fun w0 G0=>?_)
 refine Jg [0] [] (Jg [0] [(3,U 1)] (Jf (Jg [0,0,0] [(6,I ((l).length:Int)),(7,I 0)] (Jy ?_))))
 refine Qc (σ:=Nat×Int) (fun s=>(s.1≤l.length)∧(0≤s.2∧s.2<2305843009213693951)∧(s.2=(l.take s.1).foldl JeK 1)) (fun s=>[(0,Sr l),(3,U s.2),(6,I ((l).length:Int)),(7,I (s.1:Int))]) (fun s=>G) (fun s=>[]) (fun s=>l.length-s.1) (0,1) (⟨Ho _,by omega,by simp⟩) (fun s hs=>?_)
 obtain ⟨i,m⟩:=s
 obtain ⟨hi,hb,hm⟩:=hs
 dsimp only at hi hb hm
 dsimp only
 refine Jg [0] [(8,Bo (decide ((i:Int)<((l).length:Int))))] (Jf (Jl (decide ((i:Int)<((l).length:Int))) (fun h1=>?_) (fun h1=>?_)))
 refine Jq (Jc (Jf (Jy (Jg [0,0] [(4,I (i:Int))] ?_))))
 obtain ⟨y1,hy1⟩:=QS (l:=l) (k:=i) (by omega)
 have e1:Ha.wrap (y1.toNat:Int)=(y1.toNat:Int):=HL _ (by (have:=Jcr m 1099511628211;have:=y1.toNat_lt;omega))
 have e2:Ha.wrap ((WO m 1099511628211)+(y1.toNat:Int))=(WO m 1099511628211)+(y1.toNat:Int):=HL _ (by (have:=Jcr m 1099511628211;have:=y1.toNat_lt;omega))
 have e3:Ha.wrap (((WO m 1099511628211)+(y1.toNat:Int))+1)=((WO m 1099511628211)+(y1.toNat:Int))+1:=HL _ (by (have:=Jcr m 1099511628211;have:=y1.toNat_lt;omega))
 have e4:(((WO m 1099511628211)+(y1.toNat:Int))+1).tmod 2305843009213693951=(((WO m 1099511628211)+(y1.toNat:Int))+1) % 2305843009213693951:=HU _ _ (by (have:=Jcr m 1099511628211;have:=y1.toNat_lt;omega))
 refine Kt [] (Wm [(0,U m),(1,U (WO m 1099511628211)),(2,Sr l),(3,I (i:Int)),(4,Y (y1.toNat:Int)),(5,U (y1.toNat:Int)),(6,U ((WO m 1099511628211)+(y1.toNat:Int))),(7,U (((WO m 1099511628211)+(y1.toNat:Int))+1)),(8,U ((((WO m 1099511628211)+(y1.toNat:Int))+1) % 2305843009213693951)),(9,U ((((WO m 1099511628211)+(y1.toNat:Int))+1) % 2305843009213693951))] (Kl [] [(0,0),(2,0),(3,0),(9,0)] [1,4,5,6,7,8] [(0,Sr l),(3,U ((((WO m 1099511628211)+(y1.toNat:Int))+1) % 2305843009213693951)),(6,I ((l).length:Int)),(7,I (i:Int))] (Kf ?_ (Kf ?_ (Kf ?_ (Kf ?_ (Kf ?_ (Kf ?_ KY)))))) ?_))
 refine Jr 1 11 (U (WO m 1099511628211)) [(10,U m)] (fun X=>?_)
 exact Jm 11 (U (WO m 1099511628211)) (Jms m 1099511628211 J4 J4 G) Jp
 refine Jr 4 14 (Y (y1.toNat:Int)) [(12,Sr l),(13,I (i:Int))] (fun X=>?_)
 exact Jbk (ik:=.i64) 14 i y1 hy1 Jp
 refine Jr 5 15 (U (y1.toNat:Int)) [(14,Y (y1.toNat:Int))] (fun X=>?_)
 exact K5 15 (U (Ha.wrap (y1.toNat:Int))) (U (y1.toNat:Int)) (by simp only [e1]) Jp
 refine Jr 6 16 (U ((WO m 1099511628211)+(y1.toNat:Int))) [(11,U (WO m 1099511628211)),(15,U (y1.toNat:Int))] (fun X=>?_)
 exact K5 16 (U (Ha.wrap ((WO m 1099511628211)+(y1.toNat:Int)))) (U ((WO m 1099511628211)+(y1.toNat:Int))) (by simp only [e2]) Jp
 refine Jr 7 17 (U (((WO m 1099511628211)+(y1.toNat:Int))+1)) [(16,U ((WO m 1099511628211)+(y1.toNat:Int)))] (fun X=>?_)
 exact K5 17 (U (Ha.wrap (((WO m 1099511628211)+(y1.toNat:Int))+1))) (U (((WO m 1099511628211)+(y1.toNat:Int))+1)) (by simp only [e3]) Jp
 refine Jr 8 18 (U ((((WO m 1099511628211)+(y1.toNat:Int))+1) % 2305843009213693951)) [(17,U (((WO m 1099511628211)+(y1.toNat:Int))+1))] (fun X=>?_)
 exact K5 18 (U ((((WO m 1099511628211)+(y1.toNat:Int))+1).tmod 2305843009213693951)) (U ((((WO m 1099511628211)+(y1.toNat:Int))+1) % 2305843009213693951)) (by simp only [e4]) Jp
 exact JM (Jc (Jd (Jb [0,0] [(7,I (Hk.wrap ((i:Int)+1)))] (Kp 7 ((i:Int)+1) J4 (Je (Qh (i+1,(((WO m 1099511628211)+(y1.toNat:Int))+1) % 2305843009213693951) (⟨by omega,by dsimp only;omega,by rw [hm];exact (Jkh (f:=JeK) hy1).symm⟩) (by dsimp only;omega)))))))
 exact KX (J1 (Kd (JS (Jc (Jg [0,0] [(2,U m)] (Jn (Jo [0] [U m] (Jx (Jh _) (congrArg U (by rw [hm,Hj (by omega)];rfl))))))))))
theorem JbB (k x y:Int) (G:J5):VC Tryz.prog 128 #[Y k,U x,U y] G [] (fun u G' L'=>u=Sr (Qo k x y)):=by
 refine JP Tryz.func128 16 [(0,Y k),(1,U x),(2,U y)] rfl (fun w0 G0=>?_)
 refine Jg [0] [] (Jf (Kt [1] (Wm [(0,Y k),(3,U x),(4,Sr (K0 x)),(6,U y),(7,Sr (K0 y))] (JF [] [(0,0),(3,0),(6,0)] [4,7] [1] (Kf ?_ (Kf ?_ KY)) (Kf ?_ KY)))))
 refine Jr 4 11 (Sr (K0 x)) [(10,U x)] (fun X=>?_)
 exact Jm 11 (Sr (K0 x)) (Yu x G) Jp
 refine Jr 7 14 (Sr (K0 y)) [(13,U y)] (fun X=>?_)
 exact Jm 14 (Sr (K0 y)) (Yu y G) Jp
 refine Jz 1 [(7,Y k)] (fun X=>?_)
 refine Km 8 1 #[Y k] 5 (fun b1=>JA [(1,Sl (At b1 0) 1 1),(2,Sr (([k]:List Int).map fun n=>He n.toNat)),(5,Sr ((([k]:List Int).map fun n=>He n.toNat)++(K0 x))),(8,Sr (((([k]:List Int).map fun n=>He n.toNat)++(K0 x))++(K0 y))),(9,Sr (((([k]:List Int).map fun n=>He n.toNat)++(K0 x))++(K0 y)))] (Kl [0] [(3,0),(6,0),(9,0)] [2,4,5,7,8] [(6,Sr (((([k]:List Int).map fun n=>He n.toNat)++(K0 x))++(K0 y)))] (Kf ?_ (Kf ?_ (Kf ?_ (Kf ?_ (Kf ?_ KY))))) ?_))
 refine Jr 2 9 (Sr (([k]:List Int).map fun n=>He n.toNat)) [(8,Sl (At b1 0) 1 1)] (fun X=>?_)
 exact Jbl (b:=b1) (off:=0) (len:=1) (cap:=1) (cs:=HY (Value.int .u8) [k]) 9 0 [k] rfl (Jau (ns:=[k]) rfl) Jp
 refine Jr 4 11 (Sr (K0 x)) [(10,U x)] (fun X=>?_)
 exact Jm 11 (Sr (K0 x)) (Yu x G) Jp
 refine Jr 5 12 (Sr ((([k]:List Int).map fun n=>He n.toNat)++(K0 x))) [(9,Sr (([k]:List Int).map fun n=>He n.toNat)),(11,Sr (K0 x))] (fun X=>?_)
 exact Z1 12 (([k]:List Int).map fun n=>He n.toNat) (K0 x) (by simp) Jp
 refine Jr 7 14 (Sr (K0 y)) [(13,U y)] (fun X=>?_)
 exact Jm 14 (Sr (K0 y)) (Yu y G) Jp
 refine Jr 8 15 (Sr (((([k]:List Int).map fun n=>He n.toNat)++(K0 x))++(K0 y))) [(12,Sr ((([k]:List Int).map fun n=>He n.toNat)++(K0 x))),(14,Sr (K0 y))] (fun X=>?_)
 exact Z1 15 ((([k]:List Int).map fun n=>He n.toNat)++(K0 x)) (K0 y) (by simp) Jp
 refine Jc (Jn (Jo [0] [Sr (((([k]:List Int).map fun n=>He n.toNat)++(K0 x))++(K0 y))] (Jx (Jh _) ?_)))
 rfl
theorem JiV (k x y:Int) (G:J5):VC Tryz.prog 241 #[Y k,U x,U y] G [] (fun u G' L'=>u=U (Ji (Qo k x y))):=by
 refine JP Tryz.func241 12 [(0,Y k),(1,U x),(2,U y)] rfl (fun w0 G0=>?_)
 refine Jg [0] [] (Jf (Jd (Jb [0,0,0] [(7,Y k),(8,U x),(9,U y)] (Jm 10 (Sr (Qo k x y)) (JbB k x y G) (Jm 11 (U (Ji (Qo k x y))) (Ya (Qo k x y) (by (simp [Qo];done)) G) (Jb [0] [(6,U (Ji (Qo k x y)))] (Je (Jc (Jn (Jo [0] [U (Ji (Qo k x y))] (Jx (Jh _) ?_)))))))))))
 rfl
def Vi (y:Int):UInt8:=He y.toNat
theorem u8w (x:Int):0≤Hc.wrap x∧Hc.wrap x<256:=by rw [JhT];omega
theorem Jn6 {y:Int} (h:0≤y∧y<256):y=((Vi y).toNat:Int):=by
 unfold Vi;rw [UInt8.toNat_ofNat'];omega
theorem Jmt {p:Int→Bool} {s:Bb} {pos:Nat} (hp:pos<s.length) (h:p ((Utf8.decode (B s) pos).1:Int)=false) :
  Jbz p s (s.length-(pos+(Utf8.decode (B s) pos).2)) (pos+(Utf8.decode (B s) pos).2)=Jbz p s (s.length-pos) pos:=by
 have hw:=JnJ s pos
 rw [Jln _ (s.length-pos-1) _ (by omega) (by omega)]
 obtain ⟨n,hn⟩:∃ n,s.length-pos=n+1:=⟨s.length-pos-1,by omega⟩
 rw [hn]
 show _=(if pos<s.length then (if p _ then (pos:Int) else Jbz p s n (pos+(Utf8.decode (B s) pos).2)) else -1)
 rw [if_pos hp,if_neg (by rw [h];simp)]
 rfl
theorem Jko {p:Int→Bool} {s:Bb} {pos:Nat} (hp:pos<s.length) (h:p ((Utf8.decode (B s) pos).1:Int)=true):Jbz p s (s.length-pos) pos=(pos:Int):=by
 obtain ⟨n,hn⟩:∃ n,s.length-pos=n+1:=⟨s.length-pos-1,by omega⟩
 rw [hn];unfold Jbz;rw [if_pos hp,if_pos h]
theorem Jn7 {p:Int→Bool} {s:Bb} {n pos:Nat} (hp:¬ pos<s.length):Jbz p s n pos=-1:=by
 cases n with
 | zero=>rfl
 | succ n=>unfold Jbz;rw [if_neg hp]
def VH (s:Bb) (p:Int→Bool) (t:Bool):Int:=Jbz (fun r=>p r == t) s s.length 0
def V9 (s:Bb) (p:Int→Bool):Int:=VH s p true
def JbC (s:Bb) (p:Int→Bool):Bool:=decide (V9 s p ≥ 0)
theorem Jkp {s:Bb} {p:Int→Bool} (hp:∀ r:Int,128≤r→p r=true):JbC s p=s.any fun b=>p (b.toNat:Int):=by
 unfold JbC V9 VH
 have:=JiJ (p:=fun r=>p r == true) (fun r h=>by simp [hp r h]) (l:=s) s.length 0 (by omega)
 simpa using this
def JbU (r:Int):Bool:=decide (97≤r∧r≤122) || decide (48≤r∧r≤57)
def VZ (r:Int):Bool:=!JbU r
def KS (s:Bb):Bool:=decide (1≤s.length) && decide (s.length≤12) && !JbC s VZ
theorem JhX {s:Bb}:KS s=true ↔ 1≤s.length∧s.length≤12∧∀ b∈s,JbU (b.toNat:Int)=true:=by
 unfold KS
 rw [Jkp (fun r h=>by unfold VZ JbU;simp;omega)]
 simp [VZ,and_assoc]
def putC (p:Bb):Bb:=Vi (Hc.wrap ((p.length:Int).fdiv (2 ^ 8)))::Vi (Hc.wrap (p.length:Int))::p
def JgF (l:Bs):Bb:=(l.map putC).flatten
def Jdv:Nat→Bs→Bool
 | _,[]=>true
 | n,p::l=>decide (n+2+p.length≤600) && Jdv (n+2+p.length) l
theorem Jmu {l:Bs} {i:Nat} {x:Bb} (h:l[i]? = some x):((JgF (l.take i)++[Vi (Hc.wrap ((x.length:Int).fdiv (2 ^ 8)))])++[Vi (Hc.wrap (x.length:Int))])++x=JgF (l.take (i+1)):=by
 rw [HB,h];simp [JgF,putC]
theorem Jkq {l:Bs} {i n:Nat} {x:Bb} (h:l[i]? = some x) (hn:n+2+x.length≤600):Jdv n (l.drop i)=Jdv (((n+1)+1)+x.length) (l.drop (i+1)):=by
 obtain ⟨hi,rfl⟩:=Hh.1 h
 rw [Hp hi]
 show (decide _ && _)=_
 rw [decide_eq_true hn];rfl
theorem Jn8 {l:Bs} {i n:Nat} {x:Bb} (h:l[i]? = some x) (hn:600<n+2+x.length):Jdv n (l.drop i)=false:=by
 obtain ⟨hi,rfl⟩:=Hh.1 h
 rw [Hp hi]
 show (decide _ && _)=_
 rw [decide_eq_false (by omega)];rfl
def VQ (l:Bs):Bb×Int:=if 60<l.length then ([],2) else if Jdv 0 l then (JgF l,0) else ([],2)
theorem Jhm (G:J5) (b:Nat) (A:Value) (a:Ba) (n c:Nat) (hA:A=.pointer none∨A=Pt b 0):JfI Tryz.prog 144 #[Pt b 0] G [[Vm 165 b 0 [A,Sl a n c]]] (fun u G' L'=>u=.tuple #[]∧L'=[[Vm 165 b 0 [Pt b 0,Sl a n c]]]):=by
 rcases hA with rfl | rfl
 intro Lr
 refine JP Tryz.func144 20 [(0,Pt b 0)] rfl (fun w0 G0=>?_)
 show TC _ _ _ _ _ ([Vm 165 b 0 [.pointer none,Sl a n c]]::Lr)
 refine Jg [0,0,0,2,0] [(6,Bo true)] (J0 (Jd (Jb [0,0] [(7,Pt b 0),(8,Pt b 0)] ?_)))
 refine JiI (cs:=[.pointer none,Sl a n c]) 9 0 165 165 true ?_
 refine JnI (f:=197) (args:=#[Pt b 0]) 10 (Pt b 0) (fun w=>by rw [run_callFunc_extern (e:=Extern.AbiNoEscape.same) Tryz.func197 (by kernel_rfl) (by kernel_rfl) (by kernel_rfl) (by kernel_rfl)];rfl) ?_
 refine JiI (cs:=[.pointer none,Sl a n c]) 11 0 165 165 false ?_
 exact JW [0,0,3] [] ([Vm 165 b 0 [Pt b 0,Sl a n c]]::Lr) (Je (ZW [] [] (KB (Lr:=Lr) [[Vm 165 b 0 [Pt b 0,Sl a n c]]] (Jh _) (⟨rfl,rfl⟩))))
 intro Lr
 refine JP Tryz.func144 20 [(0,Pt b 0)] rfl (fun w0 G0=>?_)
 show TC _ _ _ _ _ ([Vm 165 b 0 [Pt b 0,Sl a n c]]::Lr)
 exact Jg [0,0,0,2,0] [(6,Bo false)] (Qr (Jf (Jd (Jb [0,0,0,2,0] [(17,Pt b 0),(18,Pt b 0)] (Jkb 19 (b:=b) (o':=0) (eq:=false) (Je (Jc (Qr (Jq (ZW [] [] (KB (Lr:=Lr) [[Vm 165 b 0 [Pt b 0,Sl a n c]]] (Jh _) (⟨rfl,rfl⟩))))))))))))
theorem Jn9 (G:J5) (b:Nat) (A:Value) (a:Ba) (c:Nat) (l:Bb) (r:Bg) (hb:Jby 5 a c l r) (hA:A=.pointer none∨A=Pt b 0):JfI Tryz.prog 245 #[Pt b 0] G [[Vm 165 b 0 [A,Sl a l.length c]],r] (fun u G' L'=>u=I (l.length:Int)∧L'=[[Vm 165 b 0 [A,Sl a l.length c]],r]):=by
 intro Lr
 refine JP Tryz.func245 8 [(0,Pt b 0)] rfl (fun w0 G0=>?_)
 show TC _ _ _ _ _ ([Vm 165 b 0 [A,Sl a l.length c]]::r::Lr)
 exact Jg [0] [] (Jg [0,0,0,2,0,0] [(2,I (l.length:Int))] (Jn (Jo [0] [I (l.length:Int)] (KB (Lr:=Lr) [[Vm 165 b 0 [A,Sl a l.length c]],r] (Jh _) (⟨rfl,rfl⟩)))))
theorem Jb2 (G:J5) (b:Nat) (A:Value) (a:Ba) (c:Nat) (l:Bb) (r:Bg) (hb:Jby 5 a c l r) (hA:A=.pointer none∨A=Pt b 0) (y:Int) (hy:0≤y∧y<256) (hl:l.length+1≤140737488355328):JfI Tryz.prog 246 #[Pt b 0,Y y] G [[Vm 165 b 0 [A,Sl a l.length c]],r] (fun u G' L'=>∃ a' c' r',u=.nilIface∧Jby 5 a' c' (l++[Vi y]) r'∧L'=[[Vm 165 b 0 [Pt b 0,Sl a' (l++[Vi y]).length c']],r']):=by
 intro Lr
 refine JP Tryz.func246 17 [(0,Pt b 0),(1,Y y)] rfl (fun w0 G0=>?_)
 show TC _ _ _ _ _ ([Vm 165 b 0 [A,Sl a l.length c]]::r::Lr)
 refine Jg [0] [] (Jf (Jd (Jb [0] [(5,Pt b 0)] (Jw 0 (Qi (Ls:=[[Vm 165 b 0 [A,Sl a l.length c]]]) (Lr:=(r::Lr)) 6 (Jhm G b A a l.length c hA) (fun v G1 L1 hl1 hp=>?_))))))
 obtain ⟨rfl,rfl⟩:=hp
 exact Je (Jc (Jf (Jd (Jb [0,0,0,0,2,0] [(7,Pt b 0),(11,Sl a l.length c),(12,Y y)] (Km 13 1 #[Y y] 5 (fun b1=>Jmf (b:=b1) 14 5 2 0 (Vi y) y (Jn6 ‹_›) hb J4 (fun a1 c1 r1 hb1=>JW [0,0,5] [] ([Sg b1 0 [Y y]]::[Vm 165 b 0 [Pt b 0,Sl a1 ((l++[Vi y]).length) c1]]::r1::Lr) (Je (Jc (Jg [0] [(4,.nilIface)] (Jn (Jo [0] [.nilIface] (KB (Lr:=Lr) [[Vm 165 b 0 [Pt b 0,Sl a1 ((l++[Vi y]).length) c1]],r1] hl1 (⟨a1,c1,r1,rfl,hb1,rfl⟩))))))))))))))
theorem Jef (G:J5) (b:Nat) (A:Value) (a:Ba) (c:Nat) (l:Bb) (r:Bg) (hb:Jby 5 a c l r) (hA:A=.pointer none∨A=Pt b 0) (s:Bb) (hl:l.length+s.length≤140737488355328):JfI Tryz.prog 91 #[Pt b 0,Sr s] G [[Vm 165 b 0 [A,Sl a l.length c]],r] (fun u G' L'=>∃ a' c' r',u=.tuple #[I (s.length:Int),.nilIface]∧Jby 5 a' c' (l++s) r'∧L'=[[Vm 165 b 0 [Pt b 0,Sl a' (l++s).length c']],r']):=by
 intro Lr
 refine JP Tryz.func91 19 [(0,Pt b 0),(1,Sr s)] rfl (fun w0 G0=>?_)
 show TC _ _ _ _ _ ([Vm 165 b 0 [A,Sl a l.length c]]::r::Lr)
 refine Jg [0,0] [] (Jf (Jd (Jb [0] [(6,Pt b 0)] (Jw 0 (Qi (Ls:=[[Vm 165 b 0 [A,Sl a l.length c]]]) (Lr:=(r::Lr)) 7 (Jhm G b A a l.length c hA) (fun v G1 L1 hl1 hp=>?_))))))
 obtain ⟨rfl,rfl⟩:=hp
 exact Je (Jc (Jf (Jd (Jb [0,0,0,0,2,0] [(8,Pt b 0),(12,Sl a l.length c),(13,Sr s)] (Jme (s:=s) 14 5 1 hb J4 (fun a1 c1 r1 hb1=>JW [0,0,3] [] ([Vm 165 b 0 [Pt b 0,Sl a1 ((l++s).length) c1]]::r1::Lr) (Je (Jc (Jg [0,0,0,0] [(4,I ((s).length:Int)),(5,.nilIface)] (Jn (Jo [0,0] [I ((s).length:Int),.nilIface] (KB (Lr:=Lr) [[Vm 165 b 0 [Pt b 0,Sl a1 ((l++s).length) c1]],r1] hl1 (⟨a1,c1,r1,rfl,hb1,rfl⟩)))))))))))))
theorem JiW (G:J5) (b:Nat) (A:Value) (a:Ba) (c:Nat) (l:Bb) (r:Bg) (hb:Jby 5 a c l r) (hA:A=.pointer none∨A=Pt b 0):JfI Tryz.prog 92 #[Pt b 0] G [[Vm 165 b 0 [A,Sl a l.length c]],r] (fun u G' L'=>u=Sr l∧L'=[[Vm 165 b 0 [A,Sl a l.length c]],[]]):=by
 intro Lr
 refine JP Tryz.func92 14 [(0,Pt b 0)] rfl (fun w0 G0=>?_)
 show TC _ _ _ _ _ ([Vm 165 b 0 [A,Sl a l.length c]]::r::Lr)
 refine Jg [0] [] (Jf (Kt [10] (Wm [(0,Pt b 0),(1,Pt b 0),(2,Pt b 1),(3,Sl a l.length c),(4,Jhe a),(5,Pt b 0),(6,Pt b 0),(7,Pt b 1),(8,Sl a l.length c),(9,I (l.length:Int))] (JF [] [(0,0),(1,0),(2,0),(3,2),(5,0),(6,0),(7,0),(8,2),(9,0)] [4] [10] (Kf ?_ KY) (Kf ?_ KY)))))
 refine Jr 4 7 (Jhe a) [(6,Sl a l.length c)] (fun X=>?_)
 exact JnE 7 hb Jp
 refine Jz 10 [(7,Jhe a),(12,I (l.length:Int))] (fun X=>?_)
 exact Jmg (e:=5) 13 1 hb (JA [(10,Sr l),(11,Sr l)] (Kl [0,1,2,3,4,5,6,7,8,9] [(11,0)] [] [(2,Sr l)] (Hf _) (Jc (Jn (Jo [0] [Sr l] (KB (Lr:=Lr) [[Vm 165 b 0 [A,Sl a l.length c]],[]] (Jh _) (⟨rfl,rfl⟩)))))))
theorem JiX (G:J5) (s:Bb) (k_f:FuncId) (caps_f:Array Value) (p_f:Int→Bool) (hk_f:JaV Tryz.prog k_f) (h_f:∀ (x0:Int),VC Tryz.prog k_f (#[.int .i32 x0]++caps_f) G [] (fun u _ _=>u=Bo (p_f x0))) (t:Bool) :QZ 202 #[Sr s,Fv k_f caps_f,Bo t] G (I (VH s p_f t)):=by
 refine JP Tryz.func202 21 [(0,Sr s),(1,Fv k_f caps_f),(2,Bo t)] rfl (fun w0 G0=>?_)
 refine Jg [0] [] (Jf (Jf (Jd (Jb [0] [(9,Sr s)] (Jka (l:=s) 10 (fun b1=>Je (Jc (Jy ?_))))))))
 refine Qc (σ:=Nat) (fun q_=>(Jbz (fun r=>p_f r == t) s (s.length-q_) q_=Jbz (fun r=>p_f r == t) s s.length 0)) (fun q_=>[(1,Fv k_f caps_f),(2,Bo t),(10,Pt b1 0)]) (fun q_=>G) (fun q_=>[[Ob b1 (.stringIter (B s) q_)]]) (fun q_=>s.length-q_) 0 rfl (fun q_ hs=>?_)
 revert hs;revert q_;intro pos hs
 have hn:=hs
 dsimp only
 refine Jf (Jd (Jmh (b:=b1) (pos:=pos) (l:=s) 11 0 (fun hp1=>?_) (fun hp1=>?_)))
 refine Jb [0] [(12,Bo true)] (Je (Jc (Jf (J0 (Jq (Jc (Jy (Jg [0,0,0,0] [(7,I (pos:Int)),(8,.int .i32 ((Utf8.decode (B s) pos).1:Int))] (Jf (Jd (Jb [0,0] [(15,Fv k_f caps_f),(16,.int .i32 ((Utf8.decode (B s) pos).1:Int))] (ZP (k:=k_f) (caps:=caps_f) (args:=#[.int .i32 ((Utf8.decode (B s) pos).1:Int)]) 17 (Bo (p_f ((Utf8.decode (B s) pos).1:Int))) hk_f (h_f ((Utf8.decode (B s) pos).1:Int)) (Jb [0,0] [(19,Bo ((p_f ((Utf8.decode (B s) pos).1:Int)) == t))] (Je (Jc (Jl ((p_f ((Utf8.decode (B s) pos).1:Int)) == t) (fun h1=>?_) (fun h1=>?_)))))))))))))))))
 refine Jg [0,0] [(6,I (pos:Int))] (Jn (Ju (QV (Ju (Jj (Jo [0] [I (pos:Int)] (Jx (Jh _) (congrArg I (?_:(VH s p_f t)=(pos:Int)).symm))))))))
 unfold VH;rw [← hn];exact Jko (p:=(fun r=>p_f r == t)) hp1 (by simpa using h1)
 exact Jq (JM (Qh (pos+(Utf8.decode (B s) pos).2) (by rw [← hn];exact Jmt (p:=(fun r=>p_f r == t)) hp1 (by simpa using h1)) (by have:=JnJ s pos;(try dsimp only);omega)))
 refine Jb [0] [(12,Bo false)] (Je (Jc (Jf (Qr (KX (J1 (Kd (JS (Jc (Jg [0] [(6,I (-1))] (Jn (Jo [0] [I (-1)] (Jx (Jh _) (congrArg I (?_:(VH s p_f t)=(-1)).symm))))))))))))))
 unfold VH;rw [← hn];exact Jn7 hp1
theorem JhY (G:J5) (s:Bb) (k_f:FuncId) (caps_f:Array Value) (p_f:Int→Bool) (hk_f:JaV Tryz.prog k_f) (h_f:∀ (x0:Int),VC Tryz.prog k_f (#[.int .i32 x0]++caps_f) G [] (fun u _ _=>u=Bo (p_f x0))) :QZ 147 #[Sr s,Fv k_f caps_f] G (I (V9 s p_f)):=by
 refine JP Tryz.func147 8 [(0,Sr s),(1,Fv k_f caps_f)] rfl (fun w0 G0=>?_)
 refine Jg [0] [] (Jf (Jd (Jb [0,0] [(5,Sr s),(6,Fv k_f caps_f)] (Jm 7 (I (VH s p_f true)) (JiX G s k_f caps_f p_f hk_f h_f true) (Jb [0] [(4,I (VH s p_f true))] (Je (Jc (Jn (Jo [0] [I (VH s p_f true)] (Jx (Jh _) (congrArg I (?_:(V9 s p_f)=(VH s p_f true)).symm)))))))))))
 rfl
theorem Jkr (G:J5) (s:Bb) (k_f:FuncId) (caps_f:Array Value) (p_f:Int→Bool) (hk_f:JaV Tryz.prog k_f) (h_f:∀ (x0:Int),VC Tryz.prog k_f (#[.int .i32 x0]++caps_f) G [] (fun u _ _=>u=Bo (p_f x0))) :QZ 98 #[Sr s,Fv k_f caps_f] G (Bo (JbC s p_f)):=by
 refine JP Tryz.func98 9 [(0,Sr s),(1,Fv k_f caps_f)] rfl (fun w0 G0=>?_)
 refine Jg [0] [] (Jf (Jd (Jb [0,0] [(5,Sr s),(6,Fv k_f caps_f)] (Jm 7 (I (V9 s p_f)) (JhY G s k_f caps_f p_f hk_f h_f) (Jb [0,0] [(4,Bo (decide (V9 s p_f ≥ 0)))] (Je (Jc (Jn (Jo [0] [Bo (decide (V9 s p_f ≥ 0))] (Jx (Jh _) (congrArg Bo (?_:(JbC s p_f)=(decide (V9 s p_f ≥ 0))).symm)))))))))))
 rfl
theorem Jmv (G:J5) (r:Int) :QZ 97 #[.int .i32 r] G (Bo (JbU r)):=by
 refine JP Tryz.func97 17 [(0,.int .i32 r)] rfl (fun w0 G0=>?_)
 refine Jg [0] [] (Jf (Jd (Jb [0,0,0] [(5,Bo (decide (r ≥ 97)))] (Ks (decide (r ≥ 97)) [5] [0,0,0] [1,1,0] (fun bb=>[(8,Bo (bb && (decide (r≤122))))]) (Jb [0] [(9,Bo ((decide (r ≥ 97)) && (decide (r≤122))))] (QR [9] ((decide (r ≥ 97)) && (decide (r≤122))) (fun h1=>?_) (fun h1=>?_)))))))
 refine Jb [1,1,1,1,1,1,0,0] [(2,Bo true)] (Je (Jc (Jn (Jo [0] [Bo true] (Jx (Jh _) (congrArg Bo (?_:(JbU r)=true).symm))))))
 rw [Bool.eq_iff_iff];unfold JbU;simp;omega
 refine Jb [0,0,0] [(12,Bo (decide (r ≥ 48)))] (Ks (decide (r ≥ 48)) [12] [0,0,0] [1,1,0] (fun bb=>[(15,Bo (bb && (decide (r≤57))))]) (Jb [0,0] [(2,Bo ((decide (r ≥ 48)) && (decide (r≤57))))] (Je (Jc (Jn (Jo [0] [Bo ((decide (r ≥ 48)) && (decide (r≤57)))] (Jx (Jh _) (congrArg Bo (?_:(JbU r)=((decide (r ≥ 48)) && (decide (r≤57)))).symm))))))))
 rw [Bool.eq_iff_iff];unfold JbU;simp;omega
theorem JiY (G:J5) (r:Int) (b_i:Nat) (hz_i:∀ j v,([Fv 97 #[]]:Bv)[j]? = some v→G b_i (0+j)=some v) :QZ 99 #[.int .i32 r,Pt b_i 0] G (Bo (VZ r)):=by
 refine JP Tryz.func99 8 [(0,.int .i32 r),(1,Pt b_i 0)] rfl (fun w0 G0=>?_)
 refine Jg [0] [] (Jf (Jd (JO (o':=0) 4 178 (cs:=[Fv 97 #[]]) 0 (Fv 97 #[]) hz_i (Jb [0] [(5,.int .i32 r)] (Jm 6 (Bo (JbU r)) (Jmv G r) (Jb [0,0] [(3,Bo (!(JbU r)))] (Je (Jc (Jn (Jo [0] [Bo (!(JbU r))] (Jx (Jh _) (congrArg Bo (?_:(VZ r)=(!(JbU r))).symm))))))))))))
 rfl
theorem Z4 (G:J5) (s:Bb) :QZ 56 #[Sr s] G (Bo (KS s)):=by
 refine JP Tryz.func56 18 [(0,Sr s)] rfl (fun w0 G0=>?_)
 refine Jg [0] [] (Jf (Jd (Jv 3 #[.nilFunc] 178 (fun b1=>JW [3] [] [[Sg b1 0 [Fv 97 #[]]]] (Je (Jc (Jf (Jd (Jb [0,0,0,0] [(7,Bo (decide (((s).length:Int) ≥ 1)))] (Ks (decide (((s).length:Int) ≥ 1)) [7] [0,0,0,0] [1,1,1,0] (fun bb=>[(11,Bo (bb && (decide (((s).length:Int)≤12))))]) (Jb [0] [(12,Bo ((decide (((s).length:Int) ≥ 1)) && (decide (((s).length:Int)≤12))))] (QR [12] ((decide (((s).length:Int) ≥ 1)) && (decide (((s).length:Int)≤12))) (fun h1=>?_) (fun h1=>?_)))))))))))))
 refine Jb [0,0] [(13,Sr s),(14,Fv 99 #[Pt b1 0])] (QI (b:=b1) (o:=0) (cs:=[Fv 97 #[]]) 0 (fun G1 hl1 hz1=>Jm 15 (Bo (JbC s (fun x0=>VZ x0))) (Jkr G1 s 99 #[Pt b1 0] (fun x0=>VZ x0) (fun _ _=>by kernel_rfl) (fun x0=>JiY G1 x0 b1 hz1)) (Jb [0,0,0] [(2,Bo (!(JbC s (fun x0=>VZ x0))))] (Je (Jc (Jn (Jo [0] [Bo (!(JbC s (fun x0=>VZ x0)))] (Jx hl1 (congrArg Bo (?_:(KS s)=(!(JbC s (fun x0=>VZ x0)))).symm)))))))))
 unfold KS;(try simp_all) <;> (intros;omega)
 refine Jb [1,1,1,1,0,0] [(2,Bo false)] (Je (Jc (Jn (Jo [0] [Bo false] (Jx (Jh _) (congrArg Bo (?_:(KS s)=false).symm))))))
 unfold KS;(try simp_all) <;> (intros;omega)
theorem JiZ (G:J5) (a_l:Ba) (c_l:Nat) (l:Bs) (h_l:RS ES G a_l c_l l) :QZ 204 #[Sl a_l l.length c_l] G (.tuple #[Sr ((VQ l).1),I ((VQ l).2)]):=by
 refine JP Tryz.func204 34 [(0,Sl a_l l.length c_l)] rfl (fun w0 G0=>?_)
 refine Jg [0,0] [] (Jf (Jg [0,0,0] [(9,Bo (decide ((l.length:Int) > 60)))] (Jl (decide ((l.length:Int) > 60)) (fun h1=>?_) (fun h1=>?_))))
 refine Jg [0,0] [(2,Sr ([])),(3,I 2)] (Jn (Jj (Jo [0,0] [Sr ([]),I 2] (Jx (Jh _) ?_))))
 have hf_:(VQ l)=([],2):=by
  unfold VQ;(rw [if_pos (by omega)];done)
 · (try rw [hf_]);(simp only [QC];done)
 refine Jq (Jc (Jf (Jd (Jmi 4 #[.pointer none,Sl none 0 0] 165 (fun b1=>Je (Jc (Jf (Jg [0,0,0] [(10,Sl a_l l.length c_l),(11,I (l.length:Int)),(12,I 0)] (Jy (ZA ?_))))))))))
 have hlm_h_l:l.length≤9223372036854775807:=Hi (h_l).le (h_l).max
 refine Qc (σ:=Nat×Value×Ba×Nat×Bg×Bb×J5) (fun q_=>(J5.le G q_.2.2.2.2.2.2)∧(q_.1≤l.length)∧(q_.2.1=.pointer none∨q_.2.1=Pt b1 0)∧(Jby 5 q_.2.2.1 q_.2.2.2.1 q_.2.2.2.2.2.1 q_.2.2.2.2.1)∧(q_.2.2.2.2.2.1=JgF (l.take q_.1))∧(q_.2.2.2.2.2.1.length≤600)∧(Jdv 0 l=Jdv q_.2.2.2.2.2.1.length (l.drop q_.1))) (fun q_=>[(4,Pt b1 0),(10,Sl a_l l.length c_l),(11,I (l.length:Int)),(12,I (q_.1:Int))]) (fun q_=>q_.2.2.2.2.2.2) (fun q_=>[q_.2.2.2.2.1,[Vm 165 b1 0 [q_.2.1,Sl q_.2.2.1 q_.2.2.2.2.2.1.length q_.2.2.2.1]]]) (fun q_=>l.length-q_.1) (0,.pointer none,none,0,[],[],G) ⟨(Jh _),(by (try dsimp only);exact Ho _),(.inl rfl),(Jby.nil _),rfl,(by (try dsimp only);simp),rfl⟩ (fun q_ hs=>?_)
 obtain ⟨i,A,a,c,r,t,g⟩:=q_
 obtain ⟨hle,hi,hA,hb,ht,hl6,hk⟩:=hs
 dsimp only at hle hi hA hb ht hl6 hk
 dsimp only
 refine Jg [0] [(13,Bo (decide ((i:Int)<(l.length:Int))))] (Jf (Jl (decide ((i:Int)<(l.length:Int))) (fun h2=>?_) (fun h2=>?_)))
 refine Jq (Jc (Jf (Jy (Jf (Jd ?_)))))
 obtain ⟨b2,o1,rfl⟩:=RS.addr (h_l.mono hle) (k:=i) (by omega)
 obtain ⟨x1,hx1⟩:=QS (l:=l) (k:=i) (by omega)
 obtain ⟨_,⟨rfl,_⟩,hc1⟩:=RS.get (h_l.mono hle) hx1
 refine JV (b:=b2) (off:=o1) (len:=l.length) (cap:=c_l) (ik:=.i64) 14 9 1 i J4 (JO 15 9 (cs:=[Sr x1]) 0 (Sr x1) hc1 (Jb [0] [(6,Sr x1)] (Je (Jc (Jf (Jf (Jd (Jb [0,0] [(17,I ((x1).length:Int))] (Jw 0 (Jw 1 (Qi (Ls:=[[Vm 165 b1 0 [A,Sl a t.length c]],r]) (Lr:=[]) 18 (Jn9 g b1 A a c t r hb hA) (fun v G1 L1 hl1 hp=>?_))))))))))))
 obtain ⟨rfl,rfl⟩:=hp
 refine Jb [0,0] [(20,Bo (decide (((x1).length:Int) > Hk.wrap (598-((t).length:Int)))))] ?_
 have e1:Hk.wrap (598-((t).length:Int))=598-((t).length:Int):=HG _ (by omega)
 refine Kv 20 (Bo (decide (((x1).length:Int) > 598-((t).length:Int)))) (show (Bo (decide (((x1).length:Int) > Hk.wrap (598-((t).length:Int)))):Value)=Bo (decide (((x1).length:Int) > 598-((t).length:Int))) by simp only [e1]) ?_
 clear e1
 refine Je (Jc (Jl (decide (((x1).length:Int) > 598-((t).length:Int))) (fun h3=>?_) (fun h3=>?_)))
 refine Jg [0,0] [(2,Sr ([])),(3,I 2)] (Jn (Jj (Ju (Jj (QV (Ju (Jj (Jo [0,0] [Sr ([]),I 2] (Jx (Ja hle hl1) ?_)))))))))
 have hf_:(VQ l)=([],2):=by
  unfold VQ;(rw [if_neg (by omega),hk];(rw [Jn8 hx1 (by omega)];rfl))
 · (try rw [hf_]);(simp only [QC];done)
 refine Jq (Jc (Jf (Jd (Jb [0,0,0,0] [(24,Y (Hc.wrap (((x1).length:Int).fdiv (2 ^ 8))))] (Jw 1 (Jw 1 (Qi (Ls:=[[Vm 165 b1 0 [A,Sl a t.length c]],r]) (Lr:=[]) 25 (Jb2 G1 b1 A a c t r hb hA (Hc.wrap (((x1).length:Int).fdiv (2 ^ 8))) (u8w _) J4) (fun v G2 L1 hl2 hp=>?_))))))))
 obtain ⟨a1,c1,r1,rfl,hb1,rfl⟩:=hp
 refine Je (Jc (Jf (Jd (Jb [0,0,0] [(28,Y (Hc.wrap ((x1).length:Int)))] (Jw 1 (Jw 1 (Qi (Ls:=[[Vm 165 b1 0 [Pt b1 0,Sl a1 ((t++[Vi (Hc.wrap (((x1).length:Int).fdiv (2 ^ 8)))]).length) c1]],r1]) (Lr:=[]) 29 (Jb2 G2 b1 (Pt b1 0) a1 c1 (t++[Vi (Hc.wrap (((x1).length:Int).fdiv (2 ^ 8)))]) r1 hb1 (.inr rfl) (Hc.wrap ((x1).length:Int)) (u8w _) (by (simp only [Hg,Hl,Hm];omega))) (fun v G3 L1 hl3 hp=>?_))))))))
 obtain ⟨a2,c2,r2,rfl,hb2,rfl⟩:=hp
 refine Je (Jc (Jd (Jb [0] [(30,Sr x1)] (Jw 1 (Jw 1 (Qi (Ls:=[[Vm 165 b1 0 [Pt b1 0,Sl a2 (((t++[Vi (Hc.wrap (((x1).length:Int).fdiv (2 ^ 8)))])++[Vi (Hc.wrap ((x1).length:Int))]).length) c2]],r2]) (Lr:=[]) 31 (Jef G3 b1 (Pt b1 0) a2 c2 ((t++[Vi (Hc.wrap (((x1).length:Int).fdiv (2 ^ 8)))])++[Vi (Hc.wrap ((x1).length:Int))]) r2 hb2 (.inr rfl) x1 (by (simp only [Hg,Hl,Hm];omega))) (fun v G4 L1 hl4 hp=>?_)))))))
 obtain ⟨a3,c3,r3,rfl,hb3,rfl⟩:=hp
 refine Je (JM (Jc (Jd (Jb [0,0] [(12,I (Hk.wrap ((i:Int)+1)))] (Kp 12 ((i:Int)+1) J4 (Je (Jk 0 (Jk 1 ?_))))))))
 exact Qy [r3,[Vm 165 b1 0 [Pt b1 0,Sl a3 ((((t++[Vi (Hc.wrap (((x1).length:Int).fdiv (2 ^ 8)))])++[Vi (Hc.wrap ((x1).length:Int))])++x1).length) c3]]] (Qh (i+1,Pt b1 0,a3,c3,r3,((t++[Vi (Hc.wrap (((x1).length:Int).fdiv (2 ^ 8)))])++[Vi (Hc.wrap ((x1).length:Int))])++x1,G4) ⟨(Ja hle (Ja (Ja (Ja hl1 hl2) hl3) hl4)),J4,(.inr rfl),hb3,(by rw [ht];exact Jmu hx1),(by simp only [Hg,Hl,Hm];omega),(by rw [hk,Jkq (n:=t.length) hx1 (by omega)];simp [Nat.add_assoc,Nat.add_comm,Nat.add_left_comm])⟩ (by (try dsimp only);omega))
 refine KX (J1 (Kd (JS (Jc (Jf (Jd (Jw 0 (Jw 1 (Qi (Ls:=[[Vm 165 b1 0 [A,Sl a t.length c]],r]) (Lr:=[]) 33 (JiW g b1 A a c t r hb hA) (fun v G5 L1 hl5 hp=>?_))))))))))
 obtain ⟨rfl,rfl⟩:=hp
 refine Jb [0,0] [(2,Sr t),(3,I 0)] (Je (Jc (Jn (Jo [0,0] [Sr t,I 0] (Jx (Ja hle hl5) ?_)))))
 have hf_:(VQ l)=(t,0):=by
  unfold VQ;(rw [if_neg (by omega),hk];(rw [Ht (by omega),ht,Hj (by omega)];rfl))
 · (try rw [hf_]);(simp only [QC];done)
theorem Ji0 {α:Type} {a b:List α} {i:Nat} {x y:α} (h:a.take i=b.take i) (hx:a[i]? = some x) (hy:b[i]? = some y) (e:x=y):a.take (i+1)=b.take (i+1):=by
 rw [HB,HB,h,hx,hy,e]
theorem ne_at {α:Type} {a b:List α} {i:Nat} {x y:α} (hx:a[i]? = some x) (hy:b[i]? = some y) (e:¬ x=y):¬ a=b:=by
 intro h;rw [h,hy] at hx;exact e (HQ.inj hx).symm
theorem Jks {α:Type} {a b:List α} {i:Nat} (hl:a.length=b.length) (hi:a.length≤i) (h:a.take i=b.take i):a=b:=by
 rwa [Hj hi,Hj (by omega)] at h
theorem Jb3 {x y:JX}:x=y ↔ x.epoch=y.epoch∧x.root=y.root∧x.prev=y.prev∧x.at_=y.at_:=by cases x;cases y;simp
theorem JhZ {α:Type} {p:α→Bool} {l:List α} {i:Nat} (h:QJ p l=(i:Int)):∃ x,l[i]? = some x∧p x=true:=by
 unfold QJ at h
 cases hh:l.findIdx? p with
 | none=>rw [hh] at h;simp at h
 | some k =>
  rw [hh] at h
  have:k=i:=by simp at h;omega
  subst this
  rw [HH] at hh
  obtain ⟨h1,h2,_⟩:=hh
  exact ⟨l[k],Hn h1,h2⟩
theorem Jbo (G:J5) (a_l:Ba) (c_l:Nat) (l:Bs) (h_l:RS ES G a_l c_l l) :YS 12 #[Sl a_l l.length c_l] G [] (fun u G' L'=>∃ (a1:Ba) (c2:Nat) (r3:Bg),u=Sl a1 l.length c2∧(JR ES G' a1 c2 l r3)∧L'=[r3]):=by
 refine JP Tryz.func12 8 [(0,Sl a_l l.length c_l)] rfl (fun w0 G0=>?_)
 refine Jg [0] [] (Jf (Jf (Jd (Jb [0] [(3,Sl a_l l.length c_l)] (Jbj 4 (Bo ((a_l).isNone)) (by intro w;cases a_l <;> kernel_rfl) (Je (Jc (Jl ((a_l).isNone) (fun h1=>?_) (fun h1=>?_)))))))))
 refine Jg [0] [(2,Sl none 0 0)] (Jn (Jj (ZB (Jk 0 ?_))))
 have hf1:l=[]:=by
  exact RS.isNil h_l h1
 refine Jo [0] [Sl none 0 0] (JD [[]] (Jh _) ?_)
 rw [hf1]
 try dsimp only
 exact ⟨none,0,([]),rfl,(JR.none ES _),rfl⟩
 refine Jq (Jc (Jf (Jd (Km 5 0 #[] 9 (fun b1=>Jb [0] [(6,Sl a_l l.length c_l)] (Jav 7 9 0 (JR.of_lit (E:=ES) (b:=b1) [] [] trivial (by simp)) h_l (fun a1 c1 r1 hr1=>Jb [0] [(2,Sl a1 l.length c1)] (Je (Jc (Jn (Jk 0 ?_)))))))))))
 have hf2:l=l:=by
  rfl
 refine Jo [0] [Sl a1 l.length c1] (JD [r1] (Jh _) ?_)
 rw [hf2]
 try dsimp only
 exact ⟨a1,c1,r1,rfl,hr1,rfl⟩
theorem seq_ES (G:J5) (a_a:Ba) (c_a:Nat) (a:Bs) (h_a:RS ES G a_a c_a a) (a_b:Ba) (c_b:Nat) (b:Bs) (h_b:RS ES G a_b c_b b) :QZ 10 #[Sl a_a a.length c_a,Sl a_b b.length c_b] G (Bo (decide (a=b))):=by
 refine JP Tryz.func10 26 [(0,Sl a_a a.length c_a),(1,Sl a_b b.length c_b)] rfl (fun w0 G0=>?_)
 refine Jg [0] [] (Jf (Jg [0,0,0,0,0] [(10,Bo (!decide ((a.length:Int)=(b.length:Int))))] (Jl (!decide ((a.length:Int)=(b.length:Int))) (fun h1=>?_) (fun h1=>?_))))
 refine Jg [0] [(4,Bo false)] (Jn (Jj (Jo [0] [Bo false] (Jx (Jh _) (congrArg Bo (?_:(decide (a=b))=false).symm)))))
 (rw [decide_eq_false];intro hh;subst hh;exact absurd rfl h1)
 refine Jq (Jc (Jf (Jg [0,0,0] [(12,I (a.length:Int)),(13,I 0)] (Jy ?_))))
 have hlm_h_a:a.length≤9223372036854775807:=Hi (h_a).le (h_a).max
 have hlm_h_b:b.length≤9223372036854775807:=Hi (h_b).le (h_b).max
 refine Qc (σ:=Nat) (fun q_=>(q_≤a.length)∧(a.take q_=b.take q_)) (fun q_=>[(0,Sl a_a a.length c_a),(1,Sl a_b b.length c_b),(12,I (a.length:Int)),(13,I (q_:Int))]) (fun q_=>G) (fun q_=>[]) (fun q_=>a.length-q_) 0 ⟨(by (try dsimp only);exact Ho _),rfl⟩ (fun q_ hs=>?_)
 revert hs;revert q_;intro i hs
 obtain ⟨hi,he⟩:=hs
 dsimp only
 refine Jg [0] [(14,Bo (decide ((i:Int)<(a.length:Int))))] (Jf (Jl (decide ((i:Int)<(a.length:Int))) (fun h2=>?_) (fun h2=>?_)))
 refine Jq (Jc (Jf (Jy (Jg [0,0] [(5,I (i:Int))] (Jf ?_)))))
 obtain ⟨b1,o1,rfl⟩:=RS.addr h_a (k:=i) (by omega)
 obtain ⟨x1,hx1⟩:=QS (l:=a) (k:=i) (by omega)
 obtain ⟨_,⟨rfl,_⟩,hc1⟩:=RS.get h_a hx1
 obtain ⟨b2,o2,rfl⟩:=RS.addr h_b (k:=i) (by omega)
 obtain ⟨x2,hx2⟩:=QS (l:=b) (k:=i) (by omega)
 obtain ⟨_,⟨rfl,_⟩,hc2⟩:=RS.get h_b hx2
 refine Kt [] (Wm [(0,Sl (At b1 o1) a.length c_a),(1,I (i:Int)),(2,Pt b1 (o1+i*1)),(3,Sr x1),(4,Sl (At b2 o2) b.length c_b),(5,I (i:Int)),(6,Pt b2 (o2+i*1)),(7,Sr x2),(8,Bo (!((B x1).toList == (B x2).toList)))] (Kl [] [(0,0),(1,0),(4,0),(5,0),(8,0)] [2,3,6,7] [(0,Sl (At b1 o1) a.length c_a),(1,Sl (At b2 o2) b.length c_b),(12,I (a.length:Int)),(13,I (i:Int)),(24,Bo (!((B x1).toList == (B x2).toList)))] (Kf ?_ (Kf ?_ (Kf ?_ (Kf ?_ KY)))) ?_))
 refine Jr 2 18 (Pt b1 (o1+i*1)) [(16,Sl (At b1 o1) a.length c_a),(17,I (i:Int))] (fun X=>?_)
 exact JV (b:=b1) (off:=o1) (len:=a.length) (cap:=c_a) (ik:=.i64) 18 9 1 i J4 Jp
 refine Jr 3 19 (Sr x1) [(18,Pt b1 (o1+i*1))] (fun X=>?_)
 exact JO 19 9 (cs:=[Sr x1]) 0 (Sr x1) hc1 Jp
 refine Jr 6 22 (Pt b2 (o2+i*1)) [(20,Sl (At b2 o2) b.length c_b),(21,I (i:Int))] (fun X=>?_)
 exact JV (b:=b2) (off:=o2) (len:=b.length) (cap:=c_b) (ik:=.i64) 22 9 1 i J4 Jp
 refine Jr 7 23 (Sr x2) [(22,Pt b2 (o2+i*1))] (fun X=>?_)
 exact JO 23 9 (cs:=[Sr x2]) 0 (Sr x2) hc2 Jp
 refine Jd2 24 (Bo (!(x1 == x2))) (show (Bo (!((B x1).toList == (B x2).toList)):Value)=Bo (!(x1 == x2)) by simp only [Qx]) (Jc (Jl (!(x1 == x2)) (fun h3=>?_) (fun h3=>?_)))
 refine Jg [0] [(4,Bo false)] (Jn (Ju (Jj (QV (Ju (Jj (Jo [0] [Bo false] (Jx (Jh _) (congrArg Bo (?_:(decide (a=b))=false).symm)))))))))
 (rw [decide_eq_false];exact ne_at hx1 hx2 ‹_›)
 exact Jq (JM (Jc (Jd (Jb [0,0] [(13,I (Hk.wrap ((i:Int)+1)))] (Kp 13 ((i:Int)+1) J4 (Je (Qh (i+1) ⟨J4,(Ji0 he hx1 hx2 ‹_›)⟩ (by (try dsimp only);omega))))))))
 refine KX (J1 (Kd (JS (Jc (Jg [0] [(4,Bo true)] (Jn (Jo [0] [Bo true] (Jx (Jh _) (congrArg Bo (?_:(decide (a=b))=true).symm)))))))))
 (rw [decide_eq_true];exact Jks (by omega) (by omega) he)
theorem Joa (G:J5) (a_l:Ba) (c_l:Nat) (l:Bs) (h_l:RS ES G a_l c_l l) (k_f:FuncId) (caps_f:Array Value) (p_f:Bb→Bool) (hk_f:JaV Tryz.prog k_f) (h_f:∀ (x0:Bb) (hx0:(x0).length≤140737488351232),VC Tryz.prog k_f (#[Sr x0]++caps_f) G [] (fun u _ _=>u=Bo (p_f x0))) :QZ 119 #[Sl a_l l.length c_l,Fv k_f caps_f] G (I (QJ p_f l)):=by
 refine JP Tryz.func119 19 [(0,Sl a_l l.length c_l),(1,Fv k_f caps_f)] rfl (fun w0 G0=>?_)
 refine Jg [0] [] (Jf (Jg [0,0,0] [(7,I (l.length:Int)),(8,I 0)] (Jy ?_)))
 have hlm_h_l:l.length≤9223372036854775807:=Hi (h_l).le (h_l).max
 refine Qc (σ:=Nat) (fun q_=>(q_≤l.length)∧((l.take q_).any p_f=false)) (fun q_=>[(0,Sl a_l l.length c_l),(1,Fv k_f caps_f),(7,I (l.length:Int)),(8,I (q_:Int))]) (fun q_=>G) (fun q_=>[]) (fun q_=>l.length-q_) 0 ⟨(by (try dsimp only);exact Ho _),(by (try dsimp only);simp)⟩ (fun q_ hs=>?_)
 revert hs;revert q_;intro i hs
 obtain ⟨hi,hn⟩:=hs
 dsimp only
 refine Jg [0] [(9,Bo (decide ((i:Int)<(l.length:Int))))] (Jf (Jl (decide ((i:Int)<(l.length:Int))) (fun h1=>?_) (fun h1=>?_)))
 refine Jq (Jc (Jf (Jy (Jg [0,0] [(5,I (i:Int))] (Jf (Jd (Jb [0,0,0] [(11,Fv k_f caps_f),(12,Sl a_l l.length c_l),(13,I (i:Int))] ?_)))))))
 obtain ⟨b1,o1,rfl⟩:=RS.addr h_l (k:=i) (by omega)
 obtain ⟨x1,hx1⟩:=QS (l:=l) (k:=i) (by omega)
 obtain ⟨_,⟨rfl,w1⟩,hc1⟩:=RS.get h_l hx1
 refine JV (b:=b1) (off:=o1) (len:=l.length) (cap:=c_l) (ik:=.i64) 14 9 1 i J4 (JO 15 9 (cs:=[Sr x1]) 0 (Sr x1) hc1 (ZP (k:=k_f) (caps:=caps_f) (args:=#[Sr x1]) 16 (Bo (p_f x1)) hk_f (h_f x1 w1) (Je (Jc (Jl (p_f x1) (fun h2=>?_) (fun h2=>?_))))))
 refine Jg [0,0] [(4,I (i:Int))] (Jn (Ju (Jj (QV (Ju (Jj (Jo [0] [I (i:Int)] (Jx (Jh _) (congrArg I (?_:(QJ p_f l)=(i:Int)).symm)))))))))
 exact Vw hx1 (by simpa using h2) hn
 exact Jq (JM (Jc (Jd (Jb [0,0] [(8,I (Hk.wrap ((i:Int)+1)))] (Kp 8 ((i:Int)+1) J4 (Je (Qh (i+1) ⟨J4,(V6 hx1 (by simpa using h2) hn)⟩ (by (try dsimp only);omega))))))))
 refine KX (J1 (Kd (JS (Jc (Jg [0] [(4,I (-1))] (Jn (Jo [0] [I (-1)] (Jx (Jh _) (congrArg I (?_:(QJ p_f l)=(-1)).symm)))))))))
 exact Y8 (by rw [Hj (by omega)] at hn;exact hn)
theorem JpO (G:J5) (a_l:Ba) (c_l:Nat) (l:Bs) (h_l:RS ES G a_l c_l l) (k_f:FuncId) (caps_f:Array Value) (p_f:Bb→Bool) (hk_f:JaV Tryz.prog k_f) (h_f:∀ (x0:Bb) (hx0:(x0).length≤140737488351232),VC Tryz.prog k_f (#[Sr x0]++caps_f) G [] (fun u _ _=>u=Bo (p_f x0))) :QZ 69 #[Sl a_l l.length c_l,Fv k_f caps_f] G (Bo (l.any p_f)):=by
 refine JP Tryz.func69 9 [(0,Sl a_l l.length c_l),(1,Fv k_f caps_f)] rfl (fun w0 G0=>?_)
 refine Jg [0] [] (Jf (Jd (Jb [0,0] [(5,Sl a_l l.length c_l),(6,Fv k_f caps_f)] (Jm 7 (I (QJ p_f l)) (Joa G a_l c_l l h_l k_f caps_f p_f hk_f h_f) (Jb [0,0] [(4,Bo (decide (QJ p_f l ≥ 0)))] (Je (Jc (Jn (Jo [0] [Bo (decide (QJ p_f l ≥ 0))] (Jx (Jh _) (congrArg Bo (?_:(l.any p_f)=(decide (QJ p_f l ≥ 0))).symm)))))))))))
 rw [V7]
theorem Jlx (G:J5) (a_l:Ba) (c_l:Nat) (l:Bs) (h_l:RS ES G a_l c_l l) (v:Bb) :QZ 37 #[Sl a_l l.length c_l,Sr v] G (I (QJ (fun x=>decide (v=x)) l)):=by
 refine JP Tryz.func37 19 [(0,Sl a_l l.length c_l),(1,Sr v)] rfl (fun w0 G0=>?_)
 refine Jg [0] [] (Jf (Jg [0,0,0] [(7,I (l.length:Int)),(8,I 0)] (Jy ?_)))
 have hlm_h_l:l.length≤9223372036854775807:=Hi (h_l).le (h_l).max
 refine Qc (σ:=Nat) (fun q_=>(q_≤l.length)∧((l.take q_).any (fun x=>decide (v=x))=false)) (fun q_=>[(0,Sl a_l l.length c_l),(1,Sr v),(7,I (l.length:Int)),(8,I (q_:Int))]) (fun q_=>G) (fun q_=>[]) (fun q_=>l.length-q_) 0 ⟨(by (try dsimp only);exact Ho _),(by (try dsimp only);simp)⟩ (fun q_ hs=>?_)
 revert hs;revert q_;intro i hs
 obtain ⟨hi,hn⟩:=hs
 dsimp only
 refine Jg [0] [(9,Bo (decide ((i:Int)<(l.length:Int))))] (Jf (Jl (decide ((i:Int)<(l.length:Int))) (fun h1=>?_) (fun h1=>?_)))
 refine Jq (Jc (Jf (Jy (Jg [0,0] [(5,I (i:Int))] (Jf (Jd (Jb [0,0,0] [(11,Sr v),(12,Sl a_l l.length c_l),(13,I (i:Int))] ?_)))))))
 obtain ⟨b1,o1,rfl⟩:=RS.addr h_l (k:=i) (by omega)
 obtain ⟨x1,hx1⟩:=QS (l:=l) (k:=i) (by omega)
 obtain ⟨_,⟨rfl,_⟩,hc1⟩:=RS.get h_l hx1
 refine JV (b:=b1) (off:=o1) (len:=l.length) (cap:=c_l) (ik:=.i64) 14 9 1 i J4 (JO 15 9 (cs:=[Sr x1]) 0 (Sr x1) hc1 (Jb [0] [(16,Bo ((B v).toList == (B x1).toList))] (Kv 16 (Bo (v == x1)) (show (Bo ((B v).toList == (B x1).toList):Value)=Bo (v == x1) by simp only [Qx]) (Je (Jc (Jl (v == x1) (fun h2=>?_) (fun h2=>?_)))))))
 refine Jg [0,0] [(4,I (i:Int))] (Jn (Ju (Jj (QV (Ju (Jj (Jo [0] [I (i:Int)] (Jx (Jh _) (congrArg I (?_:(QJ (fun x=>decide (v=x)) l)=(i:Int)).symm)))))))))
 exact Vw hx1 (decide_eq_true (by simpa using h2)) hn
 exact Jq (JM (Jc (Jd (Jb [0,0] [(8,I (Hk.wrap ((i:Int)+1)))] (Kp 8 ((i:Int)+1) J4 (Je (Qh (i+1) ⟨J4,(V6 hx1 (decide_eq_false (by simpa using h2)) hn)⟩ (by (try dsimp only);omega))))))))
 refine KX (J1 (Kd (JS (Jc (Jg [0] [(4,I (-1))] (Jn (Jo [0] [I (-1)] (Jx (Jh _) (congrArg I (?_:(QJ (fun x=>decide (v=x)) l)=(-1)).symm)))))))))
 exact Y8 (by rw [Hj (by omega)] at hn;exact hn)
theorem JpP (G:J5) (a_l:Ba) (c_l:Nat) (l:Bs) (h_l:RS ES G a_l c_l l) (v:Bb) :QZ 22 #[Sl a_l l.length c_l,Sr v] G (Bo (l.any (fun x=>decide (v=x)))):=by
 refine JP Tryz.func22 9 [(0,Sl a_l l.length c_l),(1,Sr v)] rfl (fun w0 G0=>?_)
 refine Jg [0] [] (Jf (Jd (Jb [0,0] [(5,Sl a_l l.length c_l),(6,Sr v)] (Jm 7 (I (QJ (fun x=>decide (v=x)) l)) (Jlx G a_l c_l l h_l v) (Jb [0,0] [(4,Bo (decide (QJ (fun x=>decide (v=x)) l ≥ 0)))] (Je (Jc (Jn (Jo [0] [Bo (decide (QJ (fun x=>decide (v=x)) l ≥ 0))] (Jx (Jh _) (congrArg Bo (?_:(l.any (fun x=>decide (v=x)))=(decide (QJ (fun x=>decide (v=x)) l ≥ 0))).symm)))))))))))
 rw [V7]
theorem Jkt (G:J5) (a_l:Ba) (c_l:Nat) (l:List Int) (h_l:RS EErr G a_l c_l l) (k_f:FuncId) (caps_f:Array Value) (p_f:Int→Bool) (hk_f:JaV Tryz.prog k_f) (h_f:∀ (x0:Int),VC Tryz.prog k_f (#[I x0]++caps_f) G [] (fun u _ _=>u=Bo (p_f x0))) :QZ 52 #[Sl a_l l.length c_l,Fv k_f caps_f] G (I (QJ p_f l)):=by
 refine JP Tryz.func52 19 [(0,Sl a_l l.length c_l),(1,Fv k_f caps_f)] rfl (fun w0 G0=>?_)
 refine Jg [0] [] (Jf (Jg [0,0,0] [(7,I (l.length:Int)),(8,I 0)] (Jy ?_)))
 have hlm_h_l:l.length≤9223372036854775807:=Hi (h_l).le (h_l).max
 refine Qc (σ:=Nat) (fun q_=>(q_≤l.length)∧((l.take q_).any p_f=false)) (fun q_=>[(0,Sl a_l l.length c_l),(1,Fv k_f caps_f),(7,I (l.length:Int)),(8,I (q_:Int))]) (fun q_=>G) (fun q_=>[]) (fun q_=>l.length-q_) 0 ⟨(by (try dsimp only);exact Ho _),(by (try dsimp only);simp)⟩ (fun q_ hs=>?_)
 revert hs;revert q_;intro i hs
 obtain ⟨hi,hn⟩:=hs
 dsimp only
 refine Jg [0] [(9,Bo (decide ((i:Int)<(l.length:Int))))] (Jf (Jl (decide ((i:Int)<(l.length:Int))) (fun h1=>?_) (fun h1=>?_)))
 refine Jq (Jc (Jf (Jy (Jg [0,0] [(5,I (i:Int))] (Jf (Jd (Jb [0,0,0] [(11,Fv k_f caps_f),(12,Sl a_l l.length c_l),(13,I (i:Int))] ?_)))))))
 obtain ⟨b1,o1,rfl⟩:=RS.addr h_l (k:=i) (by omega)
 obtain ⟨x1,hx1⟩:=QS (l:=l) (k:=i) (by omega)
 obtain ⟨_,rfl,hc1⟩:=RS.get h_l hx1
 refine JV (b:=b1) (off:=o1) (len:=l.length) (cap:=c_l) (ik:=.i64) 14 24 1 i J4 (JO 15 24 (cs:=[I x1]) 0 (I x1) hc1 (ZP (k:=k_f) (caps:=caps_f) (args:=#[I x1]) 16 (Bo (p_f x1)) hk_f (h_f x1) (Je (Jc (Jl (p_f x1) (fun h2=>?_) (fun h2=>?_))))))
 refine Jg [0,0] [(4,I (i:Int))] (Jn (Ju (Jj (QV (Ju (Jj (Jo [0] [I (i:Int)] (Jx (Jh _) (congrArg I (?_:(QJ p_f l)=(i:Int)).symm)))))))))
 exact Vw hx1 (by simpa using h2) hn
 exact Jq (JM (Jc (Jd (Jb [0,0] [(8,I (Hk.wrap ((i:Int)+1)))] (Kp 8 ((i:Int)+1) J4 (Je (Qh (i+1) ⟨J4,(V6 hx1 (by simpa using h2) hn)⟩ (by (try dsimp only);omega))))))))
 refine KX (J1 (Kd (JS (Jc (Jg [0] [(4,I (-1))] (Jn (Jo [0] [I (-1)] (Jx (Jh _) (congrArg I (?_:(QJ p_f l)=(-1)).symm)))))))))
 exact Y8 (by rw [Hj (by omega)] at hn;exact hn)
theorem Jmw (G:J5) (a_l:Ba) (c_l:Nat) (l:List Int) (h_l:RS EErr G a_l c_l l) (k_f:FuncId) (caps_f:Array Value) (p_f:Int→Bool) (hk_f:JaV Tryz.prog k_f) (h_f:∀ (x0:Int),VC Tryz.prog k_f (#[I x0]++caps_f) G [] (fun u _ _=>u=Bo (p_f x0))) :QZ 30 #[Sl a_l l.length c_l,Fv k_f caps_f] G (Bo (l.any p_f)):=by
 refine JP Tryz.func30 9 [(0,Sl a_l l.length c_l),(1,Fv k_f caps_f)] rfl (fun w0 G0=>?_)
 refine Jg [0] [] (Jf (Jd (Jb [0,0] [(5,Sl a_l l.length c_l),(6,Fv k_f caps_f)] (Jm 7 (I (QJ p_f l)) (Jkt G a_l c_l l h_l k_f caps_f p_f hk_f h_f) (Jb [0,0] [(4,Bo (decide (QJ p_f l ≥ 0)))] (Je (Jc (Jn (Jo [0] [Bo (decide (QJ p_f l ≥ 0))] (Jx (Jh _) (congrArg Bo (?_:(l.any p_f)=(decide (QJ p_f l ≥ 0))).symm)))))))))))
 rw [V7]
theorem Jmx (G:J5) (a_l:Ba) (c_l:Nat) (l:List Int) (h_l:RS EI G a_l c_l l) :YS 61 #[Sl a_l l.length c_l] G [] (fun u G' L'=>∃ (a1:Ba) (c2:Nat) (r3:Bg),u=Sl a1 l.length c2∧(JR EI G' a1 c2 l r3)∧L'=[r3]):=by
 refine JP Tryz.func61 8 [(0,Sl a_l l.length c_l)] rfl (fun w0 G0=>?_)
 refine Jg [0] [] (Jf (Jf (Jd (Jb [0] [(3,Sl a_l l.length c_l)] (Jbj 4 (Bo ((a_l).isNone)) (by intro w;cases a_l <;> kernel_rfl) (Je (Jc (Jl ((a_l).isNone) (fun h1=>?_) (fun h1=>?_)))))))))
 refine Jg [0] [(2,Sl none 0 0)] (Jn (Jj (ZB (Jk 0 ?_))))
 have hf1:l=[]:=by
  exact RS.isNil h_l h1
 refine Jo [0] [Sl none 0 0] (JD [[]] (Jh _) ?_)
 rw [hf1]
 try dsimp only
 exact ⟨none,0,([]),rfl,(JR.none EI _),rfl⟩
 refine Jq (Jc (Jf (Jd (Km 5 0 #[] 3 (fun b1=>Jb [0] [(6,Sl a_l l.length c_l)] (Jav 7 3 0 (JR.of_lit (E:=EI) (b:=b1) [] [] trivial (by simp)) h_l (fun a1 c1 r1 hr1=>Jb [0] [(2,Sl a1 l.length c1)] (Je (Jc (Jn (Jk 0 ?_)))))))))))
 have hf2:l=l:=by
  rfl
 refine Jo [0] [Sl a1 l.length c1] (JD [r1] (Jh _) ?_)
 rw [hf2]
 try dsimp only
 exact ⟨a1,c1,r1,rfl,hr1,rfl⟩
theorem Job (G:J5) (a_l:Ba) (c_l:Nat) (l:List Int) (h_l:RS EI G a_l c_l l) (k_f:FuncId) (caps_f:Array Value) (p_f:Int→Bool) (hk_f:JaV Tryz.prog k_f) (h_f:∀ (x0:Int) (hx0:rI x0),VC Tryz.prog k_f (#[I x0]++caps_f) G [] (fun u _ _=>u=Bo (p_f x0))) :QZ 160 #[Sl a_l l.length c_l,Fv k_f caps_f] G (I (QJ p_f l)):=by
 refine JP Tryz.func160 19 [(0,Sl a_l l.length c_l),(1,Fv k_f caps_f)] rfl (fun w0 G0=>?_)
 refine Jg [0] [] (Jf (Jg [0,0,0] [(7,I (l.length:Int)),(8,I 0)] (Jy ?_)))
 have hlm_h_l:l.length≤9223372036854775807:=Hi (h_l).le (h_l).max
 refine Qc (σ:=Nat) (fun q_=>(q_≤l.length)∧((l.take q_).any p_f=false)) (fun q_=>[(0,Sl a_l l.length c_l),(1,Fv k_f caps_f),(7,I (l.length:Int)),(8,I (q_:Int))]) (fun q_=>G) (fun q_=>[]) (fun q_=>l.length-q_) 0 ⟨(by (try dsimp only);exact Ho _),(by (try dsimp only);simp)⟩ (fun q_ hs=>?_)
 revert hs;revert q_;intro i hs
 obtain ⟨hi,hn⟩:=hs
 dsimp only
 refine Jg [0] [(9,Bo (decide ((i:Int)<(l.length:Int))))] (Jf (Jl (decide ((i:Int)<(l.length:Int))) (fun h1=>?_) (fun h1=>?_)))
 refine Jq (Jc (Jf (Jy (Jg [0,0] [(5,I (i:Int))] (Jf (Jd (Jb [0,0,0] [(11,Fv k_f caps_f),(12,Sl a_l l.length c_l),(13,I (i:Int))] ?_)))))))
 obtain ⟨b1,o1,rfl⟩:=RS.addr h_l (k:=i) (by omega)
 obtain ⟨x1,hx1⟩:=QS (l:=l) (k:=i) (by omega)
 obtain ⟨_,⟨rfl,w1⟩,hc1⟩:=RS.get h_l hx1
 refine JV (b:=b1) (off:=o1) (len:=l.length) (cap:=c_l) (ik:=.i64) 14 3 1 i J4 (JO 15 3 (cs:=[I x1]) 0 (I x1) hc1 (ZP (k:=k_f) (caps:=caps_f) (args:=#[I x1]) 16 (Bo (p_f x1)) hk_f (h_f x1 w1) (Je (Jc (Jl (p_f x1) (fun h2=>?_) (fun h2=>?_))))))
 refine Jg [0,0] [(4,I (i:Int))] (Jn (Ju (Jj (QV (Ju (Jj (Jo [0] [I (i:Int)] (Jx (Jh _) (congrArg I (?_:(QJ p_f l)=(i:Int)).symm)))))))))
 exact Vw hx1 (by simpa using h2) hn
 exact Jq (JM (Jc (Jd (Jb [0,0] [(8,I (Hk.wrap ((i:Int)+1)))] (Kp 8 ((i:Int)+1) J4 (Je (Qh (i+1) ⟨J4,(V6 hx1 (by simpa using h2) hn)⟩ (by (try dsimp only);omega))))))))
 refine KX (J1 (Kd (JS (Jc (Jg [0] [(4,I (-1))] (Jn (Jo [0] [I (-1)] (Jx (Jh _) (congrArg I (?_:(QJ p_f l)=(-1)).symm)))))))))
 exact Y8 (by rw [Hj (by omega)] at hn;exact hn)
theorem JpQ (G:J5) (a_l:Ba) (c_l:Nat) (l:List Int) (h_l:RS EI G a_l c_l l) (k_f:FuncId) (caps_f:Array Value) (p_f:Int→Bool) (hk_f:JaV Tryz.prog k_f) (h_f:∀ (x0:Int) (hx0:rI x0),VC Tryz.prog k_f (#[I x0]++caps_f) G [] (fun u _ _=>u=Bo (p_f x0))) :QZ 106 #[Sl a_l l.length c_l,Fv k_f caps_f] G (Bo (l.any p_f)):=by
 refine JP Tryz.func106 9 [(0,Sl a_l l.length c_l),(1,Fv k_f caps_f)] rfl (fun w0 G0=>?_)
 refine Jg [0] [] (Jf (Jd (Jb [0,0] [(5,Sl a_l l.length c_l),(6,Fv k_f caps_f)] (Jm 7 (I (QJ p_f l)) (Job G a_l c_l l h_l k_f caps_f p_f hk_f h_f) (Jb [0,0] [(4,Bo (decide (QJ p_f l ≥ 0)))] (Je (Jc (Jn (Jo [0] [Bo (decide (QJ p_f l ≥ 0))] (Jx (Jh _) (congrArg Bo (?_:(l.any p_f)=(decide (QJ p_f l ≥ 0))).symm)))))))))))
 rw [V7]
theorem VI (G:J5) (a_l:Ba) (c_l:Nat) (l:List JX) (h_l:RS KO G a_l c_l l) :YS 161 #[Sl a_l l.length c_l] G [] (fun u G' L'=>∃ (a1:Ba) (c2:Nat) (r3:Bg),u=Sl a1 l.length c2∧(JR KO G' a1 c2 l r3)∧L'=[r3]):=by
 refine JP Tryz.func161 8 [(0,Sl a_l l.length c_l)] rfl (fun w0 G0=>?_)
 refine Jg [0] [] (Jf (Jf (Jd (Jb [0] [(3,Sl a_l l.length c_l)] (Jbj 4 (Bo ((a_l).isNone)) (by intro w;cases a_l <;> kernel_rfl) (Je (Jc (Jl ((a_l).isNone) (fun h1=>?_) (fun h1=>?_)))))))))
 refine Jg [0] [(2,Sl none 0 0)] (Jn (Jj (ZB (Jk 0 ?_))))
 have hf1:l=[]:=by
  exact RS.isNil h_l h1
 refine Jo [0] [Sl none 0 0] (JD [[]] (Jh _) ?_)
 rw [hf1]
 try dsimp only
 exact ⟨none,0,([]),rfl,(JR.none KO _),rfl⟩
 refine Jq (Jc (Jf (Jd (Km 5 0 #[] 43 (fun b1=>Jb [0] [(6,Sl a_l l.length c_l)] (Jav 7 43 0 (JR.of_lit (E:=KO) (b:=b1) [] [] trivial (by simp)) h_l (fun a1 c1 r1 hr1=>Jb [0] [(2,Sl a1 l.length c1)] (Je (Jc (Jn (Jk 0 ?_)))))))))))
 have hf2:l=l:=by
  rfl
 refine Jo [0] [Sl a1 l.length c1] (JD [r1] (Jh _) ?_)
 rw [hf2]
 try dsimp only
 exact ⟨a1,c1,r1,rfl,hr1,rfl⟩
theorem Ji1 (G:J5) (a_l:Ba) (c_l:Nat) (l:List JX) (h_l:RS KO G a_l c_l l) (k_f:FuncId) (caps_f:Array Value) (p_f:JX→Bool) (hk_f:JaV Tryz.prog k_f) (h_f:∀ (vs0:Bv) (x0:JX) (hx0:KO.R G vs0 x0),VC Tryz.prog k_f (#[.agg vs0.toArray]++caps_f) G [] (fun u _ _=>u=Bo (p_f x0))) :QZ 176 #[Sl a_l l.length c_l,Fv k_f caps_f] G (I (QJ p_f l)):=by
 refine JP Tryz.func176 19 [(0,Sl a_l l.length c_l),(1,Fv k_f caps_f)] rfl (fun w0 G0=>?_)
 refine Jg [0] [] (Jf (Jg [0,0,0] [(7,I (l.length:Int)),(8,I 0)] (Jy ?_)))
 have hlm_h_l:l.length≤9223372036854775807:=Hi (h_l).le (h_l).max
 refine Qc (σ:=Nat) (fun q_=>(q_≤l.length)∧((l.take q_).any p_f=false)) (fun q_=>[(0,Sl a_l l.length c_l),(1,Fv k_f caps_f),(7,I (l.length:Int)),(8,I (q_:Int))]) (fun q_=>G) (fun q_=>[]) (fun q_=>l.length-q_) 0 ⟨(by (try dsimp only);exact Ho _),(by (try dsimp only);simp)⟩ (fun q_ hs=>?_)
 revert hs;revert q_;intro i hs
 obtain ⟨hi,hn⟩:=hs
 dsimp only
 refine Jg [0] [(9,Bo (decide ((i:Int)<(l.length:Int))))] (Jf (Jl (decide ((i:Int)<(l.length:Int))) (fun h1=>?_) (fun h1=>?_)))
 refine Jq (Jc (Jf (Jy (Jg [0,0] [(5,I (i:Int))] (Jf (Jd (Jb [0,0,0] [(11,Fv k_f caps_f),(12,Sl a_l l.length c_l),(13,I (i:Int))] ?_)))))))
 obtain ⟨b1,o1,rfl⟩:=RS.addr h_l (k:=i) (by omega)
 obtain ⟨x1,hx1⟩:=QS (l:=l) (k:=i) (by omega)
 obtain ⟨_,⟨rfl,w1,w2,w3,w4⟩,hc1⟩:=RS.get h_l hx1
 refine JV (b:=b1) (off:=o1) (len:=l.length) (cap:=c_l) (ik:=.i64) 14 43 4 i J4 (JO 15 43 (cs:=[I x1.epoch,U x1.root,U x1.prev,I x1.at_]) 0 (.agg #[I x1.epoch,U x1.root,U x1.prev,I x1.at_]) hc1 (ZP (k:=k_f) (caps:=caps_f) (args:=#[.agg #[I x1.epoch,U x1.root,U x1.prev,I x1.at_]]) 16 (Bo (p_f x1)) hk_f (h_f [I x1.epoch,U x1.root,U x1.prev,I x1.at_] x1 (⟨rfl,w1,w2,w3,w4⟩)) (Je (Jc (Jl (p_f x1) (fun h2=>?_) (fun h2=>?_))))))
 refine Jg [0,0] [(4,I (i:Int))] (Jn (Ju (Jj (QV (Ju (Jj (Jo [0] [I (i:Int)] (Jx (Jh _) (congrArg I (?_:(QJ p_f l)=(i:Int)).symm)))))))))
 exact Vw hx1 (by simpa using h2) hn
 exact Jq (JM (Jc (Jd (Jb [0,0] [(8,I (Hk.wrap ((i:Int)+1)))] (Kp 8 ((i:Int)+1) J4 (Je (Qh (i+1) ⟨J4,(V6 hx1 (by simpa using h2) hn)⟩ (by (try dsimp only);omega))))))))
 refine KX (J1 (Kd (JS (Jc (Jg [0] [(4,I (-1))] (Jn (Jo [0] [I (-1)] (Jx (Jh _) (congrArg I (?_:(QJ p_f l)=(-1)).symm)))))))))
 exact Y8 (by rw [Hj (by omega)] at hn;exact hn)
theorem JfU (G:J5) (a_l:Ba) (c_l:Nat) (l:List JX) (h_l:RS KO G a_l c_l l) (k_f:FuncId) (caps_f:Array Value) (p_f:JX→Bool) (hk_f:JaV Tryz.prog k_f) (h_f:∀ (vs0:Bv) (x0:JX) (hx0:KO.R G vs0 x0),VC Tryz.prog k_f (#[.agg vs0.toArray]++caps_f) G [] (fun u _ _=>u=Bo (p_f x0))) :QZ 122 #[Sl a_l l.length c_l,Fv k_f caps_f] G (Bo (l.any p_f)):=by
 refine JP Tryz.func122 9 [(0,Sl a_l l.length c_l),(1,Fv k_f caps_f)] rfl (fun w0 G0=>?_)
 refine Jg [0] [] (Jf (Jd (Jb [0,0] [(5,Sl a_l l.length c_l),(6,Fv k_f caps_f)] (Jm 7 (I (QJ p_f l)) (Ji1 G a_l c_l l h_l k_f caps_f p_f hk_f h_f) (Jb [0,0] [(4,Bo (decide (QJ p_f l ≥ 0)))] (Je (Jc (Jn (Jo [0] [Bo (decide (QJ p_f l ≥ 0))] (Jx (Jh _) (congrArg Bo (?_:(l.any p_f)=(decide (QJ p_f l ≥ 0))).symm)))))))))))
 rw [V7]
theorem Jeg (G:J5) (a_l:Ba) (c_l:Nat) (l:List Int) (h_l:RS EU G a_l c_l l) :YS 137 #[Sl a_l l.length c_l] G [] (fun u G' L'=>∃ (a1:Ba) (c2:Nat) (r3:Bg),u=Sl a1 l.length c2∧(JR EU G' a1 c2 l r3)∧L'=[r3]):=by
 refine JP Tryz.func137 8 [(0,Sl a_l l.length c_l)] rfl (fun w0 G0=>?_)
 refine Jg [0] [] (Jf (Jf (Jd (Jb [0] [(3,Sl a_l l.length c_l)] (Jbj 4 (Bo ((a_l).isNone)) (by intro w;cases a_l <;> kernel_rfl) (Je (Jc (Jl ((a_l).isNone) (fun h1=>?_) (fun h1=>?_)))))))))
 refine Jg [0] [(2,Sl none 0 0)] (Jn (Jj (ZB (Jk 0 ?_))))
 have hf1:l=[]:=by
  exact RS.isNil h_l h1
 refine Jo [0] [Sl none 0 0] (JD [[]] (Jh _) ?_)
 rw [hf1]
 try dsimp only
 exact ⟨none,0,([]),rfl,(JR.none EU _),rfl⟩
 refine Jq (Jc (Jf (Jd (Km 5 0 #[] 41 (fun b1=>Jb [0] [(6,Sl a_l l.length c_l)] (Jav 7 41 0 (JR.of_lit (E:=EU) (b:=b1) [] [] trivial (by simp)) h_l (fun a1 c1 r1 hr1=>Jb [0] [(2,Sl a1 l.length c1)] (Je (Jc (Jn (Jk 0 ?_)))))))))))
 have hf2:l=l:=by
  rfl
 refine Jo [0] [Sl a1 l.length c1] (JD [r1] (Jh _) ?_)
 rw [hf2]
 try dsimp only
 exact ⟨a1,c1,r1,rfl,hr1,rfl⟩
theorem Joc (G:J5) (a_l:Ba) (c_l:Nat) (l:List Int) (h_l:RS EU G a_l c_l l) (k_f:FuncId) (caps_f:Array Value) (p_f:Int→Bool) (hk_f:JaV Tryz.prog k_f) (h_f:∀ (x0:Int) (hx0:rU x0),VC Tryz.prog k_f (#[U x0]++caps_f) G [] (fun u _ _=>u=Bo (p_f x0))) :QZ 220 #[Sl a_l l.length c_l,Fv k_f caps_f] G (I (QJ p_f l)):=by
 refine JP Tryz.func220 19 [(0,Sl a_l l.length c_l),(1,Fv k_f caps_f)] rfl (fun w0 G0=>?_)
 refine Jg [0] [] (Jf (Jg [0,0,0] [(7,I (l.length:Int)),(8,I 0)] (Jy ?_)))
 have hlm_h_l:l.length≤9223372036854775807:=Hi (h_l).le (h_l).max
 refine Qc (σ:=Nat) (fun q_=>(q_≤l.length)∧((l.take q_).any p_f=false)) (fun q_=>[(0,Sl a_l l.length c_l),(1,Fv k_f caps_f),(7,I (l.length:Int)),(8,I (q_:Int))]) (fun q_=>G) (fun q_=>[]) (fun q_=>l.length-q_) 0 ⟨(by (try dsimp only);exact Ho _),(by (try dsimp only);simp)⟩ (fun q_ hs=>?_)
 revert hs;revert q_;intro i hs
 obtain ⟨hi,hn⟩:=hs
 dsimp only
 refine Jg [0] [(9,Bo (decide ((i:Int)<(l.length:Int))))] (Jf (Jl (decide ((i:Int)<(l.length:Int))) (fun h1=>?_) (fun h1=>?_)))
 refine Jq (Jc (Jf (Jy (Jg [0,0] [(5,I (i:Int))] (Jf (Jd (Jb [0,0,0] [(11,Fv k_f caps_f),(12,Sl a_l l.length c_l),(13,I (i:Int))] ?_)))))))
 obtain ⟨b1,o1,rfl⟩:=RS.addr h_l (k:=i) (by omega)
 obtain ⟨x1,hx1⟩:=QS (l:=l) (k:=i) (by omega)
 obtain ⟨_,⟨rfl,w1⟩,hc1⟩:=RS.get h_l hx1
 refine JV (b:=b1) (off:=o1) (len:=l.length) (cap:=c_l) (ik:=.i64) 14 41 1 i J4 (JO 15 41 (cs:=[U x1]) 0 (U x1) hc1 (ZP (k:=k_f) (caps:=caps_f) (args:=#[U x1]) 16 (Bo (p_f x1)) hk_f (h_f x1 w1) (Je (Jc (Jl (p_f x1) (fun h2=>?_) (fun h2=>?_))))))
 refine Jg [0,0] [(4,I (i:Int))] (Jn (Ju (Jj (QV (Ju (Jj (Jo [0] [I (i:Int)] (Jx (Jh _) (congrArg I (?_:(QJ p_f l)=(i:Int)).symm)))))))))
 exact Vw hx1 (by simpa using h2) hn
 exact Jq (JM (Jc (Jd (Jb [0,0] [(8,I (Hk.wrap ((i:Int)+1)))] (Kp 8 ((i:Int)+1) J4 (Je (Qh (i+1) ⟨J4,(V6 hx1 (by simpa using h2) hn)⟩ (by (try dsimp only);omega))))))))
 refine KX (J1 (Kd (JS (Jc (Jg [0] [(4,I (-1))] (Jn (Jo [0] [I (-1)] (Jx (Jh _) (congrArg I (?_:(QJ p_f l)=(-1)).symm)))))))))
 exact Y8 (by rw [Hj (by omega)] at hn;exact hn)
theorem JpR (G:J5) (a_l:Ba) (c_l:Nat) (l:List Int) (h_l:RS EU G a_l c_l l) (k_f:FuncId) (caps_f:Array Value) (p_f:Int→Bool) (hk_f:JaV Tryz.prog k_f) (h_f:∀ (x0:Int) (hx0:rU x0),VC Tryz.prog k_f (#[U x0]++caps_f) G [] (fun u _ _=>u=Bo (p_f x0))) :QZ 179 #[Sl a_l l.length c_l,Fv k_f caps_f] G (Bo (l.any p_f)):=by
 refine JP Tryz.func179 9 [(0,Sl a_l l.length c_l),(1,Fv k_f caps_f)] rfl (fun w0 G0=>?_)
 refine Jg [0] [] (Jf (Jd (Jb [0,0] [(5,Sl a_l l.length c_l),(6,Fv k_f caps_f)] (Jm 7 (I (QJ p_f l)) (Joc G a_l c_l l h_l k_f caps_f p_f hk_f h_f) (Jb [0,0] [(4,Bo (decide (QJ p_f l ≥ 0)))] (Je (Jc (Jn (Jo [0] [Bo (decide (QJ p_f l ≥ 0))] (Jx (Jh _) (congrArg Bo (?_:(l.any p_f)=(decide (QJ p_f l ≥ 0))).symm)))))))))))
 rw [V7]
theorem JgG (G:J5) (a_l:Ba) (c_l:Nat) (l:List JU) (h_l:RS Kn G a_l c_l l) (k_f:FuncId) (caps_f:Array Value) (p_f:JU→Bool) (hk_f:JaV Tryz.prog k_f) (h_f:∀ (vs0:Bv) (x0:JU) (hx0:Kn.R G vs0 x0),VC Tryz.prog k_f (#[.agg vs0.toArray]++caps_f) G [] (fun u _ _=>u=Bo (p_f x0))) :QZ 211 #[Sl a_l l.length c_l,Fv k_f caps_f] G (I (QJ p_f l)):=by
 refine JP Tryz.func211 19 [(0,Sl a_l l.length c_l),(1,Fv k_f caps_f)] rfl (fun w0 G0=>?_)
 refine Jg [0] [] (Jf (Jg [0,0,0] [(7,I (l.length:Int)),(8,I 0)] (Jy ?_)))
 have hlm_h_l:l.length≤9223372036854775807:=Hi (h_l).le (h_l).max
 refine Qc (σ:=Nat) (fun q_=>(q_≤l.length)∧((l.take q_).any p_f=false)) (fun q_=>[(0,Sl a_l l.length c_l),(1,Fv k_f caps_f),(7,I (l.length:Int)),(8,I (q_:Int))]) (fun q_=>G) (fun q_=>[]) (fun q_=>l.length-q_) 0 ⟨(by (try dsimp only);exact Ho _),(by (try dsimp only);simp)⟩ (fun q_ hs=>?_)
 revert hs;revert q_;intro i hs
 obtain ⟨hi,hn⟩:=hs
 dsimp only
 refine Jg [0] [(9,Bo (decide ((i:Int)<(l.length:Int))))] (Jf (Jl (decide ((i:Int)<(l.length:Int))) (fun h1=>?_) (fun h1=>?_)))
 refine Jq (Jc (Jf (Jy (Jg [0,0] [(5,I (i:Int))] (Jf (Jd (Jb [0,0,0] [(11,Fv k_f caps_f),(12,Sl a_l l.length c_l),(13,I (i:Int))] ?_)))))))
 obtain ⟨b1,o1,rfl⟩:=RS.addr h_l (k:=i) (by omega)
 obtain ⟨x1,hx1⟩:=QS (l:=l) (k:=i) (by omega)
 obtain ⟨_,⟨a1,c1,a2,c2,a3,c3,rfl,w1,w2,w3,w4,hs1,w5,w6,w7,w8,w9,hs2,hs3⟩,hc1⟩:=RS.get h_l hx1
 refine JV (b:=b1) (off:=o1) (len:=l.length) (cap:=c_l) (ik:=.i64) 14 51 12 i J4 (JO 15 51 (cs:=(Ky x1 a1 c1 a2 c2 a3 c3)) 0 (Q1 x1 a1 c1 a2 c2 a3 c3) hc1 (ZP (k:=k_f) (caps:=caps_f) (args:=#[(Q1 x1 a1 c1 a2 c2 a3 c3)]) 16 (Bo (p_f x1)) hk_f (h_f (Ky x1 a1 c1 a2 c2 a3 c3) x1 (⟨a1,c1,a2,c2,a3,c3,rfl,w1,w2,w3,w4,hs1,w5,w6,w7,w8,w9,hs2,hs3⟩)) (Je (Jc (Jl (p_f x1) (fun h2=>?_) (fun h2=>?_))))))
 refine Jg [0,0] [(4,I (i:Int))] (Jn (Ju (Jj (QV (Ju (Jj (Jo [0] [I (i:Int)] (Jx (Jh _) (congrArg I (?_:(QJ p_f l)=(i:Int)).symm)))))))))
 exact Vw hx1 (by simpa using h2) hn
 exact Jq (JM (Jc (Jd (Jb [0,0] [(8,I (Hk.wrap ((i:Int)+1)))] (Kp 8 ((i:Int)+1) J4 (Je (Qh (i+1) ⟨J4,(V6 hx1 (by simpa using h2) hn)⟩ (by (try dsimp only);omega))))))))
 refine KX (J1 (Kd (JS (Jc (Jg [0] [(4,I (-1))] (Jn (Jo [0] [I (-1)] (Jx (Jh _) (congrArg I (?_:(QJ p_f l)=(-1)).symm)))))))))
 exact Y8 (by rw [Hj (by omega)] at hn;exact hn)
theorem Jh0 (G:J5) (a_l:Ba) (c_l:Nat) (l:List JU) (h_l:RS Kn G a_l c_l l) (k_f:FuncId) (caps_f:Array Value) (p_f:JU→Bool) (hk_f:JaV Tryz.prog k_f) (h_f:∀ (vs0:Bv) (x0:JU) (hx0:Kn.R G vs0 x0),VC Tryz.prog k_f (#[.agg vs0.toArray]++caps_f) G [] (fun u _ _=>u=Bo (p_f x0))) :QZ 158 #[Sl a_l l.length c_l,Fv k_f caps_f] G (Bo (l.any p_f)):=by
 refine JP Tryz.func158 9 [(0,Sl a_l l.length c_l),(1,Fv k_f caps_f)] rfl (fun w0 G0=>?_)
 refine Jg [0] [] (Jf (Jd (Jb [0,0] [(5,Sl a_l l.length c_l),(6,Fv k_f caps_f)] (Jm 7 (I (QJ p_f l)) (JgG G a_l c_l l h_l k_f caps_f p_f hk_f h_f) (Jb [0,0] [(4,Bo (decide (QJ p_f l ≥ 0)))] (Je (Jc (Jn (Jo [0] [Bo (decide (QJ p_f l ≥ 0))] (Jx (Jh _) (congrArg Bo (?_:(l.any p_f)=(decide (QJ p_f l ≥ 0))).symm)))))))))))
 rw [V7]
theorem YU (G:J5) (a_l:Ba) (c_l:Nat) (l:List Kc) (h_l:RS QK G a_l c_l l) :YS 162 #[Sl a_l l.length c_l] G [] (fun u G' L'=>∃ (a1:Ba) (c2:Nat) (r3:Bg),u=Sl a1 l.length c2∧(JR QK G' a1 c2 l r3)∧L'=[r3]):=by
 refine JP Tryz.func162 8 [(0,Sl a_l l.length c_l)] rfl (fun w0 G0=>?_)
 refine Jg [0] [] (Jf (Jf (Jd (Jb [0] [(3,Sl a_l l.length c_l)] (Jbj 4 (Bo ((a_l).isNone)) (by intro w;cases a_l <;> kernel_rfl) (Je (Jc (Jl ((a_l).isNone) (fun h1=>?_) (fun h1=>?_)))))))))
 refine Jg [0] [(2,Sl none 0 0)] (Jn (Jj (ZB (Jk 0 ?_))))
 have hf1:l=[]:=by
  exact RS.isNil h_l h1
 refine Jo [0] [Sl none 0 0] (JD [[]] (Jh _) ?_)
 rw [hf1]
 try dsimp only
 exact ⟨none,0,([]),rfl,(JR.none QK _),rfl⟩
 refine Jq (Jc (Jf (Jd (Km 5 0 #[] 111 (fun b1=>Jb [0] [(6,Sl a_l l.length c_l)] (Jav 7 111 0 (JR.of_lit (E:=QK) (b:=b1) [] [] trivial (by simp)) h_l (fun a1 c1 r1 hr1=>Jb [0] [(2,Sl a1 l.length c1)] (Je (Jc (Jn (Jk 0 ?_)))))))))))
 have hf2:l=l:=by
  rfl
 refine Jo [0] [Sl a1 l.length c1] (JD [r1] (Jh _) ?_)
 rw [hf2]
 try dsimp only
 exact ⟨a1,c1,r1,rfl,hr1,rfl⟩
theorem JfV (G:J5) (a_l:Ba) (c_l:Nat) (l:List Kc) (h_l:RS QK G a_l c_l l) (k_f:FuncId) (caps_f:Array Value) (p_f:Kc→Bool) (hk_f:JaV Tryz.prog k_f) (h_f:∀ (vs0:Bv) (x0:Kc) (hx0:QK.R G vs0 x0),VC Tryz.prog k_f (#[.agg vs0.toArray]++caps_f) G [] (fun u _ _=>u=Bo (p_f x0))) :QZ 219 #[Sl a_l l.length c_l,Fv k_f caps_f] G (I (QJ p_f l)):=by
 refine JP Tryz.func219 19 [(0,Sl a_l l.length c_l),(1,Fv k_f caps_f)] rfl (fun w0 G0=>?_)
 refine Jg [0] [] (Jf (Jg [0,0,0] [(7,I (l.length:Int)),(8,I 0)] (Jy ?_)))
 have hlm_h_l:l.length≤9223372036854775807:=Hi (h_l).le (h_l).max
 refine Qc (σ:=Nat) (fun q_=>(q_≤l.length)∧((l.take q_).any p_f=false)) (fun q_=>[(0,Sl a_l l.length c_l),(1,Fv k_f caps_f),(7,I (l.length:Int)),(8,I (q_:Int))]) (fun q_=>G) (fun q_=>[]) (fun q_=>l.length-q_) 0 ⟨(by (try dsimp only);exact Ho _),(by (try dsimp only);simp)⟩ (fun q_ hs=>?_)
 revert hs;revert q_;intro i hs
 obtain ⟨hi,hn⟩:=hs
 dsimp only
 refine Jg [0] [(9,Bo (decide ((i:Int)<(l.length:Int))))] (Jf (Jl (decide ((i:Int)<(l.length:Int))) (fun h1=>?_) (fun h1=>?_)))
 refine Jq (Jc (Jf (Jy (Jg [0,0] [(5,I (i:Int))] (Jf (Jd (Jb [0,0,0] [(11,Fv k_f caps_f),(12,Sl a_l l.length c_l),(13,I (i:Int))] ?_)))))))
 obtain ⟨b1,o1,rfl⟩:=RS.addr h_l (k:=i) (by omega)
 obtain ⟨x1,hx1⟩:=QS (l:=l) (k:=i) (by omega)
 obtain ⟨_,⟨rfl,w1,w2⟩,hc1⟩:=RS.get h_l hx1
 refine JV (b:=b1) (off:=o1) (len:=l.length) (cap:=c_l) (ik:=.i64) 14 111 2 i J4 (JO 15 111 (cs:=[Sr x1.name,Sr x1.value]) 0 (.agg #[Sr x1.name,Sr x1.value]) hc1 (ZP (k:=k_f) (caps:=caps_f) (args:=#[.agg #[Sr x1.name,Sr x1.value]]) 16 (Bo (p_f x1)) hk_f (h_f [Sr x1.name,Sr x1.value] x1 (⟨rfl,w1,w2⟩)) (Je (Jc (Jl (p_f x1) (fun h2=>?_) (fun h2=>?_))))))
 refine Jg [0,0] [(4,I (i:Int))] (Jn (Ju (Jj (QV (Ju (Jj (Jo [0] [I (i:Int)] (Jx (Jh _) (congrArg I (?_:(QJ p_f l)=(i:Int)).symm)))))))))
 exact Vw hx1 (by simpa using h2) hn
 exact Jq (JM (Jc (Jd (Jb [0,0] [(8,I (Hk.wrap ((i:Int)+1)))] (Kp 8 ((i:Int)+1) J4 (Je (Qh (i+1) ⟨J4,(V6 hx1 (by simpa using h2) hn)⟩ (by (try dsimp only);omega))))))))
 refine KX (J1 (Kd (JS (Jc (Jg [0] [(4,I (-1))] (Jn (Jo [0] [I (-1)] (Jx (Jh _) (congrArg I (?_:(QJ p_f l)=(-1)).symm)))))))))
 exact Y8 (by rw [Hj (by omega)] at hn;exact hn)
theorem Jmy (G:J5) (a_l:Ba) (c_l:Nat) (l:List Kc) (h_l:RS QK G a_l c_l l) (k_f:FuncId) (caps_f:Array Value) (p_f:Kc→Bool) (hk_f:JaV Tryz.prog k_f) (h_f:∀ (vs0:Bv) (x0:Kc) (hx0:QK.R G vs0 x0),VC Tryz.prog k_f (#[.agg vs0.toArray]++caps_f) G [] (fun u _ _=>u=Bo (p_f x0))) :QZ 177 #[Sl a_l l.length c_l,Fv k_f caps_f] G (Bo (l.any p_f)):=by
 refine JP Tryz.func177 9 [(0,Sl a_l l.length c_l),(1,Fv k_f caps_f)] rfl (fun w0 G0=>?_)
 refine Jg [0] [] (Jf (Jd (Jb [0,0] [(5,Sl a_l l.length c_l),(6,Fv k_f caps_f)] (Jm 7 (I (QJ p_f l)) (JfV G a_l c_l l h_l k_f caps_f p_f hk_f h_f) (Jb [0,0] [(4,Bo (decide (QJ p_f l ≥ 0)))] (Je (Jc (Jn (Jo [0] [Bo (decide (QJ p_f l ≥ 0))] (Jx (Jh _) (congrArg Bo (?_:(l.any p_f)=(decide (QJ p_f l ≥ 0))).symm)))))))))))
 rw [V7]
theorem YV (G:J5) (a_l:Ba) (c_l:Nat) (l:List ZD) (h_l:RS Q6 G a_l c_l l) :YS 208 #[Sl a_l l.length c_l] G [] (fun u G' L'=>∃ (a1:Ba) (c2:Nat) (r3:Bg),u=Sl a1 l.length c2∧(JR Q6 G' a1 c2 l r3)∧L'=[r3]):=by
 refine JP Tryz.func208 8 [(0,Sl a_l l.length c_l)] rfl (fun w0 G0=>?_)
 refine Jg [0] [] (Jf (Jf (Jd (Jb [0] [(3,Sl a_l l.length c_l)] (Jbj 4 (Bo ((a_l).isNone)) (by intro w;cases a_l <;> kernel_rfl) (Je (Jc (Jl ((a_l).isNone) (fun h1=>?_) (fun h1=>?_)))))))))
 refine Jg [0] [(2,Sl none 0 0)] (Jn (Jj (ZB (Jk 0 ?_))))
 have hf1:l=[]:=by
  exact RS.isNil h_l h1
 refine Jo [0] [Sl none 0 0] (JD [[]] (Jh _) ?_)
 rw [hf1]
 try dsimp only
 exact ⟨none,0,([]),rfl,(JR.none Q6 _),rfl⟩
 refine Jq (Jc (Jf (Jd (Km 5 0 #[] 182 (fun b1=>Jb [0] [(6,Sl a_l l.length c_l)] (Jav 7 182 0 (JR.of_lit (E:=Q6) (b:=b1) [] [] trivial (by simp)) h_l (fun a1 c1 r1 hr1=>Jb [0] [(2,Sl a1 l.length c1)] (Je (Jc (Jn (Jk 0 ?_)))))))))))
 have hf2:l=l:=by
  rfl
 refine Jo [0] [Sl a1 l.length c1] (JD [r1] (Jh _) ?_)
 rw [hf2]
 try dsimp only
 exact ⟨a1,c1,r1,rfl,hr1,rfl⟩
theorem Jmz (G:J5) (e:Int) :QZ 31 #[I e] G (Bo (!decide (e=0))):=by
 refine JP Tryz.func31 5 [(0,I e)] rfl (fun w0 G0=>?_)
 refine Jg [0] [] (Jg [0,0,0] [(2,Bo (!decide (e=0)))] (Jn (Jo [0] [Bo (!decide (e=0))] (Jx (Jh _) (congrArg Bo (?_:(!decide (e=0))=(!decide (e=0))).symm)))))
 rfl
theorem Jod (G:J5) (a_l:Ba) (c_l:Nat) (l:List Int) (h_l:RS EErr G a_l c_l l) :QZ 13 #[Sl a_l l.length c_l] G (Bo (!(l.any fun x0=>!decide (x0=0)))):=by
 refine JP Tryz.func13 6 [(0,Sl a_l l.length c_l)] rfl (fun w0 G0=>?_)
 refine Jg [0] [] (Jf (Jd (Jb [0] [(3,Sl a_l l.length c_l)] (Jm 4 (Bo (l.any (fun x0=>!decide (x0=0)))) (Jmw G a_l c_l l h_l 31 #[] (fun x0=>!decide (x0=0)) (fun _ _=>by kernel_rfl) (fun x0=>Jmz G x0)) (Jb [0,0] [(2,Bo (!(l.any (fun x0=>!decide (x0=0)))))] (Je (Jc (Jn (Jo [0] [Bo (!(l.any (fun x0=>!decide (x0=0))))] (Jx (Jh _) (congrArg Bo (?_:(!(l.any fun x0=>!decide (x0=0)))=(!(l.any (fun x0=>!decide (x0=0))))).symm)))))))))))
 rfl
def Wc (name value:Bb):Int:=if KS name=false then 3 else if 20<value.length then 2 else 0
def KI (a:ZD):Int:=Wc a.name a.value
theorem Jfp {a b:Int} (h:0≤a∧a≤30) (hb:1≤b∧b≤30):0≤a.tdiv b∧a.tdiv b≤30:=by
 rw [HM h.1]
 exact ⟨Int.ediv_nonneg h.1 (by omega),Int.le_trans (Int.ediv_le_self _ h.1) h.2⟩
theorem Jly {a b:Int} (h:0≤a∧a≤31) (hb:1≤b∧b≤1000):0≤a*b∧a*b≤31000:=by
 refine ⟨HT h.1 (by omega),?_⟩
 have h1:a*b≤31*b:=HA h.2 (by omega)
 omega
def Z0:List ZD→Int
 | []=>0
 | a::l=>if KI a=0 then Z0 l else KI a
def Ko (q:Q3):Int:=if q.most<1∨30<q.most then 4 else if q.most<q.wait.length then 7 else Z0 q.wait
def VJ:Q3:=⟨0,[]⟩
def Yk (q:Q3) (a:ZD):Int:=if Ko q ≠ 0 then Ko q else if KI a ≠ 0 then KI a else if (q.wait.length:Int)=q.most then 7 else 0
def JT (q:Q3) (a:ZD):Q3×Int×Int:=if Yk q a ≠ 0 then (VJ,0,Yk q a) else (⟨q.most,q.wait++[a]⟩,q.wait.length,0)
def Q0 (n:Int) (l:List ZD):Nat:=if (l.length:Int)<n then l.length else n.toNat
def J9 (q:Q3) (n:Int):Q3×List ZD×Int:=if Ko q ≠ 0 then (VJ,[],Ko q) else if n<0 then (VJ,[],4) else (⟨q.most,q.wait.drop (Q0 n q.wait)⟩,q.wait.take (Q0 n q.wait),0)
def Qt (ahead batch every:Int):Int×Int:=if ahead<0∨30<ahead∨batch<1∨30<batch∨every<1∨1000<every then (0,4) else ((ahead.tdiv batch+1)*every,0)
theorem JfW {l:List ZD} {i:Nat} {x:ZD} (h:l[i]? = some x) (h0:KI x=0):Z0 (l.drop i)=Z0 (l.drop (i+1)):=by
 obtain ⟨hi,rfl⟩:=Hh.1 h
 rw [Hp hi]
 show (if KI l[i]=0 then _ else _)=_
 rw [if_pos h0]
theorem Jh1 {l:List ZD} {i:Nat} {x:ZD} (h:l[i]? = some x) (h0:¬ KI x=0):Z0 (l.drop i)=KI x:=by
 obtain ⟨hi,rfl⟩:=Hh.1 h
 rw [Hp hi]
 show (if KI l[i]=0 then _ else _)=_
 rw [if_neg h0]
theorem JcI:∀ {l:List ZD},Z0 l=0 ↔ ∀ a∈l,KI a=0
 | []=>by simp [Z0]
 | a::l=>by
  unfold Z0
  split
  · rename_i h;simp [JcI (l:=l),h]
  · rename_i h;simp [h]
theorem Qj {q:Q3}:Ko q=0 ↔ 1≤q.most∧q.most≤30∧(q.wait.length:Int)≤q.most∧∀ a∈q.wait,KI a=0:=by
 unfold Ko
 rw [← JcI]
 (repeat' split) <;> omega
theorem JeL {q:Q3} {a:ZD} (h:(JT q a).2.2=0):Ko q=0∧KI a=0∧(q.wait.length:Int)<q.most∧JT q a=((⟨q.most,q.wait++[a]⟩:Q3),(q.wait.length:Int),(0:Int)):=by
 unfold JT at h ⊢
 split at h
 · contradiction
 ·
  rename_i h1
  rw [if_neg h1]
  unfold Yk at h1
  have:=@Qj q
  by_cases e1:Ko q=0
  ·
   rw [if_neg (by omega)] at h1
   by_cases e2:KI a=0
   ·
    rw [if_neg (by omega)] at h1
    by_cases e3:(q.wait.length:Int)=q.most
    · rw [if_pos e3] at h1;omega
    · exact ⟨e1,e2,by have:=this.1 e1;omega,rfl⟩
   · rw [if_pos e2] at h1;omega
  · rw [if_pos e1] at h1;omega
theorem JfX {q:Q3} {a:ZD} (h:(JT q a).2.2=0):Ko (JT q a).1=0:=by
 obtain ⟨h1,h2,h3,h4⟩:=JeL h
 rw [h4]
 rw [Qj] at h1 ⊢
 refine ⟨h1.1,h1.2.1,by simp;omega,fun b hb=>?_⟩
 rcases HJ.1 hb with hb | hb
 · exact h1.2.2.2 b hb
 · rw [HF.1 hb];exact h2
theorem Jh2 {q:Q3} {n:Int} (h:(J9 q n).2.2=0):Ko q=0∧0≤n∧J9 q n=((⟨q.most,q.wait.drop (Q0 n q.wait)⟩:Q3),q.wait.take (Q0 n q.wait),(0:Int)):=by
 unfold J9 at h ⊢
 split at h
 · contradiction
 split at h
 · cases h
 ·
  rename_i h1 h2
  rw [if_neg h1,if_neg h2]
  exact ⟨by omega,by omega,rfl⟩
theorem Jfb {q:Q3} {n:Int} (h:(J9 q n).2.2=0):Ko (J9 q n).1=0:=by
 obtain ⟨h1,h2,h3⟩:=Jh2 h
 rw [h3]
 rw [Qj] at h1 ⊢
 exact ⟨h1.1,h1.2.1,by simp;omega,fun b hb=>h1.2.2.2 b (List.mem_of_mem_drop hb)⟩
theorem JmA {n:Int} {l:List ZD} (h:0≤n):(if (((l.length:Nat):Int))<n then (((l.length:Nat):Int)) else n)=((Q0 n l:Nat):Int):=by unfold Q0;split <;> omega
theorem Jeh {n:Int} {l:List ZD}:Q0 n l≤l.length:=by unfold Q0;split <;> omega
theorem Jb4 (G:J5) (vs_a:Bv) (a:ZD) (h_a:Q6.R G vs_a a) :QZ 207 #[.agg vs_a.toArray] G (I (KI a)):=by
 obtain ⟨rfl,_,_,_,_⟩:=h_a
 refine JP Tryz.func207 13 [(0,.agg #[Sr a.name,Sr a.value,U a.n,U a.tag])] rfl (fun w0 G0=>?_)
 refine Jf (Jd (Jv 1 #[Sr a.name,Sr a.value,U a.n,U a.tag] 182 (fun b1=>Jb [0] [] (Je (Jc (Jf (Jy (Jf (Jd (Jb [0,2] [(5,Sr a.name)] (Jm 6 (Bo (KS a.name)) (Z4 G a.name) (Jb [0,0] [(3,Bo (!(KS a.name)))] (Je (Jc (Jl (!(KS a.name)) (fun h1=>?_) (fun h1=>?_))))))))))))))))
 refine Jg [0] [(2,I 3)] (Jn (Ju (Jj (Jo [0] [I 3] (Jx (Jh _) (congrArg I (?_:(KI a)=3).symm))))))
 unfold KI Wc;simp_all;try omega
 refine Jg [0,2,0,0,0] [(8,Bo (decide (((a.value).length:Int) > 20)))] (Jl (decide (((a.value).length:Int) > 20)) (fun h2=>?_) (fun h2=>?_))
 refine Jg [0] [(2,I 2)] (Jn (Ju (Jj (Jo [0] [I 2] (Jx (Jh _) (congrArg I (?_:(KI a)=2).symm))))))
 unfold KI Wc;simp_all;try omega
 refine Jq (JM (Jc (Jg [0] [(2,I 0)] (Jn (Jo [0] [I 0] (Jx (Jh _) (congrArg I (?_:(KI a)=0).symm)))))))
 unfold KI Wc;simp_all;try omega
theorem JaI (G:J5) (vs_q:Bv) (q:Q3) (h_q:Jkj.R G vs_q q) :QZ 205 #[.agg vs_q.toArray] G (I (Ko q)):=by
 obtain ⟨a1,c1,rfl,_,hs1⟩:=h_q
 refine JP Tryz.func205 35 [(0,.agg #[I q.most,Sl a1 q.wait.length c1])] rfl (fun w0 G0=>?_)
 refine Jf (Jd (Jv 1 #[I q.most,Sl a1 q.wait.length c1] 57 (fun b1=>Jb [0] [] (Je (Jc (Jf (Jy (Jf (Jd (Jb [0,2,0,0] [(10,Bo (decide (q.most<1)))] (Ks (decide (q.most<1)) [10] [1,1,1,0] [0,2,0,0] (fun bb=>[(14,Bo (bb || (decide (q.most > 30))))]) (Jb [0] [(6,Bo ((decide (q.most<1)) || (decide (q.most > 30))))] (Je (Jc (Jl ((decide (q.most<1)) || (decide (q.most > 30))) (fun h1=>?_) (fun h1=>?_))))))))))))))))
 refine Jg [0] [(2,I 4)] (Jn (Ju (Jj (Jo [0] [I 4] (Jx (Jh _) (congrArg I (?_:(Ko q)=4).symm))))))
 · unfold Ko;(rw [if_pos (by omega)];done)
 refine Jg [0,2,0,0,2,0,0] [(15,Bo (decide ((q.wait.length:Int) > q.most)))] (Jl (decide ((q.wait.length:Int) > q.most)) (fun h2=>?_) (fun h2=>?_))
 refine Jg [0] [(2,I 7)] (Jn (Ju (Jj (Jo [0] [I 7] (Jx (Jh _) (congrArg I (?_:(Ko q)=7).symm))))))
 · unfold Ko;(rw [if_neg (by omega),if_pos (by omega)];done)
 refine Jq (JM (Jc (Jf (Jg [0,2,0,0] [(23,Sl a1 q.wait.length c1),(24,I (q.wait.length:Int)),(25,I 0)] (Jy ?_)))))
 have hlm_hs1:q.wait.length≤9223372036854775807:=Hi (hs1).le (hs1).max
 refine Qc (σ:=Nat) (fun q_=>(q_≤q.wait.length)∧(Z0 q.wait=Z0 (q.wait.drop q_))) (fun q_=>[(23,Sl a1 q.wait.length c1),(24,I (q.wait.length:Int)),(25,I (q_:Int))]) (fun q_=>G) (fun q_=>[[Sg b1 0 [I q.most,Sl a1 q.wait.length c1]]]) (fun q_=>q.wait.length-q_) 0 ⟨(by (try dsimp only);exact Ho _),rfl⟩ (fun q_ hs=>?_)
 revert hs;revert q_;intro i hs
 obtain ⟨hi,hn⟩:=hs
 dsimp only
 refine Jg [0] [(26,Bo (decide ((i:Int)<(q.wait.length:Int))))] (Jf (Jl (decide ((i:Int)<(q.wait.length:Int))) (fun h3=>?_) (fun h3=>?_)))
 refine Jq (Jc (Jf (Jy (Jf (Jd ?_)))))
 obtain ⟨b2,o1,rfl⟩:=RS.addr hs1 (k:=i) (by omega)
 obtain ⟨x1,hx1⟩:=QS (l:=q.wait) (k:=i) (by omega)
 obtain ⟨_,⟨rfl,w2,w3,w4,w5⟩,hc1⟩:=RS.get hs1 hx1
 refine JV (b:=b2) (off:=o1) (len:=q.wait.length) (cap:=c1) (ik:=.i64) 27 182 4 i J4 (JO 28 182 (cs:=[Sr x1.name,Sr x1.value,U x1.n,U x1.tag]) 0 (.agg #[Sr x1.name,Sr x1.value,U x1.n,U x1.tag]) hc1 (Jv 4 #[Sr ([]),Sr ([]),U 0,U 0] 182 (fun b3=>JW [3] [] [[Sg b3 0 [Sr x1.name,Sr x1.value,U x1.n,U x1.tag]],[Sg b1 0 [I q.most,Sl (At b2 o1) q.wait.length c1]]] (Je (Jc (Jf (Jd (Jb [2] [(29,.agg #[Sr x1.name,Sr x1.value,U x1.n,U x1.tag])] (Jm 30 (I (KI x1)) (Jb4 G [Sr x1.name,Sr x1.value,U x1.n,U x1.tag] x1 (⟨rfl,w2,w3,w4,w5⟩)) (Jb [0] [(5,I (KI x1))] (Je (Jc (Jg [0,0] [(32,Bo (!decide (KI x1=0)))] (Jl (!decide (KI x1=0)) (fun h4=>?_) (fun h4=>?_)))))))))))))))
 refine Jg [0,0] [(2,I (KI x1))] (Jn (Ju (Jj (QV (Ju (Jj (Jo [0] [I (KI x1)] (Jx (Jh _) (congrArg I (?_:(Ko q)=(KI x1)).symm)))))))))
 unfold Ko;(rw [if_neg (by omega),if_neg (by omega),hn];exact Jh1 hx1 h4)
 exact Jq (JM (Jc (Jd (Jb [0,0] [(25,I (Hk.wrap ((i:Int)+1)))] (Kp 25 ((i:Int)+1) J4 (Je (Qy [[Sg b1 0 [I q.most,Sl (At b2 o1) q.wait.length c1]]] (Qh (i+1) ⟨J4,(by rw [hn];exact JfW hx1 h4)⟩ (by (try dsimp only);omega)))))))))
 refine KX (J1 (Kd (JS (Jc (Jg [0] [(2,I 0)] (Jn (Jo [0] [I 0] (Jx (Jh _) (congrArg I (?_:(Ko q)=0).symm)))))))))
 unfold Ko;(rw [if_neg (by omega),if_neg (by omega),hn];(rw [Ht (by omega)];rfl))
set_option maxRecDepth 20000 in
theorem Jh3 (G:J5) (vs_q:Bv) (q:Q3) (h_q:Jkj.R G vs_q q) (vs_a:Bv) (a:ZD) (h_a:Q6.R G vs_a a) :YS 153 #[.agg vs_q.toArray,.agg vs_a.toArray] G [] (fun u G' L'=>∃ (a1:Ba) (c2:Nat),u=.tuple #[.agg #[I (((JT q a).1).most),Sl a1 ((((JT q a).1).wait).length) c2],I ((JT q a).2.1),I ((JT q a).2.2)]∧(rI (((JT q a).1).most))∧(RS Q6 G' a1 c2 (((JT q a).1).wait))∧L'=[]):=by
 obtain ⟨a1,c1,rfl,w1,hs1⟩:=h_q
 obtain ⟨rfl,w2,w3,w4,w5⟩:=h_a
 refine JP Tryz.func153 42 [(0,.agg #[I q.most,Sl a1 q.wait.length c1]),(1,.agg #[Sr a.name,Sr a.value,U a.n,U a.tag])] rfl (fun w0 G0=>?_)
 refine Jf (Jd (Jv 2 #[I q.most,Sl a1 q.wait.length c1] 57 (fun b1=>Jv 3 #[Sr a.name,Sr a.value,U a.n,U a.tag] 182 (fun b2=>Jv 4 #[I 0,Sl none 0 0] 57 (fun b3=>Jb [0,0] [] (Je (Jc (Jf (Jd (Jb [6] [(9,.agg #[I q.most,Sl a1 q.wait.length c1])] (Jm 10 (I (Ko q)) (JaI G [I q.most,Sl a1 q.wait.length c1] q (⟨a1,c1,rfl,w1,hs1⟩)) (Jb [0] [(7,I (Ko q))] (Je (Jc (Jf (Jg [0,0] [(12,Bo (decide (Ko q=0)))] (Jl (decide (Ko q=0)) (fun h1=>?_) (fun h1=>?_))))))))))))))))))
 refine Jd (Jb [4] [(13,.agg #[Sr a.name,Sr a.value,U a.n,U a.tag])] (Jm 14 (I (KI a)) (Jb4 G [Sr a.name,Sr a.value,U a.n,U a.tag] a (⟨rfl,w2,w3,w4,w5⟩)) (Jb [0] [(7,I (KI a))] (Je (Jc (Jf (Jf (Jd (Jb [0,0,0] [(17,Bo (decide (KI a=0)))] (Ks (decide (KI a=0)) [17] [0,6,0,0,6,0,0] [1,1,1,1,1,1,0] (fun bb=>[(24,Bo (bb && (decide ((q.wait.length:Int)=q.most))))]) (Je (Jc (Jl ((decide (KI a=0)) && (decide ((q.wait.length:Int)=q.most))) (fun h2=>?_) (fun h2=>?_))))))))))))))
 refine Jd (Jb [0] [(7,I 7)] (Je (Jc (Jf (Jg [0,0] [(26,Bo true)] (J0 (Jg [0,0,3,0,0] [(5,I 0),(6,I 7)] (Jn (Jj ?_)))))))))
 have hf1:JT q a=((⟨0,[]⟩:Q3),0,7):=by
  unfold JT Yk VJ;simp_all;try omega
 refine Jo [0,0,0] [.agg #[I 0,Sl none 0 0],I 0,I 7] (JD [] (Jh _) ?_)
 rw [hf1]
 try dsimp only
 exact ⟨none,0,rfl,J4,(J2 Q6 G),rfl⟩
 refine Jq (Jc (Jf (Jg [0,0] [(26,Bo (!decide (KI a=0)))] (Jl (!decide (KI a=0)) (fun h3=>?_) (fun h3=>?_)))))
 refine Jg [0,0,3,0,0] [(5,I 0),(6,I (KI a))] (Jn (Jj ?_))
 have hf2:JT q a=((⟨0,[]⟩:Q3),0,KI a):=by
  unfold JT Yk VJ;simp_all;try omega
 refine Jo [0,0,0] [.agg #[I 0,Sl none 0 0],I 0,I (KI a)] (JD [] (Jh _) ?_)
 rw [hf2]
 try dsimp only
 exact ⟨none,0,rfl,J4,(J2 Q6 G),rfl⟩
 refine Jq (Jc (Jg [0,6,0,0] [(8,I (q.wait.length:Int))] (Jf (Kt [4,6,7,10] (Wm [(0,Pt b1 0),(1,I q.most),(2,Pt b1 1),(3,Sl a1 q.wait.length c1),(5,.agg #[Sr a.name,Sr a.value,U a.n,U a.tag]),(9,I (q.wait.length:Int))] (JF [] [(0,0),(1,6),(2,0),(3,6),(5,4),(9,0)] [] [4,6] (Hf _) (Kf ?_ (Kf ?_ KY))))))))
 refine Jz 4 [(35,Sl a1 q.wait.length c1)] (fun X=>?_)
 refine JN 36 (YV G a1 c1 q.wait hs1) (fun v G1 L1 hl1 hp=>?_)
 obtain ⟨a2,c2,_,rfl,hr1,rfl⟩:=hp
 refine JA [(4,Sl a2 q.wait.length c2)] (JF [2,3] [(0,0),(1,8),(5,6),(9,0)] [] [6] (Hf _) (Kf ?_ KY))
 refine Jz 6 [(37,.agg #[Sr a.name,Sr a.value,U a.n,U a.tag])] (fun X=>?_)
 refine Km 38 1 #[Sr a.name,Sr a.value,U a.n,U a.tag] 182 (fun b4=>JA [(6,Sl (At b4 0) 1 1)] (JF [2,3,5] [(0,0),(1,10),(9,0)] [] [7] (Hf _) (Kf ?_ KY)))
 refine Jz 7 [(36,Sl a2 q.wait.length c2),(38,Sl (At b4 0) 1 1)] (fun X=>?_)
 refine Qd (b:=b4) (cs:=[Sr a.name,Sr a.value,U a.n,U a.tag]) 39 182 1 0 (E:=Q6) a hr1 ⟨rfl,w2,w3,w4,w5⟩ (by have hq_:=Qj.1 ‹_›;(try simp only [Q6,Hg,Hl,Hm]);omega) (by have hq_:=Qj.1 ‹_›;(try simp only [Q6,Hg,Hl,Hm]);omega) (fun a3 c3 r2 hr2=>JA [(7,Sl a3 ((q.wait++[a]).length) c3),(8,.agg #[I q.most,Sl a3 ((q.wait++[a]).length) c3])] (JF [2,3,5] [(0,0),(1,10),(8,0),(9,0)] [] [10] (Hf _) (Kf ?_ KY)))
 refine Jz 10 [(4,Pt b3 0),(40,.agg #[I q.most,Sl a3 ((q.wait++[a]).length) c3])] (fun X=>?_)
 refine KC 2 [[Sg b4 0 [Sr a.name,Sr a.value,U a.n,U a.tag]],r2,[Sg b3 0 [I q.most,Sl a3 ((q.wait++[a]).length) c3]],[Sg b2 0 [Sr a.name,Sr a.value,U a.n,U a.tag]],[Sg b1 0 [I q.most,Sl a1 q.wait.length c1]]] (J6 [(11,I (q.wait.length:Int)),(12,I 0)] (Kl [0,1,2,3,5,8] [(9,0),(11,0),(12,0)] [] [(4,Pt b3 0),(5,I (q.wait.length:Int)),(6,I 0)] (Hf _) (Jc (Jn (Wy (E:=Q6) 1 hr2 (by have hq_:=Qj.1 ‹_›;(try simp only [Q6,Hg,Hl,Hm]);omega) (fun G2 hl2 hs2=>?_))))))
 have hf3:JT q a=((⟨q.most,q.wait++[a]⟩:Q3),(q.wait.length:Int),0):=by
  unfold JT Yk VJ;simp_all;try omega
 refine Jo [2,0,0] [.agg #[I q.most,Sl a3 ((q.wait++[a]).length) c3],I (q.wait.length:Int),I 0] (JD [] (Ja hl1 hl2) ?_)
 rw [hf3]
 try dsimp only
 exact ⟨a3,c3,rfl,w1,hs2,rfl⟩
 refine Jz 6 [(37,.agg #[Sr a.name,Sr a.value,U a.n,U a.tag])] (fun X=>?_)
 refine Km 38 1 #[Sr a.name,Sr a.value,U a.n,U a.tag] 182 (fun b5=>JA [(6,Sl (At b5 0) 1 1)] (JF [5] [(0,0),(1,8),(2,0),(3,8),(9,0)] [] [4] (Hf _) (Kf ?_ KY)))
 refine Jz 4 [(35,Sl a1 q.wait.length c1)] (fun X=>?_)
 refine JN 36 (YV G a1 c1 q.wait hs1) (fun v G3 L1 hl3 hp=>?_)
 obtain ⟨a4,c4,_,rfl,hr3,rfl⟩:=hp
 refine JA [(4,Sl a4 q.wait.length c4)] (JF [2,3,5] [(0,0),(1,10),(9,0)] [] [7] (Hf _) (Kf ?_ KY))
 refine Jz 7 [(36,Sl a4 q.wait.length c4),(38,Sl (At b5 0) 1 1)] (fun X=>?_)
 refine Qd (b:=b5) (cs:=[Sr a.name,Sr a.value,U a.n,U a.tag]) 39 182 0 1 (E:=Q6) a hr3 ⟨rfl,w2,w3,w4,w5⟩ (by have hq_:=Qj.1 ‹_›;(try simp only [Q6,Hg,Hl,Hm]);omega) (by have hq_:=Qj.1 ‹_›;(try simp only [Q6,Hg,Hl,Hm]);omega) (fun a5 c5 r4 hr4=>JA [(7,Sl a5 ((q.wait++[a]).length) c5),(8,.agg #[I q.most,Sl a5 ((q.wait++[a]).length) c5])] (JF [2,3,5] [(0,0),(1,10),(8,0),(9,0)] [] [10] (Hf _) (Kf ?_ KY)))
 refine Jz 10 [(4,Pt b3 0),(40,.agg #[I q.most,Sl a5 ((q.wait++[a]).length) c5])] (fun X=>?_)
 refine KC 2 [r4,[Sg b5 0 [Sr a.name,Sr a.value,U a.n,U a.tag]],[Sg b3 0 [I q.most,Sl a5 ((q.wait++[a]).length) c5]],[Sg b2 0 [Sr a.name,Sr a.value,U a.n,U a.tag]],[Sg b1 0 [I q.most,Sl a1 q.wait.length c1]]] (J6 [(11,I (q.wait.length:Int)),(12,I 0)] (Kl [0,1,2,3,5,8] [(9,0),(11,0),(12,0)] [] [(4,Pt b3 0),(5,I (q.wait.length:Int)),(6,I 0)] (Hf _) (Jc (Jn (Wy (E:=Q6) 0 hr4 (by have hq_:=Qj.1 ‹_›;(try simp only [Q6,Hg,Hl,Hm]);omega) (fun G4 hl4 hs3=>?_))))))
 have hf4:JT q a=((⟨q.most,q.wait++[a]⟩:Q3),(q.wait.length:Int),0):=by
  unfold JT Yk VJ;simp_all;try omega
 refine Jo [2,0,0] [.agg #[I q.most,Sl a5 ((q.wait++[a]).length) c5],I (q.wait.length:Int),I 0] (JD [] (Ja hl3 hl4) ?_)
 rw [hf4]
 try dsimp only
 exact ⟨a5,c5,rfl,w1,hs3,rfl⟩
 refine Jq (Jc (Jf (Jf (Jd (Jb [0,0,0] [(17,Bo (decide (Ko q=0)))] (Ks (decide (Ko q=0)) [17] [0,6,0,0,6,0,0] [1,1,1,1,1,1,0] (fun bb=>[(24,Bo (bb && (decide ((q.wait.length:Int)=q.most))))]) (Je (Jc (Jl ((decide (Ko q=0)) && (decide ((q.wait.length:Int)=q.most))) (fun h4=>?_) (fun h4=>?_))))))))))
 refine Jd (Jb [0] [(7,I 7)] (Je (Jc (Jf (Jg [0,0] [(26,Bo true)] (J0 (Jg [0,0,3,0,0] [(5,I 0),(6,I 7)] (Jn (Jj ?_)))))))))
 have hf5:JT q a=((⟨0,[]⟩:Q3),0,7):=by
  unfold JT Yk VJ;simp_all;try omega
 refine Jo [0,0,0] [.agg #[I 0,Sl none 0 0],I 0,I 7] (JD [] (Jh _) ?_)
 rw [hf5]
 try dsimp only
 exact ⟨none,0,rfl,J4,(J2 Q6 G),rfl⟩
 refine Jq (Jc (Jf (Jg [0,0] [(26,Bo (!decide (Ko q=0)))] (Jl (!decide (Ko q=0)) (fun h5=>?_) (fun h5=>?_)))))
 refine Jg [0,0,3,0,0] [(5,I 0),(6,I (Ko q))] (Jn (Jj ?_))
 have hf6:JT q a=((⟨0,[]⟩:Q3),0,Ko q):=by
  unfold JT Yk VJ;simp_all;try omega
 refine Jo [0,0,0] [.agg #[I 0,Sl none 0 0],I 0,I (Ko q)] (JD [] (Jh _) ?_)
 rw [hf6]
 try dsimp only
 exact ⟨none,0,rfl,J4,(J2 Q6 G),rfl⟩
 refine Jq (Jc (Jg [0,6,0,0] [(8,I (q.wait.length:Int))] (Jf (Kt [4,6,7,10] (Wm [(0,Pt b1 0),(1,I q.most),(2,Pt b1 1),(3,Sl a1 q.wait.length c1),(5,.agg #[Sr a.name,Sr a.value,U a.n,U a.tag]),(9,I (q.wait.length:Int))] (JF [] [(0,0),(1,6),(2,0),(3,6),(5,4),(9,0)] [] [4,6] (Hf _) (Kf ?_ (Kf ?_ KY))))))))
 refine Jz 4 [(35,Sl a1 q.wait.length c1)] (fun X=>?_)
 refine JN 36 (YV G a1 c1 q.wait hs1) (fun v G5 L1 hl5 hp=>?_)
 obtain ⟨a6,c6,_,rfl,hr5,rfl⟩:=hp
 refine JA [(4,Sl a6 q.wait.length c6)] (JF [2,3] [(0,0),(1,8),(5,6),(9,0)] [] [6] (Hf _) (Kf ?_ KY))
 refine Jz 6 [(37,.agg #[Sr a.name,Sr a.value,U a.n,U a.tag])] (fun X=>?_)
 refine Km 38 1 #[Sr a.name,Sr a.value,U a.n,U a.tag] 182 (fun b6=>JA [(6,Sl (At b6 0) 1 1)] (JF [2,3,5] [(0,0),(1,10),(9,0)] [] [7] (Hf _) (Kf ?_ KY)))
 refine Jz 7 [(36,Sl a6 q.wait.length c6),(38,Sl (At b6 0) 1 1)] (fun X=>?_)
 refine Qd (b:=b6) (cs:=[Sr a.name,Sr a.value,U a.n,U a.tag]) 39 182 1 0 (E:=Q6) a hr5 ⟨rfl,w2,w3,w4,w5⟩ (by have hq_:=Qj.1 ‹_›;(try simp only [Q6,Hg,Hl,Hm]);omega) (by have hq_:=Qj.1 ‹_›;(try simp only [Q6,Hg,Hl,Hm]);omega) (fun a7 c7 r6 hr6=>JA [(7,Sl a7 ((q.wait++[a]).length) c7),(8,.agg #[I q.most,Sl a7 ((q.wait++[a]).length) c7])] (JF [2,3,5] [(0,0),(1,10),(8,0),(9,0)] [] [10] (Hf _) (Kf ?_ KY)))
 refine Jz 10 [(4,Pt b3 0),(40,.agg #[I q.most,Sl a7 ((q.wait++[a]).length) c7])] (fun X=>?_)
 refine KC 2 [[Sg b6 0 [Sr a.name,Sr a.value,U a.n,U a.tag]],r6,[Sg b3 0 [I q.most,Sl a7 ((q.wait++[a]).length) c7]],[Sg b2 0 [Sr a.name,Sr a.value,U a.n,U a.tag]],[Sg b1 0 [I q.most,Sl a1 q.wait.length c1]]] (J6 [(11,I (q.wait.length:Int)),(12,I 0)] (Kl [0,1,2,3,5,8] [(9,0),(11,0),(12,0)] [] [(4,Pt b3 0),(5,I (q.wait.length:Int)),(6,I 0)] (Hf _) (Jc (Jn (Wy (E:=Q6) 1 hr6 (by have hq_:=Qj.1 ‹_›;(try simp only [Q6,Hg,Hl,Hm]);omega) (fun G6 hl6 hs4=>?_))))))
 have hf7:JT q a=((⟨q.most,q.wait++[a]⟩:Q3),(q.wait.length:Int),0):=by
  unfold JT Yk VJ;simp_all;try omega
 refine Jo [2,0,0] [.agg #[I q.most,Sl a7 ((q.wait++[a]).length) c7],I (q.wait.length:Int),I 0] (JD [] (Ja hl5 hl6) ?_)
 rw [hf7]
 try dsimp only
 exact ⟨a7,c7,rfl,w1,hs4,rfl⟩
 refine Jz 6 [(37,.agg #[Sr a.name,Sr a.value,U a.n,U a.tag])] (fun X=>?_)
 refine Km 38 1 #[Sr a.name,Sr a.value,U a.n,U a.tag] 182 (fun b7=>JA [(6,Sl (At b7 0) 1 1)] (JF [5] [(0,0),(1,8),(2,0),(3,8),(9,0)] [] [4] (Hf _) (Kf ?_ KY)))
 refine Jz 4 [(35,Sl a1 q.wait.length c1)] (fun X=>?_)
 refine JN 36 (YV G a1 c1 q.wait hs1) (fun v G7 L1 hl7 hp=>?_)
 obtain ⟨a8,c8,_,rfl,hr7,rfl⟩:=hp
 refine JA [(4,Sl a8 q.wait.length c8)] (JF [2,3,5] [(0,0),(1,10),(9,0)] [] [7] (Hf _) (Kf ?_ KY))
 refine Jz 7 [(36,Sl a8 q.wait.length c8),(38,Sl (At b7 0) 1 1)] (fun X=>?_)
 refine Qd (b:=b7) (cs:=[Sr a.name,Sr a.value,U a.n,U a.tag]) 39 182 0 1 (E:=Q6) a hr7 ⟨rfl,w2,w3,w4,w5⟩ (by have hq_:=Qj.1 ‹_›;(try simp only [Q6,Hg,Hl,Hm]);omega) (by have hq_:=Qj.1 ‹_›;(try simp only [Q6,Hg,Hl,Hm]);omega) (fun a9 c9 r8 hr8=>JA [(7,Sl a9 ((q.wait++[a]).length) c9),(8,.agg #[I q.most,Sl a9 ((q.wait++[a]).length) c9])] (JF [2,3,5] [(0,0),(1,10),(8,0),(9,0)] [] [10] (Hf _) (Kf ?_ KY)))
 refine Jz 10 [(4,Pt b3 0),(40,.agg #[I q.most,Sl a9 ((q.wait++[a]).length) c9])] (fun X=>?_)
 refine KC 2 [r8,[Sg b7 0 [Sr a.name,Sr a.value,U a.n,U a.tag]],[Sg b3 0 [I q.most,Sl a9 ((q.wait++[a]).length) c9]],[Sg b2 0 [Sr a.name,Sr a.value,U a.n,U a.tag]],[Sg b1 0 [I q.most,Sl a1 q.wait.length c1]]] (J6 [(11,I (q.wait.length:Int)),(12,I 0)] (Kl [0,1,2,3,5,8] [(9,0),(11,0),(12,0)] [] [(4,Pt b3 0),(5,I (q.wait.length:Int)),(6,I 0)] (Hf _) (Jc (Jn (Wy (E:=Q6) 0 hr8 (by have hq_:=Qj.1 ‹_›;(try simp only [Q6,Hg,Hl,Hm]);omega) (fun G8 hl8 hs5=>?_))))))
 have hf8:JT q a=((⟨q.most,q.wait++[a]⟩:Q3),(q.wait.length:Int),0):=by
  unfold JT Yk VJ;simp_all;try omega
 refine Jo [2,0,0] [.agg #[I q.most,Sl a9 ((q.wait++[a]).length) c9],I (q.wait.length:Int),I 0] (JD [] (Ja hl7 hl8) ?_)
 rw [hf8]
 try dsimp only
 exact ⟨a9,c9,rfl,w1,hs5,rfl⟩
theorem JgH (G:J5) (vs_q:Bv) (q:Q3) (h_q:Jkj.R G vs_q q) (n:Int) :YS 163 #[.agg vs_q.toArray,I n] G [] (fun u G' L'=>∃ (a1:Ba) (c2:Nat) (a3:Ba) (c4:Nat),u=.tuple #[.agg #[I (((J9 q n).1).most),Sl a1 ((((J9 q n).1).wait).length) c2],Sl a3 (((J9 q n).2.1).length) c4,I ((J9 q n).2.2)]∧(rI (((J9 q n).1).most))∧(RS Q6 G' a1 c2 (((J9 q n).1).wait))∧(RS Q6 G' a3 c4 ((J9 q n).2.1))∧L'=[]):=by
 obtain ⟨a1,c1,rfl,w1,hs1⟩:=h_q
 refine JP Tryz.func163 35 [(0,.agg #[I q.most,Sl a1 q.wait.length c1]),(1,I n)] rfl (fun w0 G0=>?_)
 refine Jf (Jd (Jv 2 #[I q.most,Sl a1 q.wait.length c1] 57 (fun b1=>Jv 4 #[I 0,Sl none 0 0] 57 (fun b2=>Jb [0,0] [] (Je (Jc (Jf (Jf (Jd (Jb [4] [(8,.agg #[I q.most,Sl a1 q.wait.length c1])] (Jm 9 (I (Ko q)) (JaI G [I q.most,Sl a1 q.wait.length c1] q (⟨a1,c1,rfl,w1,hs1⟩)) (Jb [0] [(7,I (Ko q))] (Je (Jc (Jg [0,0] [(11,Bo (!decide (Ko q=0)))] (Jl (!decide (Ko q=0)) (fun h1=>?_) (fun h1=>?_)))))))))))))))))
 refine Jg [0,0,3,0,0] [(5,Sl none 0 0),(6,I (Ko q))] (Jn (Jj ?_))
 have hf1:J9 q n=((⟨0,[]⟩:Q3),[],Ko q):=by
  unfold J9 VJ;simp_all;try omega
 refine Jo [0,0,0] [.agg #[I 0,Sl none 0 0],Sl none 0 0,I (Ko q)] (JD [] (Jh _) ?_)
 rw [hf1]
 try dsimp only
 exact ⟨none,0,none,0,rfl,J4,(J2 Q6 G),(J2 Q6 G),rfl⟩
 refine Jq (Jc (Jf (Jg [0,0] [(15,Bo (decide (n<0)))] (Jl (decide (n<0)) (fun h2=>?_) (fun h2=>?_)))))
 refine Jg [0,3,0,0] [(5,Sl none 0 0),(6,I 4)] (Jn (Jj ?_))
 have hf2:J9 q n=((⟨0,[]⟩:Q3),[],4):=by
  unfold J9 VJ;simp_all;try omega
 refine Jo [0,0,0] [.agg #[I 0,Sl none 0 0],Sl none 0 0,I 4] (JD [] (Jh _) ?_)
 rw [hf2]
 try dsimp only
 exact ⟨none,0,none,0,rfl,J4,(J2 Q6 G),(J2 Q6 G),rfl⟩
 refine Jq (Jc (Jg [0,0,4,0,0,0] [(1,I (if (q.wait.length:Int)<n then (q.wait.length:Int) else n))] ?_))
 have e1:(if (q.wait.length:Int)<n then (q.wait.length:Int) else n)=((Q0 n q.wait:Nat):Int):=JmA (by omega)
 refine QU 1 (I ((Q0 n q.wait:Nat):Int)) (congrArg I e1) ?_
 clear e1
 refine Jf ?_
 obtain ⟨a2,c2,ea1,ec1,en1,eh1,hs2⟩:=RS.reslXD hs1 (Q0 n q.wait) (by have:=@Jeh n q.wait;omega)
 obtain ⟨a3,c3,ea2,ec2,en2,eh2,hs3⟩:=RS.reslXT hs1 (Q0 n q.wait) (by have:=@Jeh n q.wait;omega)
 refine Kt [6,12,13] (Wm [(0,Pt b1 0),(1,I q.most),(2,Pt b1 1),(3,Sl a1 q.wait.length c1),(4,I ((Q0 n q.wait:Nat):Int)),(5,Sl a2 ((q.wait.drop (Q0 n q.wait)).length) c2),(8,Pt b1 1),(9,Sl a1 q.wait.length c1),(10,I ((Q0 n q.wait:Nat):Int)),(11,Sl a3 ((q.wait.take (Q0 n q.wait)).length) c3)] (JF [] [(0,0),(1,4),(2,0),(3,4),(4,0),(8,0),(9,4),(10,0)] [5,11] [6] (Kf ?_ (Kf ?_ KY)) (Kf ?_ KY)))
 refine Jr 5 27 (Sl a2 ((q.wait.drop (Q0 n q.wait)).length) c2) [(25,Sl a1 q.wait.length c1),(26,I ((Q0 n q.wait:Nat):Int))] (fun X=>?_)
 exact Ws (a:=a1) (len:=q.wait.length) (cap:=c1) 27 4 (some (I ((Q0 n q.wait:Nat):Int))) none (Q0 n q.wait) q.wait.length (.inr ⟨_,rfl⟩) (.inl ⟨rfl,rfl⟩) (by have:=@Jeh n q.wait;omega) ea1 ec1 en1 eh1 Jp
 refine Jr 11 33 (Sl a3 ((q.wait.take (Q0 n q.wait)).length) c3) [(31,Sl a1 q.wait.length c1),(32,I ((Q0 n q.wait:Nat):Int))] (fun X=>?_)
 exact Ws (a:=a1) (len:=q.wait.length) (cap:=c1) 33 4 none (some (I ((Q0 n q.wait:Nat):Int))) 0 (Q0 n q.wait) (.inl ⟨rfl,rfl⟩) (.inr ⟨_,rfl⟩) (by exact Ho _) ea2 ec2 en2 eh2 Jp
 refine Jz 6 [(27,Sl a2 ((q.wait.drop (Q0 n q.wait)).length) c2)] (fun X=>?_)
 refine JN 28 (YV G a2 c2 (q.wait.drop (Q0 n q.wait)) hs2) (fun v G1 L1 hl1 hp=>?_)
 obtain ⟨a4,c4,r1,rfl,hr1,rfl⟩:=hp
 refine JA [(6,Sl a4 ((q.wait.drop (Q0 n q.wait)).length) c4),(7,.agg #[I q.most,Sl a4 ((q.wait.drop (Q0 n q.wait)).length) c4])] (JF [2,3,4,5] [(0,0),(1,6),(7,0),(8,0),(9,6),(10,0)] [11] [12] (Kf ?_ KY) (Kf ?_ KY))
 refine Jr 11 33 (Sl a3 ((q.wait.take (Q0 n q.wait)).length) c3) [(31,Sl a1 q.wait.length c1),(32,I ((Q0 n q.wait:Nat):Int))] (fun X=>?_)
 exact Ws (a:=a1) (len:=q.wait.length) (cap:=c1) 33 4 none (some (I ((Q0 n q.wait:Nat):Int))) 0 (Q0 n q.wait) (.inl ⟨rfl,rfl⟩) (.inr ⟨_,rfl⟩) (by exact Ho _) ea2 ec2 en2 eh2 Jp
 refine Jz 12 [(33,Sl a3 ((q.wait.take (Q0 n q.wait)).length) c3)] (fun X=>?_)
 refine JN 34 (YV G1 a3 c3 (q.wait.take (Q0 n q.wait)) (hs3.mono hl1)) (fun v G2 L1 hl2 hp=>?_)
 obtain ⟨a6,c6,r2,rfl,hr2,rfl⟩:=hp
 refine JA [(12,Sl a6 ((q.wait.take (Q0 n q.wait)).length) c6)] (JF [2,3,4,5,8,9,10,11] [(0,0),(1,8),(7,0)] [] [13] (Hf _) (Kf ?_ KY))
 refine Jz 13 [(4,Pt b2 0),(29,.agg #[I q.most,Sl a4 ((q.wait.drop (Q0 n q.wait)).length) c4])] (fun X=>?_)
 refine KC 2 [r2,r1,[Sg b2 0 [I q.most,Sl a4 ((q.wait.drop (Q0 n q.wait)).length) c4]],[Sg b1 0 [I q.most,Sl a1 q.wait.length c1]]] (J6 [(14,Sl a6 ((q.wait.take (Q0 n q.wait)).length) c6),(15,I 0)] (Kl [0,1,2,3,4,5,7,8,9,10,11] [(14,0),(15,0)] [] [(4,Pt b2 0),(5,Sl a6 ((q.wait.take (Q0 n q.wait)).length) c6),(6,I 0)] (Hf _) (Jc (Jn (Wy (E:=Q6) 1 (hr1.mono hl2) (by exact (hs2).fit) (fun G3 hl3 hs5=>Wy (E:=Q6) 0 (hr2.mono hl3) (by exact (hs3.mono hl1).fit) (fun G4 hl4 hs6=>?_)))))))
 have hf3:J9 q n=((⟨q.most,q.wait.drop (Q0 n q.wait)⟩:Q3),q.wait.take (Q0 n q.wait),0):=by
  unfold J9 VJ;simp_all;try omega
 refine Jo [2,0,0] [.agg #[I q.most,Sl a4 ((q.wait.drop (Q0 n q.wait)).length) c4],Sl a6 ((q.wait.take (Q0 n q.wait)).length) c6,I 0] (JD [] (Ja (Ja (Ja hl1 hl2) hl3) hl4) ?_)
 rw [hf3]
 try dsimp only
 exact ⟨a4,c4,a6,c6,rfl,‹_›,(hs5.mono hl4),hs6,rfl⟩
theorem JgI (G:J5) (a:Int) (b:Int) (e:Int) :QZ 157 #[I a,I b,I e] G (.tuple #[I ((Qt a b e).1),I ((Qt a b e).2)]):=by
 refine JP Tryz.func157 36 [(0,I a),(1,I b),(2,I e)] rfl (fun w0 G0=>?_)
 refine Jg [0,0] [] (Jf (Jf (Jd (Jb [0,0,0] [(10,Bo (decide (a<0)))] (Ks (decide (a<0)) [10] [1,1,0] [0,0,0] (fun bb=>[(13,Bo (bb || (decide (a > 30))))]) (Jb [0] [(14,Bo ((decide (a<0)) || (decide (a > 30))))] (Ks ((decide (a<0)) || (decide (a > 30))) [14] [1,1,0] [0,0,0] (fun bb=>[(17,Bo (bb || (decide (b<1))))]) (Jb [0] [(18,Bo (((decide (a<0)) || (decide (a > 30))) || (decide (b<1))))] (Ks (((decide (a<0)) || (decide (a > 30))) || (decide (b<1))) [18] [1,1,0] [0,0,0] (fun bb=>[(21,Bo (bb || (decide (b > 30))))]) (Jb [0] [(22,Bo ((((decide (a<0)) || (decide (a > 30))) || (decide (b<1))) || (decide (b > 30))))] (Ks ((((decide (a<0)) || (decide (a > 30))) || (decide (b<1))) || (decide (b > 30))) [22] [1,1,0] [0,0,0] (fun bb=>[(25,Bo (bb || (decide (e<1))))]) (Jb [0] [(26,Bo (((((decide (a<0)) || (decide (a > 30))) || (decide (b<1))) || (decide (b > 30))) || (decide (e<1))))] (Ks (((((decide (a<0)) || (decide (a > 30))) || (decide (b<1))) || (decide (b > 30))) || (decide (e<1))) [26] [1,1,0] [0,0,0] (fun bb=>[(29,Bo (bb || (decide (e > 1000))))]) ?_)))))))))))))
 refine Je (Jc (Jl ((((((decide (a<0)) || (decide (a > 30))) || (decide (b<1))) || (decide (b > 30))) || (decide (e<1))) || (decide (e > 1000))) (fun h1=>?_) (fun h1=>?_)))
 refine Jg [0,0] [(6,I 0),(7,I 4)] (Jn (Jj (Jo [0,0] [I 0,I 4] (Jx (Jh _) ?_))))
 have hf_:(Qt a b e)=(0,4):=by
  unfold Qt;(rw [if_pos (by omega)];done)
 · (try rw [hf_]);(simp only [QC];done)
 refine Jq (Jc (Jf (Jd (Jb [0,0] [(30,I a),(31,I b)] (Jdn (k:=.i64) (x:=a) (y:=b) 32 true ((a).tdiv b) J4 (by simp only [cond_true];exact HG _ (by (have:=Jfp (a:=a) (b:=b) J4 (by omega);omega))) (Jb [0,0,0,0,0] [(6,I (Hk.wrap ((Hk.wrap (((a).tdiv b)+1))*e))),(7,I 0)] ?_))))))
 have e1:Hk.wrap (((a).tdiv b)+1)=((a).tdiv b)+1:=HG _ (by (have:=Jfp (a:=a) (b:=b) (by omega) (by omega);omega))
 have e2:Hk.wrap ((((a).tdiv b)+1)*e)=(((a).tdiv b)+1)*e:=HG _ (by (have:=Jfp (a:=a) (b:=b) (by omega) (by omega);(have:=Jly (a:=a.tdiv b+1) (b:=e) (by omega) (by omega);omega)))
 refine Kv 6 (I ((((a).tdiv b)+1)*e)) (show (I (Hk.wrap ((Hk.wrap (((a).tdiv b)+1))*e)):Value)=I ((((a).tdiv b)+1)*e) by simp only [e1,e2]) ?_
 clear e2 e1
 refine Je (Jc (Jn (Jo [0,0] [I ((((a).tdiv b)+1)*e),I 0] (Jx (Jh _) ?_))))
 have hf_:(Qt a b e)=(((((a).tdiv b)+1)*e),0):=by
  unfold Qt;(rw [if_neg (by omega)];done)
 · (try rw [hf_]);(simp only [QC];done)
theorem le48 {n:Nat} (h:n≤140737488351232):n≤140737488355328:=by omega
theorem Jh4 (h:JX):(Wb h).1.length≤33:=by
 unfold Wb;split
 · simp
 · rw [Jfa];exact HE _
theorem Jdw (n:Int):(K0 n).length=8:=JiR n
def Kw (h:JX):Int×Int:=if (Wb h).2 ≠ 0 then (0,(Wb h).2) else (Ji (Wb h).1,0)
def YH (h:JX) (root at_:Int):Int:=if JK h ≠ 0 then JK h else if h.epoch=1000000 then 7 else if at_<h.at_ then 4 else JK ⟨h.epoch+1,root,(Kw h).1,at_⟩
def JB (h:JX) (root at_:Int):JX×Int:=if YH h root at_ ≠ 0 then (ZE,YH h root at_) else (⟨h.epoch+1,root,(Kw h).1,at_⟩,0)
theorem Jh5 (h:JX):(Wb h).2=JK h:=by unfold Wb;split <;> simp_all
theorem Yv (h:JX):(Kw h).2=JK h:=by unfold Kw;rw [Jh5];split <;> simp_all
theorem JaZ (h:JX):0≤(Kw h).1∧(Kw h).1<2305843009213693951:=by
 unfold Kw;split
 · simp
 · exact QT _
theorem Ji2 {h:JX} (e:JK h=0):Wb h=(V8 h,0):=by unfold Wb;rw [if_neg (by omega)]
theorem Ji3 {h:JX} (e:JK h=0):Kw h=(Ji (V8 h),0):=by
 unfold Kw;rw [Ji2 e];simp
theorem Ja0 {h:JX} {root at_:Int} (e:(JB h root at_).2=0):JK h=0∧h.epoch<1000000∧h.at_≤at_∧JB h root at_=(⟨h.epoch+1,root,Ji (V8 h),at_⟩,0)∧JK ⟨h.epoch+1,root,Ji (V8 h),at_⟩=0:=by
 unfold JB at e ⊢
 split at e
 · contradiction
 ·
  rename_i h1
  rw [if_neg h1]
  unfold YH at h1
  by_cases e1:JK h=0
  ·
   rw [if_neg (by omega)] at h1
   have hb:=Zl e1
   have hm:=Ji3 e1
   rw [hm] at h1 ⊢
   by_cases e2:h.epoch=1000000
   · rw [if_pos e2] at h1;simp at h1
   ·
    rw [if_neg e2] at h1
    by_cases e3:at_<h.at_
    · rw [if_pos e3] at h1;simp at h1
    ·
     rw [if_neg e3] at h1
     exact ⟨e1,by omega,by omega,rfl,by simpa using h1⟩
  · rw [if_pos e1] at h1;omega
def Ji4:ZD:=⟨[],[],0,0⟩
def VK (key:Int) (s:Bb):Int:=Ji ((K0 key++s)++K0 key)
theorem Joe (k:Int) (s:Bb):0≤VK k s∧VK k s<18446744073709551616:=by have:=QT ((K0 k++s)++K0 k);unfold VK;omega
def Zm (name value:Bb) (n:Int):Bb:=K0 n++(VQ [name,value]).1
def Jb5 (key:Int) (s:Bb) (t:Int):Bool:=decide (VK key s=t)
def YW (key:Int) (name value:Bb) (n:Int):ZD×Int:=if Wc name value ≠ 0 then (Ji4,Wc name value) else (⟨name,value,n,VK key (Zm name value n)⟩,0)
def Yl (key:Int) (a:ZD):Bool:=decide (Wc a.name a.value=0) && decide (VK key (Zm a.name a.value a.n)=a.tag)
theorem Jcs (l:Bs):(VQ l).1.length≤600:=by
 unfold VQ
 split
 · simp
 ·
  split
  ·
   rename_i h
   have:∀ (l:Bs) (n:Nat),n≤600→Jdv n l=true→n+(JgF l).length≤600:=by
    intro l
    induction l with
    | nil=>intro n h _;simp [JgF];exact h
    | cons p l ih =>
     intro n _ h
     unfold Jdv at h
     simp only [HP,decide_eq_true_eq] at h
     have:=ih _ h.1 h.2
     have e:(JgF (p::l)).length=2+p.length+(JgF l).length:=by simp [JgF,putC];omega
     omega
   have:=this l 0 (by omega) h
   simp only;omega
  · simp
theorem JeM (a b:Bb) (n:Int):(Zm a b n).length≤608:=by
 unfold Zm;rw [Hg,Jdw];have:=Jcs [a,b];omega
theorem Jdx (G:J5) (vs_h:Bv) (h:JX) (h_h:KO.R G vs_h h) :QZ 142 #[.agg vs_h.toArray] G (.tuple #[U ((Kw h).1),I ((Kw h).2)]):=by
 obtain ⟨rfl,_,_,_,_⟩:=h_h
 refine JP Tryz.func142 16 [(0,.agg #[I h.epoch,U h.root,U h.prev,I h.at_])] rfl (fun w0 G0=>?_)
 refine Jf (Jd (Jv 1 #[I h.epoch,U h.root,U h.prev,I h.at_] 43 (fun b1=>Jb [0,0] [] (Je (Jc (Jf (Jd (Jb [2] [(7,.agg #[I h.epoch,U h.root,U h.prev,I h.at_])] (Jm 8 (.tuple #[Sr ((Wb h).1),I ((Wb h).2)]) (JhW h G) (Jb [0,0,0,0,0] [(4,Sr ((Wb h).1)),(5,I ((Wb h).2))] (Je (Jc (Jf (Jg [0,0] [(12,Bo (!decide ((Wb h).2=0)))] (Jl (!decide ((Wb h).2=0)) (fun h1=>?_) (fun h1=>?_))))))))))))))))
 refine Jg [0,0,0] [(2,U 0),(3,I ((Wb h).2))] (Jn (Jj (Jo [0,0] [U 0,I ((Wb h).2)] (Jx (Jh _) ?_))))
 have hf_:(Kw h)=(0,((Wb h).2)):=by
  unfold Kw;simp_all
 · (try rw [hf_]);(simp only [QC];done)
 refine Jq (Jc (Jf (Jd (Jb [0] [(14,Sr ((Wb h).1))] (Jm 15 (U (Ji ((Wb h).1))) (Ya ((Wb h).1) (le48 (Hi (Jh4 h) (by decide))) G) (Jb [0,0] [(2,U (Ji ((Wb h).1))),(3,I 0)] (Je (Jc (Jn (Jo [0,0] [U (Ji ((Wb h).1)),I 0] (Jx (Jh _) ?_)))))))))))
 have hf_:(Kw h)=((Ji ((Wb h).1)),0):=by
  unfold Kw;simp_all
 · (try rw [hf_]);(simp only [QC];done)
theorem JbD (G:J5) (vs_h:Bv) (h:JX) (h_h:KO.R G vs_h h) (root:Int) (hw_root:rU root) (a:Int) (hw_a:rI a) :QZ 213 #[.agg vs_h.toArray,U root,I a] G (.tuple #[.agg #[I (((JB h root a).1).epoch),U (((JB h root a).1).root),U (((JB h root a).1).prev),I (((JB h root a).1).at_)],I ((JB h root a).2)]):=by
 obtain ⟨rfl,w1,w2,w3,w4⟩:=h_h
 refine JP Tryz.func213 46 [(0,.agg #[I h.epoch,U h.root,U h.prev,I h.at_]),(1,U root),(2,I a)] rfl (fun w0 G0=>?_)
 refine Jf (Jd (Jv 3 #[I h.epoch,U h.root,U h.prev,I h.at_] 43 (fun b1=>Jv 6 #[I 0,U 0,U 0,I 0] 43 (fun b2=>Jb [0] [] (Je (Jc (Jf (Jd (Jb [4] [(13,.agg #[I h.epoch,U h.root,U h.prev,I h.at_])] (Jm 14 (.tuple #[U ((Kw h).1),I ((Kw h).2)]) (Jdx G [I h.epoch,U h.root,U h.prev,I h.at_] h (⟨rfl,w1,w2,w3,w4⟩)) (Jb [0,0,0,0,0] [(8,U ((Kw h).1)),(9,I ((Kw h).2))] (Je (Jc (Jf (Jy (Jg [0,0,0] [(17,Bo (!decide ((Kw h).2=0)))] (Jl (!decide ((Kw h).2=0)) (fun h1=>?_) (fun h1=>?_))))))))))))))))))
 refine Jg [0,0,3,0] [(7,I ((Kw h).2))] (Jn (Ju (Jj (Jo [0,0] [.agg #[I 0,U 0,U 0,I 0],I ((Kw h).2)] (Jx (Jh _) ?_)))))
 have hf_:(JB h root a)=((⟨0,0,0,0⟩:JX),((Kw h).2)):=by
  (try rw [Yv] at *);unfold JB YH ZE;grind
 · (try rw [hf_]);(simp only [QC];done)
 refine Jg [0,4,0,0] [(22,Bo (decide (h.epoch=1000000)))] (Jl (decide (h.epoch=1000000)) (fun h2=>?_) (fun h2=>?_))
 refine Jg [0,3,0] [(7,I 7)] (Jn (Ju (Jj (Jo [0,0] [.agg #[I 0,U 0,U 0,I 0],I 7] (Jx (Jh _) ?_)))))
 have hf_:(JB h root a)=((⟨0,0,0,0⟩:JX),7):=by
  (try rw [Yv] at *);unfold JB YH ZE;grind
 · (try rw [hf_]);(simp only [QC];done)
 refine Jq (JM (Jc (Jf (Jd (Jb [0,4,0,0,0,0,0] [(33,.agg #[I (Hk.wrap (h.epoch+1)),U root,U ((Kw h).1),I a])] ?_)))))
 have e1:Hk.wrap (h.epoch+1)=h.epoch+1:=HG _ (by have:=Zl (h:=h) (by rw [← Yv];assumption);omega)
 refine Kv 33 (.agg #[I (h.epoch+1),U root,U ((Kw h).1),I a]) (show (.agg #[I (Hk.wrap (h.epoch+1)),U root,U ((Kw h).1),I a]:Value)=.agg #[I (h.epoch+1),U root,U ((Kw h).1),I a] by simp only [e1]) ?_
 clear e1
 refine Jv 10 #[I 0,U 0,U 0,I 0] 43 (fun b3=>JW [3] [] [[Sg b3 0 [I (h.epoch+1),U root,U ((Kw h).1),I a]],[Sg b2 0 [I 0,U 0,U 0,I 0]],[Sg b1 0 [I h.epoch,U h.root,U h.prev,I h.at_]]] (Je (Jc (Jf (Jg [0,0,6,0] [(37,Bo (decide (a<h.at_)))] (Jl (decide (a<h.at_)) (fun h3=>?_) (fun h3=>?_)))))))
 refine Jg [0,5,0] [(7,I 4)] (Jn (Jj (Jo [1,0] [.agg #[I 0,U 0,U 0,I 0],I 4] (Jx (Jh _) ?_))))
 have hf_:(JB h root a)=((⟨0,0,0,0⟩:JX),4):=by
  (try rw [Yv] at *);unfold JB YH ZE;grind
 · (try rw [hf_]);(simp only [QC];done)
 refine Jq (Jc (Jf (Jf (Jd (Jb [2] [(39,.agg #[I (h.epoch+1),U root,U ((Kw h).1),I a])] (Jm 40 (I (JK (⟨h.epoch+1,root,(Kw h).1,a⟩:JX))) (Z9 (⟨h.epoch+1,root,(Kw h).1,a⟩:JX) G) (Jb [0] [(11,I (JK (⟨h.epoch+1,root,(Kw h).1,a⟩:JX)))] (Je (Jc (Jg [0,0] [(42,Bo (!decide (JK (⟨h.epoch+1,root,(Kw h).1,a⟩:JX)=0)))] (Jl (!decide (JK (⟨h.epoch+1,root,(Kw h).1,a⟩:JX)=0)) (fun h4=>?_) (fun h4=>?_))))))))))))
 refine Jg [0,0,5,0] [(7,I (JK (⟨h.epoch+1,root,(Kw h).1,a⟩:JX)))] (Jn (Jj (Jo [1,0] [.agg #[I 0,U 0,U 0,I 0],I (JK (⟨h.epoch+1,root,(Kw h).1,a⟩:JX))] (Jx (Jh _) ?_))))
 have hf_:(JB h root a)=((⟨0,0,0,0⟩:JX),(JK (⟨h.epoch+1,root,(Kw h).1,a⟩:JX))):=by
  (try rw [Yv] at *);unfold JB YH ZE;grind
 · (try rw [hf_]);(simp only [QC];done)
 refine Jq (Jc (QF [2,5,0] [(7,I 0)] [[Sg b3 0 [I (h.epoch+1),U root,U ((Kw h).1),I a]],[Sg b2 0 [I (h.epoch+1),U root,U ((Kw h).1),I a]],[Sg b1 0 [I h.epoch,U h.root,U h.prev,I h.at_]]] (Jn (Jo [1,0] [.agg #[I (h.epoch+1),U root,U ((Kw h).1),I a],I 0] (Jx (Jh _) ?_)))))
 have hf_:(JB h root a)=((⟨h.epoch+1,root,(Kw h).1,a⟩:JX),0):=by
  (try rw [Yv] at *);unfold JB YH ZE;grind
 · (try rw [hf_]);(simp only [QC];done)
theorem JbE (G:J5) (name:Bb) (value:Bb) :QZ 149 #[Sr name,Sr value] G (I (Wc name value)):=by
 refine JP Tryz.func149 13 [(0,Sr name),(1,Sr value)] rfl (fun w0 G0=>?_)
 refine Jg [0] [] (Jf (Jy (Jf (Jd (Jb [0] [(6,Sr name)] (Jm 7 (Bo (KS name)) (Z4 G name) (Jb [0,0] [(5,Bo (!(KS name)))] (Je (Jc (Jl (!(KS name)) (fun h1=>?_) (fun h1=>?_)))))))))))
 refine Jg [0] [(4,I 3)] (Jn (Ju (Jj (Jo [0] [I 3] (Jx (Jh _) (congrArg I (?_:(Wc name value)=3).symm))))))
 unfold Wc;simp_all;try omega
 refine Jg [0,0,0,0] [(9,Bo (decide (((value).length:Int) > 20)))] (Jl (decide (((value).length:Int) > 20)) (fun h2=>?_) (fun h2=>?_))
 refine Jg [0] [(4,I 2)] (Jn (Ju (Jj (Jo [0] [I 2] (Jx (Jh _) (congrArg I (?_:(Wc name value)=2).symm))))))
 unfold Wc;simp_all;try omega
 refine Jq (JM (Jc (Jg [0] [(4,I 0)] (Jn (Jo [0] [I 0] (Jx (Jh _) (congrArg I (?_:(Wc name value)=0).symm)))))))
 unfold Wc;simp_all;try omega
theorem Jhn (G:J5) (key:Int) (s:Bb) (hs:s.length≤1000000):QZ 203 #[U key,Sr s] G (U (VK key s)):=by
 refine JP Tryz.func203 13 [(0,U key),(1,Sr s)] rfl (fun w0 G0=>?_)
 refine Jg [0] [] (Jf (Jd (Jb [0] [(5,U key)] (Jm 6 (Sr (K0 key)) (Yu key G) (Jb [0] [(7,Sr s)] (Z1 8 (K0 key) s (by simp only [Hg,Jdw];omega) (Jb [0] [(9,U key)] (Jm 10 (Sr (K0 key)) (Yu key G) (Z1 11 ((K0 key)++s) (K0 key) (by simp only [Hg,Jdw];omega) (Jm 12 (U (Ji (((K0 key)++s)++(K0 key)))) (Ya (((K0 key)++s)++(K0 key)) (le48 (by (simp;omega))) G) (Jb [0] [(4,U (Ji (((K0 key)++s)++(K0 key))))] (Je (Jc (Jn (Jo [0] [U (Ji (((K0 key)++s)++(K0 key)))] (Jx (Jh _) (congrArg U (?_:(VK key s)=(Ji (((K0 key)++s)++(K0 key)))).symm)))))))))))))))))
 rfl
theorem Jh6 (G:J5) (key:Int) (s:Bb) (t:Int) (hs:s.length≤1000000):QZ 150 #[U key,Sr s,U t] G (Bo (Jb5 key s t)):=by
 refine JP Tryz.func150 12 [(0,U key),(1,Sr s),(2,U t)] rfl (fun w0 G0=>?_)
 refine Jg [0] [] (Jf (Jd (Jb [0,0] [(7,U key),(8,Sr s)] (Jm 9 (U (VK key s)) (Jhn G key s ‹_›) (Jb [0,0,0] [(6,Bo (decide (VK key s=t)))] (Je (Jc (Jn (Jo [0] [Bo (decide (VK key s=t))] (Jx (Jh _) (congrArg Bo (?_:(Jb5 key s t)=(decide (VK key s=t))).symm)))))))))))
 rfl
theorem JeN (G:J5) (name:Bb) (hw_name:(name).length≤140737488351232) (value:Bb) (hw_value:(value).length≤140737488351232) (n:Int) :QZ 151 #[Sr name,Sr value,U n] G (Sr (Zm name value n)):=by
 refine JP Tryz.func151 20 [(0,Sr name),(1,Sr value),(2,U n)] rfl (fun w0 G0=>?_)
 refine Jg [0] [] (Jf (Jd (Jb [0,0] [(10,Sr name),(11,Sr value)] (Km 12 2 #[Sr name,Sr value] 9 (fun b1=>QI (b:=b1) (o:=0) (cs:=[Sr name,Sr value]) 0 (fun G1 hl1 hz1=>?_))))))
 have hs1:RS ES G1 (At b1 0) 2 [name,value]:=RS.lit [[Sr name],[Sr value]] [name,value] ⟨⟨rfl,hw_name⟩,⟨⟨rfl,hw_value⟩,trivial⟩⟩ hz1 (Hr rfl) (Hr rfl)
 refine Jm 13 (.tuple #[Sr ((VQ ([name,value])).1),I ((VQ ([name,value])).2)]) (JiZ G1 (At b1 0) 2 ([name,value]) hs1) (Jb [0,0,0,0,0] [(7,Sr ((VQ ([name,value])).1))] (Je (Jc (Jf (Jd (Jb [0] [(16,U n)] (Jm 17 (Sr (K0 n)) (Yu n G1) (Jb [0] [(18,Sr ((VQ ([name,value])).1))] (Z1 19 (K0 n) ((VQ ([name,value])).1) (by have:=Jcs [name,value];simp only [Jdw];omega) (Jb [0] [(6,Sr ((K0 n)++((VQ ([name,value])).1)))] (Je (Jc (Jn (Jo [0] [Sr ((K0 n)++((VQ ([name,value])).1))] (Jx hl1 (congrArg Sr (?_:(Zm name value n)=((K0 n)++((VQ ([name,value])).1))).symm))))))))))))))))
 rfl
theorem Jku (G:J5) (key:Int) (name:Bb) (hw_name:(name).length≤140737488351232) (value:Bb) (hw_value:(value).length≤140737488351232) (n:Int) (hw_n:rU n) :YS 148 #[U key,Sr name,Sr value,U n] G [] (fun u G' L'=>u=.tuple #[.agg #[Sr (((YW key name value n).1).name),Sr (((YW key name value n).1).value),U (((YW key name value n).1).n),U (((YW key name value n).1).tag)],I ((YW key name value n).2)]∧((((YW key name value n).1).name).length≤140737488351232)∧((((YW key name value n).1).value).length≤140737488351232)∧(rU (((YW key name value n).1).n))∧(rU (((YW key name value n).1).tag))∧L'=[]):=by
 refine JP Tryz.func148 28 [(0,U key),(1,Sr name),(2,Sr value),(3,U n)] rfl (fun w0 G0=>?_)
 refine Jf (Jd (Jv 8 #[Sr ([]),Sr ([]),U 0,U 0] 182 (fun b1=>Jb [0] [] (Je (Jc (Jf (Jf (Jd (Jb [0,0] [(11,Sr name),(12,Sr value)] (Jm 13 (I (Wc name value)) (JbE G name value) (Jb [0] [(10,I (Wc name value))] (Je (Jc (Jg [0,0] [(15,Bo (!decide (Wc name value=0)))] (Jl (!decide (Wc name value=0)) (fun h1=>?_) (fun h1=>?_))))))))))))))))
 refine Jg [0,0,3,0] [(9,I (Wc name value))] (Jn (Jj ?_))
 have hf1:YW key name value n=((⟨[],[],0,0⟩:ZD),Wc name value):=by
  unfold YW Ji4;simp_all
 refine Jo [0,0] [.agg #[Sr ([]),Sr ([]),U 0,U 0],I (Wc name value)] (JD [] (Jh _) ?_)
 rw [hf1]
 try dsimp only
 exact ⟨rfl,(Hr rfl),(Hr rfl),J4,J4,rfl⟩
 refine Jq (Jc (Jf (Jd (Jb [0,0,0,0,0,0,0] [(18,Sr name),(19,Sr value),(20,U n),(21,U key),(22,Sr name),(23,Sr value),(24,U n)] (Jm 25 (Sr (Zm name value n)) (JeN G name hw_name value hw_value n) (Jm 26 (U (VK key (Zm name value n))) (Jhn G key (Zm name value n) (Hi (JeM name value n) (by decide))) (JW [0,3,0] [(9,I 0)] [[Sg b1 0 [Sr name,Sr value,U n,U (VK key (Zm name value n))]]] (Je (Jc (Jn ?_))))))))))
 have hf2:YW key name value n=((⟨name,value,n,VK key (Zm name value n)⟩:ZD),0):=by
  unfold YW Ji4;simp_all
 refine Jo [0,0] [.agg #[Sr name,Sr value,U n,U (VK key (Zm name value n))],I 0] (JD [] (Jh _) ?_)
 rw [hf2]
 try dsimp only
 exact ⟨rfl,hw_name,hw_value,hw_n,(Joe _ _),rfl⟩
abbrev JeO (a:ZD) (key:Int):=Jb5 key (Zm a.name a.value a.n) a.tag
abbrev JeP (a:ZD):=Wc a.name a.value
theorem Jh7 (G:J5) (key:Int) (vs_a:Bv) (a:ZD) (h_a:Q6.R G vs_a a) :QZ 102 #[U key,.agg vs_a.toArray] G (Bo (Yl key a)):=by
 obtain ⟨rfl,w1,w2,_,_⟩:=h_a
 refine JP Tryz.func102 24 [(0,U key),(1,.agg #[Sr a.name,Sr a.value,U a.n,U a.tag])] rfl (fun w0 G0=>?_)
 refine Jf (Jd (Jv 3 #[Sr a.name,Sr a.value,U a.n,U a.tag] 182 (fun b1=>Jb [0] [] (Je (Jc (Jf ?_))))))
 rcases Bool.eq_false_or_eq_true (decide (Wc a.name a.value=0)) with h1 | h1
 have h1d:=h1
 try simp only [BB] at h1d
 refine Kt [] (Wm [(0,Pt b1 0),(1,Sr a.name),(2,Pt b1 1),(3,Sr a.value),(4,I (JeP a)),(5,Bo true),(6,Bo true),(7,U key),(8,Pt b1 0),(9,Sr a.name),(10,Pt b1 1),(11,Sr a.value),(12,Pt b1 2),(13,U a.n),(14,Sr (Zm a.name a.value a.n)),(15,Pt b1 3),(16,U a.tag),(17,Bo (JeO a key)),(18,Bo (JeO a key)),(19,Bo (JeO a key))] (Kl [] [(0,0),(1,2),(2,0),(3,2),(6,0),(7,0),(8,0),(9,2),(10,0),(11,2),(12,0),(13,2),(15,0),(16,2),(18,0),(19,0)] [4,5,14,17] [(4,Bo (JeO a key))] (Kf ?_ (Kf ?_ (Kf ?_ (Kf ?_ KY)))) ?_))
 refine Jr 4 9 (I (JeP a)) [(6,Sr a.name),(8,Sr a.value)] (fun X=>?_)
 exact Jm 9 (I (JeP a)) (JbE G a.name a.value) Jp
 refine Jr 5 10 (Bo true) [(9,I (JeP a))] (fun X=>?_)
 exact K5 10 (Bo (decide (Wc a.name a.value=0))) (Bo true) (by rw [h1]) Jp
 refine Jr 14 19 (Sr (Zm a.name a.value a.n)) [(11,Bo true),(14,Sr a.name),(16,Sr a.value),(18,U a.n)] (fun X=>?_)
 exact Jm 19 (Sr (Zm a.name a.value a.n)) (JeN G a.name w1 a.value w2 a.n) Jp
 refine Jr 17 22 (Bo (JeO a key)) [(11,Bo true),(12,U key),(19,Sr (Zm a.name a.value a.n)),(21,U a.tag)] (fun X=>?_)
 exact Jm 22 (Bo (JeO a key)) (Jh6 G key (Zm a.name a.value a.n) a.tag (Hi (JeM a.name a.value a.n) (by decide))) Jp
 refine Jc (Jn (Jo [0] [Bo (JeO a key)] (Jx (Jh _) (congrArg Bo (?_:(Yl key a)=(JeO a key)).symm))))
 unfold Yl;simp_all [Jb5]
 have h1d:=h1
 try simp only [BB] at h1d
 refine Kt [] (Wm [(0,Pt b1 0),(1,Sr a.name),(2,Pt b1 1),(3,Sr a.value),(4,I (JeP a)),(5,Bo false),(6,Bo false),(7,undef),(8,undef),(9,undef),(10,undef),(11,undef),(12,undef),(13,undef),(14,undef),(15,undef),(16,undef),(17,undef),(18,Bo false),(19,Bo false)] (Kl [] [(0,0),(1,2),(2,0),(3,2),(6,0),(7,1),(8,1),(9,1),(10,1),(11,1),(12,1),(13,1),(14,1),(15,1),(16,1),(17,1),(18,0),(19,0)] [4,5] [(4,Bo false)] (Kf ?_ (Kf ?_ KY)) ?_))
 refine Jr 4 9 (I (JeP a)) [(6,Sr a.name),(8,Sr a.value)] (fun X=>?_)
 exact Jm 9 (I (JeP a)) (JbE G a.name a.value) Jp
 refine Jr 5 10 (Bo false) [(9,I (JeP a))] (fun X=>?_)
 exact K5 10 (Bo (decide (Wc a.name a.value=0))) (Bo false) (by rw [h1]) Jp
 refine Jc (Jn (Jo [0] [Bo false] (Jx (Jh _) (congrArg Bo (?_:(Yl key a)=false).symm))))
 unfold Yl;simp_all [Jb5]
theorem Jc1 {n:Nat} (h:n≤140737488351232):n≤140737488355328:=by omega
def JE (m:Int) (k:Nat):Int:=48+m / 2 ^ k % 2
theorem and1 {x:Int} (h:0≤x∧x<18446744073709551616):Ha.wrap ((Hb 64 x &&& Hb 64 1).toNat:Int)=x % 2:=by
 obtain ⟨m,rfl⟩:=Hz h.1
 have e:(1:Int)=((1:Nat):Int):=rfl
 rw [e,BitVec.toNat_and,Hs,Hs,Hu,Hu,Hx (by omega),Hx (by omega),Nat.and_one_is_mod,WG (by omega) (by omega)]
 omega
theorem Yf (m:Int) (k:Nat) (h:0≤m∧m<18446744073709551616):Hc.wrap (48+Hc.wrap (Ha.wrap ((Hb 64 (m.fdiv (2 ^ k)) &&& Hb 64 (1)).toNat:Int)))=JE m k:=by
 have hp:(0:Int)<2 ^ k:=Int.pow_pos (by decide)
 have h1:0≤m / 2 ^ k:=Int.ediv_nonneg h.1 (Int.le_of_lt hp)
 have h2:m / 2 ^ k≤m:=Int.ediv_le_self _ h.1
 rw [Hv _ (Int.le_of_lt hp),and1 (by omega),JhT,JhT]
 unfold JE
 omega
def YX (name:Bb):Bb:=([JE (Ji name) 15,JE (Ji name) 14,JE (Ji name) 13,JE (Ji name) 12,JE (Ji name) 11,JE (Ji name) 10,JE (Ji name) 9,JE (Ji name) 8,JE (Ji name) 7,JE (Ji name) 6,JE (Ji name) 5,JE (Ji name) 4,JE (Ji name) 3,JE (Ji name) 2,JE (Ji name) 1,JE (Ji name) 0]:List Int).map fun n=>He n.toNat
theorem Jan (name:Bb):(YX name).length=16:=rfl
def KM (name:Bb):Bb×Int:=if KS name=false then ([],3) else (YX name,0)
theorem Jkv (name:Bb):(KM name).1.length≤16:=by
 unfold KM;split
 · simp
 · rw [Jan];exact HE _
def Z5 (x y:Bb):Int:=if Go.Op.bytesLess x y=true then -1 else if x=y then 0 else 1
def orI:List Int→Int
 | []=>0
 | a::l=>if a=0 then orI l else a
theorem Jof {l:List Int} {i:Nat} {x:Int} (hx:l[i]? = some x) (h:x=0):orI (l.drop i)=orI (l.drop (i+1)):=by
 obtain ⟨h1,rfl⟩:=Hh.1 hx
 rw [Hp h1]
 show (if _ then _ else _)=_
 rw [if_pos h]
theorem orI_at {l:List Int} {i:Nat} {x:Int} (hx:l[i]? = some x) (h:¬ x=0):orI (l.drop i)=x:=by
 obtain ⟨h1,rfl⟩:=Hh.1 hx
 rw [Hp h1]
 show (if _ then _ else _)=_
 rw [if_neg h]
theorem Jei:∀ x:Bb,Go.Op.bytesLess x x=false
 | []=>rfl
 | a::x=>by
  show (decide (a<a) || (a == a && Go.Op.bytesLess x x))=false
  rw [Jei x];simp
theorem Ji5:∀ x y:Bb,Go.Op.bytesLess x y=true∨x=y∨Go.Op.bytesLess y x=true
 | [],[]=>.inr (.inl rfl)
 | [],_::_=>.inl rfl
 | _::_,[]=>.inr (.inr rfl)
 | a::x,b::y=>by
  show (decide (a<b) || (a == b && Go.Op.bytesLess x y))=true∨_∨(decide (b<a) || (b == a && Go.Op.bytesLess y x))=true
  simp only [Bool.or_eq_true,HP,decide_eq_true_eq,beq_iff_eq]
  rcases UInt8.lt_or_lt_of_ne (a:=a) (b:=b) |> fun f=>(Classical.em (a=b)).imp id f with h | h | h
  ·
   subst h
   rcases Ji5 x y with h1 | h1 | h1
   · exact .inl (.inr ⟨rfl,h1⟩)
   · exact .inr (.inl (by rw [h1]))
   · exact .inr (.inr (.inr ⟨rfl,h1⟩))
  · exact .inl (.inl h)
  · exact .inr (.inr (.inl h))
theorem Jdy:∀ {x y z:Bb},Go.Op.bytesLess x y=true→Go.Op.bytesLess y z=true→Go.Op.bytesLess x z=true
 | _,_,[],_,h=>by simp [Go.Op.bytesLess] at h
 | _,[],_::_,h,_=>by simp [Go.Op.bytesLess] at h
 | [],_::_,_::_,_,_=>rfl
 | a::x,b::y,c::z,h1,h2=>by
  have k1:(decide (a<b) || (a == b && Go.Op.bytesLess x y))=true:=h1
  have k2:(decide (b<c) || (b == c && Go.Op.bytesLess y z))=true:=h2
  show (decide (a<c) || (a == c && Go.Op.bytesLess x z))=true
  simp only [Bool.or_eq_true,HP,decide_eq_true_eq,beq_iff_eq] at k1 k2 ⊢
  rcases k1 with k1 | ⟨e1,k1⟩ <;> rcases k2 with k2 | ⟨e2,k2⟩
  · exact .inl (UInt8.lt_trans k1 k2)
  · exact .inl (e2 ▸ k1)
  · exact .inl (e1 ▸ k2)
  · exact .inr ⟨e1.trans e2,Jdy k1 k2⟩
theorem Jlz {x y:Bb}:Z5 x y<0 ↔ Go.Op.bytesLess x y=true:=by
 unfold Z5
 split
 · rename_i h;simp [h]
 · rename_i h;split <;> simp [h]
theorem Jay {x y:Bb}:Z5 x y=0 ↔ x=y:=by
 unfold Z5
 split
 ·
  rename_i h
  constructor
  · intro hc;cases hc
  · rintro rfl;rw [Jei] at h;cases h
 · split <;> simp_all
theorem JlA {x y:Bb}:0<Z5 x y ↔ Go.Op.bytesLess y x=true:=by
 unfold Z5
 split
 ·
  rename_i h
  constructor
  · intro hc;omega
  · intro hc;have:=Jdy h hc;rw [Jei] at this;cases this
 ·
  rename_i h
  split
  · rename_i h2;subst h2;rw [Jei];simp
  ·
   rename_i h2
   constructor
   ·
    intro _;rcases Ji5 x y with h3 | h3 | h3
    · exact absurd h3 h
    · exact absurd h3 h2
    · exact h3
   · intro _;decide
def way (name:Bb):Bb:=(KM name).1
theorem JpS (name:Bb):(way name).length≤16:=Jkv name
def Yq (a b:Bb):Int:=orI [Z5 (way a) (way b),Z5 a b]
theorem Jh8 (a b:Bb):Yq a b=if Z5 (way a) (way b)=0 then Z5 a b else Z5 (way a) (way b):=by
 by_cases h:Z5 (way a) (way b)=0 <;> by_cases h2:Z5 a b=0 <;> simp [Yq,orI,h,h2]
theorem YI {a b:Bb}:Yq a b=0 ↔ a=b:=by
 rw [Jh8]
 split
 · exact Jay
 ·
  rename_i h
  constructor
  · intro hc;exact absurd hc h
  · rintro rfl;exact absurd (Jay.2 rfl) h
theorem JlB {a b:Bb}:Yq a b<0 ↔ Go.Op.bytesLess (way a) (way b)=true∨(way a=way b∧Go.Op.bytesLess a b=true):=by
 rw [Jh8]
 split
 ·
  rename_i h
  rw [Jlz]
  have e:=Jay.1 h
  rw [e,Jei];simp
 ·
  rename_i h
  rw [Jlz]
  constructor
  · exact .inl
  ·
   rintro (h1 | ⟨h1,_⟩)
   · exact h1
   · exact absurd (Jay.2 h1) h
theorem JpT {a b:Bb}:0<Yq a b ↔ Yq b a<0:=by
 rw [Jh8,JlB]
 split
 ·
  rename_i h
  rw [JlA]
  have e:=Jay.1 h
  rw [e,Jei];simp
 ·
  rename_i h
  rw [JlA]
  constructor
  · exact .inl
  ·
   rintro (h1 | ⟨h1,_⟩)
   · exact h1
   · exact absurd (Jay.2 h1.symm) h
theorem Jc2 {a b c:Bb} (h1:Yq a b<0) (h2:Yq b c<0):Yq a c<0:=by
 rw [JlB] at *
 rcases h1 with h1 | ⟨e1,h1⟩ <;> rcases h2 with h2 | ⟨e2,h2⟩
 · exact .inl (Jdy h1 h2)
 · exact .inl (e2 ▸ h1)
 · exact .inl (e1 ▸ h2)
 · exact .inr ⟨e1.trans e2,Jdy h1 h2⟩
set_option maxRecDepth 20000 in
theorem Jh9 (G:J5) (name:Bb) (hw_name:(name).length≤140737488351232) :QZ 218 #[Sr name] G (Sr (YX name)):=by
 refine JP Tryz.func218 23 [(0,Sr name)] rfl (fun w0 G0=>?_)
 refine Jg [0] [] (Jf (Jd (Jb [0] [(6,Sr name)] (Jm 7 (U (Ji name)) (Ya name (Jc1 hw_name) G) (Jb [0] [(3,U (Ji name))] (Je (Jc (Jf (Jd (Jv 4 #[Y 0,Y 0,Y 0,Y 0,Y 0,Y 0,Y 0,Y 0,Y 0,Y 0,Y 0,Y 0,Y 0,Y 0,Y 0,Y 0] 328 (fun b1=>Je (Jc (Jf (Jg [0] [(8,I 0)] (Jy (Jd4 17 (WA (Jg [0] [(9,Bo true)] (Jf (J0 ?_))))))))))))))))))))
 refine Jq (Jc (Jf (Jy (Jg [0,0] [(5,I 0)] (Jd (JW [0,0,0,0,0,0,0,0,0,3] [] [[Sg b1 0 [Y (Hc.wrap (48+(Hc.wrap (Ha.wrap ((Hb 64 ((Ji name).fdiv (2 ^ 15)) &&& Hb 64 1).toNat:Int))))),Y 0,Y 0,Y 0,Y 0,Y 0,Y 0,Y 0,Y 0,Y 0,Y 0,Y 0,Y 0,Y 0,Y 0,Y 0]]] ?_))))))
 have e1:Hc.wrap (48+(Hc.wrap (Ha.wrap ((Hb 64 ((Ji name).fdiv (2 ^ 15)) &&& Hb 64 1).toNat:Int))))=JE (Ji name) 15:=Yf (Ji name) 15 (by have:=QT name;omega)
 refine Zz (L':=[[Sg b1 0 [Y (JE (Ji name) 15),Y 0,Y 0,Y 0,Y 0,Y 0,Y 0,Y 0,Y 0,Y 0,Y 0,Y 0,Y 0,Y 0,Y 0,Y 0]]]) (by simp only [e1]) ?_
 clear e1
 refine Je (JM (Jc (Jd (Jb [0,0] [(8,I 1)] (Je (WR (WA (Jg [0] [(9,Bo true)] (Jf (J0 (Jq (Jc (Jf (Jy (Jg [0,0] [(5,I 1)] (Jd (JW [0,0,0,0,0,0,0,0,0,3] [] [[Sg b1 0 [Y (JE (Ji name) 15),Y (Hc.wrap (48+(Hc.wrap (Ha.wrap ((Hb 64 ((Ji name).fdiv (2 ^ 14)) &&& Hb 64 1).toNat:Int))))),Y 0,Y 0,Y 0,Y 0,Y 0,Y 0,Y 0,Y 0,Y 0,Y 0,Y 0,Y 0,Y 0,Y 0]]] ?_)))))))))))))))))
 have e2:Hc.wrap (48+(Hc.wrap (Ha.wrap ((Hb 64 ((Ji name).fdiv (2 ^ 14)) &&& Hb 64 1).toNat:Int))))=JE (Ji name) 14:=Yf (Ji name) 14 (by have:=QT name;omega)
 refine Zz (L':=[[Sg b1 0 [Y (JE (Ji name) 15),Y (JE (Ji name) 14),Y 0,Y 0,Y 0,Y 0,Y 0,Y 0,Y 0,Y 0,Y 0,Y 0,Y 0,Y 0,Y 0,Y 0]]]) (by simp only [e2]) ?_
 clear e2
 refine Je (JM (Jc (Jd (Jb [0,0] [(8,I 2)] (Je (WR (WA (Jg [0] [(9,Bo true)] (Jf (J0 (Jq (Jc (Jf (Jy (Jg [0,0] [(5,I 2)] (Jd (JW [0,0,0,0,0,0,0,0,0,3] [] [[Sg b1 0 [Y (JE (Ji name) 15),Y (JE (Ji name) 14),Y (Hc.wrap (48+(Hc.wrap (Ha.wrap ((Hb 64 ((Ji name).fdiv (2 ^ 13)) &&& Hb 64 1).toNat:Int))))),Y 0,Y 0,Y 0,Y 0,Y 0,Y 0,Y 0,Y 0,Y 0,Y 0,Y 0,Y 0,Y 0]]] ?_)))))))))))))))))
 have e3:Hc.wrap (48+(Hc.wrap (Ha.wrap ((Hb 64 ((Ji name).fdiv (2 ^ 13)) &&& Hb 64 1).toNat:Int))))=JE (Ji name) 13:=Yf (Ji name) 13 (by have:=QT name;omega)
 refine Zz (L':=[[Sg b1 0 [Y (JE (Ji name) 15),Y (JE (Ji name) 14),Y (JE (Ji name) 13),Y 0,Y 0,Y 0,Y 0,Y 0,Y 0,Y 0,Y 0,Y 0,Y 0,Y 0,Y 0,Y 0]]]) (by simp only [e3]) ?_
 clear e3
 refine Je (JM (Jc (Jd (Jb [0,0] [(8,I 3)] (Je (WR (WA (Jg [0] [(9,Bo true)] (Jf (J0 (Jq (Jc (Jf (Jy (Jg [0,0] [(5,I 3)] (Jd (JW [0,0,0,0,0,0,0,0,0,3] [] [[Sg b1 0 [Y (JE (Ji name) 15),Y (JE (Ji name) 14),Y (JE (Ji name) 13),Y (Hc.wrap (48+(Hc.wrap (Ha.wrap ((Hb 64 ((Ji name).fdiv (2 ^ 12)) &&& Hb 64 1).toNat:Int))))),Y 0,Y 0,Y 0,Y 0,Y 0,Y 0,Y 0,Y 0,Y 0,Y 0,Y 0,Y 0]]] ?_)))))))))))))))))
 have e4:Hc.wrap (48+(Hc.wrap (Ha.wrap ((Hb 64 ((Ji name).fdiv (2 ^ 12)) &&& Hb 64 1).toNat:Int))))=JE (Ji name) 12:=Yf (Ji name) 12 (by have:=QT name;omega)
 refine Zz (L':=[[Sg b1 0 [Y (JE (Ji name) 15),Y (JE (Ji name) 14),Y (JE (Ji name) 13),Y (JE (Ji name) 12),Y 0,Y 0,Y 0,Y 0,Y 0,Y 0,Y 0,Y 0,Y 0,Y 0,Y 0,Y 0]]]) (by simp only [e4]) ?_
 clear e4
 refine Je (JM (Jc (Jd (Jb [0,0] [(8,I 4)] (Je (WR (WA (Jg [0] [(9,Bo true)] (Jf (J0 (Jq (Jc (Jf (Jy (Jg [0,0] [(5,I 4)] (Jd (JW [0,0,0,0,0,0,0,0,0,3] [] [[Sg b1 0 [Y (JE (Ji name) 15),Y (JE (Ji name) 14),Y (JE (Ji name) 13),Y (JE (Ji name) 12),Y (Hc.wrap (48+(Hc.wrap (Ha.wrap ((Hb 64 ((Ji name).fdiv (2 ^ 11)) &&& Hb 64 1).toNat:Int))))),Y 0,Y 0,Y 0,Y 0,Y 0,Y 0,Y 0,Y 0,Y 0,Y 0,Y 0]]] ?_)))))))))))))))))
 have e5:Hc.wrap (48+(Hc.wrap (Ha.wrap ((Hb 64 ((Ji name).fdiv (2 ^ 11)) &&& Hb 64 1).toNat:Int))))=JE (Ji name) 11:=Yf (Ji name) 11 (by have:=QT name;omega)
 refine Zz (L':=[[Sg b1 0 [Y (JE (Ji name) 15),Y (JE (Ji name) 14),Y (JE (Ji name) 13),Y (JE (Ji name) 12),Y (JE (Ji name) 11),Y 0,Y 0,Y 0,Y 0,Y 0,Y 0,Y 0,Y 0,Y 0,Y 0,Y 0]]]) (by simp only [e5]) ?_
 clear e5
 refine Je (JM (Jc (Jd (Jb [0,0] [(8,I 5)] (Je (WR (WA (Jg [0] [(9,Bo true)] (Jf (J0 (Jq (Jc (Jf (Jy (Jg [0,0] [(5,I 5)] (Jd (JW [0,0,0,0,0,0,0,0,0,3] [] [[Sg b1 0 [Y (JE (Ji name) 15),Y (JE (Ji name) 14),Y (JE (Ji name) 13),Y (JE (Ji name) 12),Y (JE (Ji name) 11),Y (Hc.wrap (48+(Hc.wrap (Ha.wrap ((Hb 64 ((Ji name).fdiv (2 ^ 10)) &&& Hb 64 1).toNat:Int))))),Y 0,Y 0,Y 0,Y 0,Y 0,Y 0,Y 0,Y 0,Y 0,Y 0]]] ?_)))))))))))))))))
 have e6:Hc.wrap (48+(Hc.wrap (Ha.wrap ((Hb 64 ((Ji name).fdiv (2 ^ 10)) &&& Hb 64 1).toNat:Int))))=JE (Ji name) 10:=Yf (Ji name) 10 (by have:=QT name;omega)
 refine Zz (L':=[[Sg b1 0 [Y (JE (Ji name) 15),Y (JE (Ji name) 14),Y (JE (Ji name) 13),Y (JE (Ji name) 12),Y (JE (Ji name) 11),Y (JE (Ji name) 10),Y 0,Y 0,Y 0,Y 0,Y 0,Y 0,Y 0,Y 0,Y 0,Y 0]]]) (by simp only [e6]) ?_
 clear e6
 refine Je (JM (Jc (Jd (Jb [0,0] [(8,I 6)] (Je (WR (WA (Jg [0] [(9,Bo true)] (Jf (J0 (Jq (Jc (Jf (Jy (Jg [0,0] [(5,I 6)] (Jd (JW [0,0,0,0,0,0,0,0,0,3] [] [[Sg b1 0 [Y (JE (Ji name) 15),Y (JE (Ji name) 14),Y (JE (Ji name) 13),Y (JE (Ji name) 12),Y (JE (Ji name) 11),Y (JE (Ji name) 10),Y (Hc.wrap (48+(Hc.wrap (Ha.wrap ((Hb 64 ((Ji name).fdiv (2 ^ 9)) &&& Hb 64 1).toNat:Int))))),Y 0,Y 0,Y 0,Y 0,Y 0,Y 0,Y 0,Y 0,Y 0]]] ?_)))))))))))))))))
 have e7:Hc.wrap (48+(Hc.wrap (Ha.wrap ((Hb 64 ((Ji name).fdiv (2 ^ 9)) &&& Hb 64 1).toNat:Int))))=JE (Ji name) 9:=Yf (Ji name) 9 (by have:=QT name;omega)
 refine Zz (L':=[[Sg b1 0 [Y (JE (Ji name) 15),Y (JE (Ji name) 14),Y (JE (Ji name) 13),Y (JE (Ji name) 12),Y (JE (Ji name) 11),Y (JE (Ji name) 10),Y (JE (Ji name) 9),Y 0,Y 0,Y 0,Y 0,Y 0,Y 0,Y 0,Y 0,Y 0]]]) (by simp only [e7]) ?_
 clear e7
 refine Je (JM (Jc (Jd (Jb [0,0] [(8,I 7)] (Je (WR (WA (Jg [0] [(9,Bo true)] (Jf (J0 (Jq (Jc (Jf (Jy (Jg [0,0] [(5,I 7)] (Jd (JW [0,0,0,0,0,0,0,0,0,3] [] [[Sg b1 0 [Y (JE (Ji name) 15),Y (JE (Ji name) 14),Y (JE (Ji name) 13),Y (JE (Ji name) 12),Y (JE (Ji name) 11),Y (JE (Ji name) 10),Y (JE (Ji name) 9),Y (Hc.wrap (48+(Hc.wrap (Ha.wrap ((Hb 64 ((Ji name).fdiv (2 ^ 8)) &&& Hb 64 1).toNat:Int))))),Y 0,Y 0,Y 0,Y 0,Y 0,Y 0,Y 0,Y 0]]] ?_)))))))))))))))))
 have e8:Hc.wrap (48+(Hc.wrap (Ha.wrap ((Hb 64 ((Ji name).fdiv (2 ^ 8)) &&& Hb 64 1).toNat:Int))))=JE (Ji name) 8:=Yf (Ji name) 8 (by have:=QT name;omega)
 refine Zz (L':=[[Sg b1 0 [Y (JE (Ji name) 15),Y (JE (Ji name) 14),Y (JE (Ji name) 13),Y (JE (Ji name) 12),Y (JE (Ji name) 11),Y (JE (Ji name) 10),Y (JE (Ji name) 9),Y (JE (Ji name) 8),Y 0,Y 0,Y 0,Y 0,Y 0,Y 0,Y 0,Y 0]]]) (by simp only [e8]) ?_
 clear e8
 refine Je (JM (Jc (Jd (Jb [0,0] [(8,I 8)] (Je (WR (WA (Jg [0] [(9,Bo true)] (Jf (J0 (Jq (Jc (Jf (Jy (Jg [0,0] [(5,I 8)] (Jd (JW [0,0,0,0,0,0,0,0,0,3] [] [[Sg b1 0 [Y (JE (Ji name) 15),Y (JE (Ji name) 14),Y (JE (Ji name) 13),Y (JE (Ji name) 12),Y (JE (Ji name) 11),Y (JE (Ji name) 10),Y (JE (Ji name) 9),Y (JE (Ji name) 8),Y (Hc.wrap (48+(Hc.wrap (Ha.wrap ((Hb 64 ((Ji name).fdiv (2 ^ 7)) &&& Hb 64 1).toNat:Int))))),Y 0,Y 0,Y 0,Y 0,Y 0,Y 0,Y 0]]] ?_)))))))))))))))))
 have e9:Hc.wrap (48+(Hc.wrap (Ha.wrap ((Hb 64 ((Ji name).fdiv (2 ^ 7)) &&& Hb 64 1).toNat:Int))))=JE (Ji name) 7:=Yf (Ji name) 7 (by have:=QT name;omega)
 refine Zz (L':=[[Sg b1 0 [Y (JE (Ji name) 15),Y (JE (Ji name) 14),Y (JE (Ji name) 13),Y (JE (Ji name) 12),Y (JE (Ji name) 11),Y (JE (Ji name) 10),Y (JE (Ji name) 9),Y (JE (Ji name) 8),Y (JE (Ji name) 7),Y 0,Y 0,Y 0,Y 0,Y 0,Y 0,Y 0]]]) (by simp only [e9]) ?_
 clear e9
 refine Je (JM (Jc (Jd (Jb [0,0] [(8,I 9)] (Je (WR (WA (Jg [0] [(9,Bo true)] (Jf (J0 (Jq (Jc (Jf (Jy (Jg [0,0] [(5,I 9)] (Jd (JW [0,0,0,0,0,0,0,0,0,3] [] [[Sg b1 0 [Y (JE (Ji name) 15),Y (JE (Ji name) 14),Y (JE (Ji name) 13),Y (JE (Ji name) 12),Y (JE (Ji name) 11),Y (JE (Ji name) 10),Y (JE (Ji name) 9),Y (JE (Ji name) 8),Y (JE (Ji name) 7),Y (Hc.wrap (48+(Hc.wrap (Ha.wrap ((Hb 64 ((Ji name).fdiv (2 ^ 6)) &&& Hb 64 1).toNat:Int))))),Y 0,Y 0,Y 0,Y 0,Y 0,Y 0]]] ?_)))))))))))))))))
 have e10:Hc.wrap (48+(Hc.wrap (Ha.wrap ((Hb 64 ((Ji name).fdiv (2 ^ 6)) &&& Hb 64 1).toNat:Int))))=JE (Ji name) 6:=Yf (Ji name) 6 (by have:=QT name;omega)
 refine Zz (L':=[[Sg b1 0 [Y (JE (Ji name) 15),Y (JE (Ji name) 14),Y (JE (Ji name) 13),Y (JE (Ji name) 12),Y (JE (Ji name) 11),Y (JE (Ji name) 10),Y (JE (Ji name) 9),Y (JE (Ji name) 8),Y (JE (Ji name) 7),Y (JE (Ji name) 6),Y 0,Y 0,Y 0,Y 0,Y 0,Y 0]]]) (by simp only [e10]) ?_
 clear e10
 refine Je (JM (Jc (Jd (Jb [0,0] [(8,I 10)] (Je (WR (WA (Jg [0] [(9,Bo true)] (Jf (J0 (Jq (Jc (Jf (Jy (Jg [0,0] [(5,I 10)] (Jd (JW [0,0,0,0,0,0,0,0,0,3] [] [[Sg b1 0 [Y (JE (Ji name) 15),Y (JE (Ji name) 14),Y (JE (Ji name) 13),Y (JE (Ji name) 12),Y (JE (Ji name) 11),Y (JE (Ji name) 10),Y (JE (Ji name) 9),Y (JE (Ji name) 8),Y (JE (Ji name) 7),Y (JE (Ji name) 6),Y (Hc.wrap (48+(Hc.wrap (Ha.wrap ((Hb 64 ((Ji name).fdiv (2 ^ 5)) &&& Hb 64 1).toNat:Int))))),Y 0,Y 0,Y 0,Y 0,Y 0]]] ?_)))))))))))))))))
 have e11:Hc.wrap (48+(Hc.wrap (Ha.wrap ((Hb 64 ((Ji name).fdiv (2 ^ 5)) &&& Hb 64 1).toNat:Int))))=JE (Ji name) 5:=Yf (Ji name) 5 (by have:=QT name;omega)
 refine Zz (L':=[[Sg b1 0 [Y (JE (Ji name) 15),Y (JE (Ji name) 14),Y (JE (Ji name) 13),Y (JE (Ji name) 12),Y (JE (Ji name) 11),Y (JE (Ji name) 10),Y (JE (Ji name) 9),Y (JE (Ji name) 8),Y (JE (Ji name) 7),Y (JE (Ji name) 6),Y (JE (Ji name) 5),Y 0,Y 0,Y 0,Y 0,Y 0]]]) (by simp only [e11]) ?_
 clear e11
 refine Je (JM (Jc (Jd (Jb [0,0] [(8,I 11)] (Je (WR (WA (Jg [0] [(9,Bo true)] (Jf (J0 (Jq (Jc (Jf (Jy (Jg [0,0] [(5,I 11)] (Jd (JW [0,0,0,0,0,0,0,0,0,3] [] [[Sg b1 0 [Y (JE (Ji name) 15),Y (JE (Ji name) 14),Y (JE (Ji name) 13),Y (JE (Ji name) 12),Y (JE (Ji name) 11),Y (JE (Ji name) 10),Y (JE (Ji name) 9),Y (JE (Ji name) 8),Y (JE (Ji name) 7),Y (JE (Ji name) 6),Y (JE (Ji name) 5),Y (Hc.wrap (48+(Hc.wrap (Ha.wrap ((Hb 64 ((Ji name).fdiv (2 ^ 4)) &&& Hb 64 1).toNat:Int))))),Y 0,Y 0,Y 0,Y 0]]] ?_)))))))))))))))))
 have e12:Hc.wrap (48+(Hc.wrap (Ha.wrap ((Hb 64 ((Ji name).fdiv (2 ^ 4)) &&& Hb 64 1).toNat:Int))))=JE (Ji name) 4:=Yf (Ji name) 4 (by have:=QT name;omega)
 refine Zz (L':=[[Sg b1 0 [Y (JE (Ji name) 15),Y (JE (Ji name) 14),Y (JE (Ji name) 13),Y (JE (Ji name) 12),Y (JE (Ji name) 11),Y (JE (Ji name) 10),Y (JE (Ji name) 9),Y (JE (Ji name) 8),Y (JE (Ji name) 7),Y (JE (Ji name) 6),Y (JE (Ji name) 5),Y (JE (Ji name) 4),Y 0,Y 0,Y 0,Y 0]]]) (by simp only [e12]) ?_
 clear e12
 refine Je (JM (Jc (Jd (Jb [0,0] [(8,I 12)] (Je (WR (WA (Jg [0] [(9,Bo true)] (Jf (J0 (Jq (Jc (Jf (Jy (Jg [0,0] [(5,I 12)] (Jd (JW [0,0,0,0,0,0,0,0,0,3] [] [[Sg b1 0 [Y (JE (Ji name) 15),Y (JE (Ji name) 14),Y (JE (Ji name) 13),Y (JE (Ji name) 12),Y (JE (Ji name) 11),Y (JE (Ji name) 10),Y (JE (Ji name) 9),Y (JE (Ji name) 8),Y (JE (Ji name) 7),Y (JE (Ji name) 6),Y (JE (Ji name) 5),Y (JE (Ji name) 4),Y (Hc.wrap (48+(Hc.wrap (Ha.wrap ((Hb 64 ((Ji name).fdiv (2 ^ 3)) &&& Hb 64 1).toNat:Int))))),Y 0,Y 0,Y 0]]] ?_)))))))))))))))))
 have e13:Hc.wrap (48+(Hc.wrap (Ha.wrap ((Hb 64 ((Ji name).fdiv (2 ^ 3)) &&& Hb 64 1).toNat:Int))))=JE (Ji name) 3:=Yf (Ji name) 3 (by have:=QT name;omega)
 refine Zz (L':=[[Sg b1 0 [Y (JE (Ji name) 15),Y (JE (Ji name) 14),Y (JE (Ji name) 13),Y (JE (Ji name) 12),Y (JE (Ji name) 11),Y (JE (Ji name) 10),Y (JE (Ji name) 9),Y (JE (Ji name) 8),Y (JE (Ji name) 7),Y (JE (Ji name) 6),Y (JE (Ji name) 5),Y (JE (Ji name) 4),Y (JE (Ji name) 3),Y 0,Y 0,Y 0]]]) (by simp only [e13]) ?_
 clear e13
 refine Je (JM (Jc (Jd (Jb [0,0] [(8,I 13)] (Je (WR (WA (Jg [0] [(9,Bo true)] (Jf (J0 (Jq (Jc (Jf (Jy (Jg [0,0] [(5,I 13)] (Jd (JW [0,0,0,0,0,0,0,0,0,3] [] [[Sg b1 0 [Y (JE (Ji name) 15),Y (JE (Ji name) 14),Y (JE (Ji name) 13),Y (JE (Ji name) 12),Y (JE (Ji name) 11),Y (JE (Ji name) 10),Y (JE (Ji name) 9),Y (JE (Ji name) 8),Y (JE (Ji name) 7),Y (JE (Ji name) 6),Y (JE (Ji name) 5),Y (JE (Ji name) 4),Y (JE (Ji name) 3),Y (Hc.wrap (48+(Hc.wrap (Ha.wrap ((Hb 64 ((Ji name).fdiv (2 ^ 2)) &&& Hb 64 1).toNat:Int))))),Y 0,Y 0]]] ?_)))))))))))))))))
 have e14:Hc.wrap (48+(Hc.wrap (Ha.wrap ((Hb 64 ((Ji name).fdiv (2 ^ 2)) &&& Hb 64 1).toNat:Int))))=JE (Ji name) 2:=Yf (Ji name) 2 (by have:=QT name;omega)
 refine Zz (L':=[[Sg b1 0 [Y (JE (Ji name) 15),Y (JE (Ji name) 14),Y (JE (Ji name) 13),Y (JE (Ji name) 12),Y (JE (Ji name) 11),Y (JE (Ji name) 10),Y (JE (Ji name) 9),Y (JE (Ji name) 8),Y (JE (Ji name) 7),Y (JE (Ji name) 6),Y (JE (Ji name) 5),Y (JE (Ji name) 4),Y (JE (Ji name) 3),Y (JE (Ji name) 2),Y 0,Y 0]]]) (by simp only [e14]) ?_
 clear e14
 refine Je (JM (Jc (Jd (Jb [0,0] [(8,I 14)] (Je (WR (WA (Jg [0] [(9,Bo true)] (Jf (J0 (Jq (Jc (Jf (Jy (Jg [0,0] [(5,I 14)] (Jd (JW [0,0,0,0,0,0,0,0,0,3] [] [[Sg b1 0 [Y (JE (Ji name) 15),Y (JE (Ji name) 14),Y (JE (Ji name) 13),Y (JE (Ji name) 12),Y (JE (Ji name) 11),Y (JE (Ji name) 10),Y (JE (Ji name) 9),Y (JE (Ji name) 8),Y (JE (Ji name) 7),Y (JE (Ji name) 6),Y (JE (Ji name) 5),Y (JE (Ji name) 4),Y (JE (Ji name) 3),Y (JE (Ji name) 2),Y (Hc.wrap (48+(Hc.wrap (Ha.wrap ((Hb 64 ((Ji name).fdiv (2 ^ 1)) &&& Hb 64 1).toNat:Int))))),Y 0]]] ?_)))))))))))))))))
 have e15:Hc.wrap (48+(Hc.wrap (Ha.wrap ((Hb 64 ((Ji name).fdiv (2 ^ 1)) &&& Hb 64 1).toNat:Int))))=JE (Ji name) 1:=Yf (Ji name) 1 (by have:=QT name;omega)
 refine Zz (L':=[[Sg b1 0 [Y (JE (Ji name) 15),Y (JE (Ji name) 14),Y (JE (Ji name) 13),Y (JE (Ji name) 12),Y (JE (Ji name) 11),Y (JE (Ji name) 10),Y (JE (Ji name) 9),Y (JE (Ji name) 8),Y (JE (Ji name) 7),Y (JE (Ji name) 6),Y (JE (Ji name) 5),Y (JE (Ji name) 4),Y (JE (Ji name) 3),Y (JE (Ji name) 2),Y (JE (Ji name) 1),Y 0]]]) (by simp only [e15]) ?_
 clear e15
 refine Je (JM (Jc (Jd (Jb [0,0] [(8,I 15)] (Je (WR (WA (Jg [0] [(9,Bo true)] (Jf (J0 (Jq (Jc (Jf (Jy (Jg [0,0] [(5,I 15)] (Jd (JW [0,0,0,0,0,0,0,0,0,3] [] [[Sg b1 0 [Y (JE (Ji name) 15),Y (JE (Ji name) 14),Y (JE (Ji name) 13),Y (JE (Ji name) 12),Y (JE (Ji name) 11),Y (JE (Ji name) 10),Y (JE (Ji name) 9),Y (JE (Ji name) 8),Y (JE (Ji name) 7),Y (JE (Ji name) 6),Y (JE (Ji name) 5),Y (JE (Ji name) 4),Y (JE (Ji name) 3),Y (JE (Ji name) 2),Y (JE (Ji name) 1),Y (Hc.wrap (48+(Hc.wrap (Ha.wrap ((Hb 64 ((Ji name).fdiv (2 ^ 0)) &&& Hb 64 1).toNat:Int)))))]]] ?_)))))))))))))))))
 have e16:Hc.wrap (48+(Hc.wrap (Ha.wrap ((Hb 64 ((Ji name).fdiv (2 ^ 0)) &&& Hb 64 1).toNat:Int))))=JE (Ji name) 0:=Yf (Ji name) 0 (by have:=QT name;omega)
 refine Zz (L':=[[Sg b1 0 [Y (JE (Ji name) 15),Y (JE (Ji name) 14),Y (JE (Ji name) 13),Y (JE (Ji name) 12),Y (JE (Ji name) 11),Y (JE (Ji name) 10),Y (JE (Ji name) 9),Y (JE (Ji name) 8),Y (JE (Ji name) 7),Y (JE (Ji name) 6),Y (JE (Ji name) 5),Y (JE (Ji name) 4),Y (JE (Ji name) 3),Y (JE (Ji name) 2),Y (JE (Ji name) 1),Y (JE (Ji name) 0)]]]) (by simp only [e16]) ?_
 clear e16
 refine Je (JM (Jc (Jd (Jb [0,0] [(8,I 16)] (Je (WR (WA (Jg [0] [(9,Bo false)] (Jf (Qr (KX (J1 (J1 (JS (Jc (Jf (Jd (Jb [0] [(21,Sl (At b1 0) 16 16)] (Jbl (b:=b1) (off:=0) (len:=16) (cap:=16) (cs:=HY (Value.int .u8) [JE (Ji name) 15,JE (Ji name) 14,JE (Ji name) 13,JE (Ji name) 12,JE (Ji name) 11,JE (Ji name) 10,JE (Ji name) 9,JE (Ji name) 8,JE (Ji name) 7,JE (Ji name) 6,JE (Ji name) 5,JE (Ji name) 4,JE (Ji name) 3,JE (Ji name) 2,JE (Ji name) 1,JE (Ji name) 0]) 22 0 [JE (Ji name) 15,JE (Ji name) 14,JE (Ji name) 13,JE (Ji name) 12,JE (Ji name) 11,JE (Ji name) 10,JE (Ji name) 9,JE (Ji name) 8,JE (Ji name) 7,JE (Ji name) 6,JE (Ji name) 5,JE (Ji name) 4,JE (Ji name) 3,JE (Ji name) 2,JE (Ji name) 1,JE (Ji name) 0] rfl (Jau (ns:=[JE (Ji name) 15,JE (Ji name) 14,JE (Ji name) 13,JE (Ji name) 12,JE (Ji name) 11,JE (Ji name) 10,JE (Ji name) 9,JE (Ji name) 8,JE (Ji name) 7,JE (Ji name) 6,JE (Ji name) 5,JE (Ji name) 4,JE (Ji name) 3,JE (Ji name) 2,JE (Ji name) 1,JE (Ji name) 0]) rfl) (Jb [0] [(2,Sr (([JE (Ji name) 15,JE (Ji name) 14,JE (Ji name) 13,JE (Ji name) 12,JE (Ji name) 11,JE (Ji name) 10,JE (Ji name) 9,JE (Ji name) 8,JE (Ji name) 7,JE (Ji name) 6,JE (Ji name) 5,JE (Ji name) 4,JE (Ji name) 3,JE (Ji name) 2,JE (Ji name) 1,JE (Ji name) 0]:List Int).map fun n=>He n.toNat))] (Je (Jc (Jn (Jo [0] [Sr (([JE (Ji name) 15,JE (Ji name) 14,JE (Ji name) 13,JE (Ji name) 12,JE (Ji name) 11,JE (Ji name) 10,JE (Ji name) 9,JE (Ji name) 8,JE (Ji name) 7,JE (Ji name) 6,JE (Ji name) 5,JE (Ji name) 4,JE (Ji name) 3,JE (Ji name) 2,JE (Ji name) 1,JE (Ji name) 0]:List Int).map fun n=>He n.toNat)] (Jx (Jh _) (congrArg Sr (?_:(YX name)=(([JE (Ji name) 15,JE (Ji name) 14,JE (Ji name) 13,JE (Ji name) 12,JE (Ji name) 11,JE (Ji name) 10,JE (Ji name) 9,JE (Ji name) 8,JE (Ji name) 7,JE (Ji name) 6,JE (Ji name) 5,JE (Ji name) 4,JE (Ji name) 3,JE (Ji name) 2,JE (Ji name) 1,JE (Ji name) 0]:List Int).map fun n=>He n.toNat)).symm))))))))))))))))))))))))))
 rfl
theorem Jc3 (G:J5) (name:Bb) (hw_name:(name).length≤140737488351232) :QZ 173 #[Sr name] G (.tuple #[Sr ((KM name).1),I ((KM name).2)]):=by
 refine JP Tryz.func173 9 [(0,Sr name)] rfl (fun w0 G0=>?_)
 refine Jg [0,0] [] (Jf (Jf (Jd (Jb [0] [(4,Sr name)] (Jm 5 (Bo (KS name)) (Z4 G name) (Jb [0] [(6,Bo (!(KS name)))] (Je (Jc (Jl (!(KS name)) (fun h1=>?_) (fun h1=>?_))))))))))
 refine Jg [0,0] [(2,Sr ([])),(3,I 3)] (Jn (Jj (Jo [0,0] [Sr ([]),I 3] (Jx (Jh _) ?_))))
 have hf_:(KM name)=([],3):=by
  unfold KM;simp_all
 · (try rw [hf_]);(simp only [QC];done)
 refine Jq (Jc (Jf (Jd (Jb [0] [(7,Sr name)] (Jm 8 (Sr (YX name)) (Jh9 G name hw_name) (Jb [0,0] [(2,Sr (YX name)),(3,I 0)] (Je (Jc (Jn (Jo [0,0] [Sr (YX name),I 0] (Jx (Jh _) ?_)))))))))))
 have hf_:(KM name)=(YX name,0):=by
  unfold KM;simp_all
 · (try rw [hf_]);(simp only [QC];done)
theorem Jho (G:J5) (x:Bb) :QZ 172 #[Sr x] G (Bo false):=by
 refine JP Tryz.func172 6 [(0,Sr x)] rfl (fun w0 G0=>?_)
 refine Jg [0] [] (Jg [0,0,0,0] [(2,Bo (!((B x).toList == (B x).toList)))] (QU 2 (Bo (!(x == x))) (show (Bo (!((B x).toList == (B x).toList)):Value)=Bo (!(x == x)) by simp only [Qx]) (Jn (Jo [0] [Bo (!(x == x))] (Jx (Jh _) (congrArg Bo (?_:false=(!(x == x))).symm))))))
 simp
theorem Ji6 (G:J5) (x:Bb) (y:Bb) :QZ 117 #[Sr x,Sr y] G (I (Z5 x y)):=by
 refine JP Tryz.func117 20 [(0,Sr x),(1,Sr y)] rfl (fun w0 G0=>?_)
 refine Jg [0] [] (Jf (Jd (Jb [0] [(7,Sr x)] (Jm 8 (Bo false) (Jho G x) (Jb [0] [(5,Bo false)] (Je (Jc (Jf (Jd (Jb [0] [(9,Sr y)] (Jm 10 (Bo false) (Jho G y) (Jb [0] [(6,Bo false)] (Je (Jc (Jf (Jg [0] [(11,Bo false)] (Qr (Jq (Jc (Jf (Jg [0] [(13,Bo false)] ?_)))))))))))))))))))))
 refine Qr (Jq (Jc (Jf (Jg [0,0,0] [(16,Bo (Go.Op.bytesLess (B x).toList (B y).toList))] (QU 16 (Bo (Go.Op.bytesLess x y)) (show (Bo (Go.Op.bytesLess (B x).toList (B y).toList):Value)=Bo (Go.Op.bytesLess x y) by simp only [Qx]) (Jl (Go.Op.bytesLess x y) (fun h1=>?_) (fun h1=>?_)))))))
 refine Jg [0] [(4,I (-1))] (Jn (Jj (Jo [0] [I (-1)] (Jx (Jh _) (congrArg I (?_:(Z5 x y)=(-1)).symm)))))
 · unfold Z5;(rw [if_pos ‹_›];done)
 refine Jq (Jc (Jf (Jg [0,0,0] [(19,Bo (!(Go.Op.bytesLess (B x).toList (B y).toList || ((B x).toList == (B y).toList))))] (QU 19 (Bo (!(Go.Op.bytesLess x y || (x == y)))) (show (Bo (!(Go.Op.bytesLess (B x).toList (B y).toList || ((B x).toList == (B y).toList))):Value)=Bo (!(Go.Op.bytesLess x y || (x == y))) by simp only [Qx]) (Jl (!(Go.Op.bytesLess x y || (x == y))) (fun h2=>?_) (fun h2=>?_))))))
 refine Jg [0] [(4,I 1)] (Jn (Jj (Jo [0] [I 1] (Jx (Jh _) (congrArg I (?_:(Z5 x y)=1).symm)))))
 · unfold Z5;(rw [if_neg (by simp_all)];(rw [if_neg (by simp_all)];done))
 refine Jq (Jc (Jg [0] [(4,I 0)] (Jn (Jo [0] [I 0] (Jx (Jh _) (congrArg I (?_:(Z5 x y)=0).symm))))))
 · unfold Z5;(rw [if_neg (by simp_all)];(rw [if_pos (by simp_all)];done))
theorem JpU (G:J5) (a_l:Ba) (c_l:Nat) (l:List Int) (h_l:RS EI G a_l c_l l) :QZ 116 #[Sl a_l l.length c_l] G (I (orI l)):=by
 refine JP Tryz.func116 18 [(0,Sl a_l l.length c_l)] rfl (fun w0 G0=>?_)
 refine Jg [0] [] (Jg [0] [(3,I 0)] (Jf (Jg [0,0,0] [(6,Sl a_l l.length c_l),(7,I (l.length:Int)),(8,I 0)] (Jy ?_))))
 have hlm_h_l:l.length≤9223372036854775807:=Hi (h_l).le (h_l).max
 refine Qc (σ:=Nat) (fun q_=>(q_≤l.length)∧(orI l=orI (l.drop q_))) (fun q_=>[(3,I 0),(6,Sl a_l l.length c_l),(7,I (l.length:Int)),(8,I (q_:Int))]) (fun q_=>G) (fun q_=>[]) (fun q_=>l.length-q_) 0 ⟨(by (try dsimp only);exact Ho _),rfl⟩ (fun q_ hs=>?_)
 revert hs;revert q_;intro i hs
 obtain ⟨hi,hn⟩:=hs
 dsimp only
 refine Jg [0] [(9,Bo (decide ((i:Int)<(l.length:Int))))] (Jf (Jl (decide ((i:Int)<(l.length:Int))) (fun h1=>?_) (fun h1=>?_)))
 refine Jq (Jc (Jf (Jy (Jf (Jd ?_)))))
 obtain ⟨b1,o1,rfl⟩:=RS.addr h_l (k:=i) (by omega)
 obtain ⟨x1,hx1⟩:=QS (l:=l) (k:=i) (by omega)
 obtain ⟨_,⟨rfl,_⟩,hc1⟩:=RS.get h_l hx1
 refine JV (b:=b1) (off:=o1) (len:=l.length) (cap:=c_l) (ik:=.i64) 10 3 1 i J4 (JO 11 3 (cs:=[I x1]) 0 (I x1) hc1 (Jb [0] [(5,I x1)] (Je (Jc (Jg [0,0,0] [(14,Bo (!decide (x1=0)))] (Jl (!decide (x1=0)) (fun h2=>?_) (fun h2=>?_)))))))
 refine Jg [0,0] [(2,I x1)] (Jn (Ju (Jj (QV (Ju (Jj (Jo [0] [I x1] (Jx (Jh _) (congrArg I (?_:(orI l)=x1).symm)))))))))
 rw [hn];exact orI_at hx1 (by simp_all)
 exact Jq (JM (Jc (Jd (Jb [0,0] [(8,I (Hk.wrap ((i:Int)+1)))] (Kp 8 ((i:Int)+1) J4 (Je (Qh (i+1) ⟨J4,(by rw [hn];exact Jof hx1 (by simp_all))⟩ (by (try dsimp only);omega))))))))
 refine KX (J1 (Kd (JS (Jc (Jg [0,0] [(2,I 0)] (Jn (Jo [0] [I 0] (Jx (Jh _) (congrArg I (?_:(orI l)=0).symm)))))))))
 rw [hn];(rw [Ht (by omega)];rfl)
theorem Jdz (G:J5) (name:Bb) (hw_name:(name).length≤140737488351232) :QZ 118 #[Sr name] G (Sr (way name)):=by
 refine JP Tryz.func118 11 [(0,Sr name)] rfl (fun w0 G0=>?_)
 refine Jg [0] [] (Jf (Jd (Jb [0] [(6,Sr name)] (Jm 7 (.tuple #[Sr ((KM name).1),I ((KM name).2)]) (Jc3 G name hw_name) (Jb [0,0,0,0,0] [(3,Sr ((KM name).1))] (Je (Jc (Jg [0,0] [(2,Sr ((KM name).1))] (Jn (Jo [0] [Sr ((KM name).1)] (Jx (Jh _) (congrArg Sr (?_:(way name)=((KM name).1)).symm))))))))))))
 rfl
theorem Ji7 (G:J5) (a:Bb) (hw_a:(a).length≤140737488351232) (b:Bb) (hw_b:(b).length≤140737488351232) :QZ 68 #[Sr a,Sr b] G (I (Yq a b)):=by
 refine JP Tryz.func68 15 [(0,Sr a),(1,Sr b)] rfl (fun w0 G0=>?_)
 refine Jg [0] [] (Jf (Jd (Jb [0] [(5,Sr a)] (Jm 6 (Sr (way a)) (Jdz G a hw_a) (Jb [0] [(7,Sr b)] (Jm 8 (Sr (way b)) (Jdz G b hw_b) (Jm 9 (I (Z5 (way a) (way b))) (Ji6 G (way a) (way b)) (Jb [0,0] [(10,Sr a),(11,Sr b)] (Jm 12 (I (Z5 a b)) (Ji6 G a b) (Km 13 2 #[I (Z5 (way a) (way b)),I (Z5 a b)] 3 (fun b1=>QI (b:=b1) (o:=0) (cs:=[I (Z5 (way a) (way b)),I (Z5 a b)]) 0 (fun G1 hl1 hz1=>?_))))))))))))
 have hs1:RS EI G1 (At b1 0) 2 [Z5 (way a) (way b),Z5 a b]:=RS.lit [[I (Z5 (way a) (way b))],[I (Z5 a b)]] [Z5 (way a) (way b),Z5 a b] ⟨⟨rfl,(by (unfold Z5;repeat' split <;> omega))⟩,⟨⟨rfl,(by (unfold Z5;repeat' split <;> omega))⟩,trivial⟩⟩ hz1 (Hr rfl) (Hr rfl)
 refine Jm 14 (I (orI ([Z5 (way a) (way b),Z5 a b]))) (JpU G1 (At b1 0) 2 ([Z5 (way a) (way b),Z5 a b]) hs1) (Jb [0] [(4,I (orI ([Z5 (way a) (way b),Z5 a b])))] (Je (Jc (Jn (Jo [0] [I (orI ([Z5 (way a) (way b),Z5 a b]))] (Jx hl1 (congrArg I (?_:(Yq a b)=(orI ([Z5 (way a) (way b),Z5 a b]))).symm)))))))
 rfl
end Go.Proofs.YteaampgpgokjmaaGreatDoor
