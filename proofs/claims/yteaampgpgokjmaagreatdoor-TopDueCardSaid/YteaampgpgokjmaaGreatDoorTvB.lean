import Derived.Test.YteaampgpgokjmaaGreatDoorTvA
import Derived.Test.YteaampgpgokjmaaGreatDoorRows
import Derived.WalkKit
import Derived.ProofKit
import Derived.OpenShut
import Derived.JoinedCond
import Derived.SizedLaws
import Derived.Deep.CondSized
import Derived.WideKeyArgs
import Derived.Carry
import Derived.Shelf.Strconv.Itoa3
import Derived.Shelf.Strconv.AtoiAll
import Derived.Shelf.Strings.SplitCore
import Derived.Shelf.Strings.OnBuilder
import Derived.Shelf.Strings.Count
import Derived.Shelf.Strings.Search3
import Derived.Lib.SplitLaws
import Derived.Lib.AtoiErrMem
import Derived.BigCall
import Derived.BigGuard
import Derived.Lib.ItoaMem
import Derived.Lib.Hide
import Derived.Lib.AtoiAllCases
import Derived.Lib.ItoaLen
set_option linter.unusedVariables false
set_option linter.unusedSimpArgs false
namespace Go.Proofs.YteaampgpgokjmaaGreatDoor
open Go.Tx
open Go.ChangeShapes Go.WideShapes Go.ChangeAt Go.RowKit
open IntKind renaming u64 → Ha, u8 → Hc, i64 → Hj, signed → HL, bits → HQ
open _root_.BitVec renaming ofInt → Hb, ofInt_natCast → Hs, toNat_ofNat → Hu
open _root_.Nat renaming beq → Hd, le_trans → Hi, zero_le → Hl, le_of_ble_eq_true → Hr, mod_eq_of_lt → Hx, le_refl → HG
open _root_.UInt8 renaming ofNat → He
open _root_.List renaming forall_mem_nil → Hf, length_append → Hg, getElem?_eq_some_iff → Hh, take_of_length_le → Hk, length_cons → Hm, length_nil → Hn, getElem?_eq_getElem → Ho, drop_eq_getElem_cons → Hp, drop_eq_nil_of_le → Ht, length_map → Hw, take_add_one → HB, findIdx?_eq_some_iff_getElem → HF, mem_of_getElem? → HH, mem_append → HI, append_nil → HJ, mem_singleton → HM, length_range → HN, getElem?_map → HO, take_append_drop → HS, mem_cons → HV, mem_map → HW, map → HX
open _root_.Option renaming map_eq_some_iff → Hq, bind_eq_some_iff → Hy, some → HR
open _root_.Int renaming fdiv_eq_ediv_of_nonneg → Hv, eq_ofNat_of_zero_le → Hz, mul_le_mul_of_nonneg_right → HA, tdiv_eq_ediv_of_nonneg → HC, mul_assoc → HD, mul_nonneg → HT
open IntWalk renaming i64_in → HE, u64_in → HK, rem_in → HU
open _root_.Bool renaming and_eq_true → HP
def RdF (rec:TypeId→List Value→Nat→Prop) (P:Program) (cs:List Value):List Field→Nat→Prop
 | [],_=>True
 | f::fs,n=>∃ m r,m+r≤n∧rec f.type ((cs.drop f.offset).take (P.cellsOf f.type)) m∧RdF rec P cs fs r
def Rd (P:Program) (G:J4):Nat→TypeId→List Value→Nat→Prop
 | 0,_,_,_=>False
 | d+1,t,cs,n=>match P.underlying t with
  | some .bool=>∃ b,cs=[Bo b]
  | some (.int k)=>∃ m,cs=[.int k m]∧(Lit.int k m).wf=true
  | some .string=>∃ l:List UInt8,cs=[Sr l]∧l.length≤140737488351232∧l.length+1≤n
  | some (.slice e)=>cs=[.slice none 0 0]∨∃ a len cap,cs=[.slice (some a) len cap]∧len≤cap∧cap≤9223372036854775807∧cap*P.bytesOf e≤140737488351232∧(0<cap→0<P.cellsOf e→a.spot=none) ∧
    ∃ ns:List Nat,ns.length=len∧ns.sum+1≤n∧∀ i m,ns[i]? = some m→∃ es,es.length=P.cellsOf e∧(∀ j v,es[j]? = some v→G a.block (a.off+i*P.cellsOf e+j)=some v)∧Rd P G d e es m
  | some (.struct fs)=>cs.length=P.cellsOf t∧RdF (Rd P G d) P cs fs.toList n
  | some (.array k e)=>cs.length=P.cellsOf t∧∃ ns:List Nat,ns.length=k∧ns.sum≤n∧∀ i m,ns[i]? = some m→Rd P G d e ((cs.drop (i*P.cellsOf e)).take (P.cellsOf e)) m
  | _=>True
def Jbr (w:World):J4:=fun b o=>w.cell? ⟨b,o,none⟩
section
variable {H:Type} {enc:TypeId×Value→H} {P:Program} {w:World}
theorem Jag:∀ (ds:List (DataW H)),Rows.uptoBulkAll ds=(ds.map Rows.uptoBulk).sum
 | []=>rfl
 | d::r=>by rw [Rows.uptoBulkAll,Jag r];simp
theorem Jah (P:Program) (e:TypeId):∀ (ds:List (DataW H)) (d:DataW H) (x:Nat),d∈ds→x∈d.weights P e→x∈DataW.weightsAll P e ds
 | [],d,x,h,_=>by cases h
 | c::r,d,x,h,hx=>by
  rw [DataW.weightsAll]
  rcases HV.1 h with rfl | h
  · exact List.mem_append_left _ hx
  · exact List.mem_append_right _ (Jah P e r d x h hx)
theorem JdC {a:Addr} {n:Nat} {cs:List Value} (h:w.cells? 0 a n=some cs):cs.length=n∧(∀ j v,cs[j]? = some v→Jbr w a.block (a.off+j)=some v)∧(0<n→a.spot=none):=by
 unfold World.cells? at h
 rw [if_pos (Hl _)] at h
 have hl:=mapM_some_length h
 rw [HN] at hl
 have key:∀ j v,cs[j]? = some v→w.cell? (a.add j)=some v:=by
  intro j v hv
  have hj:j<n:=by rw [← hl];exact (Hh.1 hv).1
  rw [mapM_some_get h j j (by simp [hj]),hv]
 refine ⟨hl,fun j v hv=>?_,fun hn=>?_⟩
 ·
  have:=key j v hv
  by_cases h0:j=0
  ·
   subst h0
   obtain ⟨b,o,sp⟩:=a
   cases sp with
   | none=>simpa [Addr.add,Jbr] using this
   | some s=>simp [Addr.add,World.cell?] at this;split at this <;> simp at this
  ·
   rw [Addr.add,if_neg h0] at this
   exact this
 ·
  obtain ⟨v,hv⟩:∃ v,cs[0]? = some v:=⟨_,Ho (by omega)⟩
  have:=key 0 v hv
  obtain ⟨b,o,sp⟩:=a
  cases sp with
  | none=>rfl
  | some s=>simp [Addr.add,World.cell?] at this;split at this <;> simp at this
theorem B_of (s:ByteArray):Value.string s=Sr s.data.toList:=by
 obtain ⟨⟨l⟩⟩:=s
 rfl
theorem Jm5 {rec:TypeId→List Value→Nat→Prop} {cs:List Value}:∀ (fs:List Field) {n m:Nat},n≤m→RdF rec P cs fs n→RdF rec P cs fs m
 | [],_,_,_,_=>trivial
 | f::fs,n,m,h,⟨x,y,h1,h2,h3⟩=>⟨x,y,Hi h1 h,h2,h3⟩
theorem Jm6 {d:Nat} {cs:List Value} (ih:∀ t cs dt ps,DataW.trod enc P w 0 (fun _=>true) true d t cs=some (dt,ps)→(∀ x∈DataW.weights P t dt,x≤reachBytes)→Rd P (Jbr w) d t cs (Rows.uptoBulk dt)) :
  ∀ (fs:List Field) (xs:List (DataW H×List MemPlace)),fs.mapM (fun f=>DataW.trod enc P w 0 (fun _=>true) true d f.type ((cs.drop f.offset).take (P.cellsOf f.type)))=some xs →
   (∀ x∈DataW.weightsEach P (fs.map (·.type)) (xs.map (·.1)),x≤reachBytes)→RdF (Rd P (Jbr w) d) P cs fs (Rows.uptoBulkAll (xs.map (·.1)))
 | [],xs,_,_=>trivial
 | f::fs,xs,h,hw=>by
  rw [List.mapM_cons] at h
  simp only [bind,Hy,pure,HR.injEq] at h
  obtain ⟨⟨dt,ps⟩,h1,ys,h2,rfl⟩:=h
  simp only [List.map_cons,DataW.weightsEach,HI] at hw
  refine ⟨Rows.uptoBulk dt,Rows.uptoBulkAll (ys.map (·.1)),?_,ih _ _ _ _ h1 (fun x hx=>hw x (.inl hx)),Jm6 ih fs ys h2 (fun x hx=>hw x (.inr hx))⟩
  simp [Rows.uptoBulkAll]
theorem Jfa:∀ (d:Nat) (t:TypeId) (cs:List Value) (dt:DataW H) (ps:List MemPlace),DataW.trod enc P w 0 (fun _=>true) true d t cs=some (dt,ps)→(∀ x∈DataW.weights P t dt,x≤reachBytes) →
  Rd P (Jbr w) d t cs (Rows.uptoBulk dt)
 | 0,_,_,_,_,h,_=>by simp [DataW.trod] at h
 | d+1,t,cs,dt,ps,h,hw=>by
  have ih:=Jfa d
  unfold Rd
  cases hu:P.underlying t with
  | none=>trivial
  | some k =>
   cases k with
   | bool =>
    simp only
    unfold DataW.trod at h
    rw [hu] at h
    split at h <;> simp_all
   | int k =>
    simp only
    unfold DataW.trod at h
    rw [hu] at h
    split at h <;> simp_all
   | string =>
    simp only
    unfold DataW.trod at h
    rw [hu] at h
    split at h <;> try simp_all
    rename_i s
    obtain ⟨h1,rfl,h2⟩:=h
    have:=hw s.data.toList.length (by simp [DataW.weights])
    refine ⟨s.data.toList,Value.string.inj (B_of s),?_,?_⟩
    · simpa [reachBytes] using this
    · simp [Rows.uptoBulk]
   | slice e =>
    simp only
    unfold DataW.trod at h
    rw [hu] at h
    split at h <;> try (exfalso;simp_all;done)
    · exact .inl rfl
    ·
     rename_i e' a len cap heq
     cases heq
     dsimp only at h
     split at h
     ·
      rename_i hc
      simp only [if_true,Hy,Hq,Prod.mk.injEq] at h
      obtain ⟨xs,h1,ys,h2,rfl,_⟩:=h
      have l1:=mapM_some_length h1
      have l2:=mapM_some_length h2
      rw [HN] at l1 l2
      simp only [DataW.weights,hu,HV,HI,Hw] at hw
      have hsz:=hw _ (.inl rfl)
      have get:∀ i z,i<len→xs[i]? = some z→∃ cs,w.cells? 0 (a.add (i*P.cellsOf e)) (P.cellsOf e)=some cs∧DataW.trod enc P w 0 (fun _=>true) true d e cs=some z:=by
       intro i z hi hz
       have:=mapM_some_get h1 i i (by simp [hi])
       rw [hz] at this
       exact Hy.1 this
      have get2:∀ i z,i<cap-len→ys[i]? = some z→∃ cs,w.cells? 0 (a.add ((len+i)*P.cellsOf e)) (P.cellsOf e)=some cs∧DataW.trod enc P w 0 (fun _=>true) true d e cs=some z:=by
       intro i z hi hz
       have:=mapM_some_get h2 i i (by simp [hi])
       rw [hz] at this
       exact Hy.1 this
      refine .inr ⟨a,len,cap,rfl,hc.2.1,hc.2.2,?_,fun hc0 he0=>?_,xs.map fun z=>Rows.uptoBulk z.1,by simp [l1],?_,?_⟩
      ·
       rw [l1,l2,show len+(cap-len)=cap by omega] at hsz
       simpa [reachBytes] using hsz
      ·
       by_cases hl:0<len
       ·
        obtain ⟨z,hz⟩:∃ z,xs[0]? = some z:=⟨_,Ho (by omega)⟩
        obtain ⟨cs,hcs,_⟩:=get 0 z hl hz
        have:=(JdC hcs).2.2 he0
        simpa [Addr.add] using this
       ·
        obtain ⟨z,hz⟩:∃ z,ys[0]? = some z:=⟨_,Ho (by omega)⟩
        obtain ⟨cs,hcs,_⟩:=get2 0 z (by omega) hz
        have:=(JdC hcs).2.2 he0
        rw [show len=0 by omega] at this
        simpa [Addr.add] using this
      · simp [Rows.uptoBulk,Jag,Function.comp_def]
      ·
       intro i m hm
       rw [HO,Hq] at hm
       obtain ⟨z,hz,rfl⟩:=hm
       have hi:i<len:=by rw [← l1];exact (Hh.1 hz).1
       obtain ⟨cs,hcs,hz'⟩:=get i z hi hz
       obtain ⟨c1,c2,c3⟩:=JdC hcs
       refine ⟨cs,c1,fun j v hv=>?_,ih _ _ _ _ hz' (fun x hx=>hw x (.inr (.inl (Jah P e _ z.1 x (HW.2 ⟨z,HH hz,rfl⟩) hx))))⟩
       have:=c2 j v hv
       unfold Addr.add at this
       split at this
       · rename_i h0;rw [h0];simpa using this
       · exact this
     · cases h
   | struct fs =>
    simp only
    unfold DataW.trod at h
    rw [hu] at h
    split at h <;> try (exfalso;simp_all;done)
    rename_i fs' heq
    cases heq
    split at h
    ·
     rename_i hc
     rw [Hq] at h
     obtain ⟨xs,h1,h2⟩:=h
     cases h2
     simp only [DataW.weights,hu] at hw
     refine ⟨hc,?_⟩
     have:=Jm6 ih fs.toList xs h1 hw
     revert this
     generalize fs.toList=fl
     rw [Rows.uptoBulk]
     exact Jm5 fl (Nat.le_succ _)
    · cases h
   | array k e =>
    simp only
    unfold DataW.trod at h
    rw [hu] at h
    split at h <;> try (exfalso;simp_all;done)
    rename_i k' e' heq
    cases heq
    split at h
    ·
     rename_i hc
     rw [Hq] at h
     obtain ⟨xs,h1,h2⟩:=h
     cases h2
     have l1:=mapM_some_length h1
     rw [HN] at l1
     simp only [DataW.weights,hu] at hw
     refine ⟨hc,xs.map fun z=>Rows.uptoBulk z.1,by simp [l1],by simp [Rows.uptoBulk,Jag,Function.comp_def],?_⟩
     intro i m hm
     rw [HO,Hq] at hm
     obtain ⟨z,hz,rfl⟩:=hm
     have hi:i<k:=by rw [← l1];exact (Hh.1 hz).1
     have:=mapM_some_get h1 i i (by simp [hi])
     rw [hz] at this
     exact ih _ _ _ _ this (fun x hx=>hw x (Jah P e _ z.1 x (HW.2 ⟨z,HH hz,rfl⟩) hx))
    · cases h
   | _=>trivial
theorem Jcb (hl:laidOutB P=true) {W W':World} (hb:Below W.heap.size W W'):∀ (ts:List TypeId) (vs:List Value) (ds:List (DataW H)) (ps:List MemPlace),
  (∀ t∈ts,P.readableRec t=true∧t<P.types.size)→DataW.TrodAll enc P W 0 (fun _=>true) true ts vs ds ps→(∀ x∈ps,x.block<W.heap.size) →
  ∀ sp:Nat→Bool,(∀ p∈ps,sp p.block=true)→DataW.TrodAll enc P W' 0 sp true ts vs ds ps
 | [],vs,ds,ps,_,h,_,sp,_=>by
  obtain ⟨rfl,rfl,rfl⟩:=trodAll_nil h
  exact trodAll_mk0
 | t::ts,vs,ds,ps,hr,h,hlt,sp,hsp=>by
  obtain ⟨v,vs',d,ds',p,q,rfl,rfl,rfl,h1,h2⟩:=trodAll_cons h
  have ht:=hr t (by simp)
  refine trodAll_cons_mk ?_ (Jcb hl hb ts vs' ds' q (fun u hu=>hr u (by simp [hu])) h2 (fun x hx=>hlt x (by simp [hx])) sp (fun x hx=>hsp x (by simp [hx])))
  exact WideElems.Trod_stays hl ht.1 ht.2 h1 (fun x hx=>hb.same (hlt x (by simp [hx]))) (fun x hx=>hsp x (by simp [hx]))
def Jh9 (P:Program) (ts:List TypeId):Bool:=ts.all fun t=>P.readableRec t && decide (t<P.types.size)
theorem Jm7 {f:Func} {s:ChangeSpec} {fresh handsOn again:Bool} {W W':World} {args:Array Value} {ds gs:List (DataW H)} {before:List MemPlace} {t:TypeId}
  (hl:laidOutB P=true) (hr:Jh9 P f.params.toList=true) (hv:s.vars=[])
  (hW:DataW.Whole enc P f.params.toList s.vars false W args.toList ds gs before)
  (ho:s.fn H ds={ results:=[.lit (.bool true)],args:=ds }) (ht:f.resultTypes=#[t]) (hu:P.underlying t=some .bool) (hb:Below W.heap.size W W') :
  s.post enc P f false fresh handsOn again W args (.bool true) W':=by
 obtain ⟨p,q,hA,hV,rfl,hfz,hnd⟩:=hW
 have hV0:=hV
 rw [hv] at hV
 obtain ⟨rfl,rfl⟩:=trodVars_none hV
 have hW:DataW.Whole enc P f.params.toList s.vars false W args.toList ds [] (p++[]):=⟨p,[],hA,hV0,rfl,hfz,hnd⟩
 have hlt:=hW.lt
 simp only [HJ] at hlt hfz hnd
 have hrf:∀ t∈f.params.toList,P.readableRec t=true∧t<P.types.size:=by
  intro t ht
  have:=List.all_eq_true.1 hr t ht
  simpa using this
 have hargs:=Jcb hl hb _ _ _ _ hrf hA hlt
 have hvars:∀ sp,DataW.TrodVars enc P W' sp s.vars [] []:=by intro sp;rw [hv];rfl
 have hres:∀ (b:Nat) (sp:Nat→Bool) (hd:Bool),DataW.TrodAll enc P W' b sp hd f.resultTypes.toList ((Value.bool true).resultList f.resultTypes.size) [.lit (.bool true)] []:=by
  intro b sp hd
  rw [ht]
  exact trodAll_cons_mk (p:=[]) (p':=[]) (shut_bool hu true) trodAll_mk0
 refine ⟨ds,[],p++[],[],p,[],hW,?_,?_,?_,hb.frame _,fun _=>⟨ok_one ht rfl (okWide_bool_mk hu _),[.lit (.bool true)]++ds,[],([]++p)++[],⟨[]++p,[],trodAll_append (hargs (fun _=>true) (fun _ _=>rfl)) (hres 0 (fun _=>true) true),?_,rfl,?_,fun h=>by cases h⟩,?_⟩⟩
 · rw [HJ,ho];exact hres _ _ _
 · rw [HJ,ho];exact hargs _ (fun x hx=>by simpa using hlt x hx)
 · rw [HJ,ho];exact hvars _
 · exact hvars _
 ·
  intro b off hp
  rw [hb.frozen (hlt (.cell b off) (by simpa using hp))]
  exact hfz b off (by simpa using hp)
 ·
  intro x hx _
  simpa using hx
end
inductive LK where
 | bool
 | int (k:IntKind)
 | str
 | sl (t:TypeId)
def Jhb (rec:TypeId→Option (List LK)) (P:Program):Nat→List Field→Option (List LK)
 | _,[]=>some []
 | off,f::fs=>if f.offset=off then match rec f.type with
  | some ks=>if ks.length=P.cellsOf f.type then (Jhb rec P (off+ks.length) fs).map (ks++·) else none
  | none=>none
  else none
def Jfb (P:Program):Nat→TypeId→Option (List LK)
 | 0,_=>none
 | m+1,t=>match P.underlying t with
  | some .bool=>some [.bool]
  | some (.int k)=>some [.int k]
  | some .string=>some [.str]
  | some (.slice _)=>some [.sl t]
  | some (.struct fs)=>match Jhb (Jfb P m) P 0 fs.toList with
   | some ks=>if ks.length=P.cellsOf t then some ks else none
   | none=>none
  | some (.array k e)=>match Jfb P m e with
   | some ks=>if ks.length=P.cellsOf e∧P.cellsOf t=k*ks.length then some (List.replicate k ks).flatten else none
   | none=>none
  | _=>none
def RdK (P:Program) (G:J4):LK→Value→Nat→Prop
 | .bool,v,_=>∃ b,v=Bo b
 | .int k,v,_=>∃ m,v=.int k m∧(Lit.int k m).wf=true
 | .str,v,n=>∃ l:List UInt8,v=Sr l∧l.length≤140737488351232∧l.length+1≤n
 | .sl t,v,n=>∃ d,Rd P G d t [v] n
def RdL (P:Program) (G:J4):List LK→List Value→Nat→Prop
 | [],cs,_=>cs=[]
 | k::ks,cs,n=>∃ v cs' m r,cs=v::cs'∧m+r≤n∧RdK P G k v m∧RdL P G ks cs' r
section
variable {P:Program} {G:J4}
theorem JlM {rec:TypeId→List Value→Nat→Prop} {cs:List Value}:∀ (fs:List Field) {n m:Nat},n≤m→RdF rec P cs fs n→RdF rec P cs fs m
 | [],_,_,_,_=>trivial
 | f::fs,n,m,h,⟨x,y,h1,h2,h3⟩=>⟨x,y,Hi h1 h,h2,h3⟩
theorem JoL:∀ (d:Nat) (t:TypeId) (cs:List Value) {n m:Nat},n≤m→Rd P G d t cs n→Rd P G d t cs m
 | 0,_,_,_,_,_,h=>h
 | d+1,t,cs,n,m,hle,h=>by
  unfold Rd at h ⊢
  split at h
  · exact h
  · exact h
  ·
   obtain ⟨l,a,b,c⟩:=h
   exact ⟨l,a,b,Hi c hle⟩
  ·
   rcases h with h | ⟨a,len,cap,h1,h2,h3,h4,h5,ns,h6,h7,h8⟩
   · exact .inl h
   · exact .inr ⟨a,len,cap,h1,h2,h3,h4,h5,ns,h6,Hi h7 hle,h8⟩
  · exact ⟨h.1,JlM _ hle h.2⟩
  ·
   obtain ⟨h1,ns,h2,h3,h4⟩:=h
   exact ⟨h1,ns,h2,Hi h3 hle,h4⟩
  · trivial
theorem JcT:∀ {ks:List LK} {cs:List Value} {n m:Nat},n≤m→RdL P G ks cs n→RdL P G ks cs m
 | [],_,_,_,_,h=>h
 | _::_,_,_,_,h,⟨v,cs',a,b,h1,h2,h3,h4⟩=>⟨v,cs',a,b,h1,Hi h2 h,h3,h4⟩
theorem Jm8:∀ {k:LK} {v:Value} {n m:Nat},n≤m→RdK P G k v n→RdK P G k v m
 | .bool,_,_,_,_,h=>h
 | .int _,_,_,_,_,h=>h
 | .str,_,_,_,h,⟨l,a,b,c⟩=>⟨l,a,b,Hi c h⟩
 | .sl t,_,_,_,h,⟨d,hd⟩=>⟨d,JoL d _ _ h hd⟩
theorem Jct:∀ {k1 k2:List LK} {c1 c2:List Value} {m r:Nat},RdL P G k1 c1 m→RdL P G k2 c2 r→RdL P G (k1++k2) (c1++c2) (m+r)
 | [],_,_,_,m,r,h,h'=>by cases h;exact JcT (Nat.le_add_left _ _) h'
 | k::ks,k2,c1,c2,m,r,⟨v,cs',a,b,h1,h2,h3,h4⟩,h'=>by
  subst h1
  exact ⟨v,cs'++c2,a,b+r,rfl,by omega,h3,Jct h4 h'⟩
theorem Jia {d m:Nat} (ih:∀ (t:TypeId) (ks:List LK) (cs:List Value) (n:Nat),Jfb P m t=some ks→Rd P G d t cs n→RdL P G ks cs n) {cs:List Value} :
  ∀ (fs:List Field) (off:Nat) (ks:List LK) (n:Nat),Jhb (Jfb P m) P off fs=some ks→off+ks.length=cs.length→RdF (Rd P G d) P cs fs n→RdL P G ks (cs.drop off) n
 | [],off,ks,n,h,hl,_=>by
  cases h
  exact Ht (by simp at hl;omega)
 | f::fs,off,ks,n,h,hl,⟨a,b,h1,h2,h3⟩=>by
  unfold Jhb at h
  split at h
  ·
   rename_i ho
   split at h
   ·
    rename_i k1 hk
    split at h
    ·
     rename_i hk1
     obtain ⟨k2,h4,rfl⟩:=Hq.1 h
     have:=Jia ih fs _ k2 b h4 (by simp at hl;omega) h3
     have h5:=ih _ _ _ _ hk h2
     rw [ho] at h5
     have:=JcT h1 (Jct h5 this)
     rwa [hk1,← List.drop_drop,HS] at this
    · cases h
   · cases h
  · cases h
theorem Jhc:∀ (m d:Nat) (t:TypeId) (ks:List LK) (cs:List Value) (n:Nat),Jfb P m t=some ks→Rd P G d t cs n→RdL P G ks cs n
 | 0,_,_,_,_,_,h,_=>by cases h
 | _+1,0,_,_,_,_,_,h=>by cases h
 | m+1,d+1,t,ks,cs,n,h,hr=>by
  have ih:=fun t ks cs n=>Jhc m d t ks cs n
  have hr0:=hr
  unfold Jfb at h
  unfold Rd at hr
  split at h
  ·
   rename_i hu;rw [hu] at hr;cases h
   obtain ⟨b,rfl⟩:=hr
   exact ⟨_,_,0,0,rfl,by omega,⟨b,rfl⟩,rfl⟩
  ·
   rename_i hu;rw [hu] at hr;cases h
   obtain ⟨b,rfl,hw⟩:=hr
   exact ⟨_,_,0,0,rfl,by omega,⟨b,rfl,hw⟩,rfl⟩
  ·
   rename_i hu;rw [hu] at hr;cases h
   obtain ⟨b,rfl,h1,h2⟩:=hr
   exact ⟨_,_,n,0,rfl,by omega,⟨b,rfl,h1,h2⟩,rfl⟩
  ·
   rename_i hu;rw [hu] at hr;cases h
   obtain ⟨v,rfl⟩:∃ v,cs=[v]:=by
    rcases hr with rfl | ⟨a,len,cap,rfl,_⟩
    · exact ⟨_,rfl⟩
    · exact ⟨_,rfl⟩
   exact ⟨_,_,n,0,rfl,by omega,⟨d+1,hr0⟩,rfl⟩
  ·
   rename_i fs hu;rw [hu] at hr
   split at h
   ·
    rename_i ks' hk
    split at h
    ·
     rename_i hl
     cases h
     obtain ⟨hc,hf⟩:=hr
     have:=Jia ih _ 0 _ _ hk (by omega) hf
     simpa using this
    · cases h
   · cases h
  ·
   rename_i k e hu;rw [hu] at hr
   split at h
   ·
    rename_i ke hk
    split at h
    ·
     rename_i hl
     cases h
     obtain ⟨hc,ns,hn,hs,hx⟩:=hr
     have key:∀ (j:Nat),j≤k→RdL P G (List.replicate j ke).flatten (cs.drop ((k-j)*P.cellsOf e)) ((ns.drop (k-j)).sum):=by
      intro j
      induction j with
      | zero =>
       intro _
       refine Ht ?_
       rw [Nat.sub_zero,hc,hl.2,hl.1]
       exact HG _
      | succ j ihj =>
       intro hj
       have h1:=ihj (by omega)
       have hlt:k-(j+1)<ns.length:=by omega
       have h2:=ih _ _ _ _ hk (hx (k-(j+1)) ns[k-(j+1)] (Ho hlt))
       have h3:=Jct h2 h1
       rw [show k-j=(k-(j+1))+1 by omega,Nat.succ_mul,← List.drop_drop,HS] at h3
       rw [List.replicate_succ,List.flatten_cons,Hp hlt,List.sum_cons]
       exact h3
     have:=key k (HG _)
     rw [Nat.sub_self,Nat.zero_mul,List.drop_zero,List.drop_zero] at this
     exact JcT hs this
    · cases h
   · cases h
  · cases h
theorem JkP {α:Type} {p:Nat→α→Prop}:∀ (n:Nat),(∀ i,i<n→∃ x,p i x)→∃ l:List α,l.length=n∧∀ i x,l[i]? = some x→p i x
 | 0,_=>⟨[],rfl,fun i x h=>by simp at h⟩
 | n+1,h=>by
  obtain ⟨l,h1,h2⟩:=JkP n (fun i hi=>h i (by omega))
  obtain ⟨x,hx⟩:=h n (by omega)
  refine ⟨l++[x],by simp [h1],fun i y hy=>?_⟩
  rw [List.getElem?_append] at hy
  split at hy
  · exact h2 i y hy
  ·
   rename_i hi
   have:i=l.length:=by
    have:=(Hh.1 hy).1
    simp at this;omega
   subst this
   simp at hy
   subst hy
   rw [h1];exact hx
theorem JgC {α:Type} {size:α→Nat}:∀ (l:List α) (ns:List Nat),l.length=ns.length→(∀ i x,l[i]? = some x→size x≤ns.getD i 0)→(l.map size).sum≤ns.sum
 | [],_,_,_=>by simp
 | x::l,[],h,_=>by simp at h
 | x::l,n::ns,h,hx=>by
  have h1:=hx 0 x rfl
  have h2:=JgC l ns (by simpa using h) (fun i y hy=>by simpa using hx (i+1) y (by simpa using hy))
  simp at h1 ⊢
  omega
theorem Jai {α:Type} {E:YK α} {size:α→Nat} {t e:TypeId} {ks:List LK} {v:Value} {n:Nat} (h:RdK P G (.sl t) v n) (hu:P.underlying t=some (.slice e)) (hk:Jfb P 50 e=some ks)
  (hE:∀ cs m,RdL P G ks cs m→∃ x,E.R G cs x∧size x≤m) (hpos:0<P.cellsOf e) (hz:P.cellsOf e=E.sz) (hb:P.bytesOf e=E.bytes) :
  ∃ a cap l,v=Sl a l.length cap∧RS E G a cap l∧(l.map size).sum≤n∧cap*E.bytes≤140737488351232:=by
 obtain ⟨d,h⟩:=h
 cases d with
 | zero=>cases h
 | succ d =>
  unfold Rd at h
  rw [hu] at h
  rcases h with h | ⟨a,len,cap,h,h1,h2,h3,h4,ns,h5,h6,h7⟩
  ·
   cases h
   exact ⟨none,0,[],rfl,JP E G,by simp,by simp⟩
  ·
   cases h
   have hx:∀ i:Nat,i<len→∃ x:α,∃ es,E.R G es x∧size x≤ns.getD i 0∧∀ j v,es[j]? = some v→G a.block (a.off+i*E.sz+j)=some v:=by
    intro i hi
    obtain ⟨es,he1,he2,he3⟩:=h7 i ns[i] (Ho (by omega))
    obtain ⟨x,hx1,hx2⟩:=hE es _ (Jhc 50 d e ks es _ hk he3)
    refine ⟨x,es,hx1,?_,?_⟩
    · rw [List.getD_eq_getElem?_getD,Ho (by omega)];exact hx2
    · rw [← hz];exact he2
   obtain ⟨l,hl,hx⟩:=JkP len hx
   refine ⟨some a,cap,l,by rw [hl],⟨by omega,?_,h2,by simp,?_,?_⟩,?_,by rw [← hb];exact h3⟩
   ·
    rw [hb] at h3
    have:=Nat.mul_le_mul_right E.bytes (show l.length≤cap by omega)
    omega
   ·
    rintro _ ⟨⟩ hc0
    exact h4 hc0 hpos
   ·
    rintro _ ⟨⟩ i x hix
    obtain ⟨es,h8,_,h9⟩:=hx i x hix
    exact ⟨es,h8,h9⟩
   ·
    have:=JgC (size:=size) l ns (by omega) (fun i x hix=>by obtain ⟨_,_,h,_⟩:=hx i x hix;exact h)
    omega
def aggT (P:Program) (t:TypeId):Bool:=match P.underlying t with
 | some (.struct _)=>true
 | some (.array _ _)=>true
 | _=>false
def RdV (P:Program) (G:J4) (t:TypeId) (v:Value) (m:Nat):Prop :=
 (aggT P t=true→∃ cs:List Value,v=.agg cs.toArray∧∀ ks,Jfb P 50 t=some ks→RdL P G ks cs m)∧(aggT P t=false→∀ k,Jfb P 50 t=some [k]→RdK P G k v m)
theorem RdV.agg {t:TypeId} {v:Value} {m:Nat} (h:RdV P G t v m) (ks:List LK) (ha:aggT P t=true) (hk:Jfb P 50 t=some ks):∃ cs:List Value,v=.agg cs.toArray∧RdL P G ks cs m:=by
 obtain ⟨cs,h1,h2⟩:=h.1 ha
 exact ⟨cs,h1,h2 ks hk⟩
theorem RdV.one {t:TypeId} {v:Value} {m:Nat} (h:RdV P G t v m) (k:LK) (ha:aggT P t=false) (hk:Jfb P 50 t=some [k]):RdK P G k v m:=h.2 ha k hk
theorem rdV_of {H:Type} {enc:TypeId×Value→H} {W:World} {base:Nat} {t:TypeId} {v:Value} {d:DataW H} {ps:List MemPlace}
  (h:DataW.Trod enc P W 0 (fun _=>true) true t v d ps) (hok:Value.okWide P W .any base t v) (hw:∀ x∈DataW.weights P t d,x≤reachBytes):RdV P (Jbr W) t v (Rows.uptoBulk d):=by
 obtain ⟨fuel,h⟩:=h
 have hr:=Jfa _ _ _ _ _ h hw
 have hf:=fun ks hk=>Jhc 50 _ _ ks _ _ hk hr
 unfold Value.okWide at hok
 constructor
 ·
  intro ha
  unfold aggT at ha
  split at ha
  ·
   rename_i hu
   rw [hu] at hok
   obtain ⟨cs,rfl,_⟩:=hok
   exact ⟨cs.toList,by simp,hf⟩
  ·
   rename_i hu
   rw [hu] at hok
   obtain ⟨cs,rfl,_⟩:=hok
   exact ⟨cs.toList,by simp,hf⟩
  · cases ha
 ·
  intro ha k hk
  obtain ⟨u,cs',m,r,h1,h2,h3,h4⟩:=hf _ hk
  have h4:cs'=[]:=h4
  subst h4
  have hv:v=u∨∃ cs,v=.agg cs:=by
   cases v <;> simp_all [Value.cells]
  rcases hv with rfl | ⟨cs,rfl⟩
  ·
   have:m≤Rows.uptoBulk d:=by omega
   exact (JcT (ks:=[k]) (cs:=[v]) (n:=m) this ⟨v,[],m,0,rfl,by omega,h3,rfl⟩).elim fun a ⟨b,c,e,f1,f2,f3,f4⟩=>by
    cases f1
    exact Jm8 (by omega) f3
  ·
   exfalso
   unfold aggT at ha
   split at ha
   · cases ha
   · cases ha
   ·
    rename_i h1 h2
    unfold Cell.okWide at hok
    split at hok
    · rename_i hu;exact h1 _ hu
    · rename_i hu;exact h2 _ _ hu
    ·
     split at hok <;> first | (rename_i hu;cases hu;done) | skip
     all_goals (unfold Cell.ok at hok;split at hok <;> simp_all)
def RdA (P:Program) (G:J4):List TypeId→List Value→Nat→Prop
 | [],vs,_=>vs=[]
 | t::ts,vs,n=>∃ v vs' m r,vs=v::vs'∧m+r≤n∧RdV P G t v m∧RdA P G ts vs' r
theorem Jm9 {H:Type} {enc:TypeId×Value→H} {W:World} {base:Nat}:∀ (ts:List TypeId) (vs:List Value) (ds:List (DataW H)) (ps:List MemPlace),DataW.TrodAll enc P W 0 (fun _=>true) true ts vs ds ps →
  (∀ (j:Nat) t v,ts[j]? = some t→vs[j]? = some v→Value.okWide P W .any base t v)→(∀ x∈DataW.weightsEach P ts ds,x≤reachBytes)→RdA P (Jbr W) ts vs (Rows.uptoBulkAll ds)
 | [],vs,ds,ps,h,_,_=>(trodAll_nil h).1
 | t::ts,vs,ds,ps,h,hok,hw=>by
  obtain ⟨v,vs',d,ds',p,q,rfl,rfl,rfl,h1,h2⟩:=trodAll_cons h
  simp only [DataW.weightsEach,HI] at hw
  refine ⟨v,vs',Rows.uptoBulk d,Rows.uptoBulkAll ds',rfl,by simp [Rows.uptoBulkAll],rdV_of h1 (hok 0 t v rfl rfl) (fun x hx=>hw x (.inl hx)),Jm9 ts vs' ds' q h2 (fun j t v h3 h4=>hok (j+1) t v (by simpa using h3) (by simpa using h4)) (fun x hx=>hw x (.inr hx))⟩
theorem all_le {l:List Nat} {N:Nat} (h:l.all (fun x=>decide (x≤N))=true):∀ x∈l,x≤N:=fun x hx=>by simpa using List.all_eq_true.1 h x hx
theorem Jna {Q:TypeId→Value→Prop} {ts:Array TypeId} {vs:Array Value} (h:∀ (j:Nat) t v,ts[j]? = some t→vs[j]? = some v→Q t v) (j:Nat) (t:TypeId) (v:Value)
  (h1:ts.toList[j]? = some t) (h2:vs.toList[j]? = some v):Q t v:=h j t v (by simpa using h1) (by simpa using h2)
theorem own:ownKnob Tryz.prog.godebug=none:=by kernel_rfl
theorem JoM:laidOutB Tryz.prog=true:=by kernel_rfl
end
abbrev Yw (k:FuncId) (args:Array Value) (G:J4) (L:List (List Kh)) (p:Value→J4→List (List Kh)→Prop):Prop:=Vp Tryz.prog k args G L p
abbrev Q4 (k:FuncId) (args:Array Value) (G:J4) (v:Value):Prop:=Vp Tryz.prog k args G [] (fun u _ _=>u=v)
theorem JjF {α β:Type} {f:β→α→β} {z:β} {l:List α} {i:Nat} {x:α} (h:l[i]? = some x):(l.take (i+1)).foldl f z=f ((l.take i).foldl f z) x:=by
 rw [HB,h];simp
def numL (n:Int):List Int:=[Hc.wrap (n.fdiv (2 ^ 56)),Hc.wrap (n.fdiv (2 ^ 48)),Hc.wrap (n.fdiv (2 ^ 40)),Hc.wrap (n.fdiv (2 ^ 32)),Hc.wrap (n.fdiv (2 ^ 24)),Hc.wrap (n.fdiv (2 ^ 16)),Hc.wrap (n.fdiv (2 ^ 8)),Hc.wrap (n.fdiv (2 ^ 0))]
def K1 (n:Int):List UInt8:=(numL n).map fun x=>He x.toNat
@[simp] theorem Jib (n:Int):(K1 n).length=8:=by simp [K1,numL]
theorem WA {x:Int} (h0:0≤x) (h1:x<18446744073709551616):Ha.wrap x=x:=HK _ (by omega)
theorem Jhd (x:Int):Hc.wrap x=x % 256:=by
 simp [IntKind.wrap,HL,HQ]
theorem JbW (x:Int):Ha.wrap x=x % 18446744073709551616:=by
 simp [IntKind.wrap,HL,HQ]
def QT {α:Type} (p:α→Bool) (l:List α):Int:=match l.findIdx? p with | some i=>(i:Int) | none=>-1
theorem Vv {α:Type} {p:α→Bool} {l:List α} {i:Nat} {x:α} (h:l[i]? = some x) (hp:p x=true) (hi:(l.take i).any p=false):QT p l=(i:Int):=by
 have:l.findIdx? p=some i:=by
  rw [HF]
  obtain ⟨h1,h2⟩:=Hh.1 h
  refine ⟨h1,by rw [h2];exact hp,fun j hj=>?_⟩
  have h3:(l.take i)[j]? = some l[j]:=by rw [List.getElem?_take,if_pos hj,Ho (by omega)]
  have:=List.any_eq_false.1 hi _ (HH h3)
  simpa using this
 simp [QT,this]
theorem Jaj {α:Type} {p:α→Bool} {l:List α} {i:Nat} {x:α} (h:l[i]? = some x) (hp:p x=false) (hi:(l.take i).any p=false):(l.take (i+1)).any p=false:=by
 rw [HB,h];simp [hi,hp]
theorem Y7 {α:Type} {p:α→Bool} {l:List α} (hi:l.any p=false):QT p l=-1:=by
 have:l.findIdx? p=none:=by
  rw [List.findIdx?_eq_none_iff]
  intro x hx
  simpa using List.any_eq_false.1 hi x hx
 simp [QT,this]
theorem Jak {α:Type} (p:α→Bool) (l:List α):decide (QT p l ≥ 0)=l.any p:=by
 cases h:l.any p with
 | false=>rw [Y7 h];rfl
 | true =>
  have:(l.findIdx? p).isSome:=by rw [List.findIdx?_isSome];exact h
  obtain ⟨i,hi⟩:=Option.isSome_iff_exists.1 this
  simp [QT,hi]
theorem JkQ {x:Int} (h:0≤x∧x<18446744073709551616):Ha.wrap ((Hb 64 x &&& Hb 64 4294967295).toNat:Int)=x % 4294967296:=by
 obtain ⟨m,rfl⟩:=Hz h.1
 have e:(4294967295:Int)=((4294967295:Nat):Int):=rfl
 rw [e,BitVec.toNat_and,Hs,Hs,Hu,Hu,Hx (by omega),Hx (by omega)]
 have e2:m &&& 4294967295=m % 4294967296:=Nat.and_two_pow_sub_one_eq_mod m 32
 rw [e2,WA (by omega) (by omega)]
 omega
theorem Jnb (x:Int):x.fdiv (2 ^ 32)=x / 4294967296:=Hv _ (by decide)
theorem Jhe {a b:Int} (ha:0≤a∧a<4294967296) (hb:0≤b∧b<4294967296):0≤a*b∧a*b≤18446744065119617025:=by
 refine ⟨HT ha.1 hb.1,?_⟩
 have h1:a*b≤4294967295*b:=HA (by omega) hb.1
 omega
theorem Jnc {x y:Int} (hx:0≤x∧x<18446744073709551616) (hy:0≤y∧y<18446744073709551616) :
  Ha.wrap (Ha.wrap (Ha.wrap (x.fdiv (2 ^ 32)*y.fdiv (2 ^ 32)) +
   (Ha.wrap (Ha.wrap (x.fdiv (2 ^ 32)*Ha.wrap ((Hb 64 y &&& Hb 64 4294967295).toNat:Int)) +
    (Ha.wrap (Ha.wrap ((Hb 64 x &&& Hb 64 4294967295).toNat:Int)*Ha.wrap ((Hb 64 y &&& Hb 64 4294967295).toNat:Int))).fdiv (2 ^ 32))).fdiv (2 ^ 32)) +
   (Ha.wrap (Ha.wrap ((Hb 64 (Ha.wrap (Ha.wrap (x.fdiv (2 ^ 32)*Ha.wrap ((Hb 64 y &&& Hb 64 4294967295).toNat:Int)) +
    (Ha.wrap (Ha.wrap ((Hb 64 x &&& Hb 64 4294967295).toNat:Int)*Ha.wrap ((Hb 64 y &&& Hb 64 4294967295).toNat:Int))).fdiv (2 ^ 32))) &&& Hb 64 4294967295).toNat:Int) +
    Ha.wrap (Ha.wrap ((Hb 64 x &&& Hb 64 4294967295).toNat:Int)*y.fdiv (2 ^ 32)))).fdiv (2 ^ 32))=x*y / 18446744073709551616:=by
 rw [JkQ hx,JkQ hy]
 simp only [Jnb]
 have hx1:0≤x / 4294967296∧x / 4294967296<4294967296:=by omega
 have hx0:0≤x % 4294967296∧x % 4294967296<4294967296:=by omega
 have hy1:0≤y / 4294967296∧y / 4294967296<4294967296:=by omega
 have hy0:0≤y % 4294967296∧y % 4294967296<4294967296:=by omega
 have ex:x=x / 4294967296*4294967296+x % 4294967296:=by omega
 have ey:y=y / 4294967296*4294967296+y % 4294967296:=by omega
 have exy:x*y=(x / 4294967296*(y / 4294967296))*18446744073709551616+(x / 4294967296*(y % 4294967296)+x % 4294967296*(y / 4294967296))*4294967296+x % 4294967296*(y % 4294967296):=by
  generalize x / 4294967296=x1 at *
  generalize x % 4294967296=x0 at *
  generalize y / 4294967296=y1 at *
  generalize y % 4294967296=y0 at *
  subst ex ey
  simp only [Int.mul_add,Int.add_mul]
  have r:∀ a b:Int,a*4294967296*(b*4294967296)=a*b*18446744073709551616:=fun a b=>by
   rw [HD a,Int.mul_comm 4294967296,HD b,← HD a];rfl
  have r1:∀ a b:Int,a*4294967296*b=a*b*4294967296:=fun a b=>by rw [HD,Int.mul_comm 4294967296,← HD]
  have r2:∀ a b:Int,a*(b*4294967296)=a*b*4294967296:=fun a b=>by rw [HD]
  rw [r,r1,r2]
  omega
 rw [exy]
 have b11:=Jhe hx1 hy1
 have b10:=Jhe hx1 hy0
 have b01:=Jhe hx0 hy1
 have b00:=Jhe hx0 hy0
 generalize x / 4294967296*(y / 4294967296)=p11 at *
 generalize x / 4294967296*(y % 4294967296)=p10 at *
 generalize x % 4294967296*(y / 4294967296)=p01 at *
 generalize x % 4294967296*(y % 4294967296)=p00 at *
 clear exy ex ey
 rw [WA (x:=p00) (by omega) (by omega),WA (x:=p10) (by omega) (by omega),WA (x:=p01) (by omega) (by omega),WA (x:=p11) (by omega) (by omega)]
 rw [WA (x:=p10+p00 / 4294967296) (by omega) (by omega),JkQ ⟨by omega,by omega⟩]
 rw [WA (x:=(p10+p00 / 4294967296) % 4294967296+p01) (by omega) (by omega)]
 rw [WA (x:=p11+(p10+p00 / 4294967296) / 4294967296) (by omega) (by omega)]
 rw [WA (by omega) (by omega)]
 omega
def WB (hi lo:Int):Int:=Ha.wrap ((Hb 64 (Ha.wrap (hi*2 ^ 3)) ||| Hb 64 (lo.fdiv (2 ^ 61))).toNat:Int)
theorem JkR {hi lo:Int} (h:0≤hi∧hi<2305843009213693951) (hl:0≤lo∧lo<18446744073709551616):WB hi lo=hi*8+lo / 2305843009213693952:=by
 obtain ⟨a,rfl⟩:=Hz h.1
 obtain ⟨b,rfl⟩:=Hz hl.1
 unfold WB
 have e1:Ha.wrap ((a:Int)*2 ^ 3)=((a*8:Nat):Int):=by rw [WA (by omega) (by omega)];omega
 have e2:(b:Int).fdiv (2 ^ 61)=((b / 2305843009213693952:Nat):Int):=by
  rw [Hv _ (by decide)];omega
 rw [e1,e2,BitVec.toNat_or,Hs,Hs,Hu,Hu,Hx (by omega),Hx (by omega)]
 have e3:a*8 ||| b / 2305843009213693952=a*8+b / 2305843009213693952:=by
  have:=Nat.shiftLeft_add_eq_or_of_lt (i:=3) (b:=b / 2305843009213693952) (by omega) a
  rw [Nat.shiftLeft_eq] at this
  exact this.symm
 rw [e3,WA (by omega) (by omega)]
 omega
structure Jbb (u z q r:Int):Prop where
 u0:0≤u
 u1:u<18446744073709551608
 z0:0≤z
 z1:z<4294967296
 r0:0≤r
 r1:r<4294967296
 q0:0≤q
 e:u=q*4294967295+r
 up:u*4294967296+z<(q+1)*18446744073709551608
theorem JdD {u z:Int} (h:0≤u∧u<18446744073709551608) (hz:0≤z∧z<4294967296) :
  Jbb u z (Ha.wrap (u.tdiv 4294967295)) (Ha.wrap (u-Ha.wrap (Ha.wrap (u.tdiv 4294967295)*4294967295))):=by
 have e:u.tdiv 4294967295=u / 4294967295:=HC h.1
 rw [e,WA (x:=u / 4294967295) (by omega) (by omega),WA (x:=u / 4294967295*4294967295) (by omega) (by omega),WA (by omega) (by omega)]
 exact ⟨h.1,h.2,hz.1,hz.2,by omega,by omega,by omega,by omega,by omega⟩
theorem Yy {u z q r:Int} (h:Jbb u z q r) (hc:q ≥ 4294967296∨Ha.wrap (q*4294967288) > Ha.wrap (Ha.wrap (4294967296*r)+z)) :
  0<q∧Ha.wrap (q-1)=q-1∧Ha.wrap (r+4294967295)=r+4294967295∧u*4294967296+z<q*18446744073709551608:=by
 obtain ⟨h1,h2,h3,h4,h5,h6,h7,h8,h9⟩:=h
 have key:u*4294967296+z<q*18446744073709551608:=by
  rcases Int.lt_or_le q 4294967296 with hq | hq
  ·
   rcases hc with hc | hc
   · omega
   ·
    rw [WA (x:=q*4294967288) (by omega) (by omega),WA (x:=4294967296*r) (by omega) (by omega),WA (by omega) (by omega)] at hc
    omega
  · omega
 have hq:0<q:=by omega
 exact ⟨hq,WA (by omega) (by omega),WA (by omega) (by omega),key⟩
theorem Jfc {u z q r:Int} (h:Jbb u z q r) (hc:q ≥ 4294967296∨Ha.wrap (q*4294967288) > Ha.wrap (Ha.wrap (4294967296*r)+z)) (hr:r+4294967295<4294967296) :
  Jbb u z (q-1) (r+4294967295):=by
 have:=Yy h hc
 obtain ⟨h1,h2,h3,h4,h5,h6,h7,h8,h9⟩:=h
 exact ⟨h1,h2,h3,h4,by omega,hr,by omega,by omega,by omega⟩
structure Dig (u z q:Int):Prop where
 q0:0≤q
 q1:q<4294967296
 lo:q*18446744073709551608≤u*4294967296+z
 up:u*4294967296+z<(q+1)*18446744073709551608
theorem Jfd {u z q r:Int} (h:Jbb u z q r) (hc:q<4294967296∧Ha.wrap (q*4294967288)≤Ha.wrap (Ha.wrap (4294967296*r)+z)):Dig u z q:=by
 obtain ⟨h1,h2,h3,h4,h5,h6,h7,h8,h9⟩:=h
 have hc2:=hc.2
 rw [WA (x:=q*4294967288) (by omega) (by omega),WA (x:=4294967296*r) (by omega) (by omega),WA (by omega) (by omega)] at hc2
 exact ⟨h7,hc.1,by omega,h9⟩
theorem JdE {u z q r:Int} (h:Jbb u z q r) (hc:q ≥ 4294967296∨Ha.wrap (q*4294967288) > Ha.wrap (Ha.wrap (4294967296*r)+z)) (hr:r+4294967295 ≥ 4294967296):Dig u z (q-1):=by
 have:=Yy h hc
 obtain ⟨h1,h2,h3,h4,h5,h6,h7,h8,h9⟩:=h
 exact ⟨by omega,by omega,by omega,by omega⟩
def JcU (lo:Int):Int:=Ha.wrap (lo*2 ^ 3)
def WK (lo:Int):Int:=(JcU lo).fdiv (2 ^ 32)
def ZM (lo:Int):Int:=Ha.wrap ((Hb 64 (JcU lo) &&& Hb 64 4294967295).toNat:Int)
def Wv (u z q:Int):Int:=Ha.wrap (Ha.wrap (Ha.wrap (u*4294967296)+z)-Ha.wrap (q*18446744073709551608))
theorem JkS (lo:Int):JcU lo=lo*8 % 18446744073709551616:=by unfold JcU;rw [JbW];omega
theorem JkT (lo:Int):0≤JcU lo∧JcU lo<18446744073709551616:=by rw [JkS];omega
theorem JkU (lo:Int):WK lo=JcU lo / 4294967296:=Jnb _
theorem JkV (lo:Int):ZM lo=JcU lo % 4294967296:=JkQ (JkT lo)
theorem JeG {u z q:Int} (h:Dig u z q) (hu:0≤u) (hz:0≤z):Wv u z q=u*4294967296+z-q*18446744073709551608∧0≤Wv u z q∧Wv u z q<18446744073709551608:=by
 obtain ⟨h1,h2,h3,h4⟩:=h
 have:Wv u z q=u*4294967296+z-q*18446744073709551608:=by
  unfold Wv;simp only [JbW];omega
 rw [this];omega
theorem JeH {hi lo:Int} (h:0≤hi∧hi<2305843009213693951) (hl:0≤lo∧lo<18446744073709551616):0≤WB hi lo∧WB hi lo<18446744073709551608:=by
 rw [JkR h hl];omega
theorem JeI (lo:Int):0≤WK lo∧WK lo<4294967296:=by rw [JkU];have:=JkT lo;omega
theorem Jhf (lo:Int):0≤ZM lo∧ZM lo<4294967296:=by rw [JkV];omega
theorem JeJ {hi lo q q0:Int} (h:0≤hi∧hi<2305843009213693951) (hl:0≤lo∧lo<18446744073709551616) (h1:Dig (WB hi lo) (WK lo) q) (h2:Dig (Wv (WB hi lo) (WK lo) q) (ZM lo) q0) :
  Ha.wrap (Ha.wrap (q*4294967296)+q0)=(hi*18446744073709551616+lo) / 2305843009213693951 ∧
  (Wv (Wv (WB hi lo) (WK lo) q) (ZM lo) q0).fdiv (2 ^ 3)=(hi*18446744073709551616+lo) % 2305843009213693951:=by
 have e1:=JeG h1 (JeH h hl).1 (JeI lo).1
 have e2:=JeG h2 e1.2.1 (Jhf lo).1
 have e3:=JkR h hl
 have e4:=JkS lo
 have e5:=JkU lo
 have e6:=JkV lo
 rw [Hv _ (by decide),e2.1,e1.1,e3,e5,e6,e4]
 rw [e1.1,e3,e5,e6,e4] at e2
 rw [e5,e3,e4] at e1
 have a1:=h1.q0;have a2:=h1.q1;have b1:=h2.q0;have b2:=h2.q1
 simp only [JbW]
 clear h1 h2 e3 e4 e5 e6
 omega
theorem JlN {a b:Int} (ha:0≤a∧a<18446744073709551616) (hb:0≤b∧b<18446744073709551616):0≤a*b / 18446744073709551616∧a*b / 18446744073709551616<18446744073709551616:=by
 have h0:=HT ha.1 hb.1
 have h1:a*b≤18446744073709551615*b:=HA (by omega) hb.1
 omega
def WG (a b:Int):Int:=a*b % 2305843009213693951
theorem JbX (a b:Int):0≤WG a b∧WG a b<2305843009213693951:=by unfold WG;omega
def Jeb (m:Int) (b:UInt8):Int:=(WG m 1099511628211+(b.toNat:Int)+1) % 2305843009213693951
def Ji (s:List UInt8):Int:=s.foldl Jeb 1
theorem Jnd (m:Int) (b:UInt8):0≤Jeb m b∧Jeb m b<2305843009213693951:=by unfold Jeb;omega
theorem Jne (s:List UInt8):∀ m:Int,0≤m∧m<2305843009213693951→0≤s.foldl Jeb m∧s.foldl Jeb m<2305843009213693951:=by
 induction s with
 | nil=>intro m h;exact h
 | cons b s ih=>intro m h;exact ih _ (Jnd m b)
theorem QQ (s:List UInt8):0≤Ji s∧Ji s<2305843009213693951:=Jne s 1 (by omega)
theorem Yq {n:Int} (h:(Lit.int .i64 n).wf=true):-9223372036854775808≤n∧n<9223372036854775808:=by
 simp [Lit.wf,IntKind.min,IntKind.max,HL,HQ] at h;omega
theorem Jfe {n:Int} (h:(Lit.int .u64 n).wf=true):0≤n∧n<18446744073709551616:=by
 simp [Lit.wf,IntKind.min,IntKind.max,HL,HQ] at h;omega
abbrev Jcc (k:FuncId) (args:Array Value) (G:J4) (L:List (List Kh)) (p:Value→J4→List (List Kh)→Prop):Prop:=Jg7 Tryz.prog k args G L p
structure J2 where
 name:List UInt8
 value:List UInt8
deriving DecidableEq
structure W8 where
 name:List UInt8
 value:List UInt8
 n:Int
 tag:Int
deriving DecidableEq
structure JU where
 epoch:Int
 root:Int
 prev:Int
 at_:Int
deriving DecidableEq
structure Wb where
 least:Int
 most:Int
 lost:Int
 gap:Int
 next:Int
 asked:Int
deriving DecidableEq
structure VR where
 kind:Int
 who:Int
 n:Int
 at_:Int
deriving DecidableEq
structure Q6 where
 name:List UInt8
 entries:List J2
 sides:List Int
deriving DecidableEq
structure Wa where
 head:JU
 proof:Q6
deriving DecidableEq
structure QR where
 most:Int
 wait:List W8
deriving DecidableEq
structure Kz where
 queue:QR
 batch:Int
 every:Int
 now:Int
 heads:List JU
 books:List (List J2)
deriving DecidableEq
structure K9 where
 name:List UInt8
 key:Int
 head:JU
 wanted:List (List UInt8)
 had:Int
deriving DecidableEq
structure JQ where
 to_:Int
 from_:Int
 since:Int
 due:Int
 heads:List JU
 reply:Wa
deriving DecidableEq
structure Yx where
 now:Int
 way:List JQ
deriving DecidableEq
structure Kv where
 names:List (List UInt8)
 keys:List Int
 most:Int
 batch:Int
 every:Int
 least:Int
 top:Int
 lost:Int
 reach:Int
deriving DecidableEq
structure K6 where
 kind:Int
 who:Int
 value:List UInt8
 fates:List Int
 letter:JQ
deriving DecidableEq
structure Q8 where
 clerk:Kz
 owners:List K9
 polls:List Wb
 net:Yx
deriving DecidableEq
def EI:YK Int:=⟨1,8,fun G cs x=>cs=[I x]∧(-9223372036854775808≤x∧x<9223372036854775808),fun hle h=>by obtain ⟨rfl,h0⟩:=h;exact ⟨rfl,h0⟩,fun h=>by obtain ⟨rfl,h0⟩:=h;rfl,fun h=>by obtain ⟨rfl,h0⟩:=h;exact Z4 rfl⟩
def EU:YK Int:=⟨1,8,fun G cs x=>cs=[U x]∧(0≤x∧x<18446744073709551616),fun hle h=>by obtain ⟨rfl,h0⟩:=h;exact ⟨rfl,h0⟩,fun h=>by obtain ⟨rfl,h0⟩:=h;rfl,fun h=>by obtain ⟨rfl,h0⟩:=h;exact Z4 rfl⟩
def ES:YK ((List UInt8)):=⟨1,16,fun G cs x=>cs=[Sr x]∧((x).length≤140737488351232),fun hle h=>by obtain ⟨rfl,h0⟩:=h;exact ⟨rfl,h0⟩,fun h=>by obtain ⟨rfl,h0⟩:=h;rfl,fun h=>by obtain ⟨rfl,h0⟩:=h;exact Z4 rfl⟩
def QD:YK J2:=⟨2,32,fun G cs x=>cs=[Sr x.name,Sr x.value]∧((x.name).length≤140737488351232)∧((x.value).length≤140737488351232),fun hle h=>by obtain ⟨rfl,h0,h1⟩:=h;exact ⟨rfl,h0,h1⟩,fun h=>by obtain ⟨rfl,h0,h1⟩:=h;rfl,fun h=>by obtain ⟨rfl,h0,h1⟩:=h;exact Z4 rfl⟩
def QW:YK W8:=⟨4,48,fun G cs x=>cs=[Sr x.name,Sr x.value,U x.n,U x.tag]∧((x.name).length≤140737488351232)∧((x.value).length≤140737488351232)∧(0≤x.n∧x.n<18446744073709551616)∧(0≤x.tag∧x.tag<18446744073709551616),fun hle h=>by obtain ⟨rfl,h0,h1,h2,h3⟩:=h;exact ⟨rfl,h0,h1,h2,h3⟩,fun h=>by obtain ⟨rfl,h0,h1,h2,h3⟩:=h;rfl,fun h=>by obtain ⟨rfl,h0,h1,h2,h3⟩:=h;exact Z4 rfl⟩
def KA:YK JU:=⟨4,32,fun G cs x=>cs=[I x.epoch,U x.root,U x.prev,I x.at_]∧(-9223372036854775808≤x.epoch∧x.epoch<9223372036854775808)∧(0≤x.root∧x.root<18446744073709551616)∧(0≤x.prev∧x.prev<18446744073709551616)∧(-9223372036854775808≤x.at_∧x.at_<9223372036854775808),fun hle h=>by obtain ⟨rfl,h0,h1,h2,h3⟩:=h;exact ⟨rfl,h0,h1,h2,h3⟩,fun h=>by obtain ⟨rfl,h0,h1,h2,h3⟩:=h;rfl,fun h=>by obtain ⟨rfl,h0,h1,h2,h3⟩:=h;exact Z4 rfl⟩
def Wg:YK Wb:=⟨6,48,fun G cs x=>cs=[I x.least,I x.most,I x.lost,I x.gap,I x.next,I x.asked]∧(-9223372036854775808≤x.least∧x.least<9223372036854775808)∧(-9223372036854775808≤x.most∧x.most<9223372036854775808)∧(-9223372036854775808≤x.lost∧x.lost<9223372036854775808)∧(-9223372036854775808≤x.gap∧x.gap<9223372036854775808)∧(-9223372036854775808≤x.next∧x.next<9223372036854775808)∧(-9223372036854775808≤x.asked∧x.asked<9223372036854775808),fun hle h=>by obtain ⟨rfl,h0,h1,h2,h3,h4,h5⟩:=h;exact ⟨rfl,h0,h1,h2,h3,h4,h5⟩,fun h=>by obtain ⟨rfl,h0,h1,h2,h3,h4,h5⟩:=h;rfl,fun h=>by obtain ⟨rfl,h0,h1,h2,h3,h4,h5⟩:=h;exact Z4 rfl⟩
def QU:YK VR:=⟨4,32,fun G cs x=>cs=[I x.kind,I x.who,I x.n,I x.at_]∧(-9223372036854775808≤x.kind∧x.kind<9223372036854775808)∧(-9223372036854775808≤x.who∧x.who<9223372036854775808)∧(-9223372036854775808≤x.n∧x.n<9223372036854775808)∧(-9223372036854775808≤x.at_∧x.at_<9223372036854775808),fun hle h=>by obtain ⟨rfl,h0,h1,h2,h3⟩:=h;exact ⟨rfl,h0,h1,h2,h3⟩,fun h=>by obtain ⟨rfl,h0,h1,h2,h3⟩:=h;rfl,fun h=>by obtain ⟨rfl,h0,h1,h2,h3⟩:=h;exact Z4 rfl⟩
def Jff:YK Q6:=⟨3,64,fun G cs x=>∃ a0 c0 a1 c1,cs=[Sr x.name,Sl a0 x.entries.length c0,Sl a1 x.sides.length c1]∧((x.name).length≤140737488351232)∧(RS QD G a0 c0 x.entries)∧(RS EU G a1 c1 x.sides),fun hle h=>by obtain ⟨a0,c0,a1,c1,rfl,h0,h1,h2⟩:=h;exact ⟨a0,c0,a1,c1,rfl,h0,h1.mono hle,h2.mono hle⟩,fun h=>by obtain ⟨a0,c0,a1,c1,rfl,h0,h1,h2⟩:=h;rfl,fun h=>by obtain ⟨a0,c0,a1,c1,rfl,h0,h1,h2⟩:=h;exact Z4 rfl⟩
def JjG:YK Wa:=⟨7,96,fun G cs x=>∃ a0 c0 a1 c1,cs=[I x.head.epoch,U x.head.root,U x.head.prev,I x.head.at_,Sr x.proof.name,Sl a0 x.proof.entries.length c0,Sl a1 x.proof.sides.length c1]∧(-9223372036854775808≤x.head.epoch∧x.head.epoch<9223372036854775808)∧(0≤x.head.root∧x.head.root<18446744073709551616)∧(0≤x.head.prev∧x.head.prev<18446744073709551616)∧(-9223372036854775808≤x.head.at_∧x.head.at_<9223372036854775808)∧((x.proof.name).length≤140737488351232)∧(RS QD G a0 c0 x.proof.entries)∧(RS EU G a1 c1 x.proof.sides),fun hle h=>by obtain ⟨a0,c0,a1,c1,rfl,h0,h1,h2,h3,h4,h5,h6⟩:=h;exact ⟨a0,c0,a1,c1,rfl,h0,h1,h2,h3,h4,h5.mono hle,h6.mono hle⟩,fun h=>by obtain ⟨a0,c0,a1,c1,rfl,h0,h1,h2,h3,h4,h5,h6⟩:=h;rfl,fun h=>by obtain ⟨a0,c0,a1,c1,rfl,h0,h1,h2,h3,h4,h5,h6⟩:=h;exact Z4 rfl⟩
def JjH:YK QR:=⟨2,32,fun G cs x=>∃ a0 c0,cs=[I x.most,Sl a0 x.wait.length c0]∧(-9223372036854775808≤x.most∧x.most<9223372036854775808)∧(RS QW G a0 c0 x.wait),fun hle h=>by obtain ⟨a0,c0,rfl,h0,h1⟩:=h;exact ⟨a0,c0,rfl,h0,h1.mono hle⟩,fun h=>by obtain ⟨a0,c0,rfl,h0,h1⟩:=h;rfl,fun h=>by obtain ⟨a0,c0,rfl,h0,h1⟩:=h;exact Z4 rfl⟩
def Qk:YK (List J2):=⟨1,24,fun G cs x=>∃ a0 c0,cs=[Sl a0 x.length c0]∧(RS QD G a0 c0 x),fun hle h=>by obtain ⟨a0,c0,rfl,h0⟩:=h;exact ⟨a0,c0,rfl,h0.mono hle⟩,fun h=>by obtain ⟨a0,c0,rfl,h0⟩:=h;rfl,fun h=>by obtain ⟨a0,c0,rfl,h0⟩:=h;exact Z4 rfl⟩
def Jal:YK Kz:=⟨7,104,fun G cs x=>∃ a0 c0 a1 c1 a2 c2,cs=[I x.queue.most,Sl a0 x.queue.wait.length c0,I x.batch,I x.every,I x.now,Sl a1 x.heads.length c1,Sl a2 x.books.length c2]∧(-9223372036854775808≤x.queue.most∧x.queue.most<9223372036854775808)∧(RS QW G a0 c0 x.queue.wait)∧(-9223372036854775808≤x.batch∧x.batch<9223372036854775808)∧(-9223372036854775808≤x.every∧x.every<9223372036854775808)∧(-9223372036854775808≤x.now∧x.now<9223372036854775808)∧(RS KA G a1 c1 x.heads)∧(RS Qk G a2 c2 x.books),fun hle h=>by obtain ⟨a0,c0,a1,c1,a2,c2,rfl,h0,h1,h2,h3,h4,h5,h6⟩:=h;exact ⟨a0,c0,a1,c1,a2,c2,rfl,h0,h1.mono hle,h2,h3,h4,h5.mono hle,h6.mono hle⟩,fun h=>by obtain ⟨a0,c0,a1,c1,a2,c2,rfl,h0,h1,h2,h3,h4,h5,h6⟩:=h;rfl,fun h=>by obtain ⟨a0,c0,a1,c1,a2,c2,rfl,h0,h1,h2,h3,h4,h5,h6⟩:=h;exact Z4 rfl⟩
def QB:YK K9:=⟨8,88,fun G cs x=>∃ a0 c0,cs=[Sr x.name,U x.key,I x.head.epoch,U x.head.root,U x.head.prev,I x.head.at_,Sl a0 x.wanted.length c0,I x.had]∧((x.name).length≤140737488351232)∧(0≤x.key∧x.key<18446744073709551616)∧(-9223372036854775808≤x.head.epoch∧x.head.epoch<9223372036854775808)∧(0≤x.head.root∧x.head.root<18446744073709551616)∧(0≤x.head.prev∧x.head.prev<18446744073709551616)∧(-9223372036854775808≤x.head.at_∧x.head.at_<9223372036854775808)∧(RS ES G a0 c0 x.wanted)∧(-9223372036854775808≤x.had∧x.had<9223372036854775808),fun hle h=>by obtain ⟨a0,c0,rfl,h0,h1,h2,h3,h4,h5,h6,h7⟩:=h;exact ⟨a0,c0,rfl,h0,h1,h2,h3,h4,h5,h6.mono hle,h7⟩,fun h=>by obtain ⟨a0,c0,rfl,h0,h1,h2,h3,h4,h5,h6,h7⟩:=h;rfl,fun h=>by obtain ⟨a0,c0,rfl,h0,h1,h2,h3,h4,h5,h6,h7⟩:=h;exact Z4 rfl⟩
def Ke:YK JQ:=⟨12,152,fun G cs x=>∃ a0 c0 a1 c1 a2 c2,cs=[I x.to_,I x.from_,I x.since,I x.due,Sl a0 x.heads.length c0,I x.reply.head.epoch,U x.reply.head.root,U x.reply.head.prev,I x.reply.head.at_,Sr x.reply.proof.name,Sl a1 x.reply.proof.entries.length c1,Sl a2 x.reply.proof.sides.length c2]∧(-9223372036854775808≤x.to_∧x.to_<9223372036854775808)∧(-9223372036854775808≤x.from_∧x.from_<9223372036854775808)∧(-9223372036854775808≤x.since∧x.since<9223372036854775808)∧(-9223372036854775808≤x.due∧x.due<9223372036854775808)∧(RS KA G a0 c0 x.heads)∧(-9223372036854775808≤x.reply.head.epoch∧x.reply.head.epoch<9223372036854775808)∧(0≤x.reply.head.root∧x.reply.head.root<18446744073709551616)∧(0≤x.reply.head.prev∧x.reply.head.prev<18446744073709551616)∧(-9223372036854775808≤x.reply.head.at_∧x.reply.head.at_<9223372036854775808)∧((x.reply.proof.name).length≤140737488351232)∧(RS QD G a1 c1 x.reply.proof.entries)∧(RS EU G a2 c2 x.reply.proof.sides),fun hle h=>by obtain ⟨a0,c0,a1,c1,a2,c2,rfl,h0,h1,h2,h3,h4,h5,h6,h7,h8,h9,h10,h11⟩:=h;exact ⟨a0,c0,a1,c1,a2,c2,rfl,h0,h1,h2,h3,h4.mono hle,h5,h6,h7,h8,h9,h10.mono hle,h11.mono hle⟩,fun h=>by obtain ⟨a0,c0,a1,c1,a2,c2,rfl,h0,h1,h2,h3,h4,h5,h6,h7,h8,h9,h10,h11⟩:=h;rfl,fun h=>by obtain ⟨a0,c0,a1,c1,a2,c2,rfl,h0,h1,h2,h3,h4,h5,h6,h7,h8,h9,h10,h11⟩:=h;exact Z4 rfl⟩
def ENet:YK Yx:=⟨2,32,fun G cs x=>∃ a0 c0,cs=[I x.now,Sl a0 x.way.length c0]∧(-9223372036854775808≤x.now∧x.now<9223372036854775808)∧(RS Ke G a0 c0 x.way),fun hle h=>by obtain ⟨a0,c0,rfl,h0,h1⟩:=h;exact ⟨a0,c0,rfl,h0,h1.mono hle⟩,fun h=>by obtain ⟨a0,c0,rfl,h0,h1⟩:=h;rfl,fun h=>by obtain ⟨a0,c0,rfl,h0,h1⟩:=h;exact Z4 rfl⟩
def JdF:YK Kv:=⟨9,104,fun G cs x=>∃ a0 c0 a1 c1,cs=[Sl a0 x.names.length c0,Sl a1 x.keys.length c1,I x.most,I x.batch,I x.every,I x.least,I x.top,I x.lost,I x.reach]∧(RS ES G a0 c0 x.names)∧(RS EU G a1 c1 x.keys)∧(-9223372036854775808≤x.most∧x.most<9223372036854775808)∧(-9223372036854775808≤x.batch∧x.batch<9223372036854775808)∧(-9223372036854775808≤x.every∧x.every<9223372036854775808)∧(-9223372036854775808≤x.least∧x.least<9223372036854775808)∧(-9223372036854775808≤x.top∧x.top<9223372036854775808)∧(-9223372036854775808≤x.lost∧x.lost<9223372036854775808)∧(-9223372036854775808≤x.reach∧x.reach<9223372036854775808),fun hle h=>by obtain ⟨a0,c0,a1,c1,rfl,h0,h1,h2,h3,h4,h5,h6,h7,h8⟩:=h;exact ⟨a0,c0,a1,c1,rfl,h0.mono hle,h1.mono hle,h2,h3,h4,h5,h6,h7,h8⟩,fun h=>by obtain ⟨a0,c0,a1,c1,rfl,h0,h1,h2,h3,h4,h5,h6,h7,h8⟩:=h;rfl,fun h=>by obtain ⟨a0,c0,a1,c1,rfl,h0,h1,h2,h3,h4,h5,h6,h7,h8⟩:=h;exact Z4 rfl⟩
def WO:YK K6:=⟨16,208,fun G cs x=>∃ a0 c0 a1 c1 a2 c2 a3 c3,cs=[I x.kind,I x.who,Sr x.value,Sl a0 x.fates.length c0,I x.letter.to_,I x.letter.from_,I x.letter.since,I x.letter.due,Sl a1 x.letter.heads.length c1,I x.letter.reply.head.epoch,U x.letter.reply.head.root,U x.letter.reply.head.prev,I x.letter.reply.head.at_,Sr x.letter.reply.proof.name,Sl a2 x.letter.reply.proof.entries.length c2,Sl a3 x.letter.reply.proof.sides.length c3]∧(-9223372036854775808≤x.kind∧x.kind<9223372036854775808)∧(-9223372036854775808≤x.who∧x.who<9223372036854775808)∧((x.value).length≤140737488351232)∧(RS EI G a0 c0 x.fates)∧(-9223372036854775808≤x.letter.to_∧x.letter.to_<9223372036854775808)∧(-9223372036854775808≤x.letter.from_∧x.letter.from_<9223372036854775808)∧(-9223372036854775808≤x.letter.since∧x.letter.since<9223372036854775808)∧(-9223372036854775808≤x.letter.due∧x.letter.due<9223372036854775808)∧(RS KA G a1 c1 x.letter.heads)∧(-9223372036854775808≤x.letter.reply.head.epoch∧x.letter.reply.head.epoch<9223372036854775808)∧(0≤x.letter.reply.head.root∧x.letter.reply.head.root<18446744073709551616)∧(0≤x.letter.reply.head.prev∧x.letter.reply.head.prev<18446744073709551616)∧(-9223372036854775808≤x.letter.reply.head.at_∧x.letter.reply.head.at_<9223372036854775808)∧((x.letter.reply.proof.name).length≤140737488351232)∧(RS QD G a2 c2 x.letter.reply.proof.entries)∧(RS EU G a3 c3 x.letter.reply.proof.sides),fun hle h=>by obtain ⟨a0,c0,a1,c1,a2,c2,a3,c3,rfl,h0,h1,h2,h3,h4,h5,h6,h7,h8,h9,h10,h11,h12,h13,h14,h15⟩:=h;exact ⟨a0,c0,a1,c1,a2,c2,a3,c3,rfl,h0,h1,h2,h3.mono hle,h4,h5,h6,h7,h8.mono hle,h9,h10,h11,h12,h13,h14.mono hle,h15.mono hle⟩,fun h=>by obtain ⟨a0,c0,a1,c1,a2,c2,a3,c3,rfl,h0,h1,h2,h3,h4,h5,h6,h7,h8,h9,h10,h11,h12,h13,h14,h15⟩:=h;rfl,fun h=>by obtain ⟨a0,c0,a1,c1,a2,c2,a3,c3,rfl,h0,h1,h2,h3,h4,h5,h6,h7,h8,h9,h10,h11,h12,h13,h14,h15⟩:=h;exact Z4 rfl⟩
def JeK:YK (List JU):=⟨1,24,fun G cs x=>∃ a0 c0,cs=[Sl a0 x.length c0]∧(RS KA G a0 c0 x),fun hle h=>by obtain ⟨a0,c0,rfl,h0⟩:=h;exact ⟨a0,c0,rfl,h0.mono hle⟩,fun h=>by obtain ⟨a0,c0,rfl,h0⟩:=h;rfl,fun h=>by obtain ⟨a0,c0,rfl,h0⟩:=h;exact Z4 rfl⟩
def Vd:YK (List Int):=⟨1,24,fun G cs x=>∃ a0 c0,cs=[Sl a0 x.length c0]∧(RS EI G a0 c0 x),fun hle h=>by obtain ⟨a0,c0,rfl,h0⟩:=h;exact ⟨a0,c0,rfl,h0.mono hle⟩,fun h=>by obtain ⟨a0,c0,rfl,h0⟩:=h;rfl,fun h=>by obtain ⟨a0,c0,rfl,h0⟩:=h;exact Z4 rfl⟩
theorem o_EI {G:J4} {cs:List Value} {m:Nat} (h:RdL Tryz.prog G [.int .i64] cs m):∃ x,EI.R G cs x∧(fun _=>0) x≤m:=by
 obtain ⟨_,c0,_,_,rfl,_,k0,h⟩:=h
 obtain ⟨x0,rfl,w0⟩:=k0
 have h:c0=[]:=h
 subst h
 exact ⟨x0,⟨rfl,Yq w0⟩,Hl _⟩
theorem o_EU {G:J4} {cs:List Value} {m:Nat} (h:RdL Tryz.prog G [.int .u64] cs m):∃ x,EU.R G cs x∧(fun _=>0) x≤m:=by
 obtain ⟨_,c0,_,_,rfl,_,k0,h⟩:=h
 obtain ⟨x0,rfl,w0⟩:=k0
 have h:c0=[]:=h
 subst h
 exact ⟨x0,⟨rfl,Jfe w0⟩,Hl _⟩
theorem o_ES {G:J4} {cs:List Value} {m:Nat} (h:RdL Tryz.prog G [.str] cs m):∃ x,ES.R G cs x∧(fun _=>0) x≤m:=by
 obtain ⟨_,c0,_,_,rfl,_,k0,h⟩:=h
 obtain ⟨x0,rfl,w0,_⟩:=k0
 have h:c0=[]:=h
 subst h
 exact ⟨x0,⟨rfl,w0⟩,Hl _⟩
theorem o_EEnt {G:J4} {cs:List Value} {m:Nat} (h:RdL Tryz.prog G [.str,.str] cs m):∃ x,QD.R G cs x∧(fun _=>0) x≤m:=by
 obtain ⟨_,c0,_,_,rfl,_,k0,h⟩:=h
 obtain ⟨x0,rfl,w0,_⟩:=k0
 obtain ⟨_,c1,_,_,rfl,_,k1,h⟩:=h
 obtain ⟨x1,rfl,w1,_⟩:=k1
 have h:c1=[]:=h
 subst h
 exact ⟨(⟨x0,x1⟩:J2),⟨rfl,w0,w1⟩,Hl _⟩
theorem JoN {G:J4} {cs:List Value} {m:Nat} (h:RdL Tryz.prog G [.int .i64,.int .u64,.int .u64,.int .i64] cs m):∃ x,KA.R G cs x∧(fun _=>0) x≤m:=by
 obtain ⟨_,c0,_,_,rfl,_,k0,h⟩:=h
 obtain ⟨x0,rfl,w0⟩:=k0
 obtain ⟨_,c1,_,_,rfl,_,k1,h⟩:=h
 obtain ⟨x1,rfl,w1⟩:=k1
 obtain ⟨_,c2,_,_,rfl,_,k2,h⟩:=h
 obtain ⟨x2,rfl,w2⟩:=k2
 obtain ⟨_,c3,_,_,rfl,_,k3,h⟩:=h
 obtain ⟨x3,rfl,w3⟩:=k3
 have h:c3=[]:=h
 subst h
 exact ⟨(⟨x0,x1,x2,x3⟩:JU),⟨rfl,Yq w0,Jfe w1,Jfe w2,Yq w3⟩,Hl _⟩
theorem Jnf {G:J4} {cs:List Value} {m:Nat} (h:RdL Tryz.prog G [.sl 22,.sl 45,.int .i64,.int .i64,.int .i64,.int .i64,.int .i64,.int .i64,.int .i64] cs m):∃ x,JdF.R G cs x∧(fun _=>0) x≤m:=by
 obtain ⟨_,c0,_,_,rfl,_,k0,h⟩:=h
 obtain ⟨a0,c0_,x0,rfl,hs0,_,hcap0⟩:=Jai (E:=ES) (e:=9) (size:=fun _=>0) k0 (by kernel_rfl) (by kernel_rfl) (fun cs m h=>o_ES h) (by decide +kernel) (by kernel_rfl) (by kernel_rfl)
 obtain ⟨_,c1,_,_,rfl,_,k1,h⟩:=h
 obtain ⟨a1,c1_,x1,rfl,hs1,_,hcap1⟩:=Jai (E:=EU) (e:=41) (size:=fun _=>0) k1 (by kernel_rfl) (by kernel_rfl) (fun cs m h=>o_EU h) (by decide +kernel) (by kernel_rfl) (by kernel_rfl)
 obtain ⟨_,c2,_,_,rfl,_,k2,h⟩:=h
 obtain ⟨x2,rfl,w2⟩:=k2
 obtain ⟨_,c3,_,_,rfl,_,k3,h⟩:=h
 obtain ⟨x3,rfl,w3⟩:=k3
 obtain ⟨_,c4,_,_,rfl,_,k4,h⟩:=h
 obtain ⟨x4,rfl,w4⟩:=k4
 obtain ⟨_,c5,_,_,rfl,_,k5,h⟩:=h
 obtain ⟨x5,rfl,w5⟩:=k5
 obtain ⟨_,c6,_,_,rfl,_,k6,h⟩:=h
 obtain ⟨x6,rfl,w6⟩:=k6
 obtain ⟨_,c7,_,_,rfl,_,k7,h⟩:=h
 obtain ⟨x7,rfl,w7⟩:=k7
 obtain ⟨_,c8,_,_,rfl,_,k8,h⟩:=h
 obtain ⟨x8,rfl,w8⟩:=k8
 have h:c8=[]:=h
 subst h
 exact ⟨(⟨x0,x1,x2,x3,x4,x5,x6,x7,x8⟩:Kv),⟨a0,c0_,a1,c1_,rfl,hs0,hs1,Yq w2,Yq w3,Yq w4,Yq w5,Yq w6,Yq w7,Yq w8⟩,Hl _⟩
theorem JoO {G:J4} {cs:List Value} {m:Nat} (h:RdL Tryz.prog G [.int .i64,.int .i64,.str,.sl 39,.int .i64,.int .i64,.int .i64,.int .i64,.sl 40,.int .i64,.int .u64,.int .u64,.int .i64,.str,.sl 44,.sl 45] cs m):∃ x,WO.R G cs x∧(fun _=>0) x≤m:=by
 obtain ⟨_,c0,_,_,rfl,_,k0,h⟩:=h
 obtain ⟨x0,rfl,w0⟩:=k0
 obtain ⟨_,c1,_,_,rfl,_,k1,h⟩:=h
 obtain ⟨x1,rfl,w1⟩:=k1
 obtain ⟨_,c2,_,_,rfl,_,k2,h⟩:=h
 obtain ⟨x2,rfl,w2,_⟩:=k2
 obtain ⟨_,c3,_,_,rfl,_,k3,h⟩:=h
 obtain ⟨a3,c3_,x3,rfl,hs3,_,hcap3⟩:=Jai (E:=EI) (e:=3) (size:=fun _=>0) k3 (by kernel_rfl) (by kernel_rfl) (fun cs m h=>o_EI h) (by decide +kernel) (by kernel_rfl) (by kernel_rfl)
 obtain ⟨_,c4,_,_,rfl,_,k4,h⟩:=h
 obtain ⟨x4,rfl,w4⟩:=k4
 obtain ⟨_,c5,_,_,rfl,_,k5,h⟩:=h
 obtain ⟨x5,rfl,w5⟩:=k5
 obtain ⟨_,c6,_,_,rfl,_,k6,h⟩:=h
 obtain ⟨x6,rfl,w6⟩:=k6
 obtain ⟨_,c7,_,_,rfl,_,k7,h⟩:=h
 obtain ⟨x7,rfl,w7⟩:=k7
 obtain ⟨_,c8,_,_,rfl,_,k8,h⟩:=h
 obtain ⟨a8,c8_,x8,rfl,hs8,_,hcap8⟩:=Jai (E:=KA) (e:=43) (size:=fun _=>0) k8 (by kernel_rfl) (by kernel_rfl) (fun cs m h=>JoN h) (by decide +kernel) (by kernel_rfl) (by kernel_rfl)
 obtain ⟨_,c9,_,_,rfl,_,k9,h⟩:=h
 obtain ⟨x9,rfl,w9⟩:=k9
 obtain ⟨_,c10,_,_,rfl,_,k10,h⟩:=h
 obtain ⟨x10,rfl,w10⟩:=k10
 obtain ⟨_,c11,_,_,rfl,_,k11,h⟩:=h
 obtain ⟨x11,rfl,w11⟩:=k11
 obtain ⟨_,c12,_,_,rfl,_,k12,h⟩:=h
 obtain ⟨x12,rfl,w12⟩:=k12
 obtain ⟨_,c13,_,_,rfl,_,k13,h⟩:=h
 obtain ⟨x13,rfl,w13,_⟩:=k13
 obtain ⟨_,c14,_,_,rfl,_,k14,h⟩:=h
 obtain ⟨a14,c14_,x14,rfl,hs14,_,hcap14⟩:=Jai (E:=QD) (e:=111) (size:=fun _=>0) k14 (by kernel_rfl) (by kernel_rfl) (fun cs m h=>o_EEnt h) (by decide +kernel) (by kernel_rfl) (by kernel_rfl)
 obtain ⟨_,c15,_,_,rfl,_,k15,h⟩:=h
 obtain ⟨a15,c15_,x15,rfl,hs15,_,hcap15⟩:=Jai (E:=EU) (e:=41) (size:=fun _=>0) k15 (by kernel_rfl) (by kernel_rfl) (fun cs m h=>o_EU h) (by decide +kernel) (by kernel_rfl) (by kernel_rfl)
 have h:c15=[]:=h
 subst h
 exact ⟨(⟨x0,x1,x2,x3,(⟨x4,x5,x6,x7,x8,(⟨(⟨x9,x10,x11,x12⟩:JU),(⟨x13,x14,x15⟩:Q6)⟩:Wa)⟩:JQ)⟩:K6),⟨a3,c3_,a8,c8_,a14,c14_,a15,c15_,rfl,Yq w0,Yq w1,w2,hs3,Yq w4,Yq w5,Yq w6,Yq w7,hs8,Yq w9,Jfe w10,Jfe w11,Yq w12,w13,hs14,hs15⟩,Hl _⟩
abbrev Jic (x:W8):List Value:=[Sr x.name,Sr x.value,U x.n,U x.tag]
abbrev JjI (x:W8):Value:=.agg #[Sr x.name,Sr x.value,U x.n,U x.tag]
abbrev KB (x:Kz) (a0:Option Addr) (c0:Nat) (a1:Option Addr) (c1:Nat) (a2:Option Addr) (c2:Nat):List Value:=[I x.queue.most,Sl a0 x.queue.wait.length c0,I x.batch,I x.every,I x.now,Sl a1 x.heads.length c1,Sl a2 x.books.length c2]
abbrev Qt (x:Kz) (a0:Option Addr) (c0:Nat) (a1:Option Addr) (c1:Nat) (a2:Option Addr) (c2:Nat):Value:=.agg #[I x.queue.most,Sl a0 x.queue.wait.length c0,I x.batch,I x.every,I x.now,Sl a1 x.heads.length c1,Sl a2 x.books.length c2]
abbrev WI (x:K6) (a0:Option Addr) (c0:Nat) (a1:Option Addr) (c1:Nat) (a2:Option Addr) (c2:Nat) (a3:Option Addr) (c3:Nat):List Value:=[I x.kind,I x.who,Sr x.value,Sl a0 x.fates.length c0,I x.letter.to_,I x.letter.from_,I x.letter.since,I x.letter.due,Sl a1 x.letter.heads.length c1,I x.letter.reply.head.epoch,U x.letter.reply.head.root,U x.letter.reply.head.prev,I x.letter.reply.head.at_,Sr x.letter.reply.proof.name,Sl a2 x.letter.reply.proof.entries.length c2,Sl a3 x.letter.reply.proof.sides.length c3]
abbrev JcV (x:K6) (a0:Option Addr) (c0:Nat) (a1:Option Addr) (c1:Nat) (a2:Option Addr) (c2:Nat) (a3:Option Addr) (c3:Nat):Value:=.agg #[I x.kind,I x.who,Sr x.value,Sl a0 x.fates.length c0,I x.letter.to_,I x.letter.from_,I x.letter.since,I x.letter.due,Sl a1 x.letter.heads.length c1,I x.letter.reply.head.epoch,U x.letter.reply.head.root,U x.letter.reply.head.prev,I x.letter.reply.head.at_,Sr x.letter.reply.proof.name,Sl a2 x.letter.reply.proof.entries.length c2,Sl a3 x.letter.reply.proof.sides.length c3]
abbrev JcW (x:JU):List Value:=[I x.epoch,U x.root,U x.prev,I x.at_]
abbrev Vs (x:JU):Value:=.agg #[I x.epoch,U x.root,U x.prev,I x.at_]
abbrev Kq (x:JQ) (a0:Option Addr) (c0:Nat) (a1:Option Addr) (c1:Nat) (a2:Option Addr) (c2:Nat):List Value:=[I x.to_,I x.from_,I x.since,I x.due,Sl a0 x.heads.length c0,I x.reply.head.epoch,U x.reply.head.root,U x.reply.head.prev,I x.reply.head.at_,Sr x.reply.proof.name,Sl a1 x.reply.proof.entries.length c1,Sl a2 x.reply.proof.sides.length c2]
abbrev Q1 (x:JQ) (a0:Option Addr) (c0:Nat) (a1:Option Addr) (c1:Nat) (a2:Option Addr) (c2:Nat):Value:=.agg #[I x.to_,I x.from_,I x.since,I x.due,Sl a0 x.heads.length c0,I x.reply.head.epoch,U x.reply.head.root,U x.reply.head.prev,I x.reply.head.at_,Sr x.reply.proof.name,Sl a1 x.reply.proof.entries.length c1,Sl a2 x.reply.proof.sides.length c2]
abbrev KH (x:K9) (a0:Option Addr) (c0:Nat):List Value:=[Sr x.name,U x.key,I x.head.epoch,U x.head.root,U x.head.prev,I x.head.at_,Sl a0 x.wanted.length c0,I x.had]
abbrev Ky (x:K9) (a0:Option Addr) (c0:Nat):Value:=.agg #[Sr x.name,U x.key,I x.head.epoch,U x.head.root,U x.head.prev,I x.head.at_,Sl a0 x.wanted.length c0,I x.had]
abbrev YQ (x:Wb):List Value:=[I x.least,I x.most,I x.lost,I x.gap,I x.next,I x.asked]
abbrev Zv (x:Wb):Value:=.agg #[I x.least,I x.most,I x.lost,I x.gap,I x.next,I x.asked]
abbrev Vw (x:Q6) (a0:Option Addr) (c0:Nat) (a1:Option Addr) (c1:Nat):List Value:=[Sr x.name,Sl a0 x.entries.length c0,Sl a1 x.sides.length c1]
abbrev VS (x:Q6) (a0:Option Addr) (c0:Nat) (a1:Option Addr) (c1:Nat):Value:=.agg #[Sr x.name,Sl a0 x.entries.length c0,Sl a1 x.sides.length c1]
abbrev Zz (x:Wa) (a0:Option Addr) (c0:Nat) (a1:Option Addr) (c1:Nat):List Value:=[I x.head.epoch,U x.head.root,U x.head.prev,I x.head.at_,Sr x.proof.name,Sl a0 x.proof.entries.length c0,Sl a1 x.proof.sides.length c1]
abbrev WP (x:Wa) (a0:Option Addr) (c0:Nat) (a1:Option Addr) (c1:Nat):Value:=.agg #[I x.head.epoch,U x.head.root,U x.head.prev,I x.head.at_,Sr x.proof.name,Sl a0 x.proof.entries.length c0,Sl a1 x.proof.sides.length c1]
abbrev QJ (x:Kv) (a0:Option Addr) (c0:Nat) (a1:Option Addr) (c1:Nat):List Value:=[Sl a0 x.names.length c0,Sl a1 x.keys.length c1,I x.most,I x.batch,I x.every,I x.least,I x.top,I x.lost,I x.reach]
abbrev Yz (x:Kv) (a0:Option Addr) (c0:Nat) (a1:Option Addr) (c1:Nat):Value:=.agg #[Sl a0 x.names.length c0,Sl a1 x.keys.length c1,I x.most,I x.batch,I x.every,I x.least,I x.top,I x.lost,I x.reach]
abbrev Zq (x:Q8) (a0:Option Addr) (c0:Nat) (a1:Option Addr) (c1:Nat) (a2:Option Addr) (c2:Nat) (a3:Option Addr) (c3:Nat) (a4:Option Addr) (c4:Nat) (a5:Option Addr) (c5:Nat):List Value:=[I x.clerk.queue.most,Sl a0 x.clerk.queue.wait.length c0,I x.clerk.batch,I x.clerk.every,I x.clerk.now,Sl a1 x.clerk.heads.length c1,Sl a2 x.clerk.books.length c2,Sl a3 x.owners.length c3,Sl a4 x.polls.length c4,I x.net.now,Sl a5 x.net.way.length c5]
abbrev Y8 (x:Q8) (a0:Option Addr) (c0:Nat) (a1:Option Addr) (c1:Nat) (a2:Option Addr) (c2:Nat) (a3:Option Addr) (c3:Nat) (a4:Option Addr) (c4:Nat) (a5:Option Addr) (c5:Nat):Value:=.agg #[I x.clerk.queue.most,Sl a0 x.clerk.queue.wait.length c0,I x.clerk.batch,I x.clerk.every,I x.clerk.now,Sl a1 x.clerk.heads.length c1,Sl a2 x.clerk.books.length c2,Sl a3 x.owners.length c3,Sl a4 x.polls.length c4,I x.net.now,Sl a5 x.net.way.length c5]
open Go.Proofs Go.Shelf
theorem JjJ (w:World) (k:Nat) (os:Array Obj):Below w.heap.size w (Sort.grow (w.drewN k) os):=by
 refine ⟨rfl,rfl,rfl,by simp [Sort.grow,World.drewN],fun b hb=>?_⟩
 simp [Sort.grow,World.drewN,Array.getElem?_append,hb]
theorem Jng {P:Program} {ρ:Ren} (L:LaysM.n171 P ρ) (G:J4) (n:Int) (h:-9223372036854775808≤n∧n<9223372036854775808):JaJ P (ρ.f 171) #[I n] G [] (fun u _ L'=>u=Sr (Lib.itoa n)∧L'=[]) (fun _ _ _=>False) :=
 Jca fun w hT _=>(Any.strconv_Itoa L n h.1 (by omega) w hT.1).mono fun e w' ⟨he,k,os,hw⟩=>⟨_,he,rfl,hw ▸ JjJ w k os⟩
def Ja0 (s:List UInt8):Option Int:=match Lib.atoiAll s with | .ok v=>some v | _=>none
theorem JgD {s:List UInt8} {v:Int} (h:Ja0 s=some v):-9223372036854775808≤v∧v<9223372036854775808:=by
 unfold Ja0 at h
 split at h
 ·
  rename_i u hu
  cases h
  have:=Lib.atoiAll_bounds hu
  omega
 · cases h
theorem Jnh {P : Program} {ρ : Ren} (L : LaysC.n172 P ρ) (g1 : P.globalNamed "strconv.ErrSyntax" = some (ρ.g 15)) (g2 : P.globalNamed "strconv.ErrRange" = some (ρ.g 16)) (G : J4) (s : List UInt8) (hs : s.length ≤ 140737488355328) :
  JaJ P (ρ.f 172) #[Sr s] G [] (fun u _ L'=>((∃ v,Ja0 s=some v∧u=.tuple #[I v,.nilIface])∨(Ja0 s=none∧∃ v N,u=.tuple #[I v,.iface (ρ.t 168) (Pt N 0)]))∧L'=[]) (fun _ _ _=>False) :=
 Jca fun w hT _=>by
  have hd:(B s).data.toList=s:=by simp [B]
  have hz:(B s).size=s.length:=by rw [Lib.size_eq,hd]
  obtain ⟨_,⟨q1,e1,k1,c1,d1⟩,⟨q2,e2,k2,c2,d2⟩⟩:=hT
  obtain rfl:q1=ρ.g 15:=HR.inj (k1.symm.trans g1)
  obtain rfl:q2=ρ.g 16:=HR.inj (k2.symm.trans g2)
  cases ha:Lib.atoiAll s
  ·
   rename_i v
   refine (Any.strconv_Atoi_ok L (B s) (by omega) v (by rw [hd];exact ha) w).mono ?_
   rintro e w' ⟨rfl,hw⟩
   refine ⟨_,rfl,.inl ⟨v,by unfold Ja0;rw [ha],rfl⟩,?_⟩
   rcases hw with rfl | ⟨t,rfl⟩
   · exact Below.refl _ _
   · exact Lib.bytesWorld_below _ _ _
  ·
   refine (Any.strconv_Atoi_syntax L (B s) (by omega) (by rw [hd];exact ha) e1 w c1 d1).mono ?_
   rintro e w' ⟨N,rfl,_,_,hb⟩
   exact ⟨_,rfl,.inr ⟨by unfold Ja0;rw [ha],_,N,rfl⟩,hb⟩
  ·
   refine (Any.strconv_Atoi_range L (B s) (by omega) (by rw [hd];exact ha) e2 w c2 d2).mono ?_
   rintro e w' ⟨N,rfl,_,_,hb⟩
   exact ⟨_,rfl,.inr ⟨by unfold Ja0;rw [ha],_,N,rfl⟩,hb⟩
def JJ (s:List UInt8):List (List UInt8):=Lib.split s [32]
theorem JdG (s:List UInt8):(B s).data.toList=s:=by simp [B]
theorem Jg2 (s:List UInt8):(B s).size=s.length:=by rw [Lib.size_eq,JdG]
theorem JbB (s:List UInt8):(Lib.splitB ⟨#[32]⟩ 0 (Lib.countB (B s) ⟨#[32]⟩) (B s)).map (·.data.toList)=JJ s:=by
 rw [Lib.splitB_data,JdG]
 show Lib.splitK _ 0 (Lib.count (B s).data.toList _) s=_
 rw [JdG];rfl
theorem JgE (sep:List UInt8) (n:Nat):∀ (k:Nat) (s:List UInt8),s.length≤n→∀ x∈Lib.splitK sep 0 k s,x.length≤n
 | 0,s,h,x,hx=>by unfold Lib.splitK at hx;rw [HM.1 hx];exact h
 | k+1,s,h,x,hx=>by
  unfold Lib.splitK at hx
  split at hx
  · rw [HM.1 hx];exact h
  ·
   rcases HV.1 hx with rfl | hx
   · rw [List.length_take];omega
   · exact JgE sep n k _ (by rw [List.length_drop];omega) x hx
theorem Jfg {s x:List UInt8} (h:x∈JJ s):x.length≤s.length:=JgE _ _ _ _ (HG _) x h
theorem Y1 (s:List UInt8):0<(JJ s).length:=by
 rw [← JbB,Hw]
 have:=Lib.splitB_all ⟨#[32]⟩ (by decide) 0 _ (B s) rfl
 omega
theorem flat1 {α β:Type} (f:α→β):∀ l:List α,(l.map fun x=>[f x]).flatten=l.map f
 | []=>rfl
 | x::l=>by simp only [List.map_cons,List.flatten_cons,flat1 f l];rfl
theorem Jid (G:J4):∀ l:List ByteArray,(∀ x∈l,x.data.toList.length≤140737488351232)→JfV ES G (l.map fun x=>[Value.string x]) (l.map (·.data.toList))
 | [],_=>trivial
 | x::l,h=>⟨⟨by show [Value.string x]=[Value.string (B x.data.toList)];simp [B],h x (List.mem_cons_self ..)⟩,Jid G l fun y hy=>h y (List.mem_cons_of_mem _ hy)⟩
theorem JjK {P:Program} {ρ:Ren} (L:Lays.n221 P ρ) (L1:Lays.n138 P ρ) (L2:Lays.n143 P ρ) (hi9:(P.info? (ρ.t 9)).map (fun i=>(i.zero,i.size,i.bytes))=some (some (.string ByteArray.empty),1,16)) (G:J4) (s:List UInt8) (hs:s.length<4294967281) :
  Vp P (ρ.f 221) #[Sr s,Sr [32],I 0,I (-1)] G [] (fun u G' L'=>∃ b r,u=Sl (At b 0) (JJ s).length (JJ s).length∧J1 ES G' (At b 0) (JJ s).length (JJ s) r∧L'=[r]):=fun w0 G0 w hw=>by
 have hz:=Jg2 s
 have hlen:=Lib.splitB_all ⟨#[32]⟩ (by decide) 0 _ (B s) rfl
 have hle:=Lib.countB_le ⟨#[32]⟩ (by decide) (B s).size (B s) (HG _)
 have hc:=Any.strings_Count_one L1 (B s) 32 w
 rw [show Lib.countByte (B s).data.toList 32=Lib.countB (B s) ⟨#[32]⟩ from (Lib.count_one 32 (B s).data.toList).symm] at hc
 refine (Any.strings_genSplit_core L hi9 (B s) ⟨#[32]⟩ 0 (-1) (Lib.countB (B s) ⟨#[32]⟩+1) w (by omega) (by decide) (Hl _) (fun x c _=>by
  have:=Any.strings_Index_one L2 x 32 (w.alloc (.cells c (ρ.t 9)))
  rw [← Lib.index_one] at this
  exact this) hc (by decide) (by decide) (by rw [if_pos (by decide)];omega)).mono ?_
 rintro e w' ⟨rfl,rfl⟩
 rw [Nat.add_sub_cancel,hlen]
 have e2:Lib.cellsOf (Lib.splitB ⟨#[32]⟩ 0 (Lib.countB (B s) ⟨#[32]⟩) (B s)) (Lib.countB (B s) ⟨#[32]⟩+1)=((Lib.splitB ⟨#[32]⟩ 0 (Lib.countB (B s) ⟨#[32]⟩) (B s)).map Value.string).toArray:=by rw [← hlen];exact Lib.cellsOf_full _
 rw [e2]
 have hl:(JJ s).length=Lib.countB (B s) ⟨#[32]⟩+1:=by rw [← JbB,Hw];exact hlen
 have hw2:=hw.alloc ((Lib.splitB ⟨#[32]⟩ 0 (Lib.countB (B s) ⟨#[32]⟩) (B s)).map Value.string).toArray (ρ.t 9)
 have hr:J1 ES G (At w.heap.size 0) (JJ s).length (JJ s) [Sg w.heap.size 0 ((Lib.splitB ⟨#[32]⟩ 0 (Lib.countB (B s) ⟨#[32]⟩) (B s)).map Value.string)]:=by
  have:=J1.of_lit (E:=ES) (G:=G) (b:=w.heap.size) _ _ (Jid G (Lib.splitB ⟨#[32]⟩ 0 (Lib.countB (B s) ⟨#[32]⟩) (B s)) (fun x hx=>by
   have:x.data.toList∈JJ s:=by rw [← JbB];exact HW.2 ⟨x,hx,rfl⟩
   have:=Jfg this;omega)) (by rw [Hw,hlen];omega)
  rw [JbB] at this
  rwa [show ((Lib.splitB ⟨#[32]⟩ 0 (Lib.countB (B s) ⟨#[32]⟩) (B s)).map fun x=>[Value.string x]).flatten=(Lib.splitB ⟨#[32]⟩ 0 (Lib.countB (B s) ⟨#[32]⟩) (B s)).map Value.string from flat1 _ _] at this
 exact ⟨_,G,[[Sg w.heap.size 0 ((Lib.splitB ⟨#[32]⟩ 0 (Lib.countB (B s) ⟨#[32]⟩) (B s)).map Value.string)]],rfl,by simpa using hw2,Jh _,w.heap.size,_,by rw [hl],hr,rfl⟩
theorem Jni {P:Program} {ρ:Ren} (L:Lays.n156 P ρ) (X:Builder.Extra P ρ) (G:J4) (b o c:Nat) (l:List (List UInt8)) (sep:List UInt8) (hr:RS ES G (At b o) c l) (hne:l ≠ []) (hn:l.length≤140737488355328) (hj:(Lib.join l sep).length≤140737488355328) :
  Vp P (ρ.f 156) #[Sl (At b o) l.length c,Sr sep] G [] (fun u _ _=>u=Sr (Lib.join l sep)):=Jha fun w hG=>by
 have hm:(l.map B).map (·.data.toList)=l:=by rw [List.map_map];exact (List.map_congr_left fun x _=>JdG x).trans (List.map_id _)
 have hget:∀ (j:Nat) x,(l.map B)[j]? = some x→w.cell? ⟨b,o+j,none⟩=some (.string x):=fun j x hx=>by
  rw [HO] at hx
  obtain ⟨y,hy,rfl⟩:=Hq.1 hx
  obtain ⟨cs,⟨rfl,_⟩,h2⟩:=hr.elem _ rfl j y hy
  have:=hG _ _ _ (h2 0 _ rfl)
  simpa [ES] using this
 have hb:b<w.heap.size:=by
  cases l with
  | nil=>exact (hne rfl).elim
  | cons x l=>exact Wx (hget 0 _ rfl)
 have:=Any.strings_Join L X b o c (l.map B) (B sep) w hget hb (by rw [Hw];exact hn) (by rw [Hw];exact hr.le) (by rw [hm,JdG];exact hj)
 rw [hm,JdG,Hw] at this
 exact this
open Go.Lib Go.Sort
def Jhg:Go.Shelf.Ren:=⟨fun x=>if Hd x 129 then 223 else if Hd x 138 then 132 else if Hd x 143 then 133 else if Hd x 156 then 50 else if Hd x 165 then 90 else if Hd x 166 then 91 else if Hd x 169 then 92 else if Hd x 171 then 46 else if Hd x 172 then 192 else if Hd x 195 then 188 else if Hd x 197 then 189 else if Hd x 205 then 267 else if Hd x 217 then 228 else if Hd x 218 then 190 else if Hd x 219 then 191 else if Hd x 221 then 77 else if Hd x 224 then 230 else if Hd x 225 then 229 else if Hd x 240 then 144 else if Hd x 241 then 145 else if Hd x 243 then 76 else if Hd x 244 then 232 else if Hd x 245 then 233 else if Hd x 246 then 130 else if Hd x 247 then 255 else if Hd x 260 then 227 else if Hd x 266 then 253 else if Hd x 267 then 231 else if Hd x 268 then 131 else if Hd x 276 then 197 else if Hd x 277 then 198 else if Hd x 279 then 256 else if Hd x 280 then 257 else if Hd x 281 then 258 else if Hd x 282 then 259 else if Hd x 283 then 184 else if Hd x 284 then 185 else if Hd x 285 then 186 else if Hd x 286 then 187 else if Hd x 287 then 265 else if Hd x 314 then 254 else if Hd x 316 then 266 else if Hd x 317 then 222 else if Hd x 318 then 224 else if Hd x 319 then 225 else if Hd x 320 then 226 else if Hd x 321 then 271 else if Hd x 322 then 272 else if Hd x 337 then 251 else if Hd x 338 then 252 else x,fun x=>if Hd x 31 then 22 else if Hd x 37 then 35 else if Hd x 46 then 98 else if Hd x 51 then 132 else if Hd x 53 then 41 else if Hd x 70 then 163 else if Hd x 72 then 165 else if Hd x 75 then 168 else if Hd x 76 then 169 else if Hd x 80 then 171 else if Hd x 85 then 336 else if Hd x 105 then 273 else if Hd x 119 then 330 else if Hd x 127 then 227 else if Hd x 138 then 332 else if Hd x 139 then 333 else if Hd x 143 then 352 else if Hd x 145 then 354 else if Hd x 146 then 133 else if Hd x 164 then 280 else if Hd x 167 then 335 else if Hd x 168 then 338 else if Hd x 171 then 268 else if Hd x 173 then 271 else if Hd x 175 then 344 else if Hd x 210 then 347 else if Hd x 212 then 310 else if Hd x 213 then 311 else if Hd x 232 then 342 else if Hd x 233 then 343 else x,fun x=>if Hd x 1 then 3 else if Hd x 3 then 4 else if Hd x 4 then 5 else if Hd x 15 then 8 else if Hd x 16 then 9 else if Hd x 17 then 2 else if Hd x 18 then 6 else if Hd x 19 then 7 else x⟩
theorem JoP:LaysM.n171 Tryz.prog Jhg:={
 mixed:=rfl,
 f129:=Tryz.func223.trans (by kernel_rfl),
 f171:=Tryz.func46.trans (by kernel_rfl),
 f243:=Tryz.func76.trans (by kernel_rfl),
 f246:=Tryz.func130.trans (by kernel_rfl),
 f283:=Tryz.func184.trans (by kernel_rfl),
 f284:=Tryz.func185.trans (by kernel_rfl),
 f285:=Tryz.func186.trans (by kernel_rfl),
 f286:=Tryz.func187.trans (by kernel_rfl),
 f317:=Tryz.func222.trans (by kernel_rfl),
 f318:=Tryz.func224.trans (by kernel_rfl),
 f319:=Tryz.func225.trans (by kernel_rfl),
 f320:=Tryz.func226.trans (by kernel_rfl),
 f337:=Tryz.func251.trans (by kernel_rfl),
 f338:=Tryz.func252.trans (by kernel_rfl),
 t0:=by kernel_rfl,
 a0:=fun _=>by kernel_rfl,
 z0:=fun _=>by kernel_rfl,
 v0:=fun _=>by kernel_rfl,
 t2:=by kernel_rfl,
 a2:=fun _=>by kernel_rfl,
 z2:=fun _=>by kernel_rfl,
 v2:=fun _=>by kernel_rfl,
 t3:=by kernel_rfl,
 a3:=fun _=>by kernel_rfl,
 z3:=fun _=>by kernel_rfl,
 v3:=fun _=>by kernel_rfl,
 t4:=by kernel_rfl,
 a4:=fun _=>by kernel_rfl,
 z4:=fun _=>by kernel_rfl,
 v4:=fun _=>by kernel_rfl,
 t5:=by kernel_rfl,
 a5:=fun _=>by kernel_rfl,
 z5:=fun _=>by kernel_rfl,
 v5:=fun _=>by kernel_rfl,
 t9:=by kernel_rfl,
 a9:=fun _=>by kernel_rfl,
 z9:=fun _=>by kernel_rfl,
 v9:=fun _=>by kernel_rfl,
 t20:=by kernel_rfl,
 a20:=fun _=>by kernel_rfl,
 z20:=fun _=>by kernel_rfl,
 v20:=fun _=>by kernel_rfl,
 t37:=by kernel_rfl,
 a37:=fun _=>by kernel_rfl,
 z37:=fun _=>by kernel_rfl,
 v37:=fun _=>by kernel_rfl,
 t46:=by kernel_rfl,
 a46:=fun _=>by kernel_rfl,
 z46:=fun _=>by kernel_rfl,
 v46:=fun _=>by kernel_rfl,
 t51:=by kernel_rfl,
 a51:=fun _=>by kernel_rfl,
 z51:=fun _=>by kernel_rfl,
 v51:=fun _=>by kernel_rfl,
 t53:=by kernel_rfl,
 a53:=fun _=>by kernel_rfl,
 z53:=fun _=>by kernel_rfl,
 v53:=fun _=>by kernel_rfl,
 t171:=by kernel_rfl,
 a171:=fun _=>by kernel_rfl,
 z171:=fun _=>by kernel_rfl,
 v171:=fun _=>by kernel_rfl,
 t173:=by kernel_rfl,
 a173:=fun _=>by kernel_rfl,
 z173:=fun _=>by kernel_rfl,
 v173:=fun _=>by kernel_rfl,
 t212:=by kernel_rfl,
 a212:=fun _=>by kernel_rfl,
 z212:=fun _=>by kernel_rfl,
 v212:=fun _=>by kernel_rfl,
 t213:=by kernel_rfl,
 a213:=fun _=>by kernel_rfl,
 z213:=fun _=>by kernel_rfl,
 t232:=by kernel_rfl,
 a232:=fun _=>by kernel_rfl,
 z232:=fun _=>by kernel_rfl,
 v232:=fun _=>by kernel_rfl,
 t233:=by kernel_rfl,
 a233:=fun _=>by kernel_rfl,
 z233:=fun _=>by kernel_rfl,
 v233:=fun _=>by kernel_rfl,
 g17:=by kernel_rfl,
 g18:=by kernel_rfl,
 g19:=by kernel_rfl,
 i0:=by kernel_rfl,
 i2:=by kernel_rfl,
 i3:=by kernel_rfl,
 i4:=by kernel_rfl,
 i5:=by kernel_rfl,
 i9:=by kernel_rfl,
 i20:=by kernel_rfl,
 i37:=by kernel_rfl,
 i46:=by kernel_rfl,
 i51:=by kernel_rfl,
 i53:=by kernel_rfl,
 i171:=by kernel_rfl,
 i173:=by kernel_rfl,
 i212:=by kernel_rfl,
 i232:=by kernel_rfl,
 i233:=by kernel_rfl,
 m17:=by kernel_rfl,
 m18:=by kernel_rfl,
 m19:=by kernel_rfl }
theorem JoQ:LaysC.n172 Tryz.prog Jhg:={
 mixed:=rfl,
 f129:=Tryz.func223.trans (by kernel_rfl),
 f171:=Tryz.func46.trans (by kernel_rfl),
 f172:=Tryz.func192.trans (by kernel_rfl),
 f205:=Tryz.func267.trans (by kernel_rfl),
 f243:=Tryz.func76.trans (by kernel_rfl),
 f244:=Tryz.func232.trans (by kernel_rfl),
 f245:=Tryz.func233.trans (by kernel_rfl),
 f246:=Tryz.func130.trans (by kernel_rfl),
 f247:=Tryz.func255.trans (by kernel_rfl),
 f279:=Tryz.func256.trans (by kernel_rfl),
 f280:=Tryz.func257.trans (by kernel_rfl),
 f281:=Tryz.func258.trans (by kernel_rfl),
 f282:=Tryz.func259.trans (by kernel_rfl),
 f283:=Tryz.func184.trans (by kernel_rfl),
 f284:=Tryz.func185.trans (by kernel_rfl),
 f285:=Tryz.func186.trans (by kernel_rfl),
 f286:=Tryz.func187.trans (by kernel_rfl),
 f287:=Tryz.func265.trans (by kernel_rfl),
 f316:=Tryz.func266.trans (by kernel_rfl),
 f317:=Tryz.func222.trans (by kernel_rfl),
 f318:=Tryz.func224.trans (by kernel_rfl),
 f319:=Tryz.func225.trans (by kernel_rfl),
 f320:=Tryz.func226.trans (by kernel_rfl),
 f321:=Tryz.func271.trans (by kernel_rfl),
 f322:=Tryz.func272.trans (by kernel_rfl),
 f337:=Tryz.func251.trans (by kernel_rfl),
 f338:=Tryz.func252.trans (by kernel_rfl),
 t0:=by kernel_rfl,
 a0:=fun _=>by kernel_rfl,
 z0:=fun _=>by kernel_rfl,
 v0:=fun _=>by kernel_rfl,
 t2:=by kernel_rfl,
 a2:=fun _=>by kernel_rfl,
 z2:=fun _=>by kernel_rfl,
 v2:=fun _=>by kernel_rfl,
 t3:=by kernel_rfl,
 a3:=fun _=>by kernel_rfl,
 z3:=fun _=>by kernel_rfl,
 v3:=fun _=>by kernel_rfl,
 t4:=by kernel_rfl,
 a4:=fun _=>by kernel_rfl,
 z4:=fun _=>by kernel_rfl,
 v4:=fun _=>by kernel_rfl,
 t5:=by kernel_rfl,
 a5:=fun _=>by kernel_rfl,
 z5:=fun _=>by kernel_rfl,
 v5:=fun _=>by kernel_rfl,
 t9:=by kernel_rfl,
 a9:=fun _=>by kernel_rfl,
 z9:=fun _=>by kernel_rfl,
 v9:=fun _=>by kernel_rfl,
 t20:=by kernel_rfl,
 a20:=fun _=>by kernel_rfl,
 z20:=fun _=>by kernel_rfl,
 v20:=fun _=>by kernel_rfl,
 t21:=by kernel_rfl,
 a21:=fun _=>by kernel_rfl,
 z21:=fun _=>by kernel_rfl,
 v21:=fun _=>by kernel_rfl,
 t37:=by kernel_rfl,
 a37:=fun _=>by kernel_rfl,
 z37:=fun _=>by kernel_rfl,
 v37:=fun _=>by kernel_rfl,
 t46:=by kernel_rfl,
 a46:=fun _=>by kernel_rfl,
 z46:=fun _=>by kernel_rfl,
 v46:=fun _=>by kernel_rfl,
 t51:=by kernel_rfl,
 a51:=fun _=>by kernel_rfl,
 z51:=fun _=>by kernel_rfl,
 v51:=fun _=>by kernel_rfl,
 t53:=by kernel_rfl,
 a53:=fun _=>by kernel_rfl,
 z53:=fun _=>by kernel_rfl,
 v53:=fun _=>by kernel_rfl,
 t75:=by kernel_rfl,
 a75:=fun _=>by kernel_rfl,
 z75:=fun _=>by kernel_rfl,
 v75:=fun _=>by kernel_rfl,
 t76:=by kernel_rfl,
 a76:=fun _=>by kernel_rfl,
 z76:=fun _=>by kernel_rfl,
 v76:=fun _=>by kernel_rfl,
 t85:=by kernel_rfl,
 a85:=fun _=>by kernel_rfl,
 z85:=fun _=>by kernel_rfl,
 v85:=fun _=>by kernel_rfl,
 t127:=by kernel_rfl,
 a127:=fun _=>by kernel_rfl,
 z127:=fun _=>by kernel_rfl,
 v127:=fun _=>by kernel_rfl,
 t143:=by kernel_rfl,
 a143:=fun _=>by kernel_rfl,
 z143:=fun _=>by kernel_rfl,
 v143:=fun _=>by kernel_rfl,
 t145:=by kernel_rfl,
 a145:=fun _=>by kernel_rfl,
 z145:=fun _=>by kernel_rfl,
 v145:=fun _=>by kernel_rfl,
 t167:=by kernel_rfl,
 a167:=fun _=>by kernel_rfl,
 z167:=fun _=>by kernel_rfl,
 v167:=fun _=>by kernel_rfl,
 t168:=by kernel_rfl,
 a168:=fun _=>by kernel_rfl,
 z168:=fun _=>by kernel_rfl,
 v168:=fun _=>by kernel_rfl,
 t171:=by kernel_rfl,
 a171:=fun _=>by kernel_rfl,
 z171:=fun _=>by kernel_rfl,
 v171:=fun _=>by kernel_rfl,
 t173:=by kernel_rfl,
 a173:=fun _=>by kernel_rfl,
 z173:=fun _=>by kernel_rfl,
 v173:=fun _=>by kernel_rfl,
 t175:=by kernel_rfl,
 a175:=fun _=>by kernel_rfl,
 z175:=fun _=>by kernel_rfl,
 v175:=fun _=>by kernel_rfl,
 t210:=by kernel_rfl,
 a210:=fun _=>by kernel_rfl,
 z210:=fun _=>by kernel_rfl,
 v210:=fun _=>by kernel_rfl,
 t212:=by kernel_rfl,
 a212:=fun _=>by kernel_rfl,
 z212:=fun _=>by kernel_rfl,
 v212:=fun _=>by kernel_rfl,
 t213:=by kernel_rfl,
 a213:=fun _=>by kernel_rfl,
 z213:=fun _=>by kernel_rfl,
 t232:=by kernel_rfl,
 a232:=fun _=>by kernel_rfl,
 z232:=fun _=>by kernel_rfl,
 v232:=fun _=>by kernel_rfl,
 t233:=by kernel_rfl,
 a233:=fun _=>by kernel_rfl,
 z233:=fun _=>by kernel_rfl,
 v233:=fun _=>by kernel_rfl,
 g15:=by kernel_rfl,
 g16:=by kernel_rfl,
 g17:=by kernel_rfl,
 g18:=by kernel_rfl,
 g19:=by kernel_rfl,
 t80:=by kernel_rfl,
 a80:=fun _=>by kernel_rfl,
 z80:=fun _=>by kernel_rfl,
 v80:=fun _=>by kernel_rfl,
 i0:=by kernel_rfl,
 i2:=by kernel_rfl,
 i3:=by kernel_rfl,
 i4:=by kernel_rfl,
 i5:=by kernel_rfl,
 i9:=by kernel_rfl,
 i20:=by kernel_rfl,
 i21:=by kernel_rfl,
 i37:=by kernel_rfl,
 i46:=by kernel_rfl,
 i51:=by kernel_rfl,
 i53:=by kernel_rfl,
 i75:=by kernel_rfl,
 i76:=by kernel_rfl,
 i80:=by kernel_rfl,
 i85:=by kernel_rfl,
 i127:=by kernel_rfl,
 i143:=by kernel_rfl,
 i145:=by kernel_rfl,
 i167:=by kernel_rfl,
 i168:=by kernel_rfl,
 i171:=by kernel_rfl,
 i173:=by kernel_rfl,
 i175:=by kernel_rfl,
 i210:=by kernel_rfl,
 i212:=by kernel_rfl,
 i232:=by kernel_rfl,
 i233:=by kernel_rfl,
 m15:=by kernel_rfl,
 m16:=by kernel_rfl,
 m17:=by kernel_rfl,
 m18:=by kernel_rfl,
 m19:=by kernel_rfl,
 c0:=by kernel_rfl,
 c2:=by kernel_rfl,
 c3:=by kernel_rfl,
 c4:=by kernel_rfl,
 c5:=by kernel_rfl,
 c9:=by kernel_rfl,
 c20:=by kernel_rfl,
 c21:=by kernel_rfl,
 c37:=by kernel_rfl,
 c46:=by kernel_rfl,
 c51:=by kernel_rfl,
 c53:=by kernel_rfl,
 c75:=by kernel_rfl,
 c76:=by kernel_rfl,
 c80:=by kernel_rfl,
 c85:=by kernel_rfl,
 c127:=by kernel_rfl,
 c143:=by kernel_rfl,
 c145:=by kernel_rfl,
 c167:=by kernel_rfl,
 c168:=by kernel_rfl,
 c171:=by kernel_rfl,
 c173:=by kernel_rfl,
 c175:=by kernel_rfl,
 c210:=by kernel_rfl,
 c212:=by kernel_rfl,
 c213:=by kernel_rfl,
 c232:=by kernel_rfl,
 c233:=by kernel_rfl }
theorem JoR:Lays.n221 Tryz.prog Jhg:={
 mixed:=rfl,
 f138:=Tryz.func132.trans (by kernel_rfl),
 f143:=Tryz.func133.trans (by kernel_rfl),
 f195:=Tryz.func188.trans (by kernel_rfl),
 f197:=Tryz.func189.trans (by kernel_rfl),
 f217:=Tryz.func228.trans (by kernel_rfl),
 f218:=Tryz.func190.trans (by kernel_rfl),
 f219:=Tryz.func191.trans (by kernel_rfl),
 f221:=Tryz.func77.trans (by kernel_rfl),
 f224:=Tryz.func230.trans (by kernel_rfl),
 f225:=Tryz.func229.trans (by kernel_rfl),
 f260:=Tryz.func227.trans (by kernel_rfl),
 f266:=Tryz.func253.trans (by kernel_rfl),
 f267:=Tryz.func231.trans (by kernel_rfl),
 f268:=Tryz.func131.trans (by kernel_rfl),
 f314:=Tryz.func254.trans (by kernel_rfl),
 t0:=by kernel_rfl,
 a0:=fun _=>by kernel_rfl,
 z0:=fun _=>by kernel_rfl,
 v0:=fun _=>by kernel_rfl,
 t3:=by kernel_rfl,
 a3:=fun _=>by kernel_rfl,
 z3:=fun _=>by kernel_rfl,
 v3:=fun _=>by kernel_rfl,
 t4:=by kernel_rfl,
 a4:=fun _=>by kernel_rfl,
 z4:=fun _=>by kernel_rfl,
 v4:=fun _=>by kernel_rfl,
 t5:=by kernel_rfl,
 a5:=fun _=>by kernel_rfl,
 z5:=fun _=>by kernel_rfl,
 v5:=fun _=>by kernel_rfl,
 t9:=by kernel_rfl,
 a9:=fun _=>by kernel_rfl,
 z9:=fun _=>by kernel_rfl,
 v9:=fun _=>by kernel_rfl,
 t21:=by kernel_rfl,
 a21:=fun _=>by kernel_rfl,
 z21:=fun _=>by kernel_rfl,
 v21:=fun _=>by kernel_rfl,
 t31:=by kernel_rfl,
 a31:=fun _=>by kernel_rfl,
 z31:=fun _=>by kernel_rfl,
 v31:=fun _=>by kernel_rfl,
 t46:=by kernel_rfl,
 a46:=fun _=>by kernel_rfl,
 z46:=fun _=>by kernel_rfl,
 v46:=fun _=>by kernel_rfl,
 t51:=by kernel_rfl,
 a51:=fun _=>by kernel_rfl,
 z51:=fun _=>by kernel_rfl,
 v51:=fun _=>by kernel_rfl,
 t105:=by kernel_rfl,
 a105:=fun _=>by kernel_rfl,
 z105:=fun _=>by kernel_rfl,
 v105:=fun _=>by kernel_rfl,
 t119:=by kernel_rfl,
 a119:=fun _=>by kernel_rfl,
 z119:=fun _=>by kernel_rfl,
 t138:=by kernel_rfl,
 a138:=fun _=>by kernel_rfl,
 z138:=fun _=>by kernel_rfl,
 v138:=fun _=>by kernel_rfl,
 t139:=by kernel_rfl,
 a139:=fun _=>by kernel_rfl,
 z139:=fun _=>by kernel_rfl,
 v139:=fun _=>by kernel_rfl,
 t146:=by kernel_rfl,
 a146:=fun _=>by kernel_rfl,
 z146:=fun _=>by kernel_rfl,
 v146:=fun _=>by kernel_rfl,
 g1:=by kernel_rfl,
 g3:=by kernel_rfl,
 g4:=by kernel_rfl }
theorem JoS:Lays.n138 Tryz.prog Jhg:={
 mixed:=rfl,
 f138:=Tryz.func132.trans (by kernel_rfl),
 f143:=Tryz.func133.trans (by kernel_rfl),
 f195:=Tryz.func188.trans (by kernel_rfl),
 f217:=Tryz.func228.trans (by kernel_rfl),
 f218:=Tryz.func190.trans (by kernel_rfl),
 f219:=Tryz.func191.trans (by kernel_rfl),
 f224:=Tryz.func230.trans (by kernel_rfl),
 f225:=Tryz.func229.trans (by kernel_rfl),
 f266:=Tryz.func253.trans (by kernel_rfl),
 f267:=Tryz.func231.trans (by kernel_rfl),
 f314:=Tryz.func254.trans (by kernel_rfl),
 t0:=by kernel_rfl,
 a0:=fun _=>by kernel_rfl,
 z0:=fun _=>by kernel_rfl,
 v0:=fun _=>by kernel_rfl,
 t3:=by kernel_rfl,
 a3:=fun _=>by kernel_rfl,
 z3:=fun _=>by kernel_rfl,
 v3:=fun _=>by kernel_rfl,
 t4:=by kernel_rfl,
 a4:=fun _=>by kernel_rfl,
 z4:=fun _=>by kernel_rfl,
 v4:=fun _=>by kernel_rfl,
 t5:=by kernel_rfl,
 a5:=fun _=>by kernel_rfl,
 z5:=fun _=>by kernel_rfl,
 v5:=fun _=>by kernel_rfl,
 t9:=by kernel_rfl,
 a9:=fun _=>by kernel_rfl,
 z9:=fun _=>by kernel_rfl,
 v9:=fun _=>by kernel_rfl,
 t46:=by kernel_rfl,
 a46:=fun _=>by kernel_rfl,
 z46:=fun _=>by kernel_rfl,
 v46:=fun _=>by kernel_rfl,
 t51:=by kernel_rfl,
 a51:=fun _=>by kernel_rfl,
 z51:=fun _=>by kernel_rfl,
 v51:=fun _=>by kernel_rfl,
 t146:=by kernel_rfl,
 a146:=fun _=>by kernel_rfl,
 z146:=fun _=>by kernel_rfl,
 v146:=fun _=>by kernel_rfl,
 g1:=by kernel_rfl }
theorem JoT:Lays.n143 Tryz.prog Jhg:={
 mixed:=rfl,
 f143:=Tryz.func133.trans (by kernel_rfl),
 f217:=Tryz.func228.trans (by kernel_rfl),
 f219:=Tryz.func191.trans (by kernel_rfl),
 f224:=Tryz.func230.trans (by kernel_rfl),
 f225:=Tryz.func229.trans (by kernel_rfl),
 f266:=Tryz.func253.trans (by kernel_rfl),
 f267:=Tryz.func231.trans (by kernel_rfl),
 f314:=Tryz.func254.trans (by kernel_rfl),
 t3:=by kernel_rfl,
 a3:=fun _=>by kernel_rfl,
 z3:=fun _=>by kernel_rfl,
 v3:=fun _=>by kernel_rfl,
 t4:=by kernel_rfl,
 a4:=fun _=>by kernel_rfl,
 z4:=fun _=>by kernel_rfl,
 v4:=fun _=>by kernel_rfl,
 t5:=by kernel_rfl,
 a5:=fun _=>by kernel_rfl,
 z5:=fun _=>by kernel_rfl,
 v5:=fun _=>by kernel_rfl,
 t9:=by kernel_rfl,
 a9:=fun _=>by kernel_rfl,
 z9:=fun _=>by kernel_rfl,
 v9:=fun _=>by kernel_rfl,
 t46:=by kernel_rfl,
 a46:=fun _=>by kernel_rfl,
 z46:=fun _=>by kernel_rfl,
 v46:=fun _=>by kernel_rfl,
 t51:=by kernel_rfl,
 a51:=fun _=>by kernel_rfl,
 z51:=fun _=>by kernel_rfl,
 v51:=fun _=>by kernel_rfl,
 t146:=by kernel_rfl,
 a146:=fun _=>by kernel_rfl,
 z146:=fun _=>by kernel_rfl,
 v146:=fun _=>by kernel_rfl,
 g1:=by kernel_rfl }
theorem JoU:Lays.n156 Tryz.prog Jhg:={
 mixed:=rfl,
 f156:=Tryz.func50.trans (by kernel_rfl),
 f165:=Tryz.func90.trans (by kernel_rfl),
 f166:=Tryz.func91.trans (by kernel_rfl),
 f169:=Tryz.func92.trans (by kernel_rfl),
 f240:=Tryz.func144.trans (by kernel_rfl),
 f241:=Tryz.func145.trans (by kernel_rfl),
 f276:=Tryz.func197.trans (by kernel_rfl),
 f277:=Tryz.func198.trans (by kernel_rfl),
 t0:=by kernel_rfl,
 a0:=fun _=>by kernel_rfl,
 z0:=fun _=>by kernel_rfl,
 v0:=fun _=>by kernel_rfl,
 t3:=by kernel_rfl,
 a3:=fun _=>by kernel_rfl,
 z3:=fun _=>by kernel_rfl,
 v3:=fun _=>by kernel_rfl,
 t4:=by kernel_rfl,
 a4:=fun _=>by kernel_rfl,
 z4:=fun _=>by kernel_rfl,
 v4:=fun _=>by kernel_rfl,
 t9:=by kernel_rfl,
 a9:=fun _=>by kernel_rfl,
 z9:=fun _=>by kernel_rfl,
 v9:=fun _=>by kernel_rfl,
 t20:=by kernel_rfl,
 a20:=fun _=>by kernel_rfl,
 z20:=fun _=>by kernel_rfl,
 v20:=fun _=>by kernel_rfl,
 t31:=by kernel_rfl,
 a31:=fun _=>by kernel_rfl,
 z31:=fun _=>by kernel_rfl,
 v31:=fun _=>by kernel_rfl,
 t37:=by kernel_rfl,
 a37:=fun _=>by kernel_rfl,
 z37:=fun _=>by kernel_rfl,
 v37:=fun _=>by kernel_rfl,
 t70:=by kernel_rfl,
 a70:=fun _=>by kernel_rfl,
 z70:=fun _=>by kernel_rfl,
 v70:=fun _=>by kernel_rfl,
 t72:=by kernel_rfl,
 a72:=fun _=>by kernel_rfl,
 z72:=fun _=>by kernel_rfl,
 v72:=fun _=>by kernel_rfl,
 t75:=by kernel_rfl,
 a75:=fun _=>by kernel_rfl,
 z75:=fun _=>by kernel_rfl,
 v75:=fun _=>by kernel_rfl,
 t76:=by kernel_rfl,
 a76:=fun _=>by kernel_rfl,
 z76:=fun _=>by kernel_rfl,
 v76:=fun _=>by kernel_rfl,
 t127:=by kernel_rfl,
 a127:=fun _=>by kernel_rfl,
 z127:=fun _=>by kernel_rfl,
 v127:=fun _=>by kernel_rfl,
 t164:=by kernel_rfl,
 a164:=fun _=>by kernel_rfl,
 z164:=fun _=>by kernel_rfl,
 v164:=fun _=>by kernel_rfl }
theorem extraB:Builder.Extra Tryz.prog Jhg:={ sizeBuilder:=by kernel_rfl,liesBuilder:=by kernel_rfl,t5:=by kernel_rfl,a5:=fun _=>by kernel_rfl,z5:=fun _=>by kernel_rfl,v5:=fun _=>by kernel_rfl,infoByte:=by kernel_rfl,cellsByte:=by kernel_rfl,sizeByte:=by kernel_rfl,neB5:=by decide }
theorem Jie (G:J4) (n:Int) (h:-9223372036854775808≤n∧n<9223372036854775808):JaJ Tryz.prog 46 #[I n] G [] (fun u _ _=>u=Sr (Lib.itoa n)) (fun _ _ _=>False):=(Jng JoP G n h).mono (fun _ _ _ h=>h.1) (fun _ _ _ h=>h)
theorem Jnj (G:J4) (s:List UInt8) (hs:s.length≤140737488355328):JaJ Tryz.prog 192 #[Sr s] G [] (fun u _ L'=>((∃ v,Ja0 s=some v∧u=.tuple #[I v,.nilIface])∨(Ja0 s=none∧∃ v N,u=.tuple #[I v,.iface (Jhg.t 168) (Pt N 0)]))∧L'=[]) (fun _ _ _=>False):=Jnh JoQ (by kernel_rfl) (by kernel_rfl) G s hs
theorem JjL (G:J4) (s:List UInt8) (hs:s.length<4294967281):Vp Tryz.prog 77 #[Sr s,Sr [32],I 0,I (-1)] G [] (fun u G' L'=>∃ b r,u=Sl (At b 0) (JJ s).length (JJ s).length∧J1 ES G' (At b 0) (JJ s).length (JJ s) r∧L'=[r]):=JjK JoR JoS JoT (by kernel_rfl) G s hs
theorem JcX (G:J4) (b o c:Nat) (l:List (List UInt8)) (sep:List UInt8) (hr:RS ES G (At b o) c l) (hne:l ≠ []) (hn:l.length≤140737488355328) (hj:(Lib.join l sep).length≤140737488355328) :
  Vp Tryz.prog 50 #[Sl (At b o) l.length c,Sr sep] G [] (fun u _ _=>u=Sr (Lib.join l sep)):=Jni JoU extraB G b o c l sep hr hne hn hj
theorem JlO (G:J4) (s:List UInt8) (hs:s.length<4294967281):Yw 47 #[Sr s,Sr ([32])] G [] (fun u G' L'=>∃ (a1:Option Addr) (c2:Nat) (r3:List Kh),u=Sl a1 ((JJ s).length) c2∧(J1 ES G' a1 c2 (JJ s) r3)∧L'=[r3]):=by
 refine JR Tryz.func47 8 [(0,Sr s),(1,Sr ([32]))] rfl (fun w0 G0=>?_)
 refine Jg [0] [] (Jf (Jd (Jc [0,0] [(5,Sr s),(6,Sr ([32]))] (JI 7 (JjL G s J8) (fun v G1 L1 hl1 hp=>?_)))))
 obtain ⟨b1,r1,rfl,hr1,rfl⟩:=hp
 refine Jc [0] [(4,Sl (At b1 0) ((JJ s).length) ((JJ s).length))] (Je (Jb (Jn (Jk 0 ?_))))
 have hf1:JJ s=(JJ s):=by
  rfl
 refine Jo [0] [Sl (At b1 0) ((JJ s).length) ((JJ s).length)] (JA [r1] hl1 ?_)
 rw [hf1]
 try dsimp only
 exact ⟨(At b1 0),((JJ s).length),r1,rfl,hr1,rfl⟩
theorem Yg (n:Int) (G:J4):Vp Tryz.prog 182 #[U n] G [] (fun u G' L'=>u=Sr (K1 n)):=by
 refine JR Tryz.func182 19 [(0,U n)] rfl (fun w0 G0=>?_)
 refine Jg [0] [] (Jf (Jd (Jv 3 #[Y 0,Y 0,Y 0,Y 0,Y 0,Y 0,Y 0,Y 0] 307 (fun b1=>Je (Jb (Jf (Jg [0] [(5,I 0)] (Jy (Jdv 9 (Wr (Jg [0] [(6,Bo true)] (Jf (JW (Jq (Jb (Jf (Jy (Jg [0,0] [(4,I 0)] (Jd (JV [0,0,0,0,0,0,0,0,3] [] [[Sg b1 0 [Y (Hc.wrap ((n).fdiv (2 ^ 56))),Y 0,Y 0,Y 0,Y 0,Y 0,Y 0,Y 0]]] (Je (JN (Jb (Jd ?_))))))))))))))))))))))))
 refine Jc [0,0] [(5,I 1)] (Je (WH (Wr (Jg [0] [(6,Bo true)] (Jf (JW (Jq (Jb (Jf (Jy (Jg [0,0] [(4,I 1)] (Jd (JV [0,0,0,0,0,0,0,0,3] [] [[Sg b1 0 [Y (Hc.wrap ((n).fdiv (2 ^ 56))),Y (Hc.wrap ((n).fdiv (2 ^ 48))),Y 0,Y 0,Y 0,Y 0,Y 0,Y 0]]] (Je (JN (Jb (Jd (Jc [0,0] [(5,I 2)] (Je (WH (Wr ?_)))))))))))))))))))))
 refine Jg [0] [(6,Bo true)] (Jf (JW (Jq (Jb (Jf (Jy (Jg [0,0] [(4,I 2)] (Jd (JV [0,0,0,0,0,0,0,0,3] [] [[Sg b1 0 [Y (Hc.wrap ((n).fdiv (2 ^ 56))),Y (Hc.wrap ((n).fdiv (2 ^ 48))),Y (Hc.wrap ((n).fdiv (2 ^ 40))),Y 0,Y 0,Y 0,Y 0,Y 0]]] (Je (JN (Jb (Jd (Jc [0,0] [(5,I 3)] (Je (WH (Wr (Jg [0] [(6,Bo true)] (Jf (JW (Jq (Jb (Jf (Jy ?_))))))))))))))))))))))))
 refine Jg [0,0] [(4,I 3)] (Jd (JV [0,0,0,0,0,0,0,0,3] [] [[Sg b1 0 [Y (Hc.wrap ((n).fdiv (2 ^ 56))),Y (Hc.wrap ((n).fdiv (2 ^ 48))),Y (Hc.wrap ((n).fdiv (2 ^ 40))),Y (Hc.wrap ((n).fdiv (2 ^ 32))),Y 0,Y 0,Y 0,Y 0]]] (Je (JN (Jb (Jd (Jc [0,0] [(5,I 4)] (Je (WH (Wr (Jg [0] [(6,Bo true)] (Jf (JW (Jq (Jb (Jf (Jy (Jg [0,0] [(4,I 4)] (Jd (JV [0,0,0,0,0,0,0,0,3] [] [[Sg b1 0 [Y (Hc.wrap ((n).fdiv (2 ^ 56))),Y (Hc.wrap ((n).fdiv (2 ^ 48))),Y (Hc.wrap ((n).fdiv (2 ^ 40))),Y (Hc.wrap ((n).fdiv (2 ^ 32))),Y (Hc.wrap ((n).fdiv (2 ^ 24))),Y 0,Y 0,Y 0]]] (Je (JN (Jb (Jd (Jc [0,0] [(5,I 5)] (Je ?_))))))))))))))))))))))))))
 refine WH (Wr (Jg [0] [(6,Bo true)] (Jf (JW (Jq (Jb (Jf (Jy (Jg [0,0] [(4,I 5)] (Jd (JV [0,0,0,0,0,0,0,0,3] [] [[Sg b1 0 [Y (Hc.wrap ((n).fdiv (2 ^ 56))),Y (Hc.wrap ((n).fdiv (2 ^ 48))),Y (Hc.wrap ((n).fdiv (2 ^ 40))),Y (Hc.wrap ((n).fdiv (2 ^ 32))),Y (Hc.wrap ((n).fdiv (2 ^ 24))),Y (Hc.wrap ((n).fdiv (2 ^ 16))),Y 0,Y 0]]] (Je (JN (Jb (Jd (Jc [0,0] [(5,I 6)] (Je (WH (Wr (Jg [0] [(6,Bo true)] (Jf ?_)))))))))))))))))))))
 refine JW (Jq (Jb (Jf (Jy (Jg [0,0] [(4,I 6)] (Jd (JV [0,0,0,0,0,0,0,0,3] [] [[Sg b1 0 [Y (Hc.wrap ((n).fdiv (2 ^ 56))),Y (Hc.wrap ((n).fdiv (2 ^ 48))),Y (Hc.wrap ((n).fdiv (2 ^ 40))),Y (Hc.wrap ((n).fdiv (2 ^ 32))),Y (Hc.wrap ((n).fdiv (2 ^ 24))),Y (Hc.wrap ((n).fdiv (2 ^ 16))),Y (Hc.wrap ((n).fdiv (2 ^ 8))),Y 0]]] (Je (JN (Jb (Jd (Jc [0,0] [(5,I 7)] (Je (WH (Wr (Jg [0] [(6,Bo true)] (Jf (JW (Jq (Jb (Jf (Jy (Jg [0,0] [(4,I 7)] (Jd ?_))))))))))))))))))))))))
 refine JV [0,0,0,0,0,0,0,0,3] [] [[Sg b1 0 [Y (Hc.wrap ((n).fdiv (2 ^ 56))),Y (Hc.wrap ((n).fdiv (2 ^ 48))),Y (Hc.wrap ((n).fdiv (2 ^ 40))),Y (Hc.wrap ((n).fdiv (2 ^ 32))),Y (Hc.wrap ((n).fdiv (2 ^ 24))),Y (Hc.wrap ((n).fdiv (2 ^ 16))),Y (Hc.wrap ((n).fdiv (2 ^ 8))),Y (Hc.wrap ((n).fdiv (2 ^ 0)))]]] (Je (JN (Jb (Jd (Jc [0,0] [(5,I 8)] (Je (WH (Wr (Jg [0] [(6,Bo false)] (Jf (Qq (KW (JY (JY (JT (Jb (Jf (Jd (Jc [0] [(17,Sl (At b1 0) 8 8)] (JaX (b:=b1) (off:=0) (len:=8) (cap:=8) (cs:=HX (Value.int .u8) [Hc.wrap ((n).fdiv (2 ^ 56)),Hc.wrap ((n).fdiv (2 ^ 48)),Hc.wrap ((n).fdiv (2 ^ 40)),Hc.wrap ((n).fdiv (2 ^ 32)),Hc.wrap ((n).fdiv (2 ^ 24)),Hc.wrap ((n).fdiv (2 ^ 16)),Hc.wrap ((n).fdiv (2 ^ 8)),Hc.wrap ((n).fdiv (2 ^ 0))]) 18 0 [Hc.wrap ((n).fdiv (2 ^ 56)),Hc.wrap ((n).fdiv (2 ^ 48)),Hc.wrap ((n).fdiv (2 ^ 40)),Hc.wrap ((n).fdiv (2 ^ 32)),Hc.wrap ((n).fdiv (2 ^ 24)),Hc.wrap ((n).fdiv (2 ^ 16)),Hc.wrap ((n).fdiv (2 ^ 8)),Hc.wrap ((n).fdiv (2 ^ 0))] rfl (V6 (ns:=[Hc.wrap ((n).fdiv (2 ^ 56)),Hc.wrap ((n).fdiv (2 ^ 48)),Hc.wrap ((n).fdiv (2 ^ 40)),Hc.wrap ((n).fdiv (2 ^ 32)),Hc.wrap ((n).fdiv (2 ^ 24)),Hc.wrap ((n).fdiv (2 ^ 16)),Hc.wrap ((n).fdiv (2 ^ 8)),Hc.wrap ((n).fdiv (2 ^ 0))]) rfl) (Jc [0] [(2,Sr (([Hc.wrap ((n).fdiv (2 ^ 56)),Hc.wrap ((n).fdiv (2 ^ 48)),Hc.wrap ((n).fdiv (2 ^ 40)),Hc.wrap ((n).fdiv (2 ^ 32)),Hc.wrap ((n).fdiv (2 ^ 24)),Hc.wrap ((n).fdiv (2 ^ 16)),Hc.wrap ((n).fdiv (2 ^ 8)),Hc.wrap ((n).fdiv (2 ^ 0))]:List Int).map fun n=>He n.toNat))] (Je (Jb (Jn (Jo [0] [Sr (([Hc.wrap ((n).fdiv (2 ^ 56)),Hc.wrap ((n).fdiv (2 ^ 48)),Hc.wrap ((n).fdiv (2 ^ 40)),Hc.wrap ((n).fdiv (2 ^ 32)),Hc.wrap ((n).fdiv (2 ^ 24)),Hc.wrap ((n).fdiv (2 ^ 16)),Hc.wrap ((n).fdiv (2 ^ 8)),Hc.wrap ((n).fdiv (2 ^ 0))]:List Int).map fun n=>He n.toNat)] (Jx (Jh _) ?_))))))))))))))))))))))))))
 rfl
def Zr:JU:=⟨0,0,0,0⟩
def JL (h:JU):Int :=
 if h.epoch<0∨1000000<h.epoch∨2305843009213693951≤h.root∨2305843009213693951≤h.prev∨h.at_<0∨1000000000<h.at_ then 4 else if h.epoch=0∧h.prev ≠ 0 then 3 else 0
theorem Ze {h:JU} (e:JL h=0):0≤h.epoch∧h.epoch≤1000000∧h.root<2305843009213693951∧h.prev<2305843009213693951∧0≤h.at_∧h.at_≤1000000000∧(h.epoch=0→h.prev=0):=by
 unfold JL at e;split at e
 · cases e
 split at e
 · cases e
 omega
def VJ (h:JU):List UInt8:=((([3]++K1 (Ha.wrap h.epoch))++K1 h.root)++K1 h.prev)++K1 (Ha.wrap h.at_)
def Q9 (h:JU):List UInt8×Int:=if JL h ≠ 0 then ([],JL h) else (VJ h,0)
theorem JoV {x y:UInt8}:((x.toNat:Int)=(y.toNat:Int)) ↔ x=y:=⟨fun h=>UInt8.toNat.inj (by omega),fun h=>by rw [h]⟩
theorem JeA (h:JU):(VJ h).length=33:=by simp [VJ]
theorem ZV (h:JU) (G:J4):Vp Tryz.prog 41 #[.agg #[I h.epoch,U h.root,U h.prev,I h.at_]] G [] (fun u G' L'=>u=I (JL h)):=by
 refine JR Tryz.func41 41 [(0,.agg #[I h.epoch,U h.root,U h.prev,I h.at_])] rfl (fun w0 G0=>?_)
 refine Jf (Jd (Jv 1 #[I h.epoch,U h.root,U h.prev,I h.at_] 43 (fun b1=>Jc [0] [] (Je (Jb (Jf (Jy (Jf (Jd (Jc [0,2,0,0] [(7,Bo (decide (h.epoch<0)))] (Ks (decide (h.epoch<0)) [7] [1,1,1,0] [0,2,0,0] (fun bb=>[(11,Bo (bb || (decide (h.epoch > 1000000))))]) (Jc [0] [(12,Bo ((decide (h.epoch<0)) || (decide (h.epoch > 1000000))))] (Ks ((decide (h.epoch<0)) || (decide (h.epoch > 1000000))) [12] [1,1,1,0] [0,2,0,0] (fun bb=>[(16,Bo (bb || (decide (h.root ≥ 2305843009213693951))))]) (Jc [0] [(17,Bo (((decide (h.epoch<0)) || (decide (h.epoch > 1000000))) || (decide (h.root ≥ 2305843009213693951))))] (Ks (((decide (h.epoch<0)) || (decide (h.epoch > 1000000))) || (decide (h.root ≥ 2305843009213693951))) [17] [1,1,1,0] [0,2,0,0] (fun bb=>[(21,Bo (bb || (decide (h.prev ≥ 2305843009213693951))))]) (Jc [0] [(22,Bo ((((decide (h.epoch<0)) || (decide (h.epoch > 1000000))) || (decide (h.root ≥ 2305843009213693951))) || (decide (h.prev ≥ 2305843009213693951))))] (Ks ((((decide (h.epoch<0)) || (decide (h.epoch > 1000000))) || (decide (h.root ≥ 2305843009213693951))) || (decide (h.prev ≥ 2305843009213693951))) [22] [1,1,1,0] [0,2,0,0] (fun bb=>[(26,Bo (bb || (decide (h.at_<0))))]) ?_)))))))))))))))))
 refine Jc [0] [(27,Bo (((((decide (h.epoch<0)) || (decide (h.epoch > 1000000))) || (decide (h.root ≥ 2305843009213693951))) || (decide (h.prev ≥ 2305843009213693951))) || (decide (h.at_<0))))] (Ks (((((decide (h.epoch<0)) || (decide (h.epoch > 1000000))) || (decide (h.root ≥ 2305843009213693951))) || (decide (h.prev ≥ 2305843009213693951))) || (decide (h.at_<0))) [27] [1,1,1,0] [0,2,0,0] (fun bb=>[(31,Bo (bb || (decide (h.at_ > 1000000000))))]) (Jc [0] [(3,Bo ((((((decide (h.epoch<0)) || (decide (h.epoch > 1000000))) || (decide (h.root ≥ 2305843009213693951))) || (decide (h.prev ≥ 2305843009213693951))) || (decide (h.at_<0))) || (decide (h.at_ > 1000000000))))] (Je (Jb (Jl ((((((decide (h.epoch<0)) || (decide (h.epoch > 1000000))) || (decide (h.root ≥ 2305843009213693951))) || (decide (h.prev ≥ 2305843009213693951))) || (decide (h.at_<0))) || (decide (h.at_ > 1000000000))) (fun h1=>?_) (fun h1=>?_))))))
 refine Jg [0] [(2,I 4)] (Jn (Js (Jj (Jo [0] [I 4] (Jx (Jh _) ?_)))))
 refine congrArg I ?_;unfold JL;(repeat' split) <;> first | rfl | omega
 refine Jf (Jd (Jc [0,2,0,0] [(36,Bo (decide (h.epoch=0)))] (Ks (decide (h.epoch=0)) [36] [0,2,0,0] [1,1,1,0] (fun bb=>[(40,Bo (bb && (!decide (h.prev=0))))]) (Jc [0] [(32,Bo ((decide (h.epoch=0)) && (!decide (h.prev=0))))] (Je (Jb (Jl ((decide (h.epoch=0)) && (!decide (h.prev=0))) (fun h2=>?_) (fun h2=>?_))))))))
 refine Jg [0] [(2,I 3)] (Jn (Js (Jj (Jo [0] [I 3] (Jx (Jh _) ?_)))))
 refine congrArg I ?_;unfold JL;(repeat' split) <;> first | rfl | omega
 refine Jq (JN (Jb (Jg [0] [(2,I 0)] (Jn (Jo [0] [I 0] (Jx (Jh _) ?_))))))
 refine congrArg I ?_;unfold JL;(repeat' split) <;> first | rfl | omega
theorem Jhh (h:JU) (G:J4):Vp Tryz.prog 195 #[.agg #[I h.epoch,U h.root,U h.prev,I h.at_]] G [] (fun u G' L'=>u=.tuple #[Sr ((Q9 h).1),I ((Q9 h).2)]):=by
 refine JR Tryz.func195 30 [(0,.agg #[I h.epoch,U h.root,U h.prev,I h.at_])] rfl (fun w0 G0=>?_)
 refine Jf (Jd (Jv 1 #[I h.epoch,U h.root,U h.prev,I h.at_] 43 (fun b1=>Jc [0,0] [] (Je (Jb (Jf (Jf (Jd (Jc [2] [(5,.agg #[I h.epoch,U h.root,U h.prev,I h.at_])] (Jm 6 (I (JL h)) (ZV h G) (Jc [0] [(4,I (JL h))] (Je (Jb (Jg [0,0] [(8,Bo (!decide (JL h=0)))] (Jl (!decide (JL h=0)) (fun h1=>?_) (fun h1=>?_))))))))))))))))
 refine Jg [0,0,0] [(2,Sr ([])),(3,I (JL h))] (Jn (Jj (Jo [0,0] [Sr ([]),I (JL h)] (Jx (Jh _) ?_))))
 (unfold Q9;rw [if_pos (by omega)];rfl)
 refine Jq (Jb (Jf (Kp [0] (Wl [(2,Pt b1 0),(3,I h.epoch),(4,U (Ha.wrap h.epoch)),(5,Sr (K1 (Ha.wrap h.epoch))),(7,Pt b1 1),(8,U h.root),(9,Sr (K1 h.root)),(11,Pt b1 2),(12,U h.prev),(13,Sr (K1 h.prev)),(15,Pt b1 3),(16,I h.at_),(17,U (Ha.wrap h.at_)),(18,Sr (K1 (Ha.wrap h.at_)))] (JK [] [(2,0),(3,2),(4,0),(7,0),(8,2),(11,0),(12,2),(15,0),(16,2),(17,0)] [5,9,13,18] [0] (Ki ?_ (Ki ?_ (Ki ?_ (Ki ?_ K8)))) (Ki ?_ K8))))))
 refine Jt 5 15 (Sr (K1 (Ha.wrap h.epoch))) [(14,U (Ha.wrap h.epoch))] (fun X=>?_)
 exact Jm 15 (Sr (K1 (Ha.wrap h.epoch))) (Yg (Ha.wrap h.epoch) G) Jp
 refine Jt 9 19 (Sr (K1 h.root)) [(18,U h.root)] (fun X=>?_)
 exact Jm 19 (Sr (K1 h.root)) (Yg h.root G) Jp
 refine Jt 13 23 (Sr (K1 h.prev)) [(22,U h.prev)] (fun X=>?_)
 exact Jm 23 (Sr (K1 h.prev)) (Yg h.prev G) Jp
 refine Jt 18 28 (Sr (K1 (Ha.wrap h.at_))) [(27,U (Ha.wrap h.at_))] (fun X=>?_)
 exact Jm 28 (Sr (K1 (Ha.wrap h.at_))) (Yg (Ha.wrap h.at_) G) Jp
 refine JC 0 [] (fun X=>?_)
 refine Kt 10 1 #[Y 3] 5 (fun b2=>JD [(0,Sl (At b2 0) 1 1),(1,Sr (([3]:List Int).map fun n=>He n.toNat)),(6,Sr ((([3]:List Int).map fun n=>He n.toNat)++(K1 (Ha.wrap h.epoch)))),(10,Sr (((([3]:List Int).map fun n=>He n.toNat)++(K1 (Ha.wrap h.epoch)))++(K1 h.root))),(14,Sr ((((([3]:List Int).map fun n=>He n.toNat)++(K1 (Ha.wrap h.epoch)))++(K1 h.root))++(K1 h.prev))),(19,Sr (((((([3]:List Int).map fun n=>He n.toNat)++(K1 (Ha.wrap h.epoch)))++(K1 h.root))++(K1 h.prev))++(K1 (Ha.wrap h.at_)))),(20,Sr (((((([3]:List Int).map fun n=>He n.toNat)++(K1 (Ha.wrap h.epoch)))++(K1 h.root))++(K1 h.prev))++(K1 (Ha.wrap h.at_)))),(21,I 0)] (Km [] [(2,0),(3,4),(4,0),(7,0),(8,4),(11,0),(12,4),(15,0),(16,4),(17,0),(20,0),(21,0)] [1,5,6,9,10,13,14,18,19] [(2,Sr (((((([3]:List Int).map fun n=>He n.toNat)++(K1 (Ha.wrap h.epoch)))++(K1 h.root))++(K1 h.prev))++(K1 (Ha.wrap h.at_)))),(3,I 0)] (Ki ?_ (Ki ?_ (Ki ?_ (Ki ?_ (Ki ?_ (Ki ?_ (Ki ?_ (Ki ?_ (Ki ?_ K8))))))))) ?_))
 refine Jt 1 11 (Sr (([3]:List Int).map fun n=>He n.toNat)) [(10,Sl (At b2 0) 1 1)] (fun X=>?_)
 exact JaX (b:=b2) (off:=0) (len:=1) (cap:=1) (cs:=HX (Value.int .u8) [3]) 11 0 [3] rfl (V6 (ns:=[3]) rfl) Jp
 refine Jt 5 15 (Sr (K1 (Ha.wrap h.epoch))) [(14,U (Ha.wrap h.epoch))] (fun X=>?_)
 exact Jm 15 (Sr (K1 (Ha.wrap h.epoch))) (Yg (Ha.wrap h.epoch) G) Jp
 refine Jt 6 16 (Sr ((([3]:List Int).map fun n=>He n.toNat)++(K1 (Ha.wrap h.epoch)))) [(11,Sr (([3]:List Int).map fun n=>He n.toNat)),(15,Sr (K1 (Ha.wrap h.epoch)))] (fun X=>?_)
 exact ZJ 16 (([3]:List Int).map fun n=>He n.toNat) (K1 (Ha.wrap h.epoch)) (by simp) Jp
 refine Jt 9 19 (Sr (K1 h.root)) [(18,U h.root)] (fun X=>?_)
 exact Jm 19 (Sr (K1 h.root)) (Yg h.root G) Jp
 refine Jt 10 20 (Sr (((([3]:List Int).map fun n=>He n.toNat)++(K1 (Ha.wrap h.epoch)))++(K1 h.root))) [(16,Sr ((([3]:List Int).map fun n=>He n.toNat)++(K1 (Ha.wrap h.epoch)))),(19,Sr (K1 h.root))] (fun X=>?_)
 exact ZJ 20 ((([3]:List Int).map fun n=>He n.toNat)++(K1 (Ha.wrap h.epoch))) (K1 h.root) (by simp) Jp
 refine Jt 13 23 (Sr (K1 h.prev)) [(22,U h.prev)] (fun X=>?_)
 exact Jm 23 (Sr (K1 h.prev)) (Yg h.prev G) Jp
 refine Jt 14 24 (Sr ((((([3]:List Int).map fun n=>He n.toNat)++(K1 (Ha.wrap h.epoch)))++(K1 h.root))++(K1 h.prev))) [(20,Sr (((([3]:List Int).map fun n=>He n.toNat)++(K1 (Ha.wrap h.epoch)))++(K1 h.root))),(23,Sr (K1 h.prev))] (fun X=>?_)
 exact ZJ 24 (((([3]:List Int).map fun n=>He n.toNat)++(K1 (Ha.wrap h.epoch)))++(K1 h.root)) (K1 h.prev) (by simp) Jp
 refine Jt 18 28 (Sr (K1 (Ha.wrap h.at_))) [(27,U (Ha.wrap h.at_))] (fun X=>?_)
 exact Jm 28 (Sr (K1 (Ha.wrap h.at_))) (Yg (Ha.wrap h.at_) G) Jp
 refine Jt 19 29 (Sr (((((([3]:List Int).map fun n=>He n.toNat)++(K1 (Ha.wrap h.epoch)))++(K1 h.root))++(K1 h.prev))++(K1 (Ha.wrap h.at_)))) [(24,Sr ((((([3]:List Int).map fun n=>He n.toNat)++(K1 (Ha.wrap h.epoch)))++(K1 h.root))++(K1 h.prev))),(28,Sr (K1 (Ha.wrap h.at_)))] (fun X=>?_)
 exact ZJ 29 ((((([3]:List Int).map fun n=>He n.toNat)++(K1 (Ha.wrap h.epoch)))++(K1 h.root))++(K1 h.prev)) (K1 (Ha.wrap h.at_)) (by simp) Jp
 refine Jb (Jn (Jo [0,0] [Sr (((((([3]:List Int).map fun n=>He n.toNat)++(K1 (Ha.wrap h.epoch)))++(K1 h.root))++(K1 h.prev))++(K1 (Ha.wrap h.at_))),I 0] (Jx (Jh _) ?_)))
 (unfold Q9;rw [if_neg (by omega)];rfl)
theorem JlP  (G:J4):Vp Tryz.prog 223 #[U 2305843009213693951] G [] (fun u G' L'=>u=I 61):=by
 refine JR Tryz.func223 25 [(0,U 2305843009213693951)] rfl (fun w0 G0=>?_)
 refine Jg [0] [(2,I 0)] (Jf (Jg [0,0] [(4,Bo true)] (JW (Jg [0,0,0] [(0,U 536870911)] (Jd (Jc [0] [(2,I 32)] (Je (Jb (Jf (Jg [0,0] [(8,Bo true)] (JW (Jg [0,0,0] [(0,U 8191)] (Jd (Jc [0,0,0] [(2,I 48)] (Je (Jb (Jf (Jg [0,0] [(14,Bo true)] (JW ?_)))))))))))))))))))
 refine Jg [0,0,0] [(0,U 31)] (Jd (Jc [0,0,0] [(2,I 56)] (Je (Jb (Jg [0,0,0,0,0,0,0] [(2,I 61)] (Jn (Jo [0] [I 61] (Jx (Jh _) ?_))))))))
 rfl
theorem Jnk  (G:J4):Vp Tryz.prog 221 #[U 2305843009213693951] G [] (fun u G' L'=>u=I 3):=by
 refine JR Tryz.func221 6 [(0,U 2305843009213693951)] rfl (fun w0 G0=>?_)
 refine Jg [0] [] (Jf (Jd (Jc [0] [(3,U 2305843009213693951)] (Jm 4 (I 61) (JlP  G) (Jc [0,0] [(2,I 3)] (Je (Jb (Jn (Jo [0] [I 3] (Jx (Jh _) ?_))))))))))
 rfl
theorem JgF (x y:Int) (hx:rU x) (hy:rU y) (G:J4):Vp Tryz.prog 54 #[U x,U y] G [] (fun u G' L'=>u=.tuple #[U (x*y / 18446744073709551616),U (x*y % 18446744073709551616)]):=by
 refine JR Tryz.func54 51 [(0,U x),(1,U y)] rfl (fun w0 G0=>?_)
 refine Jg [0,0] [] (Jg [0,0,0] [(6,U (Ha.wrap ((Hb 64 x &&& Hb 64 4294967295).toNat:Int)))] (Jg [0,0,0] [(7,U ((x).fdiv (2 ^ 32)))] (Jg [0,0,0] [(8,U (Ha.wrap ((Hb 64 y &&& Hb 64 4294967295).toNat:Int)))] (Jg [0,0,0] [(9,U ((y).fdiv (2 ^ 32)))] (Jg [0,0,0,0] [(10,U (Ha.wrap ((Ha.wrap ((Hb 64 x &&& Hb 64 4294967295).toNat:Int))*(Ha.wrap ((Hb 64 y &&& Hb 64 4294967295).toNat:Int)))))] (Jg [0,0,0,0,0,0,0] [(11,U (Ha.wrap ((Ha.wrap (((x).fdiv (2 ^ 32))*(Ha.wrap ((Hb 64 y &&& Hb 64 4294967295).toNat:Int))))+((Ha.wrap ((Ha.wrap ((Hb 64 x &&& Hb 64 4294967295).toNat:Int))*(Ha.wrap ((Hb 64 y &&& Hb 64 4294967295).toNat:Int)))).fdiv (2 ^ 32)))))] (Jg [0,0,0] [(12,U (Ha.wrap ((Hb 64 (Ha.wrap ((Ha.wrap (((x).fdiv (2 ^ 32))*(Ha.wrap ((Hb 64 y &&& Hb 64 4294967295).toNat:Int))))+((Ha.wrap ((Ha.wrap ((Hb 64 x &&& Hb 64 4294967295).toNat:Int))*(Ha.wrap ((Hb 64 y &&& Hb 64 4294967295).toNat:Int)))).fdiv (2 ^ 32)))) &&& Hb 64 4294967295).toNat:Int)))] (Jg [0,0,0] [(13,U ((Ha.wrap ((Ha.wrap (((x).fdiv (2 ^ 32))*(Ha.wrap ((Hb 64 y &&& Hb 64 4294967295).toNat:Int))))+((Ha.wrap ((Ha.wrap ((Hb 64 x &&& Hb 64 4294967295).toNat:Int))*(Ha.wrap ((Hb 64 y &&& Hb 64 4294967295).toNat:Int)))).fdiv (2 ^ 32)))).fdiv (2 ^ 32)))] (Jg [0,0,0,0,0,0] [(12,U (Ha.wrap ((Ha.wrap ((Hb 64 (Ha.wrap ((Ha.wrap (((x).fdiv (2 ^ 32))*(Ha.wrap ((Hb 64 y &&& Hb 64 4294967295).toNat:Int))))+((Ha.wrap ((Ha.wrap ((Hb 64 x &&& Hb 64 4294967295).toNat:Int))*(Ha.wrap ((Hb 64 y &&& Hb 64 4294967295).toNat:Int)))).fdiv (2 ^ 32)))) &&& Hb 64 4294967295).toNat:Int))+(Ha.wrap ((Ha.wrap ((Hb 64 x &&& Hb 64 4294967295).toNat:Int))*((y).fdiv (2 ^ 32)))))))] (Jg [0,0,0,0,0,0,0,0,0] [(4,U (Ha.wrap ((Ha.wrap ((Ha.wrap (((x).fdiv (2 ^ 32))*((y).fdiv (2 ^ 32))))+((Ha.wrap ((Ha.wrap (((x).fdiv (2 ^ 32))*(Ha.wrap ((Hb 64 y &&& Hb 64 4294967295).toNat:Int))))+((Ha.wrap ((Ha.wrap ((Hb 64 x &&& Hb 64 4294967295).toNat:Int))*(Ha.wrap ((Hb 64 y &&& Hb 64 4294967295).toNat:Int)))).fdiv (2 ^ 32)))).fdiv (2 ^ 32))))+((Ha.wrap ((Ha.wrap ((Hb 64 (Ha.wrap ((Ha.wrap (((x).fdiv (2 ^ 32))*(Ha.wrap ((Hb 64 y &&& Hb 64 4294967295).toNat:Int))))+((Ha.wrap ((Ha.wrap ((Hb 64 x &&& Hb 64 4294967295).toNat:Int))*(Ha.wrap ((Hb 64 y &&& Hb 64 4294967295).toNat:Int)))).fdiv (2 ^ 32)))) &&& Hb 64 4294967295).toNat:Int))+(Ha.wrap ((Ha.wrap ((Hb 64 x &&& Hb 64 4294967295).toNat:Int))*((y).fdiv (2 ^ 32)))))).fdiv (2 ^ 32)))))] ?_))))))))))
 exact Jg [0,0,0,0] [(5,U (Ha.wrap (x*y)))] (Jn (Jo [0,0] [U (Ha.wrap ((Ha.wrap ((Ha.wrap (((x).fdiv (2 ^ 32))*((y).fdiv (2 ^ 32))))+((Ha.wrap ((Ha.wrap (((x).fdiv (2 ^ 32))*(Ha.wrap ((Hb 64 y &&& Hb 64 4294967295).toNat:Int))))+((Ha.wrap ((Ha.wrap ((Hb 64 x &&& Hb 64 4294967295).toNat:Int))*(Ha.wrap ((Hb 64 y &&& Hb 64 4294967295).toNat:Int)))).fdiv (2 ^ 32)))).fdiv (2 ^ 32))))+((Ha.wrap ((Ha.wrap ((Hb 64 (Ha.wrap ((Ha.wrap (((x).fdiv (2 ^ 32))*(Ha.wrap ((Hb 64 y &&& Hb 64 4294967295).toNat:Int))))+((Ha.wrap ((Ha.wrap ((Hb 64 x &&& Hb 64 4294967295).toNat:Int))*(Ha.wrap ((Hb 64 y &&& Hb 64 4294967295).toNat:Int)))).fdiv (2 ^ 32)))) &&& Hb 64 4294967295).toNat:Int))+(Ha.wrap ((Ha.wrap ((Hb 64 x &&& Hb 64 4294967295).toNat:Int))*((y).fdiv (2 ^ 32)))))).fdiv (2 ^ 32)))),U (Ha.wrap (x*y))] (Jx (Jh _) (congr (congrArg (fun a b=>Value.tuple #[U a,U b]) (Jnc hx hy)) (JbW _)))))
set_option maxRecDepth 20000 in
theorem JlQ (hi lo:Int) (hx:0≤hi∧hi<2305843009213693951) (hy:rU lo) (G:J4):Vp Tryz.prog 183 #[U hi,U lo,U 2305843009213693951] G [] (fun u G' L'=>u=.tuple #[U ((hi*18446744073709551616+lo) / 2305843009213693951),U ((hi*18446744073709551616+lo) % 2305843009213693951)]):=by
 refine JR Tryz.func183 135 [(0,U hi),(1,U lo),(2,U 2305843009213693951)] rfl (fun w0 G0=>?_)
 refine Jg [0,0] [] (Jf (Jg [0,0] [(20,Bo false)] (Qq (Jq (Jb (Jf (Jg [0,0,0] [(24,Bo (decide (2305843009213693951≤hi)))] (Jl (decide (2305843009213693951≤hi)) (fun h1=>?_) (fun h1=>?_)))))))))
 exfalso;omega
 refine Jq (Jb (Jf (Jg [0,0] [(27,Bo (decide (hi=0)))] (Jl (decide (hi=0)) (fun h2=>?_) (fun h2=>?_)))))
 refine Jf ?_
 have e1:Ha.wrap ((lo).tdiv 2305843009213693951)=lo / 2305843009213693951:=IntWalk.u64_quo _ _ (by omega)
 have e2:(lo).tmod 2305843009213693951=lo % 2305843009213693951:=HU _ _ (by omega)
 refine Kp [] (Wl [(0,U lo),(1,U 2305843009213693951),(2,U (lo / 2305843009213693951)),(3,U lo),(4,U 2305843009213693951),(5,U (lo % 2305843009213693951)),(6,U (lo / 2305843009213693951)),(7,U (lo % 2305843009213693951))] (Km [] [(0,0),(1,0),(3,0),(4,0),(6,0),(7,0)] [2,5] [(6,U (lo / 2305843009213693951)),(7,U (lo % 2305843009213693951))] (Ki ?_ (Ki ?_ K8)) ?_))
 refine Jt 2 30 (U (lo / 2305843009213693951)) [(28,U lo),(29,U 2305843009213693951)] (fun X=>?_)
 exact KV 30 (U (Ha.wrap ((lo).tdiv 2305843009213693951))) (U (lo / 2305843009213693951)) (by simp only [e1]) Jp
 refine Jt 5 33 (U (lo % 2305843009213693951)) [(31,U lo),(32,U 2305843009213693951)] (fun X=>?_)
 exact KV 33 (U ((lo).tmod 2305843009213693951)) (U (lo % 2305843009213693951)) (by simp only [e2]) Jp
 refine Jb (Jn (Jj (Jo [0,0] [U (lo / 2305843009213693951),U (lo % 2305843009213693951)] (Jx (Jh _) ?_))))
 · (subst h2;simp [Qx];done)
 refine Jq (Jb (Jf (Jd (Jc [0] [(34,U 2305843009213693951)] (Jm 35 (I 3) (Jnk  G) (Jc [0,0] [(8,U 3)] (Je (Jb (Jg [0,0,0,0] [(2,U 18446744073709551608)] (Jg [0,0,0] [(9,U 4294967295)] (Jg [0,0,0] [(10,U 4294967288)] (Jg [0,0,0,0,0,0,0,0,0] [(11,U (Ha.wrap ((Hb 64 (Ha.wrap (hi*2 ^ 3)) ||| Hb 64 ((lo).fdiv (2 ^ 61))).toNat:Int)))] ?_))))))))))))
 have e3:Ha.wrap ((Hb 64 (Ha.wrap (hi*2 ^ 3)) ||| Hb 64 ((lo).fdiv (2 ^ 61))).toNat:Int)=WB hi lo:=rfl
 refine Q2 11 (U (WB hi lo)) (congrArg U e3) ?_
 clear e3
 refine Jg [0,0,0,0] [(12,U (Ha.wrap (lo*2 ^ 3)))] ?_
 have e4:Ha.wrap (lo*2 ^ 3)=JcU lo:=rfl
 refine Q2 12 (U (JcU lo)) (congrArg U e4) ?_
 clear e4
 refine Jg [0,0,0] [(13,U ((JcU lo).fdiv (2 ^ 32)))] ?_
 have e5:(JcU lo).fdiv (2 ^ 32)=WK lo:=rfl
 refine Q2 13 (U (WK lo)) (congrArg U e5) ?_
 clear e5
 refine Jg [0,0,0] [(14,U (Ha.wrap ((Hb 64 (JcU lo) &&& Hb 64 4294967295).toNat:Int)))] ?_
 have e6:Ha.wrap ((Hb 64 (JcU lo) &&& Hb 64 4294967295).toNat:Int)=ZM lo:=rfl
 refine Q2 14 (U (ZM lo)) (congrArg U e6) ?_
 clear e6
 refine Jg [0,0,0,0] [(15,U (Ha.wrap ((WB hi lo).tdiv 4294967295)))] (Jg [0,0,0,0,0,0] [(16,U (Ha.wrap ((WB hi lo)-(Ha.wrap ((Ha.wrap ((WB hi lo).tdiv 4294967295))*4294967295)))))] (Jf (Jy ?_)))
 refine Qh (σ:=Int×Int) (fun s=>(Jbb (WB hi lo) (WK lo) s.1 s.2)) (fun s=>[(2,U 18446744073709551608),(8,U 3),(9,U 4294967295),(10,U 4294967288),(11,U (WB hi lo)),(13,U (WK lo)),(14,U (ZM lo)),(15,U s.1),(16,U s.2)]) (fun s=>G) (fun s=>[]) (fun s=>s.1.toNat) (Ha.wrap ((WB hi lo).tdiv 4294967295),Ha.wrap (WB hi lo-Ha.wrap (Ha.wrap ((WB hi lo).tdiv 4294967295)*4294967295))) (JdD (JeH hx hy) (JeI lo)) (fun s hs=>?_)
 obtain ⟨q,r⟩:=s
 have hI:=hs
 dsimp only at hI
 dsimp only
 refine Jf (Jf (Jd (Jc [0,0,0] [(69,Bo (decide (q ≥ 4294967296)))] (Ks (decide (q ≥ 4294967296)) [69] [1,1,1,1,1,1,1,1,0] [0,0,0,0,0,0,0,0,0] (fun bb=>[(78,Bo (bb || (decide (Ha.wrap (q*4294967288) > Ha.wrap ((Ha.wrap (4294967296*r))+(WK lo))))))]) (Je (Jb (Jl ((decide (q ≥ 4294967296)) || (decide (Ha.wrap (q*4294967288) > Ha.wrap ((Ha.wrap (4294967296*r))+(WK lo))))) (fun h3=>?_) (fun h3=>?_))))))))
 refine Jq (Jb (Jy (Jg [0,0,0] [(15,U (Ha.wrap (q-1)))] (JbS 15 (q-1) (by (have hm:=Yy hI ‹_›;have:=hI.e;have:=hI.u1;have:=hI.r0;have:=hI.r1;omega)) (Jg [0,0,0,0] [(16,U (Ha.wrap (r+4294967295)))] (JbS 16 (r+4294967295) (by (have hm:=Yy hI ‹_›;have:=hI.e;have:=hI.u1;have:=hI.r0;have:=hI.r1;omega)) (Jg [0,0] [(85,Bo (decide (r+4294967295 ≥ 4294967296)))] (Jl (decide (r+4294967295 ≥ 4294967296)) (fun h4=>?_) (fun h4=>?_)))))))))
 refine KW (Vg rfl (J9 (JT (Jb (Jg [0,0,0,0,0,0,0,0,0] [(17,U (Ha.wrap ((Ha.wrap ((Ha.wrap ((WB hi lo)*4294967296))+(WK lo)))-(Ha.wrap ((q-1)*18446744073709551608)))))] ?_)))))
 have e7:Ha.wrap ((Ha.wrap ((Ha.wrap ((WB hi lo)*4294967296))+(WK lo)))-(Ha.wrap ((q-1)*18446744073709551608)))=Wv (WB hi lo) (WK lo) (q-1):=rfl
 refine Q2 17 (U (Wv (WB hi lo) (WK lo) (q-1))) (congrArg U e7) ?_
 clear e7
 refine Jg [0,0,0,0] [(18,U (Ha.wrap ((Wv (WB hi lo) (WK lo) (q-1)).tdiv 4294967295)))] (Jg [0,0,0,0,0,0] [(16,U (Ha.wrap ((Wv (WB hi lo) (WK lo) (q-1))-(Ha.wrap ((Ha.wrap ((Wv (WB hi lo) (WK lo) (q-1)).tdiv 4294967295))*4294967295)))))] (Jf (Jy ?_)))
 have hD1:Dig (WB hi lo) (WK lo) (q-1):=by exact JdE hI ‹_› (by omega)
 have hb1:=JeG hD1 (JeH hx hy).1 (JeI lo).1
 refine Qh (σ:=Int×Int) (fun s=>(Jbb (Wv (WB hi lo) (WK lo) (q-1)) (ZM lo) s.1 s.2)) (fun s=>[(2,U 18446744073709551608),(8,U 3),(9,U 4294967295),(10,U 4294967288),(14,U (ZM lo)),(15,U (q-1)),(16,U s.2),(17,U (Wv (WB hi lo) (WK lo) (q-1))),(18,U s.1)]) (fun s=>G) (fun s=>[]) (fun s=>s.1.toNat) (Ha.wrap ((Wv (WB hi lo) (WK lo) (q-1)).tdiv 4294967295),Ha.wrap (Wv (WB hi lo) (WK lo) (q-1)-Ha.wrap (Ha.wrap ((Wv (WB hi lo) (WK lo) (q-1)).tdiv 4294967295)*4294967295))) (JdD hb1.2 (Jhf lo)) (fun s hs=>?_)
 obtain ⟨q2,r2⟩:=s
 have hJ:=hs
 dsimp only at hJ
 dsimp only
 refine Jf (Jf (Jd (Jc [0,0,0] [(104,Bo (decide (q2 ≥ 4294967296)))] (Ks (decide (q2 ≥ 4294967296)) [104] [1,1,1,1,1,1,1,1,0] [0,0,0,0,0,0,0,0,0] (fun bb=>[(113,Bo (bb || (decide (Ha.wrap (q2*4294967288) > Ha.wrap ((Ha.wrap (4294967296*r2))+(ZM lo))))))]) (Je (Jb (Jl ((decide (q2 ≥ 4294967296)) || (decide (Ha.wrap (q2*4294967288) > Ha.wrap ((Ha.wrap (4294967296*r2))+(ZM lo))))) (fun h5=>?_) (fun h5=>?_))))))))
 refine Jq (Jb (Jy (Jg [0,0,0] [(18,U (Ha.wrap (q2-1)))] (JbS 18 (q2-1) (by (have hm:=Yy hJ ‹_›;have:=hJ.e;have:=hJ.u1;have:=hJ.r0;have:=hJ.r1;omega)) (Jg [0,0,0,0] [(16,U (Ha.wrap (r2+4294967295)))] (JbS 16 (r2+4294967295) (by (have hm:=Yy hJ ‹_›;have:=hJ.e;have:=hJ.u1;have:=hJ.r0;have:=hJ.r1;omega)) (Jg [0,0] [(120,Bo (decide (r2+4294967295 ≥ 4294967296)))] (Jl (decide (r2+4294967295 ≥ 4294967296)) (fun h6=>?_) (fun h6=>?_)))))))))
 refine KW (Vg rfl (J9 (JT (Jb (Jg [0,0,0,0,0,0,0,0,0,0,0,0,0,0,0,0] [(6,U (Ha.wrap ((Ha.wrap ((q-1)*4294967296))+(q2-1)))),(7,U ((Ha.wrap ((Ha.wrap ((Ha.wrap ((Wv (WB hi lo) (WK lo) (q-1))*4294967296))+(ZM lo)))-(Ha.wrap ((q2-1)*18446744073709551608)))).fdiv (2 ^ 3)))] ?_)))))
 have e8:Ha.wrap ((Ha.wrap ((Ha.wrap ((Wv (WB hi lo) (WK lo) (q-1))*4294967296))+(ZM lo)))-(Ha.wrap ((q2-1)*18446744073709551608)))=Wv (Wv (WB hi lo) (WK lo) (q-1)) (ZM lo) (q2-1):=rfl
 refine Q2 7 (U ((Wv (Wv (WB hi lo) (WK lo) (q-1)) (ZM lo) (q2-1)).fdiv (2 ^ 3))) (show (U ((Ha.wrap ((Ha.wrap ((Ha.wrap ((Wv (WB hi lo) (WK lo) (q-1))*4294967296))+(ZM lo)))-(Ha.wrap ((q2-1)*18446744073709551608)))).fdiv (2 ^ 3)):Value)=U ((Wv (Wv (WB hi lo) (WK lo) (q-1)) (ZM lo) (q2-1)).fdiv (2 ^ 3)) by simp only [e8]) ?_
 clear e8
 refine Jn (Jo [0,0] [U (Ha.wrap ((Ha.wrap ((q-1)*4294967296))+(q2-1))),U ((Wv (Wv (WB hi lo) (WK lo) (q-1)) (ZM lo) (q2-1)).fdiv (2 ^ 3))] (Jx (Jh _) ?_))
 (have hD2:Dig _ _ _:=(by exact JdE hJ ‹_› (by omega));have he:=JeJ hx hy hD1 hD2;exact congr (congrArg (fun a b=>Value.tuple #[U a,U b]) he.1) he.2)
 exact Jq (JN (Qi (q2-1,r2+4294967295) (Jfc hJ ‹_› J8) (by dsimp only;have:=(Yy hJ ‹_›).1;omega)))
 refine KW (JY (J9 (JT (Jb (Jg [0,0,0,0,0,0,0,0,0,0,0,0,0,0,0,0] [(6,U (Ha.wrap ((Ha.wrap ((q-1)*4294967296))+q2))),(7,U ((Ha.wrap ((Ha.wrap ((Ha.wrap ((Wv (WB hi lo) (WK lo) (q-1))*4294967296))+(ZM lo)))-(Ha.wrap (q2*18446744073709551608)))).fdiv (2 ^ 3)))] ?_)))))
 have e9:Ha.wrap ((Ha.wrap ((Ha.wrap ((Wv (WB hi lo) (WK lo) (q-1))*4294967296))+(ZM lo)))-(Ha.wrap (q2*18446744073709551608)))=Wv (Wv (WB hi lo) (WK lo) (q-1)) (ZM lo) q2:=rfl
 refine Q2 7 (U ((Wv (Wv (WB hi lo) (WK lo) (q-1)) (ZM lo) q2).fdiv (2 ^ 3))) (show (U ((Ha.wrap ((Ha.wrap ((Ha.wrap ((Wv (WB hi lo) (WK lo) (q-1))*4294967296))+(ZM lo)))-(Ha.wrap (q2*18446744073709551608)))).fdiv (2 ^ 3)):Value)=U ((Wv (Wv (WB hi lo) (WK lo) (q-1)) (ZM lo) q2).fdiv (2 ^ 3)) by simp only [e9]) ?_
 clear e9
 refine Jn (Jo [0,0] [U (Ha.wrap ((Ha.wrap ((q-1)*4294967296))+q2)),U ((Wv (Wv (WB hi lo) (WK lo) (q-1)) (ZM lo) q2).fdiv (2 ^ 3))] (Jx (Jh _) ?_))
 (have hD2:Dig _ _ _:=(by exact Jfd hJ ‹_›);have he:=JeJ hx hy hD1 hD2;exact congr (congrArg (fun a b=>Value.tuple #[U a,U b]) he.1) he.2)
 exact Jq (JN (Qi (q-1,r+4294967295) (Jfc hI ‹_› J8) (by dsimp only;have:=(Yy hI ‹_›).1;omega)))
 refine KW (JY (J9 (JT (Jb (Jg [0,0,0,0,0,0,0,0,0] [(17,U (Ha.wrap ((Ha.wrap ((Ha.wrap ((WB hi lo)*4294967296))+(WK lo)))-(Ha.wrap (q*18446744073709551608)))))] ?_)))))
 have e10:Ha.wrap ((Ha.wrap ((Ha.wrap ((WB hi lo)*4294967296))+(WK lo)))-(Ha.wrap (q*18446744073709551608)))=Wv (WB hi lo) (WK lo) q:=rfl
 refine Q2 17 (U (Wv (WB hi lo) (WK lo) q)) (congrArg U e10) ?_
 clear e10
 refine Jg [0,0,0,0] [(18,U (Ha.wrap ((Wv (WB hi lo) (WK lo) q).tdiv 4294967295)))] (Jg [0,0,0,0,0,0] [(16,U (Ha.wrap ((Wv (WB hi lo) (WK lo) q)-(Ha.wrap ((Ha.wrap ((Wv (WB hi lo) (WK lo) q).tdiv 4294967295))*4294967295)))))] (Jf (Jy ?_)))
 have hD1:Dig (WB hi lo) (WK lo) q:=by exact Jfd hI ‹_›
 have hb1:=JeG hD1 (JeH hx hy).1 (JeI lo).1
 refine Qh (σ:=Int×Int) (fun s=>(Jbb (Wv (WB hi lo) (WK lo) q) (ZM lo) s.1 s.2)) (fun s=>[(2,U 18446744073709551608),(8,U 3),(9,U 4294967295),(10,U 4294967288),(14,U (ZM lo)),(15,U q),(16,U s.2),(17,U (Wv (WB hi lo) (WK lo) q)),(18,U s.1)]) (fun s=>G) (fun s=>[]) (fun s=>s.1.toNat) (Ha.wrap ((Wv (WB hi lo) (WK lo) q).tdiv 4294967295),Ha.wrap (Wv (WB hi lo) (WK lo) q-Ha.wrap (Ha.wrap ((Wv (WB hi lo) (WK lo) q).tdiv 4294967295)*4294967295))) (JdD hb1.2 (Jhf lo)) (fun s hs=>?_)
 obtain ⟨q2,r2⟩:=s
 have hJ:=hs
 dsimp only at hJ
 dsimp only
 refine Jf (Jf (Jd (Jc [0,0,0] [(104,Bo (decide (q2 ≥ 4294967296)))] (Ks (decide (q2 ≥ 4294967296)) [104] [1,1,1,1,1,1,1,1,0] [0,0,0,0,0,0,0,0,0] (fun bb=>[(113,Bo (bb || (decide (Ha.wrap (q2*4294967288) > Ha.wrap ((Ha.wrap (4294967296*r2))+(ZM lo))))))]) (Je (Jb (Jl ((decide (q2 ≥ 4294967296)) || (decide (Ha.wrap (q2*4294967288) > Ha.wrap ((Ha.wrap (4294967296*r2))+(ZM lo))))) (fun h7=>?_) (fun h7=>?_))))))))
 refine Jq (Jb (Jy (Jg [0,0,0] [(18,U (Ha.wrap (q2-1)))] (JbS 18 (q2-1) (by (have hm:=Yy hJ ‹_›;have:=hJ.e;have:=hJ.u1;have:=hJ.r0;have:=hJ.r1;omega)) (Jg [0,0,0,0] [(16,U (Ha.wrap (r2+4294967295)))] (JbS 16 (r2+4294967295) (by (have hm:=Yy hJ ‹_›;have:=hJ.e;have:=hJ.u1;have:=hJ.r0;have:=hJ.r1;omega)) (Jg [0,0] [(120,Bo (decide (r2+4294967295 ≥ 4294967296)))] (Jl (decide (r2+4294967295 ≥ 4294967296)) (fun h8=>?_) (fun h8=>?_)))))))))
 refine KW (Vg rfl (J9 (JT (Jb (Jg [0,0,0,0,0,0,0,0,0,0,0,0,0,0,0,0] [(6,U (Ha.wrap ((Ha.wrap (q*4294967296))+(q2-1)))),(7,U ((Ha.wrap ((Ha.wrap ((Ha.wrap ((Wv (WB hi lo) (WK lo) q)*4294967296))+(ZM lo)))-(Ha.wrap ((q2-1)*18446744073709551608)))).fdiv (2 ^ 3)))] ?_)))))
 have e11:Ha.wrap ((Ha.wrap ((Ha.wrap ((Wv (WB hi lo) (WK lo) q)*4294967296))+(ZM lo)))-(Ha.wrap ((q2-1)*18446744073709551608)))=Wv (Wv (WB hi lo) (WK lo) q) (ZM lo) (q2-1):=rfl
 refine Q2 7 (U ((Wv (Wv (WB hi lo) (WK lo) q) (ZM lo) (q2-1)).fdiv (2 ^ 3))) (show (U ((Ha.wrap ((Ha.wrap ((Ha.wrap ((Wv (WB hi lo) (WK lo) q)*4294967296))+(ZM lo)))-(Ha.wrap ((q2-1)*18446744073709551608)))).fdiv (2 ^ 3)):Value)=U ((Wv (Wv (WB hi lo) (WK lo) q) (ZM lo) (q2-1)).fdiv (2 ^ 3)) by simp only [e11]) ?_
 clear e11
 refine Jn (Jo [0,0] [U (Ha.wrap ((Ha.wrap (q*4294967296))+(q2-1))),U ((Wv (Wv (WB hi lo) (WK lo) q) (ZM lo) (q2-1)).fdiv (2 ^ 3))] (Jx (Jh _) ?_))
 (have hD2:Dig _ _ _:=(by exact JdE hJ ‹_› (by omega));have he:=JeJ hx hy hD1 hD2;exact congr (congrArg (fun a b=>Value.tuple #[U a,U b]) he.1) he.2)
 exact Jq (JN (Qi (q2-1,r2+4294967295) (Jfc hJ ‹_› J8) (by dsimp only;have:=(Yy hJ ‹_›).1;omega)))
 refine KW (JY (J9 (JT (Jb (Jg [0,0,0,0,0,0,0,0,0,0,0,0,0,0,0,0] [(6,U (Ha.wrap ((Ha.wrap (q*4294967296))+q2))),(7,U ((Ha.wrap ((Ha.wrap ((Ha.wrap ((Wv (WB hi lo) (WK lo) q)*4294967296))+(ZM lo)))-(Ha.wrap (q2*18446744073709551608)))).fdiv (2 ^ 3)))] ?_)))))
 have e12:Ha.wrap ((Ha.wrap ((Ha.wrap ((Wv (WB hi lo) (WK lo) q)*4294967296))+(ZM lo)))-(Ha.wrap (q2*18446744073709551608)))=Wv (Wv (WB hi lo) (WK lo) q) (ZM lo) q2:=rfl
 refine Q2 7 (U ((Wv (Wv (WB hi lo) (WK lo) q) (ZM lo) q2).fdiv (2 ^ 3))) (show (U ((Ha.wrap ((Ha.wrap ((Ha.wrap ((Wv (WB hi lo) (WK lo) q)*4294967296))+(ZM lo)))-(Ha.wrap (q2*18446744073709551608)))).fdiv (2 ^ 3)):Value)=U ((Wv (Wv (WB hi lo) (WK lo) q) (ZM lo) q2).fdiv (2 ^ 3)) by simp only [e12]) ?_
 clear e12
 refine Jn (Jo [0,0] [U (Ha.wrap ((Ha.wrap (q*4294967296))+q2)),U ((Wv (Wv (WB hi lo) (WK lo) q) (ZM lo) q2).fdiv (2 ^ 3))] (Jx (Jh _) ?_))
 (have hD2:Dig _ _ _:=(by exact Jfd hJ ‹_›);have he:=JeJ hx hy hD1 hD2;exact congr (congrArg (fun a b=>Value.tuple #[U a,U b]) he.1) he.2)
theorem JlR (hi lo:Int) (hx:rU hi) (hy:rU lo) (G:J4):Vp Tryz.prog 129 #[U hi,U lo,U 2305843009213693951] G [] (fun u G' L'=>u=U ((hi*18446744073709551616+lo) % 2305843009213693951)):=by
 refine JR Tryz.func129 19 [(0,U hi),(1,U lo),(2,U 2305843009213693951)] rfl (fun w0 G0=>?_)
 refine Jg [0] [] (Jf (Jd (Jc [0,0,0,0,0] [(12,U ((hi).tmod 2305843009213693951)),(13,U lo),(14,U 2305843009213693951)] ?_)))
 have e1:(hi).tmod 2305843009213693951=hi % 2305843009213693951:=HU _ _ (by omega)
 refine KU 12 (U (hi % 2305843009213693951)) (congrArg U e1) ?_
 clear e1
 exact Jm 15 (.tuple #[U (((hi % 2305843009213693951)*18446744073709551616+lo) / 2305843009213693951),U (((hi % 2305843009213693951)*18446744073709551616+lo) % 2305843009213693951)]) (JlQ (hi % 2305843009213693951) lo J8 J8 G) (Jc [0,0,0,0,0] [(8,U (((hi % 2305843009213693951)*18446744073709551616+lo) % 2305843009213693951))] (Je (Jb (Jg [0,0] [(6,U (((hi % 2305843009213693951)*18446744073709551616+lo) % 2305843009213693951))] (Jn (Jo [0] [U (((hi % 2305843009213693951)*18446744073709551616+lo) % 2305843009213693951)] (Jx (Jh _) (congrArg U J8))))))))
theorem JlS (a b:Int) (hx:rU a) (hy:rU b) (G:J4):Vp Tryz.prog 75 #[U a,U b] G [] (fun u G' L'=>u=U (WG a b)):=by
 refine JR Tryz.func75 16 [(0,U a),(1,U b)] rfl (fun w0 G0=>?_)
 exact Jg [0] [] (Jf (Jd (Jc [0,0] [(8,U a),(9,U b)] (Jm 10 (.tuple #[U (a*b / 18446744073709551616),U (a*b % 18446744073709551616)]) (JgF a b J8 J8 G) (Jc [0,0,0,0,0] [(5,U (a*b / 18446744073709551616)),(6,U (a*b % 18446744073709551616))] (Je (Jb (Jf (Jd (Jc [0,0] [(13,U (a*b / 18446744073709551616)),(14,U (a*b % 18446744073709551616))] (Jm 15 (U (((a*b / 18446744073709551616)*18446744073709551616+(a*b % 18446744073709551616)) % 2305843009213693951)) (JlR (a*b / 18446744073709551616) (a*b % 18446744073709551616) (by exact JlN J8 J8) J8 G) (Jc [0] [(4,U (((a*b / 18446744073709551616)*18446744073709551616+(a*b % 18446744073709551616)) % 2305843009213693951))] (Je (Jb (Jn (Jo [0] [U (((a*b / 18446744073709551616)*18446744073709551616+(a*b % 18446744073709551616)) % 2305843009213693951)] (Jx (Jh _) (congrArg U (by unfold WG;omega)))))))))))))))))))
def Qb (k a b:Int):List UInt8:=(([k]:List Int).map (fun n=>He n.toNat)++K1 a)++K1 b
theorem ZG (k a b:Int):(Qb k a b).length=17:=by simp [Qb]
theorem ZW (l:List UInt8) (hl:l.length≤140737488355328) (G:J4):Vp Tryz.prog 44 #[Sr l] G [] (fun u G' L'=>u=U (Ji l)):=by
 refine JR Tryz.func44 21 [(0,Sr l)] rfl (fun w0 G0=>?_)
 refine Jg [0] [] (Jg [0] [(3,U 1)] (Jf (Jg [0,0,0] [(6,I ((l).length:Int)),(7,I 0)] (Jy ?_))))
 refine Qh (σ:=Nat×Int) (fun s=>(s.1≤l.length)∧(0≤s.2∧s.2<2305843009213693951)∧(s.2=(l.take s.1).foldl Jeb 1)) (fun s=>[(0,Sr l),(3,U s.2),(6,I ((l).length:Int)),(7,I (s.1:Int))]) (fun s=>G) (fun s=>[]) (fun s=>l.length-s.1) (0,1) (⟨Hl _,by omega,by simp⟩) (fun s hs=>?_)
 obtain ⟨i,m⟩:=s
 obtain ⟨hi,hb,hm⟩:=hs
 dsimp only at hi hb hm
 dsimp only
 refine Jg [0] [(8,Bo (decide ((i:Int)<((l).length:Int))))] (Jf (Jl (decide ((i:Int)<((l).length:Int))) (fun h1=>?_) (fun h1=>?_)))
 refine Jq (Jb (Jf (Jy (Jg [0,0] [(4,I (i:Int))] ?_))))
 obtain ⟨y1,hy1⟩:=Wf (l:=l) (k:=i) (by omega)
 have e1:Ha.wrap (y1.toNat:Int)=(y1.toNat:Int):=HK _ (by (have:=JbX m 1099511628211;have:=y1.toNat_lt;omega))
 have e2:Ha.wrap ((WG m 1099511628211)+(y1.toNat:Int))=(WG m 1099511628211)+(y1.toNat:Int):=HK _ (by (have:=JbX m 1099511628211;have:=y1.toNat_lt;omega))
 have e3:Ha.wrap (((WG m 1099511628211)+(y1.toNat:Int))+1)=((WG m 1099511628211)+(y1.toNat:Int))+1:=HK _ (by (have:=JbX m 1099511628211;have:=y1.toNat_lt;omega))
 have e4:(((WG m 1099511628211)+(y1.toNat:Int))+1).tmod 2305843009213693951=(((WG m 1099511628211)+(y1.toNat:Int))+1) % 2305843009213693951:=HU _ _ (by (have:=JbX m 1099511628211;have:=y1.toNat_lt;omega))
 refine Kp [] (Wl [(0,U m),(1,U (WG m 1099511628211)),(2,Sr l),(3,I (i:Int)),(4,Y (y1.toNat:Int)),(5,U (y1.toNat:Int)),(6,U ((WG m 1099511628211)+(y1.toNat:Int))),(7,U (((WG m 1099511628211)+(y1.toNat:Int))+1)),(8,U ((((WG m 1099511628211)+(y1.toNat:Int))+1) % 2305843009213693951)),(9,U ((((WG m 1099511628211)+(y1.toNat:Int))+1) % 2305843009213693951))] (Km [] [(0,0),(2,0),(3,0),(9,0)] [1,4,5,6,7,8] [(0,Sr l),(3,U ((((WG m 1099511628211)+(y1.toNat:Int))+1) % 2305843009213693951)),(6,I ((l).length:Int)),(7,I (i:Int))] (Ki ?_ (Ki ?_ (Ki ?_ (Ki ?_ (Ki ?_ (Ki ?_ K8)))))) ?_))
 refine Jt 1 11 (U (WG m 1099511628211)) [(10,U m)] (fun X=>?_)
 exact Jm 11 (U (WG m 1099511628211)) (JlS m 1099511628211 J8 J8 G) Jp
 refine Jt 4 14 (Y (y1.toNat:Int)) [(12,Sr l),(13,I (i:Int))] (fun X=>?_)
 exact JaW (ik:=.i64) 14 i y1 hy1 Jp
 refine Jt 5 15 (U (y1.toNat:Int)) [(14,Y (y1.toNat:Int))] (fun X=>?_)
 exact KV 15 (U (Ha.wrap (y1.toNat:Int))) (U (y1.toNat:Int)) (by simp only [e1]) Jp
 refine Jt 6 16 (U ((WG m 1099511628211)+(y1.toNat:Int))) [(11,U (WG m 1099511628211)),(15,U (y1.toNat:Int))] (fun X=>?_)
 exact KV 16 (U (Ha.wrap ((WG m 1099511628211)+(y1.toNat:Int)))) (U ((WG m 1099511628211)+(y1.toNat:Int))) (by simp only [e2]) Jp
 refine Jt 7 17 (U (((WG m 1099511628211)+(y1.toNat:Int))+1)) [(16,U ((WG m 1099511628211)+(y1.toNat:Int)))] (fun X=>?_)
 exact KV 17 (U (Ha.wrap (((WG m 1099511628211)+(y1.toNat:Int))+1))) (U (((WG m 1099511628211)+(y1.toNat:Int))+1)) (by simp only [e3]) Jp
 refine Jt 8 18 (U ((((WG m 1099511628211)+(y1.toNat:Int))+1) % 2305843009213693951)) [(17,U (((WG m 1099511628211)+(y1.toNat:Int))+1))] (fun X=>?_)
 exact KV 18 (U ((((WG m 1099511628211)+(y1.toNat:Int))+1).tmod 2305843009213693951)) (U ((((WG m 1099511628211)+(y1.toNat:Int))+1) % 2305843009213693951)) (by simp only [e4]) Jp
 exact JN (Jb (Jd (Jc [0,0] [(7,I (Hj.wrap ((i:Int)+1)))] (Kr 7 ((i:Int)+1) J8 (Je (Qi (i+1,(((WG m 1099511628211)+(y1.toNat:Int))+1) % 2305843009213693951) (⟨by omega,by dsimp only;omega,by rw [hm];exact (JjF (f:=Jeb) hy1).symm⟩) (by dsimp only;omega)))))))
 exact KW (JY (J9 (JT (Jb (Jg [0,0] [(2,U m)] (Jn (Jo [0] [U m] (Jx (Jh _) (congrArg U (by rw [hm,Hk (by omega)];rfl))))))))))
theorem Jbc (k x y:Int) (G:J4):Vp Tryz.prog 128 #[Y k,U x,U y] G [] (fun u G' L'=>u=Sr (Qb k x y)):=by
 refine JR Tryz.func128 16 [(0,Y k),(1,U x),(2,U y)] rfl (fun w0 G0=>?_)
 refine Jg [0] [] (Jf (Kp [1] (Wl [(0,Y k),(3,U x),(4,Sr (K1 x)),(6,U y),(7,Sr (K1 y))] (JK [] [(0,0),(3,0),(6,0)] [4,7] [1] (Ki ?_ (Ki ?_ K8)) (Ki ?_ K8)))))
 refine Jt 4 11 (Sr (K1 x)) [(10,U x)] (fun X=>?_)
 exact Jm 11 (Sr (K1 x)) (Yg x G) Jp
 refine Jt 7 14 (Sr (K1 y)) [(13,U y)] (fun X=>?_)
 exact Jm 14 (Sr (K1 y)) (Yg y G) Jp
 refine JC 1 [(7,Y k)] (fun X=>?_)
 refine Kt 8 1 #[Y k] 5 (fun b1=>JD [(1,Sl (At b1 0) 1 1),(2,Sr (([k]:List Int).map fun n=>He n.toNat)),(5,Sr ((([k]:List Int).map fun n=>He n.toNat)++(K1 x))),(8,Sr (((([k]:List Int).map fun n=>He n.toNat)++(K1 x))++(K1 y))),(9,Sr (((([k]:List Int).map fun n=>He n.toNat)++(K1 x))++(K1 y)))] (Km [0] [(3,0),(6,0),(9,0)] [2,4,5,7,8] [(6,Sr (((([k]:List Int).map fun n=>He n.toNat)++(K1 x))++(K1 y)))] (Ki ?_ (Ki ?_ (Ki ?_ (Ki ?_ (Ki ?_ K8))))) ?_))
 refine Jt 2 9 (Sr (([k]:List Int).map fun n=>He n.toNat)) [(8,Sl (At b1 0) 1 1)] (fun X=>?_)
 exact JaX (b:=b1) (off:=0) (len:=1) (cap:=1) (cs:=HX (Value.int .u8) [k]) 9 0 [k] rfl (V6 (ns:=[k]) rfl) Jp
 refine Jt 4 11 (Sr (K1 x)) [(10,U x)] (fun X=>?_)
 exact Jm 11 (Sr (K1 x)) (Yg x G) Jp
 refine Jt 5 12 (Sr ((([k]:List Int).map fun n=>He n.toNat)++(K1 x))) [(9,Sr (([k]:List Int).map fun n=>He n.toNat)),(11,Sr (K1 x))] (fun X=>?_)
 exact ZJ 12 (([k]:List Int).map fun n=>He n.toNat) (K1 x) (by simp) Jp
 refine Jt 7 14 (Sr (K1 y)) [(13,U y)] (fun X=>?_)
 exact Jm 14 (Sr (K1 y)) (Yg y G) Jp
 refine Jt 8 15 (Sr (((([k]:List Int).map fun n=>He n.toNat)++(K1 x))++(K1 y))) [(12,Sr ((([k]:List Int).map fun n=>He n.toNat)++(K1 x))),(14,Sr (K1 y))] (fun X=>?_)
 exact ZJ 15 ((([k]:List Int).map fun n=>He n.toNat)++(K1 x)) (K1 y) (by simp) Jp
 refine Jb (Jn (Jo [0] [Sr (((([k]:List Int).map fun n=>He n.toNat)++(K1 x))++(K1 y))] (Jx (Jh _) ?_)))
 rfl
theorem Jif (k x y:Int) (G:J4):Vp Tryz.prog 241 #[Y k,U x,U y] G [] (fun u G' L'=>u=U (Ji (Qb k x y))):=by
 refine JR Tryz.func241 12 [(0,Y k),(1,U x),(2,U y)] rfl (fun w0 G0=>?_)
 refine Jg [0] [] (Jf (Jd (Jc [0,0,0] [(7,Y k),(8,U x),(9,U y)] (Jm 10 (Sr (Qb k x y)) (Jbc k x y G) (Jm 11 (U (Ji (Qb k x y))) (ZW (Qb k x y) (by (simp [Qb];done)) G) (Jc [0] [(6,U (Ji (Qb k x y)))] (Je (Jb (Jn (Jo [0] [U (Ji (Qb k x y))] (Jx (Jh _) ?_)))))))))))
 rfl
def YU (y:Int):UInt8:=He y.toNat
theorem u8w (x:Int):0≤Hc.wrap x∧Hc.wrap x<256:=by rw [Jhd];omega
theorem Jnl {y:Int} (h:0≤y∧y<256):y=((YU y).toNat:Int):=by
 unfold YU;rw [UInt8.toNat_ofNat'];omega
theorem JlT {p:Int→Bool} {s:List UInt8} {pos:Nat} (hp:pos<s.length) (h:p ((Utf8.decode (B s) pos).1:Int)=false) :
  Jba p s (s.length-(pos+(Utf8.decode (B s) pos).2)) (pos+(Utf8.decode (B s) pos).2)=Jba p s (s.length-pos) pos:=by
 have hw:=JmX s pos
 rw [JkL _ (s.length-pos-1) _ (by omega) (by omega)]
 obtain ⟨n,hn⟩:∃ n,s.length-pos=n+1:=⟨s.length-pos-1,by omega⟩
 rw [hn]
 show _=(if pos<s.length then (if p _ then (pos:Int) else Jba p s n (pos+(Utf8.decode (B s) pos).2)) else -1)
 rw [if_pos hp,if_neg (by rw [h];simp)]
 rfl
theorem JjM {p:Int→Bool} {s:List UInt8} {pos:Nat} (hp:pos<s.length) (h:p ((Utf8.decode (B s) pos).1:Int)=true):Jba p s (s.length-pos) pos=(pos:Int):=by
 obtain ⟨n,hn⟩:∃ n,s.length-pos=n+1:=⟨s.length-pos-1,by omega⟩
 rw [hn];unfold Jba;rw [if_pos hp,if_pos h]
theorem Jnm {p:Int→Bool} {s:List UInt8} {n pos:Nat} (hp:¬ pos<s.length):Jba p s n pos=-1:=by
 cases n with
 | zero=>rfl
 | succ n=>unfold Jba;rw [if_neg hp]
def Vi (s:List UInt8) (p:Int→Bool) (t:Bool):Int:=Jba (fun r=>p r == t) s s.length 0
def VK (s:List UInt8) (p:Int→Bool):Int:=Vi s p true
def Jbd (s:List UInt8) (p:Int→Bool):Bool:=decide (VK s p ≥ 0)
theorem JjN {s:List UInt8} {p:Int→Bool} (hp:∀ r:Int,128≤r→p r=true):Jbd s p=s.any fun b=>p (b.toNat:Int):=by
 unfold Jbd VK Vi
 have:=Jh5 (p:=fun r=>p r == true) (fun r h=>by simp [hp r h]) (l:=s) s.length 0 (by omega)
 simpa using this
def Jbs (r:Int):Bool:=decide (97≤r∧r≤122) || decide (48≤r∧r≤57)
def VD (r:Int):Bool:=!Jbs r
def KJ (s:List UInt8):Bool:=decide (1≤s.length) && decide (s.length≤12) && !Jbd s VD
theorem Jhi {s:List UInt8}:KJ s=true ↔ 1≤s.length∧s.length≤12∧∀ b∈s,Jbs (b.toNat:Int)=true:=by
 unfold KJ
 rw [JjN (fun r h=>by unfold VD Jbs;simp;omega)]
 simp [VD,and_assoc]
def putC (p:List UInt8):List UInt8:=YU (Hc.wrap ((p.length:Int).fdiv (2 ^ 8)))::YU (Hc.wrap (p.length:Int))::p
def JfW (l:List (List UInt8)):List UInt8:=(l.map putC).flatten
def JcY:Nat→List (List UInt8)→Bool
 | _,[]=>true
 | n,p::l=>decide (n+2+p.length≤600) && JcY (n+2+p.length) l
theorem JlU {l:List (List UInt8)} {i:Nat} {x:List UInt8} (h:l[i]? = some x):((JfW (l.take i)++[YU (Hc.wrap ((x.length:Int).fdiv (2 ^ 8)))])++[YU (Hc.wrap (x.length:Int))])++x=JfW (l.take (i+1)):=by
 rw [HB,h];simp [JfW,putC]
theorem JjO {l:List (List UInt8)} {i n:Nat} {x:List UInt8} (h:l[i]? = some x) (hn:n+2+x.length≤600):JcY n (l.drop i)=JcY (((n+1)+1)+x.length) (l.drop (i+1)):=by
 obtain ⟨hi,rfl⟩:=Hh.1 h
 rw [Hp hi]
 show (decide _ && _)=_
 rw [decide_eq_true hn];rfl
theorem Jnn {l:List (List UInt8)} {i n:Nat} {x:List UInt8} (h:l[i]? = some x) (hn:600<n+2+x.length):JcY n (l.drop i)=false:=by
 obtain ⟨hi,rfl⟩:=Hh.1 h
 rw [Hp hi]
 show (decide _ && _)=_
 rw [decide_eq_false (by omega)];rfl
def Vq (l:List (List UInt8)):List UInt8×Int:=if 60<l.length then ([],2) else if JcY 0 l then (JfW l,0) else ([],2)
theorem JgG (G:J4) (b:Nat) (A:Value) (a:Option Addr) (n c:Nat) (hA:A=.pointer none∨A=Pt b 0):Jg7 Tryz.prog 144 #[Pt b 0] G [[Vb 165 b 0 [A,Sl a n c]]] (fun u G' L'=>u=.tuple #[]∧L'=[[Vb 165 b 0 [Pt b 0,Sl a n c]]]):=by
 rcases hA with rfl | rfl
 intro Lr
 refine JR Tryz.func144 20 [(0,Pt b 0)] rfl (fun w0 G0=>?_)
 show TC _ _ _ _ _ ([Vb 165 b 0 [.pointer none,Sl a n c]]::Lr)
 refine Jg [0,0,0,2,0] [(6,Bo true)] (JW (Jd (Jc [0,0] [(7,Pt b 0),(8,Pt b 0)] ?_)))
 refine Jh4 (cs:=[.pointer none,Sl a n c]) 9 0 165 165 true ?_
 refine JmW (f:=197) (args:=#[Pt b 0]) 10 (Pt b 0) (fun w=>by rw [run_callFunc_extern (e:=Extern.AbiNoEscape.same) Tryz.func197 (by kernel_rfl) (by kernel_rfl) (by kernel_rfl) (by kernel_rfl)];rfl) ?_
 refine Jh4 (cs:=[.pointer none,Sl a n c]) 11 0 165 165 false ?_
 exact JV [0,0,3] [] ([Vb 165 b 0 [Pt b 0,Sl a n c]]::Lr) (Je (ZD [] [] (KT (Lr:=Lr) [[Vb 165 b 0 [Pt b 0,Sl a n c]]] (Jh _) (⟨rfl,rfl⟩))))
 intro Lr
 refine JR Tryz.func144 20 [(0,Pt b 0)] rfl (fun w0 G0=>?_)
 show TC _ _ _ _ _ ([Vb 165 b 0 [Pt b 0,Sl a n c]]::Lr)
 exact Jg [0,0,0,2,0] [(6,Bo false)] (Qq (Jf (Jd (Jc [0,0,0,2,0] [(17,Pt b 0),(18,Pt b 0)] (JjA 19 (b:=b) (o':=0) (eq:=false) (Je (Jb (Qq (Jq (ZD [] [] (KT (Lr:=Lr) [[Vb 165 b 0 [Pt b 0,Sl a n c]]] (Jh _) (⟨rfl,rfl⟩))))))))))))
theorem Jno (G:J4) (b:Nat) (A:Value) (a:Option Addr) (c:Nat) (l:List UInt8) (r:List Kh) (hb:Ja9 5 a c l r) (hA:A=.pointer none∨A=Pt b 0):Jg7 Tryz.prog 245 #[Pt b 0] G [[Vb 165 b 0 [A,Sl a l.length c]],r] (fun u G' L'=>u=I (l.length:Int)∧L'=[[Vb 165 b 0 [A,Sl a l.length c]],r]):=by
 intro Lr
 refine JR Tryz.func245 8 [(0,Pt b 0)] rfl (fun w0 G0=>?_)
 show TC _ _ _ _ _ ([Vb 165 b 0 [A,Sl a l.length c]]::r::Lr)
 exact Jg [0] [] (Jg [0,0,0,2,0,0] [(2,I (l.length:Int))] (Jn (Jo [0] [I (l.length:Int)] (KT (Lr:=Lr) [[Vb 165 b 0 [A,Sl a l.length c]],r] (Jh _) (⟨rfl,rfl⟩)))))
theorem JbC (G:J4) (b:Nat) (A:Value) (a:Option Addr) (c:Nat) (l:List UInt8) (r:List Kh) (hb:Ja9 5 a c l r) (hA:A=.pointer none∨A=Pt b 0) (y:Int) (hy:0≤y∧y<256) (hl:l.length+1≤140737488355328):Jg7 Tryz.prog 246 #[Pt b 0,Y y] G [[Vb 165 b 0 [A,Sl a l.length c]],r] (fun u G' L'=>∃ a' c' r',u=.nilIface∧Ja9 5 a' c' (l++[YU y]) r'∧L'=[[Vb 165 b 0 [Pt b 0,Sl a' (l++[YU y]).length c']],r']):=by
 intro Lr
 refine JR Tryz.func246 17 [(0,Pt b 0),(1,Y y)] rfl (fun w0 G0=>?_)
 show TC _ _ _ _ _ ([Vb 165 b 0 [A,Sl a l.length c]]::r::Lr)
 refine Jg [0] [] (Jf (Jd (Jc [0] [(5,Pt b 0)] (Jw 0 (Qp (Ls:=[[Vb 165 b 0 [A,Sl a l.length c]]]) (Lr:=(r::Lr)) 6 (JgG G b A a l.length c hA) (fun v G1 L1 hl1 hp=>?_))))))
 obtain ⟨rfl,rfl⟩:=hp
 exact Je (Jb (Jf (Jd (Jc [0,0,0,0,2,0] [(7,Pt b 0),(11,Sl a l.length c),(12,Y y)] (Kt 13 1 #[Y y] 5 (fun b1=>JlE (b:=b1) 14 5 2 0 (YU y) y (Jnl ‹_›) hb J8 (fun a1 c1 r1 hb1=>JV [0,0,5] [] ([Sg b1 0 [Y y]]::[Vb 165 b 0 [Pt b 0,Sl a1 ((l++[YU y]).length) c1]]::r1::Lr) (Je (Jb (Jg [0] [(4,.nilIface)] (Jn (Jo [0] [.nilIface] (KT (Lr:=Lr) [[Vb 165 b 0 [Pt b 0,Sl a1 ((l++[YU y]).length) c1]],r1] hl1 (⟨a1,c1,r1,rfl,hb1,rfl⟩))))))))))))))
theorem JdH (G:J4) (b:Nat) (A:Value) (a:Option Addr) (c:Nat) (l:List UInt8) (r:List Kh) (hb:Ja9 5 a c l r) (hA:A=.pointer none∨A=Pt b 0) (s:List UInt8) (hl:l.length+s.length≤140737488355328):Jg7 Tryz.prog 91 #[Pt b 0,Sr s] G [[Vb 165 b 0 [A,Sl a l.length c]],r] (fun u G' L'=>∃ a' c' r',u=.tuple #[I (s.length:Int),.nilIface]∧Ja9 5 a' c' (l++s) r'∧L'=[[Vb 165 b 0 [Pt b 0,Sl a' (l++s).length c']],r']):=by
 intro Lr
 refine JR Tryz.func91 19 [(0,Pt b 0),(1,Sr s)] rfl (fun w0 G0=>?_)
 show TC _ _ _ _ _ ([Vb 165 b 0 [A,Sl a l.length c]]::r::Lr)
 refine Jg [0,0] [] (Jf (Jd (Jc [0] [(6,Pt b 0)] (Jw 0 (Qp (Ls:=[[Vb 165 b 0 [A,Sl a l.length c]]]) (Lr:=(r::Lr)) 7 (JgG G b A a l.length c hA) (fun v G1 L1 hl1 hp=>?_))))))
 obtain ⟨rfl,rfl⟩:=hp
 exact Je (Jb (Jf (Jd (Jc [0,0,0,0,2,0] [(8,Pt b 0),(12,Sl a l.length c),(13,Sr s)] (JlD (s:=s) 14 5 1 hb J8 (fun a1 c1 r1 hb1=>JV [0,0,3] [] ([Vb 165 b 0 [Pt b 0,Sl a1 ((l++s).length) c1]]::r1::Lr) (Je (Jb (Jg [0,0,0,0] [(4,I ((s).length:Int)),(5,.nilIface)] (Jn (Jo [0,0] [I ((s).length:Int),.nilIface] (KT (Lr:=Lr) [[Vb 165 b 0 [Pt b 0,Sl a1 ((l++s).length) c1]],r1] hl1 (⟨a1,c1,r1,rfl,hb1,rfl⟩)))))))))))))
theorem Jig (G:J4) (b:Nat) (A:Value) (a:Option Addr) (c:Nat) (l:List UInt8) (r:List Kh) (hb:Ja9 5 a c l r) (hA:A=.pointer none∨A=Pt b 0):Jg7 Tryz.prog 92 #[Pt b 0] G [[Vb 165 b 0 [A,Sl a l.length c]],r] (fun u G' L'=>u=Sr l∧L'=[[Vb 165 b 0 [A,Sl a l.length c]],[]]):=by
 intro Lr
 refine JR Tryz.func92 14 [(0,Pt b 0)] rfl (fun w0 G0=>?_)
 show TC _ _ _ _ _ ([Vb 165 b 0 [A,Sl a l.length c]]::r::Lr)
 refine Jg [0] [] (Jf (Kp [10] (Wl [(0,Pt b 0),(1,Pt b 0),(2,Pt b 1),(3,Sl a l.length c),(4,Jgz a),(5,Pt b 0),(6,Pt b 0),(7,Pt b 1),(8,Sl a l.length c),(9,I (l.length:Int))] (JK [] [(0,0),(1,0),(2,0),(3,2),(5,0),(6,0),(7,0),(8,2),(9,0)] [4] [10] (Ki ?_ K8) (Ki ?_ K8)))))
 refine Jt 4 7 (Jgz a) [(6,Sl a l.length c)] (fun X=>?_)
 exact JmS 7 hb Jp
 refine JC 10 [(7,Jgz a),(12,I (l.length:Int))] (fun X=>?_)
 exact JlF (e:=5) 13 1 hb (JD [(10,Sr l),(11,Sr l)] (Km [0,1,2,3,4,5,6,7,8,9] [(11,0)] [] [(2,Sr l)] (Hf _) (Jb (Jn (Jo [0] [Sr l] (KT (Lr:=Lr) [[Vb 165 b 0 [A,Sl a l.length c]],[]] (Jh _) (⟨rfl,rfl⟩)))))))
theorem Jih (G:J4) (s:List UInt8) (k_f:FuncId) (caps_f:Array Value) (p_f:Int→Bool) (hk_f:JaY Tryz.prog k_f) (h_f:∀ (x0:Int),Vp Tryz.prog k_f (#[.int .i32 x0]++caps_f) G [] (fun u _ _=>u=Bo (p_f x0))) (t:Bool) :Q4 202 #[Sr s,Fv k_f caps_f,Bo t] G (I (Vi s p_f t)):=by
 refine JR Tryz.func202 21 [(0,Sr s),(1,Fv k_f caps_f),(2,Bo t)] rfl (fun w0 G0=>?_)
 refine Jg [0] [] (Jf (Jf (Jd (Jc [0] [(9,Sr s)] (Jjz (l:=s) 10 (fun b1=>Je (Jb (Jy ?_))))))))
 refine Qh (σ:=Nat) (fun q_=>(Jba (fun r=>p_f r == t) s (s.length-q_) q_=Jba (fun r=>p_f r == t) s s.length 0)) (fun q_=>[(1,Fv k_f caps_f),(2,Bo t),(10,Pt b1 0)]) (fun q_=>G) (fun q_=>[[Ob b1 (.stringIter (B s) q_)]]) (fun q_=>s.length-q_) 0 rfl (fun q_ hs=>?_)
 revert hs;revert q_;intro pos hs
 have hn:=hs
 dsimp only
 refine Jf (Jd (JlG (b:=b1) (pos:=pos) (l:=s) 11 0 (fun hp1=>?_) (fun hp1=>?_)))
 refine Jc [0] [(12,Bo true)] (Je (Jb (Jf (JW (Jq (Jb (Jy (Jg [0,0,0,0] [(7,I (pos:Int)),(8,.int .i32 ((Utf8.decode (B s) pos).1:Int))] (Jf (Jd (Jc [0,0] [(15,Fv k_f caps_f),(16,.int .i32 ((Utf8.decode (B s) pos).1:Int))] (ZT (k:=k_f) (caps:=caps_f) (args:=#[.int .i32 ((Utf8.decode (B s) pos).1:Int)]) 17 (Bo (p_f ((Utf8.decode (B s) pos).1:Int))) hk_f (h_f ((Utf8.decode (B s) pos).1:Int)) (Jc [0,0] [(19,Bo ((p_f ((Utf8.decode (B s) pos).1:Int)) == t))] (Je (Jb (Jl ((p_f ((Utf8.decode (B s) pos).1:Int)) == t) (fun h1=>?_) (fun h1=>?_)))))))))))))))))
 refine Jg [0,0] [(6,I (pos:Int))] (Jn (Js (Qj (Js (Jj (Jo [0] [I (pos:Int)] (Jx (Jh _) (congrArg I (?_:(Vi s p_f t)=(pos:Int)).symm))))))))
 unfold Vi;rw [← hn];exact JjM (p:=(fun r=>p_f r == t)) hp1 (by simpa using h1)
 exact Jq (JN (Qi (pos+(Utf8.decode (B s) pos).2) (by rw [← hn];exact JlT (p:=(fun r=>p_f r == t)) hp1 (by simpa using h1)) (by have:=JmX s pos;(try dsimp only);omega)))
 refine Jc [0] [(12,Bo false)] (Je (Jb (Jf (Qq (KW (JY (J9 (JT (Jb (Jg [0] [(6,I (-1))] (Jn (Jo [0] [I (-1)] (Jx (Jh _) (congrArg I (?_:(Vi s p_f t)=(-1)).symm))))))))))))))
 unfold Vi;rw [← hn];exact Jnm hp1
theorem Jhj (G:J4) (s:List UInt8) (k_f:FuncId) (caps_f:Array Value) (p_f:Int→Bool) (hk_f:JaY Tryz.prog k_f) (h_f:∀ (x0:Int),Vp Tryz.prog k_f (#[.int .i32 x0]++caps_f) G [] (fun u _ _=>u=Bo (p_f x0))) :Q4 147 #[Sr s,Fv k_f caps_f] G (I (VK s p_f)):=by
 refine JR Tryz.func147 8 [(0,Sr s),(1,Fv k_f caps_f)] rfl (fun w0 G0=>?_)
 refine Jg [0] [] (Jf (Jd (Jc [0,0] [(5,Sr s),(6,Fv k_f caps_f)] (Jm 7 (I (Vi s p_f true)) (Jih G s k_f caps_f p_f hk_f h_f true) (Jc [0] [(4,I (Vi s p_f true))] (Je (Jb (Jn (Jo [0] [I (Vi s p_f true)] (Jx (Jh _) (congrArg I (?_:(VK s p_f)=(Vi s p_f true)).symm)))))))))))
 rfl
theorem JjP (G:J4) (s:List UInt8) (k_f:FuncId) (caps_f:Array Value) (p_f:Int→Bool) (hk_f:JaY Tryz.prog k_f) (h_f:∀ (x0:Int),Vp Tryz.prog k_f (#[.int .i32 x0]++caps_f) G [] (fun u _ _=>u=Bo (p_f x0))) :Q4 98 #[Sr s,Fv k_f caps_f] G (Bo (Jbd s p_f)):=by
 refine JR Tryz.func98 9 [(0,Sr s),(1,Fv k_f caps_f)] rfl (fun w0 G0=>?_)
 refine Jg [0] [] (Jf (Jd (Jc [0,0] [(5,Sr s),(6,Fv k_f caps_f)] (Jm 7 (I (VK s p_f)) (Jhj G s k_f caps_f p_f hk_f h_f) (Jc [0,0] [(4,Bo (decide (VK s p_f ≥ 0)))] (Je (Jb (Jn (Jo [0] [Bo (decide (VK s p_f ≥ 0))] (Jx (Jh _) (congrArg Bo (?_:(Jbd s p_f)=(decide (VK s p_f ≥ 0))).symm)))))))))))
 rfl
theorem JlV (G:J4) (r:Int) :Q4 97 #[.int .i32 r] G (Bo (Jbs r)):=by
 refine JR Tryz.func97 17 [(0,.int .i32 r)] rfl (fun w0 G0=>?_)
 refine Jg [0] [] (Jf (Jd (Jc [0,0,0] [(5,Bo (decide (r ≥ 97)))] (Ks (decide (r ≥ 97)) [5] [0,0,0] [1,1,0] (fun bb=>[(8,Bo (bb && (decide (r≤122))))]) (Jc [0] [(9,Bo ((decide (r ≥ 97)) && (decide (r≤122))))] (QY [9] ((decide (r ≥ 97)) && (decide (r≤122))) (fun h1=>?_) (fun h1=>?_)))))))
 refine Jc [1,1,1,1,1,1,0,0] [(2,Bo true)] (Je (Jb (Jn (Jo [0] [Bo true] (Jx (Jh _) (congrArg Bo (?_:(Jbs r)=true).symm))))))
 rw [Bool.eq_iff_iff];unfold Jbs;simp;omega
 refine Jc [0,0,0] [(12,Bo (decide (r ≥ 48)))] (Ks (decide (r ≥ 48)) [12] [0,0,0] [1,1,0] (fun bb=>[(15,Bo (bb && (decide (r≤57))))]) (Jc [0,0] [(2,Bo ((decide (r ≥ 48)) && (decide (r≤57))))] (Je (Jb (Jn (Jo [0] [Bo ((decide (r ≥ 48)) && (decide (r≤57)))] (Jx (Jh _) (congrArg Bo (?_:(Jbs r)=((decide (r ≥ 48)) && (decide (r≤57)))).symm))))))))
 rw [Bool.eq_iff_iff];unfold Jbs;simp;omega
theorem Jii (G:J4) (r:Int) (b_i:Nat) (hz_i:∀ j v,([Fv 97 #[]]:List Value)[j]? = some v→G b_i (0+j)=some v) :Q4 99 #[.int .i32 r,Pt b_i 0] G (Bo (VD r)):=by
 refine JR Tryz.func99 8 [(0,.int .i32 r),(1,Pt b_i 0)] rfl (fun w0 G0=>?_)
 refine Jg [0] [] (Jf (Jd (JZ (o':=0) 4 178 (cs:=[Fv 97 #[]]) 0 (Fv 97 #[]) hz_i (Jc [0] [(5,.int .i32 r)] (Jm 6 (Bo (Jbs r)) (JlV G r) (Jc [0,0] [(3,Bo (!(Jbs r)))] (Je (Jb (Jn (Jo [0] [Bo (!(Jbs r))] (Jx (Jh _) (congrArg Bo (?_:(VD r)=(!(Jbs r))).symm))))))))))))
 rfl
theorem ZN (G:J4) (s:List UInt8) :Q4 56 #[Sr s] G (Bo (KJ s)):=by
 refine JR Tryz.func56 18 [(0,Sr s)] rfl (fun w0 G0=>?_)
 refine Jg [0] [] (Jf (Jd (Jv 3 #[.nilFunc] 178 (fun b1=>JV [3] [] [[Sg b1 0 [Fv 97 #[]]]] (Je (Jb (Jf (Jd (Jc [0,0,0,0] [(7,Bo (decide (((s).length:Int) ≥ 1)))] (Ks (decide (((s).length:Int) ≥ 1)) [7] [0,0,0,0] [1,1,1,0] (fun bb=>[(11,Bo (bb && (decide (((s).length:Int)≤12))))]) (Jc [0] [(12,Bo ((decide (((s).length:Int) ≥ 1)) && (decide (((s).length:Int)≤12))))] (QY [12] ((decide (((s).length:Int) ≥ 1)) && (decide (((s).length:Int)≤12))) (fun h1=>?_) (fun h1=>?_)))))))))))))
 refine Jc [0,0] [(13,Sr s),(14,Fv 99 #[Pt b1 0])] (QZ (b:=b1) (o:=0) (cs:=[Fv 97 #[]]) 0 (fun G1 hl1 hz1=>Jm 15 (Bo (Jbd s (fun x0=>VD x0))) (JjP G1 s 99 #[Pt b1 0] (fun x0=>VD x0) (fun _ _=>by kernel_rfl) (fun x0=>Jii G1 x0 b1 hz1)) (Jc [0,0,0] [(2,Bo (!(Jbd s (fun x0=>VD x0))))] (Je (Jb (Jn (Jo [0] [Bo (!(Jbd s (fun x0=>VD x0)))] (Jx hl1 (congrArg Bo (?_:(KJ s)=(!(Jbd s (fun x0=>VD x0)))).symm)))))))))
 unfold KJ;(try simp_all) <;> (intros;omega)
 refine Jc [1,1,1,1,0,0] [(2,Bo false)] (Je (Jb (Jn (Jo [0] [Bo false] (Jx (Jh _) (congrArg Bo (?_:(KJ s)=false).symm))))))
 unfold KJ;(try simp_all) <;> (intros;omega)
theorem Jij (G:J4) (a_l:Option Addr) (c_l:Nat) (l:List (List UInt8)) (h_l:RS ES G a_l c_l l) :Q4 204 #[Sl a_l l.length c_l] G (.tuple #[Sr ((Vq l).1),I ((Vq l).2)]):=by
 refine JR Tryz.func204 34 [(0,Sl a_l l.length c_l)] rfl (fun w0 G0=>?_)
 refine Jg [0,0] [] (Jf (Jg [0,0,0] [(9,Bo (decide ((l.length:Int) > 60)))] (Jl (decide ((l.length:Int) > 60)) (fun h1=>?_) (fun h1=>?_))))
 refine Jg [0,0] [(2,Sr ([])),(3,I 2)] (Jn (Jj (Jo [0,0] [Sr ([]),I 2] (Jx (Jh _) ?_))))
 have hf_:(Vq l)=([],2):=by
  unfold Vq;(rw [if_pos (by omega)];done)
 · (try rw [hf_]);(simp only [Qx];done)
 refine Jq (Jb (Jf (Jd (JlH 4 #[.pointer none,Sl none 0 0] 165 (fun b1=>Je (Jb (Jf (Jg [0,0,0] [(10,Sl a_l l.length c_l),(11,I (l.length:Int)),(12,I 0)] (Jy (Yk ?_))))))))))
 have hlm_h_l:l.length≤9223372036854775807:=Hi (h_l).le (h_l).max
 refine Qh (σ:=Nat×Value×Option Addr×Nat×List Kh×List UInt8×J4) (fun q_=>(J4.le G q_.2.2.2.2.2.2)∧(q_.1≤l.length)∧(q_.2.1=.pointer none∨q_.2.1=Pt b1 0)∧(Ja9 5 q_.2.2.1 q_.2.2.2.1 q_.2.2.2.2.2.1 q_.2.2.2.2.1)∧(q_.2.2.2.2.2.1=JfW (l.take q_.1))∧(q_.2.2.2.2.2.1.length≤600)∧(JcY 0 l=JcY q_.2.2.2.2.2.1.length (l.drop q_.1))) (fun q_=>[(4,Pt b1 0),(10,Sl a_l l.length c_l),(11,I (l.length:Int)),(12,I (q_.1:Int))]) (fun q_=>q_.2.2.2.2.2.2) (fun q_=>[q_.2.2.2.2.1,[Vb 165 b1 0 [q_.2.1,Sl q_.2.2.1 q_.2.2.2.2.2.1.length q_.2.2.2.1]]]) (fun q_=>l.length-q_.1) (0,.pointer none,none,0,[],[],G) ⟨(Jh _),(by (try dsimp only);exact Hl _),(.inl rfl),(Ja9.nil _),rfl,(by (try dsimp only);simp),rfl⟩ (fun q_ hs=>?_)
 obtain ⟨i,A,a,c,r,t,g⟩:=q_
 obtain ⟨hle,hi,hA,hb,ht,hl6,hk⟩:=hs
 dsimp only at hle hi hA hb ht hl6 hk
 dsimp only
 refine Jg [0] [(13,Bo (decide ((i:Int)<(l.length:Int))))] (Jf (Jl (decide ((i:Int)<(l.length:Int))) (fun h2=>?_) (fun h2=>?_)))
 refine Jq (Jb (Jf (Jy (Jf (Jd ?_)))))
 obtain ⟨b2,o1,rfl⟩:=RS.addr (h_l.mono hle) (k:=i) (by omega)
 obtain ⟨x1,hx1⟩:=Wf (l:=l) (k:=i) (by omega)
 obtain ⟨_,⟨rfl,_⟩,hc1⟩:=RS.get (h_l.mono hle) hx1
 refine J5 (b:=b2) (off:=o1) (len:=l.length) (cap:=c_l) (ik:=.i64) 14 9 1 i J8 (JZ 15 9 (cs:=[Sr x1]) 0 (Sr x1) hc1 (Jc [0] [(6,Sr x1)] (Je (Jb (Jf (Jf (Jd (Jc [0,0] [(17,I ((x1).length:Int))] (Jw 0 (Jw 1 (Qp (Ls:=[[Vb 165 b1 0 [A,Sl a t.length c]],r]) (Lr:=[]) 18 (Jno g b1 A a c t r hb hA) (fun v G1 L1 hl1 hp=>?_))))))))))))
 obtain ⟨rfl,rfl⟩:=hp
 refine Jc [0,0] [(20,Bo (decide (((x1).length:Int) > Hj.wrap (598-((t).length:Int)))))] ?_
 have e1:Hj.wrap (598-((t).length:Int))=598-((t).length:Int):=HE _ (by omega)
 refine KU 20 (Bo (decide (((x1).length:Int) > 598-((t).length:Int)))) (show (Bo (decide (((x1).length:Int) > Hj.wrap (598-((t).length:Int)))):Value)=Bo (decide (((x1).length:Int) > 598-((t).length:Int))) by simp only [e1]) ?_
 clear e1
 refine Je (Jb (Jl (decide (((x1).length:Int) > 598-((t).length:Int))) (fun h3=>?_) (fun h3=>?_)))
 refine Jg [0,0] [(2,Sr ([])),(3,I 2)] (Jn (Jj (Js (Jj (Qj (Js (Jj (Jo [0,0] [Sr ([]),I 2] (Jx (Ja hle hl1) ?_)))))))))
 have hf_:(Vq l)=([],2):=by
  unfold Vq;(rw [if_neg (by omega),hk];(rw [Jnn hx1 (by omega)];rfl))
 · (try rw [hf_]);(simp only [Qx];done)
 refine Jq (Jb (Jf (Jd (Jc [0,0,0,0] [(24,Y (Hc.wrap (((x1).length:Int).fdiv (2 ^ 8))))] (Jw 1 (Jw 1 (Qp (Ls:=[[Vb 165 b1 0 [A,Sl a t.length c]],r]) (Lr:=[]) 25 (JbC G1 b1 A a c t r hb hA (Hc.wrap (((x1).length:Int).fdiv (2 ^ 8))) (u8w _) J8) (fun v G2 L1 hl2 hp=>?_))))))))
 obtain ⟨a1,c1,r1,rfl,hb1,rfl⟩:=hp
 refine Je (Jb (Jf (Jd (Jc [0,0,0] [(28,Y (Hc.wrap ((x1).length:Int)))] (Jw 1 (Jw 1 (Qp (Ls:=[[Vb 165 b1 0 [Pt b1 0,Sl a1 ((t++[YU (Hc.wrap (((x1).length:Int).fdiv (2 ^ 8)))]).length) c1]],r1]) (Lr:=[]) 29 (JbC G2 b1 (Pt b1 0) a1 c1 (t++[YU (Hc.wrap (((x1).length:Int).fdiv (2 ^ 8)))]) r1 hb1 (.inr rfl) (Hc.wrap ((x1).length:Int)) (u8w _) (by (simp only [Hg,Hm,Hn];omega))) (fun v G3 L1 hl3 hp=>?_))))))))
 obtain ⟨a2,c2,r2,rfl,hb2,rfl⟩:=hp
 refine Je (Jb (Jd (Jc [0] [(30,Sr x1)] (Jw 1 (Jw 1 (Qp (Ls:=[[Vb 165 b1 0 [Pt b1 0,Sl a2 (((t++[YU (Hc.wrap (((x1).length:Int).fdiv (2 ^ 8)))])++[YU (Hc.wrap ((x1).length:Int))]).length) c2]],r2]) (Lr:=[]) 31 (JdH G3 b1 (Pt b1 0) a2 c2 ((t++[YU (Hc.wrap (((x1).length:Int).fdiv (2 ^ 8)))])++[YU (Hc.wrap ((x1).length:Int))]) r2 hb2 (.inr rfl) x1 (by (simp only [Hg,Hm,Hn];omega))) (fun v G4 L1 hl4 hp=>?_)))))))
 obtain ⟨a3,c3,r3,rfl,hb3,rfl⟩:=hp
 refine Je (JN (Jb (Jd (Jc [0,0] [(12,I (Hj.wrap ((i:Int)+1)))] (Kr 12 ((i:Int)+1) J8 (Je (Jk 0 (Jk 1 ?_))))))))
 exact Qr [r3,[Vb 165 b1 0 [Pt b1 0,Sl a3 ((((t++[YU (Hc.wrap (((x1).length:Int).fdiv (2 ^ 8)))])++[YU (Hc.wrap ((x1).length:Int))])++x1).length) c3]]] (Qi (i+1,Pt b1 0,a3,c3,r3,((t++[YU (Hc.wrap (((x1).length:Int).fdiv (2 ^ 8)))])++[YU (Hc.wrap ((x1).length:Int))])++x1,G4) ⟨(Ja hle (Ja (Ja (Ja hl1 hl2) hl3) hl4)),J8,(.inr rfl),hb3,(by rw [ht];exact JlU hx1),(by simp only [Hg,Hm,Hn];omega),(by rw [hk,JjO (n:=t.length) hx1 (by omega)];simp [Nat.add_assoc,Nat.add_comm,Nat.add_left_comm])⟩ (by (try dsimp only);omega))
 refine KW (JY (J9 (JT (Jb (Jf (Jd (Jw 0 (Jw 1 (Qp (Ls:=[[Vb 165 b1 0 [A,Sl a t.length c]],r]) (Lr:=[]) 33 (Jig g b1 A a c t r hb hA) (fun v G5 L1 hl5 hp=>?_))))))))))
 obtain ⟨rfl,rfl⟩:=hp
 refine Jc [0,0] [(2,Sr t),(3,I 0)] (Je (Jb (Jn (Jo [0,0] [Sr t,I 0] (Jx (Ja hle hl5) ?_)))))
 have hf_:(Vq l)=(t,0):=by
  unfold Vq;(rw [if_neg (by omega),hk];(rw [Ht (by omega),ht,Hk (by omega)];rfl))
 · (try rw [hf_]);(simp only [Qx];done)
theorem Jik {α:Type} {a b:List α} {i:Nat} {x y:α} (h:a.take i=b.take i) (hx:a[i]? = some x) (hy:b[i]? = some y) (e:x=y):a.take (i+1)=b.take (i+1):=by
 rw [HB,HB,h,hx,hy,e]
theorem ne_at {α:Type} {a b:List α} {i:Nat} {x y:α} (hx:a[i]? = some x) (hy:b[i]? = some y) (e:¬ x=y):¬ a=b:=by
 intro h;rw [h,hy] at hx;exact e (HR.inj hx).symm
theorem JjQ {α:Type} {a b:List α} {i:Nat} (hl:a.length=b.length) (hi:a.length≤i) (h:a.take i=b.take i):a=b:=by
 rwa [Hk hi,Hk (by omega)] at h
theorem JbD {x y:JU}:x=y ↔ x.epoch=y.epoch∧x.root=y.root∧x.prev=y.prev∧x.at_=y.at_:=by cases x;cases y;simp
theorem Jhk {α:Type} {p:α→Bool} {l:List α} {i:Nat} (h:QT p l=(i:Int)):∃ x,l[i]? = some x∧p x=true:=by
 unfold QT at h
 cases hh:l.findIdx? p with
 | none=>rw [hh] at h;simp at h
 | some k =>
  rw [hh] at h
  have:k=i:=by simp at h;omega
  subst this
  rw [HF] at hh
  obtain ⟨h1,h2,_⟩:=hh
  exact ⟨l[k],Ho h1,h2⟩
theorem JbY (G:J4) (a_l:Option Addr) (c_l:Nat) (l:List (List UInt8)) (h_l:RS ES G a_l c_l l) :Yw 12 #[Sl a_l l.length c_l] G [] (fun u G' L'=>∃ (a1:Option Addr) (c2:Nat) (r3:List Kh),u=Sl a1 l.length c2∧(J1 ES G' a1 c2 l r3)∧L'=[r3]):=by
 refine JR Tryz.func12 8 [(0,Sl a_l l.length c_l)] rfl (fun w0 G0=>?_)
 refine Jg [0] [] (Jf (Jf (Jd (Jc [0] [(3,Sl a_l l.length c_l)] (JaV 4 (Bo ((a_l).isNone)) (by intro w;cases a_l <;> kernel_rfl) (Je (Jb (Jl ((a_l).isNone) (fun h1=>?_) (fun h1=>?_)))))))))
 refine Jg [0] [(2,Sl none 0 0)] (Jn (Jj (Zy (Jk 0 ?_))))
 have hf1:l=[]:=by
  exact RS.isNil h_l h1
 refine Jo [0] [Sl none 0 0] (JA [[]] (Jh _) ?_)
 rw [hf1]
 try dsimp only
 exact ⟨none,0,([]),rfl,(J1.none ES _),rfl⟩
 refine Jq (Jb (Jf (Jd (Kt 5 0 #[] 9 (fun b1=>Jc [0] [(6,Sl a_l l.length c_l)] (V7 7 9 0 (J1.of_lit (E:=ES) (b:=b1) [] [] trivial (by simp)) h_l (fun a1 c1 r1 hr1=>Jc [0] [(2,Sl a1 l.length c1)] (Je (Jb (Jn (Jk 0 ?_)))))))))))
 have hf2:l=l:=by
  rfl
 refine Jo [0] [Sl a1 l.length c1] (JA [r1] (Jh _) ?_)
 rw [hf2]
 try dsimp only
 exact ⟨a1,c1,r1,rfl,hr1,rfl⟩
theorem seq_ES (G:J4) (a_a:Option Addr) (c_a:Nat) (a:List (List UInt8)) (h_a:RS ES G a_a c_a a) (a_b:Option Addr) (c_b:Nat) (b:List (List UInt8)) (h_b:RS ES G a_b c_b b) :Q4 10 #[Sl a_a a.length c_a,Sl a_b b.length c_b] G (Bo (decide (a=b))):=by
 refine JR Tryz.func10 26 [(0,Sl a_a a.length c_a),(1,Sl a_b b.length c_b)] rfl (fun w0 G0=>?_)
 refine Jg [0] [] (Jf (Jg [0,0,0,0,0] [(10,Bo (!decide ((a.length:Int)=(b.length:Int))))] (Jl (!decide ((a.length:Int)=(b.length:Int))) (fun h1=>?_) (fun h1=>?_))))
 refine Jg [0] [(4,Bo false)] (Jn (Jj (Jo [0] [Bo false] (Jx (Jh _) (congrArg Bo (?_:(decide (a=b))=false).symm)))))
 (rw [decide_eq_false];intro hh;subst hh;exact absurd rfl h1)
 refine Jq (Jb (Jf (Jg [0,0,0] [(12,I (a.length:Int)),(13,I 0)] (Jy ?_))))
 have hlm_h_a:a.length≤9223372036854775807:=Hi (h_a).le (h_a).max
 have hlm_h_b:b.length≤9223372036854775807:=Hi (h_b).le (h_b).max
 refine Qh (σ:=Nat) (fun q_=>(q_≤a.length)∧(a.take q_=b.take q_)) (fun q_=>[(0,Sl a_a a.length c_a),(1,Sl a_b b.length c_b),(12,I (a.length:Int)),(13,I (q_:Int))]) (fun q_=>G) (fun q_=>[]) (fun q_=>a.length-q_) 0 ⟨(by (try dsimp only);exact Hl _),rfl⟩ (fun q_ hs=>?_)
 revert hs;revert q_;intro i hs
 obtain ⟨hi,he⟩:=hs
 dsimp only
 refine Jg [0] [(14,Bo (decide ((i:Int)<(a.length:Int))))] (Jf (Jl (decide ((i:Int)<(a.length:Int))) (fun h2=>?_) (fun h2=>?_)))
 refine Jq (Jb (Jf (Jy (Jg [0,0] [(5,I (i:Int))] (Jf ?_)))))
 obtain ⟨b1,o1,rfl⟩:=RS.addr h_a (k:=i) (by omega)
 obtain ⟨x1,hx1⟩:=Wf (l:=a) (k:=i) (by omega)
 obtain ⟨_,⟨rfl,_⟩,hc1⟩:=RS.get h_a hx1
 obtain ⟨b2,o2,rfl⟩:=RS.addr h_b (k:=i) (by omega)
 obtain ⟨x2,hx2⟩:=Wf (l:=b) (k:=i) (by omega)
 obtain ⟨_,⟨rfl,_⟩,hc2⟩:=RS.get h_b hx2
 refine Kp [] (Wl [(0,Sl (At b1 o1) a.length c_a),(1,I (i:Int)),(2,Pt b1 (o1+i*1)),(3,Sr x1),(4,Sl (At b2 o2) b.length c_b),(5,I (i:Int)),(6,Pt b2 (o2+i*1)),(7,Sr x2),(8,Bo (!((B x1).toList == (B x2).toList)))] (Km [] [(0,0),(1,0),(4,0),(5,0),(8,0)] [2,3,6,7] [(0,Sl (At b1 o1) a.length c_a),(1,Sl (At b2 o2) b.length c_b),(12,I (a.length:Int)),(13,I (i:Int)),(24,Bo (!((B x1).toList == (B x2).toList)))] (Ki ?_ (Ki ?_ (Ki ?_ (Ki ?_ K8)))) ?_))
 refine Jt 2 18 (Pt b1 (o1+i*1)) [(16,Sl (At b1 o1) a.length c_a),(17,I (i:Int))] (fun X=>?_)
 exact J5 (b:=b1) (off:=o1) (len:=a.length) (cap:=c_a) (ik:=.i64) 18 9 1 i J8 Jp
 refine Jt 3 19 (Sr x1) [(18,Pt b1 (o1+i*1))] (fun X=>?_)
 exact JZ 19 9 (cs:=[Sr x1]) 0 (Sr x1) hc1 Jp
 refine Jt 6 22 (Pt b2 (o2+i*1)) [(20,Sl (At b2 o2) b.length c_b),(21,I (i:Int))] (fun X=>?_)
 exact J5 (b:=b2) (off:=o2) (len:=b.length) (cap:=c_b) (ik:=.i64) 22 9 1 i J8 Jp
 refine Jt 7 23 (Sr x2) [(22,Pt b2 (o2+i*1))] (fun X=>?_)
 exact JZ 23 9 (cs:=[Sr x2]) 0 (Sr x2) hc2 Jp
 refine Jdt 24 (Bo (!(x1 == x2))) (show (Bo (!((B x1).toList == (B x2).toList)):Value)=Bo (!(x1 == x2)) by simp only [Q3]) (Jb (Jl (!(x1 == x2)) (fun h3=>?_) (fun h3=>?_)))
 refine Jg [0] [(4,Bo false)] (Jn (Js (Jj (Qj (Js (Jj (Jo [0] [Bo false] (Jx (Jh _) (congrArg Bo (?_:(decide (a=b))=false).symm)))))))))
 (rw [decide_eq_false];exact ne_at hx1 hx2 ‹_›)
 exact Jq (JN (Jb (Jd (Jc [0,0] [(13,I (Hj.wrap ((i:Int)+1)))] (Kr 13 ((i:Int)+1) J8 (Je (Qi (i+1) ⟨J8,(Jik he hx1 hx2 ‹_›)⟩ (by (try dsimp only);omega))))))))
 refine KW (JY (J9 (JT (Jb (Jg [0] [(4,Bo true)] (Jn (Jo [0] [Bo true] (Jx (Jh _) (congrArg Bo (?_:(decide (a=b))=true).symm)))))))))
 (rw [decide_eq_true];exact JjQ (by omega) (by omega) he)
theorem Jnp (G:J4) (a_l:Option Addr) (c_l:Nat) (l:List (List UInt8)) (h_l:RS ES G a_l c_l l) (k_f:FuncId) (caps_f:Array Value) (p_f:(List UInt8)→Bool) (hk_f:JaY Tryz.prog k_f) (h_f:∀ (x0:(List UInt8)) (hx0:(x0).length≤140737488351232),Vp Tryz.prog k_f (#[Sr x0]++caps_f) G [] (fun u _ _=>u=Bo (p_f x0))) :Q4 119 #[Sl a_l l.length c_l,Fv k_f caps_f] G (I (QT p_f l)):=by
 refine JR Tryz.func119 19 [(0,Sl a_l l.length c_l),(1,Fv k_f caps_f)] rfl (fun w0 G0=>?_)
 refine Jg [0] [] (Jf (Jg [0,0,0] [(7,I (l.length:Int)),(8,I 0)] (Jy ?_)))
 have hlm_h_l:l.length≤9223372036854775807:=Hi (h_l).le (h_l).max
 refine Qh (σ:=Nat) (fun q_=>(q_≤l.length)∧((l.take q_).any p_f=false)) (fun q_=>[(0,Sl a_l l.length c_l),(1,Fv k_f caps_f),(7,I (l.length:Int)),(8,I (q_:Int))]) (fun q_=>G) (fun q_=>[]) (fun q_=>l.length-q_) 0 ⟨(by (try dsimp only);exact Hl _),(by (try dsimp only);simp)⟩ (fun q_ hs=>?_)
 revert hs;revert q_;intro i hs
 obtain ⟨hi,hn⟩:=hs
 dsimp only
 refine Jg [0] [(9,Bo (decide ((i:Int)<(l.length:Int))))] (Jf (Jl (decide ((i:Int)<(l.length:Int))) (fun h1=>?_) (fun h1=>?_)))
 refine Jq (Jb (Jf (Jy (Jg [0,0] [(5,I (i:Int))] (Jf (Jd (Jc [0,0,0] [(11,Fv k_f caps_f),(12,Sl a_l l.length c_l),(13,I (i:Int))] ?_)))))))
 obtain ⟨b1,o1,rfl⟩:=RS.addr h_l (k:=i) (by omega)
 obtain ⟨x1,hx1⟩:=Wf (l:=l) (k:=i) (by omega)
 obtain ⟨_,⟨rfl,w1⟩,hc1⟩:=RS.get h_l hx1
 refine J5 (b:=b1) (off:=o1) (len:=l.length) (cap:=c_l) (ik:=.i64) 14 9 1 i J8 (JZ 15 9 (cs:=[Sr x1]) 0 (Sr x1) hc1 (ZT (k:=k_f) (caps:=caps_f) (args:=#[Sr x1]) 16 (Bo (p_f x1)) hk_f (h_f x1 w1) (Je (Jb (Jl (p_f x1) (fun h2=>?_) (fun h2=>?_))))))
 refine Jg [0,0] [(4,I (i:Int))] (Jn (Js (Jj (Qj (Js (Jj (Jo [0] [I (i:Int)] (Jx (Jh _) (congrArg I (?_:(QT p_f l)=(i:Int)).symm)))))))))
 exact Vv hx1 (by simpa using h2) hn
 exact Jq (JN (Jb (Jd (Jc [0,0] [(8,I (Hj.wrap ((i:Int)+1)))] (Kr 8 ((i:Int)+1) J8 (Je (Qi (i+1) ⟨J8,(Jaj hx1 (by simpa using h2) hn)⟩ (by (try dsimp only);omega))))))))
 refine KW (JY (J9 (JT (Jb (Jg [0] [(4,I (-1))] (Jn (Jo [0] [I (-1)] (Jx (Jh _) (congrArg I (?_:(QT p_f l)=(-1)).symm)))))))))
 exact Y7 (by rw [Hk (by omega)] at hn;exact hn)
theorem JoW (G:J4) (a_l:Option Addr) (c_l:Nat) (l:List (List UInt8)) (h_l:RS ES G a_l c_l l) (k_f:FuncId) (caps_f:Array Value) (p_f:(List UInt8)→Bool) (hk_f:JaY Tryz.prog k_f) (h_f:∀ (x0:(List UInt8)) (hx0:(x0).length≤140737488351232),Vp Tryz.prog k_f (#[Sr x0]++caps_f) G [] (fun u _ _=>u=Bo (p_f x0))) :Q4 69 #[Sl a_l l.length c_l,Fv k_f caps_f] G (Bo (l.any p_f)):=by
 refine JR Tryz.func69 9 [(0,Sl a_l l.length c_l),(1,Fv k_f caps_f)] rfl (fun w0 G0=>?_)
 refine Jg [0] [] (Jf (Jd (Jc [0,0] [(5,Sl a_l l.length c_l),(6,Fv k_f caps_f)] (Jm 7 (I (QT p_f l)) (Jnp G a_l c_l l h_l k_f caps_f p_f hk_f h_f) (Jc [0,0] [(4,Bo (decide (QT p_f l ≥ 0)))] (Je (Jb (Jn (Jo [0] [Bo (decide (QT p_f l ≥ 0))] (Jx (Jh _) (congrArg Bo (?_:(l.any p_f)=(decide (QT p_f l ≥ 0))).symm)))))))))))
 rw [Jak]
theorem JkW (G:J4) (a_l:Option Addr) (c_l:Nat) (l:List (List UInt8)) (h_l:RS ES G a_l c_l l) (v:List UInt8) :Q4 37 #[Sl a_l l.length c_l,Sr v] G (I (QT (fun x=>decide (v=x)) l)):=by
 refine JR Tryz.func37 19 [(0,Sl a_l l.length c_l),(1,Sr v)] rfl (fun w0 G0=>?_)
 refine Jg [0] [] (Jf (Jg [0,0,0] [(7,I (l.length:Int)),(8,I 0)] (Jy ?_)))
 have hlm_h_l:l.length≤9223372036854775807:=Hi (h_l).le (h_l).max
 refine Qh (σ:=Nat) (fun q_=>(q_≤l.length)∧((l.take q_).any (fun x=>decide (v=x))=false)) (fun q_=>[(0,Sl a_l l.length c_l),(1,Sr v),(7,I (l.length:Int)),(8,I (q_:Int))]) (fun q_=>G) (fun q_=>[]) (fun q_=>l.length-q_) 0 ⟨(by (try dsimp only);exact Hl _),(by (try dsimp only);simp)⟩ (fun q_ hs=>?_)
 revert hs;revert q_;intro i hs
 obtain ⟨hi,hn⟩:=hs
 dsimp only
 refine Jg [0] [(9,Bo (decide ((i:Int)<(l.length:Int))))] (Jf (Jl (decide ((i:Int)<(l.length:Int))) (fun h1=>?_) (fun h1=>?_)))
 refine Jq (Jb (Jf (Jy (Jg [0,0] [(5,I (i:Int))] (Jf (Jd (Jc [0,0,0] [(11,Sr v),(12,Sl a_l l.length c_l),(13,I (i:Int))] ?_)))))))
 obtain ⟨b1,o1,rfl⟩:=RS.addr h_l (k:=i) (by omega)
 obtain ⟨x1,hx1⟩:=Wf (l:=l) (k:=i) (by omega)
 obtain ⟨_,⟨rfl,_⟩,hc1⟩:=RS.get h_l hx1
 refine J5 (b:=b1) (off:=o1) (len:=l.length) (cap:=c_l) (ik:=.i64) 14 9 1 i J8 (JZ 15 9 (cs:=[Sr x1]) 0 (Sr x1) hc1 (Jc [0] [(16,Bo ((B v).toList == (B x1).toList))] (KU 16 (Bo (v == x1)) (show (Bo ((B v).toList == (B x1).toList):Value)=Bo (v == x1) by simp only [Q3]) (Je (Jb (Jl (v == x1) (fun h2=>?_) (fun h2=>?_)))))))
 refine Jg [0,0] [(4,I (i:Int))] (Jn (Js (Jj (Qj (Js (Jj (Jo [0] [I (i:Int)] (Jx (Jh _) (congrArg I (?_:(QT (fun x=>decide (v=x)) l)=(i:Int)).symm)))))))))
 exact Vv hx1 (decide_eq_true (by simpa using h2)) hn
 exact Jq (JN (Jb (Jd (Jc [0,0] [(8,I (Hj.wrap ((i:Int)+1)))] (Kr 8 ((i:Int)+1) J8 (Je (Qi (i+1) ⟨J8,(Jaj hx1 (decide_eq_false (by simpa using h2)) hn)⟩ (by (try dsimp only);omega))))))))
 refine KW (JY (J9 (JT (Jb (Jg [0] [(4,I (-1))] (Jn (Jo [0] [I (-1)] (Jx (Jh _) (congrArg I (?_:(QT (fun x=>decide (v=x)) l)=(-1)).symm)))))))))
 exact Y7 (by rw [Hk (by omega)] at hn;exact hn)
theorem JkX (G:J4) (a_l:Option Addr) (c_l:Nat) (l:List (List UInt8)) (h_l:RS ES G a_l c_l l) (v:List UInt8) :Q4 22 #[Sl a_l l.length c_l,Sr v] G (Bo (l.any (fun x=>decide (v=x)))):=by
 refine JR Tryz.func22 9 [(0,Sl a_l l.length c_l),(1,Sr v)] rfl (fun w0 G0=>?_)
 refine Jg [0] [] (Jf (Jd (Jc [0,0] [(5,Sl a_l l.length c_l),(6,Sr v)] (Jm 7 (I (QT (fun x=>decide (v=x)) l)) (JkW G a_l c_l l h_l v) (Jc [0,0] [(4,Bo (decide (QT (fun x=>decide (v=x)) l ≥ 0)))] (Je (Jb (Jn (Jo [0] [Bo (decide (QT (fun x=>decide (v=x)) l ≥ 0))] (Jx (Jh _) (congrArg Bo (?_:(l.any (fun x=>decide (v=x)))=(decide (QT (fun x=>decide (v=x)) l ≥ 0))).symm)))))))))))
 rw [Jak]
theorem JlW (G:J4) (a_l:Option Addr) (c_l:Nat) (l:List Int) (h_l:RS EI G a_l c_l l) :Yw 61 #[Sl a_l l.length c_l] G [] (fun u G' L'=>∃ (a1:Option Addr) (c2:Nat) (r3:List Kh),u=Sl a1 l.length c2∧(J1 EI G' a1 c2 l r3)∧L'=[r3]):=by
 refine JR Tryz.func61 8 [(0,Sl a_l l.length c_l)] rfl (fun w0 G0=>?_)
 refine Jg [0] [] (Jf (Jf (Jd (Jc [0] [(3,Sl a_l l.length c_l)] (JaV 4 (Bo ((a_l).isNone)) (by intro w;cases a_l <;> kernel_rfl) (Je (Jb (Jl ((a_l).isNone) (fun h1=>?_) (fun h1=>?_)))))))))
 refine Jg [0] [(2,Sl none 0 0)] (Jn (Jj (Zy (Jk 0 ?_))))
 have hf1:l=[]:=by
  exact RS.isNil h_l h1
 refine Jo [0] [Sl none 0 0] (JA [[]] (Jh _) ?_)
 rw [hf1]
 try dsimp only
 exact ⟨none,0,([]),rfl,(J1.none EI _),rfl⟩
 refine Jq (Jb (Jf (Jd (Kt 5 0 #[] 3 (fun b1=>Jc [0] [(6,Sl a_l l.length c_l)] (V7 7 3 0 (J1.of_lit (E:=EI) (b:=b1) [] [] trivial (by simp)) h_l (fun a1 c1 r1 hr1=>Jc [0] [(2,Sl a1 l.length c1)] (Je (Jb (Jn (Jk 0 ?_)))))))))))
 have hf2:l=l:=by
  rfl
 refine Jo [0] [Sl a1 l.length c1] (JA [r1] (Jh _) ?_)
 rw [hf2]
 try dsimp only
 exact ⟨a1,c1,r1,rfl,hr1,rfl⟩
theorem Jnq (G:J4) (a_l:Option Addr) (c_l:Nat) (l:List Int) (h_l:RS EI G a_l c_l l) (k_f:FuncId) (caps_f:Array Value) (p_f:Int→Bool) (hk_f:JaY Tryz.prog k_f) (h_f:∀ (x0:Int) (hx0:rI x0),Vp Tryz.prog k_f (#[I x0]++caps_f) G [] (fun u _ _=>u=Bo (p_f x0))) :Q4 160 #[Sl a_l l.length c_l,Fv k_f caps_f] G (I (QT p_f l)):=by
 refine JR Tryz.func160 19 [(0,Sl a_l l.length c_l),(1,Fv k_f caps_f)] rfl (fun w0 G0=>?_)
 refine Jg [0] [] (Jf (Jg [0,0,0] [(7,I (l.length:Int)),(8,I 0)] (Jy ?_)))
 have hlm_h_l:l.length≤9223372036854775807:=Hi (h_l).le (h_l).max
 refine Qh (σ:=Nat) (fun q_=>(q_≤l.length)∧((l.take q_).any p_f=false)) (fun q_=>[(0,Sl a_l l.length c_l),(1,Fv k_f caps_f),(7,I (l.length:Int)),(8,I (q_:Int))]) (fun q_=>G) (fun q_=>[]) (fun q_=>l.length-q_) 0 ⟨(by (try dsimp only);exact Hl _),(by (try dsimp only);simp)⟩ (fun q_ hs=>?_)
 revert hs;revert q_;intro i hs
 obtain ⟨hi,hn⟩:=hs
 dsimp only
 refine Jg [0] [(9,Bo (decide ((i:Int)<(l.length:Int))))] (Jf (Jl (decide ((i:Int)<(l.length:Int))) (fun h1=>?_) (fun h1=>?_)))
 refine Jq (Jb (Jf (Jy (Jg [0,0] [(5,I (i:Int))] (Jf (Jd (Jc [0,0,0] [(11,Fv k_f caps_f),(12,Sl a_l l.length c_l),(13,I (i:Int))] ?_)))))))
 obtain ⟨b1,o1,rfl⟩:=RS.addr h_l (k:=i) (by omega)
 obtain ⟨x1,hx1⟩:=Wf (l:=l) (k:=i) (by omega)
 obtain ⟨_,⟨rfl,w1⟩,hc1⟩:=RS.get h_l hx1
 refine J5 (b:=b1) (off:=o1) (len:=l.length) (cap:=c_l) (ik:=.i64) 14 3 1 i J8 (JZ 15 3 (cs:=[I x1]) 0 (I x1) hc1 (ZT (k:=k_f) (caps:=caps_f) (args:=#[I x1]) 16 (Bo (p_f x1)) hk_f (h_f x1 w1) (Je (Jb (Jl (p_f x1) (fun h2=>?_) (fun h2=>?_))))))
 refine Jg [0,0] [(4,I (i:Int))] (Jn (Js (Jj (Qj (Js (Jj (Jo [0] [I (i:Int)] (Jx (Jh _) (congrArg I (?_:(QT p_f l)=(i:Int)).symm)))))))))
 exact Vv hx1 (by simpa using h2) hn
 exact Jq (JN (Jb (Jd (Jc [0,0] [(8,I (Hj.wrap ((i:Int)+1)))] (Kr 8 ((i:Int)+1) J8 (Je (Qi (i+1) ⟨J8,(Jaj hx1 (by simpa using h2) hn)⟩ (by (try dsimp only);omega))))))))
 refine KW (JY (J9 (JT (Jb (Jg [0] [(4,I (-1))] (Jn (Jo [0] [I (-1)] (Jx (Jh _) (congrArg I (?_:(QT p_f l)=(-1)).symm)))))))))
 exact Y7 (by rw [Hk (by omega)] at hn;exact hn)
theorem JoX (G:J4) (a_l:Option Addr) (c_l:Nat) (l:List Int) (h_l:RS EI G a_l c_l l) (k_f:FuncId) (caps_f:Array Value) (p_f:Int→Bool) (hk_f:JaY Tryz.prog k_f) (h_f:∀ (x0:Int) (hx0:rI x0),Vp Tryz.prog k_f (#[I x0]++caps_f) G [] (fun u _ _=>u=Bo (p_f x0))) :Q4 106 #[Sl a_l l.length c_l,Fv k_f caps_f] G (Bo (l.any p_f)):=by
 refine JR Tryz.func106 9 [(0,Sl a_l l.length c_l),(1,Fv k_f caps_f)] rfl (fun w0 G0=>?_)
 refine Jg [0] [] (Jf (Jd (Jc [0,0] [(5,Sl a_l l.length c_l),(6,Fv k_f caps_f)] (Jm 7 (I (QT p_f l)) (Jnq G a_l c_l l h_l k_f caps_f p_f hk_f h_f) (Jc [0,0] [(4,Bo (decide (QT p_f l ≥ 0)))] (Je (Jb (Jn (Jo [0] [Bo (decide (QT p_f l ≥ 0))] (Jx (Jh _) (congrArg Bo (?_:(l.any p_f)=(decide (QT p_f l ≥ 0))).symm)))))))))))
 rw [Jak]
theorem Vj (G:J4) (a_l:Option Addr) (c_l:Nat) (l:List JU) (h_l:RS KA G a_l c_l l) :Yw 161 #[Sl a_l l.length c_l] G [] (fun u G' L'=>∃ (a1:Option Addr) (c2:Nat) (r3:List Kh),u=Sl a1 l.length c2∧(J1 KA G' a1 c2 l r3)∧L'=[r3]):=by
 refine JR Tryz.func161 8 [(0,Sl a_l l.length c_l)] rfl (fun w0 G0=>?_)
 refine Jg [0] [] (Jf (Jf (Jd (Jc [0] [(3,Sl a_l l.length c_l)] (JaV 4 (Bo ((a_l).isNone)) (by intro w;cases a_l <;> kernel_rfl) (Je (Jb (Jl ((a_l).isNone) (fun h1=>?_) (fun h1=>?_)))))))))
 refine Jg [0] [(2,Sl none 0 0)] (Jn (Jj (Zy (Jk 0 ?_))))
 have hf1:l=[]:=by
  exact RS.isNil h_l h1
 refine Jo [0] [Sl none 0 0] (JA [[]] (Jh _) ?_)
 rw [hf1]
 try dsimp only
 exact ⟨none,0,([]),rfl,(J1.none KA _),rfl⟩
 refine Jq (Jb (Jf (Jd (Kt 5 0 #[] 43 (fun b1=>Jc [0] [(6,Sl a_l l.length c_l)] (V7 7 43 0 (J1.of_lit (E:=KA) (b:=b1) [] [] trivial (by simp)) h_l (fun a1 c1 r1 hr1=>Jc [0] [(2,Sl a1 l.length c1)] (Je (Jb (Jn (Jk 0 ?_)))))))))))
 have hf2:l=l:=by
  rfl
 refine Jo [0] [Sl a1 l.length c1] (JA [r1] (Jh _) ?_)
 rw [hf2]
 try dsimp only
 exact ⟨a1,c1,r1,rfl,hr1,rfl⟩
theorem Jil (G:J4) (a_l:Option Addr) (c_l:Nat) (l:List JU) (h_l:RS KA G a_l c_l l) (k_f:FuncId) (caps_f:Array Value) (p_f:JU→Bool) (hk_f:JaY Tryz.prog k_f) (h_f:∀ (vs0:List Value) (x0:JU) (hx0:KA.R G vs0 x0),Vp Tryz.prog k_f (#[.agg vs0.toArray]++caps_f) G [] (fun u _ _=>u=Bo (p_f x0))) :Q4 176 #[Sl a_l l.length c_l,Fv k_f caps_f] G (I (QT p_f l)):=by
 refine JR Tryz.func176 19 [(0,Sl a_l l.length c_l),(1,Fv k_f caps_f)] rfl (fun w0 G0=>?_)
 refine Jg [0] [] (Jf (Jg [0,0,0] [(7,I (l.length:Int)),(8,I 0)] (Jy ?_)))
 have hlm_h_l:l.length≤9223372036854775807:=Hi (h_l).le (h_l).max
 refine Qh (σ:=Nat) (fun q_=>(q_≤l.length)∧((l.take q_).any p_f=false)) (fun q_=>[(0,Sl a_l l.length c_l),(1,Fv k_f caps_f),(7,I (l.length:Int)),(8,I (q_:Int))]) (fun q_=>G) (fun q_=>[]) (fun q_=>l.length-q_) 0 ⟨(by (try dsimp only);exact Hl _),(by (try dsimp only);simp)⟩ (fun q_ hs=>?_)
 revert hs;revert q_;intro i hs
 obtain ⟨hi,hn⟩:=hs
 dsimp only
 refine Jg [0] [(9,Bo (decide ((i:Int)<(l.length:Int))))] (Jf (Jl (decide ((i:Int)<(l.length:Int))) (fun h1=>?_) (fun h1=>?_)))
 refine Jq (Jb (Jf (Jy (Jg [0,0] [(5,I (i:Int))] (Jf (Jd (Jc [0,0,0] [(11,Fv k_f caps_f),(12,Sl a_l l.length c_l),(13,I (i:Int))] ?_)))))))
 obtain ⟨b1,o1,rfl⟩:=RS.addr h_l (k:=i) (by omega)
 obtain ⟨x1,hx1⟩:=Wf (l:=l) (k:=i) (by omega)
 obtain ⟨_,⟨rfl,w1,w2,w3,w4⟩,hc1⟩:=RS.get h_l hx1
 refine J5 (b:=b1) (off:=o1) (len:=l.length) (cap:=c_l) (ik:=.i64) 14 43 4 i J8 (JZ 15 43 (cs:=[I x1.epoch,U x1.root,U x1.prev,I x1.at_]) 0 (.agg #[I x1.epoch,U x1.root,U x1.prev,I x1.at_]) hc1 (ZT (k:=k_f) (caps:=caps_f) (args:=#[.agg #[I x1.epoch,U x1.root,U x1.prev,I x1.at_]]) 16 (Bo (p_f x1)) hk_f (h_f [I x1.epoch,U x1.root,U x1.prev,I x1.at_] x1 (⟨rfl,w1,w2,w3,w4⟩)) (Je (Jb (Jl (p_f x1) (fun h2=>?_) (fun h2=>?_))))))
 refine Jg [0,0] [(4,I (i:Int))] (Jn (Js (Jj (Qj (Js (Jj (Jo [0] [I (i:Int)] (Jx (Jh _) (congrArg I (?_:(QT p_f l)=(i:Int)).symm)))))))))
 exact Vv hx1 (by simpa using h2) hn
 exact Jq (JN (Jb (Jd (Jc [0,0] [(8,I (Hj.wrap ((i:Int)+1)))] (Kr 8 ((i:Int)+1) J8 (Je (Qi (i+1) ⟨J8,(Jaj hx1 (by simpa using h2) hn)⟩ (by (try dsimp only);omega))))))))
 refine KW (JY (J9 (JT (Jb (Jg [0] [(4,I (-1))] (Jn (Jo [0] [I (-1)] (Jx (Jh _) (congrArg I (?_:(QT p_f l)=(-1)).symm)))))))))
 exact Y7 (by rw [Hk (by omega)] at hn;exact hn)
theorem Jfh (G:J4) (a_l:Option Addr) (c_l:Nat) (l:List JU) (h_l:RS KA G a_l c_l l) (k_f:FuncId) (caps_f:Array Value) (p_f:JU→Bool) (hk_f:JaY Tryz.prog k_f) (h_f:∀ (vs0:List Value) (x0:JU) (hx0:KA.R G vs0 x0),Vp Tryz.prog k_f (#[.agg vs0.toArray]++caps_f) G [] (fun u _ _=>u=Bo (p_f x0))) :Q4 122 #[Sl a_l l.length c_l,Fv k_f caps_f] G (Bo (l.any p_f)):=by
 refine JR Tryz.func122 9 [(0,Sl a_l l.length c_l),(1,Fv k_f caps_f)] rfl (fun w0 G0=>?_)
 refine Jg [0] [] (Jf (Jd (Jc [0,0] [(5,Sl a_l l.length c_l),(6,Fv k_f caps_f)] (Jm 7 (I (QT p_f l)) (Jil G a_l c_l l h_l k_f caps_f p_f hk_f h_f) (Jc [0,0] [(4,Bo (decide (QT p_f l ≥ 0)))] (Je (Jb (Jn (Jo [0] [Bo (decide (QT p_f l ≥ 0))] (Jx (Jh _) (congrArg Bo (?_:(l.any p_f)=(decide (QT p_f l ≥ 0))).symm)))))))))))
 rw [Jak]
theorem JdI (G:J4) (a_l:Option Addr) (c_l:Nat) (l:List Int) (h_l:RS EU G a_l c_l l) :Yw 137 #[Sl a_l l.length c_l] G [] (fun u G' L'=>∃ (a1:Option Addr) (c2:Nat) (r3:List Kh),u=Sl a1 l.length c2∧(J1 EU G' a1 c2 l r3)∧L'=[r3]):=by
 refine JR Tryz.func137 8 [(0,Sl a_l l.length c_l)] rfl (fun w0 G0=>?_)
 refine Jg [0] [] (Jf (Jf (Jd (Jc [0] [(3,Sl a_l l.length c_l)] (JaV 4 (Bo ((a_l).isNone)) (by intro w;cases a_l <;> kernel_rfl) (Je (Jb (Jl ((a_l).isNone) (fun h1=>?_) (fun h1=>?_)))))))))
 refine Jg [0] [(2,Sl none 0 0)] (Jn (Jj (Zy (Jk 0 ?_))))
 have hf1:l=[]:=by
  exact RS.isNil h_l h1
 refine Jo [0] [Sl none 0 0] (JA [[]] (Jh _) ?_)
 rw [hf1]
 try dsimp only
 exact ⟨none,0,([]),rfl,(J1.none EU _),rfl⟩
 refine Jq (Jb (Jf (Jd (Kt 5 0 #[] 41 (fun b1=>Jc [0] [(6,Sl a_l l.length c_l)] (V7 7 41 0 (J1.of_lit (E:=EU) (b:=b1) [] [] trivial (by simp)) h_l (fun a1 c1 r1 hr1=>Jc [0] [(2,Sl a1 l.length c1)] (Je (Jb (Jn (Jk 0 ?_)))))))))))
 have hf2:l=l:=by
  rfl
 refine Jo [0] [Sl a1 l.length c1] (JA [r1] (Jh _) ?_)
 rw [hf2]
 try dsimp only
 exact ⟨a1,c1,r1,rfl,hr1,rfl⟩
theorem Jnr (G:J4) (a_l:Option Addr) (c_l:Nat) (l:List Int) (h_l:RS EU G a_l c_l l) (k_f:FuncId) (caps_f:Array Value) (p_f:Int→Bool) (hk_f:JaY Tryz.prog k_f) (h_f:∀ (x0:Int) (hx0:rU x0),Vp Tryz.prog k_f (#[U x0]++caps_f) G [] (fun u _ _=>u=Bo (p_f x0))) :Q4 220 #[Sl a_l l.length c_l,Fv k_f caps_f] G (I (QT p_f l)):=by
 refine JR Tryz.func220 19 [(0,Sl a_l l.length c_l),(1,Fv k_f caps_f)] rfl (fun w0 G0=>?_)
 refine Jg [0] [] (Jf (Jg [0,0,0] [(7,I (l.length:Int)),(8,I 0)] (Jy ?_)))
 have hlm_h_l:l.length≤9223372036854775807:=Hi (h_l).le (h_l).max
 refine Qh (σ:=Nat) (fun q_=>(q_≤l.length)∧((l.take q_).any p_f=false)) (fun q_=>[(0,Sl a_l l.length c_l),(1,Fv k_f caps_f),(7,I (l.length:Int)),(8,I (q_:Int))]) (fun q_=>G) (fun q_=>[]) (fun q_=>l.length-q_) 0 ⟨(by (try dsimp only);exact Hl _),(by (try dsimp only);simp)⟩ (fun q_ hs=>?_)
 revert hs;revert q_;intro i hs
 obtain ⟨hi,hn⟩:=hs
 dsimp only
 refine Jg [0] [(9,Bo (decide ((i:Int)<(l.length:Int))))] (Jf (Jl (decide ((i:Int)<(l.length:Int))) (fun h1=>?_) (fun h1=>?_)))
 refine Jq (Jb (Jf (Jy (Jg [0,0] [(5,I (i:Int))] (Jf (Jd (Jc [0,0,0] [(11,Fv k_f caps_f),(12,Sl a_l l.length c_l),(13,I (i:Int))] ?_)))))))
 obtain ⟨b1,o1,rfl⟩:=RS.addr h_l (k:=i) (by omega)
 obtain ⟨x1,hx1⟩:=Wf (l:=l) (k:=i) (by omega)
 obtain ⟨_,⟨rfl,w1⟩,hc1⟩:=RS.get h_l hx1
 refine J5 (b:=b1) (off:=o1) (len:=l.length) (cap:=c_l) (ik:=.i64) 14 41 1 i J8 (JZ 15 41 (cs:=[U x1]) 0 (U x1) hc1 (ZT (k:=k_f) (caps:=caps_f) (args:=#[U x1]) 16 (Bo (p_f x1)) hk_f (h_f x1 w1) (Je (Jb (Jl (p_f x1) (fun h2=>?_) (fun h2=>?_))))))
 refine Jg [0,0] [(4,I (i:Int))] (Jn (Js (Jj (Qj (Js (Jj (Jo [0] [I (i:Int)] (Jx (Jh _) (congrArg I (?_:(QT p_f l)=(i:Int)).symm)))))))))
 exact Vv hx1 (by simpa using h2) hn
 exact Jq (JN (Jb (Jd (Jc [0,0] [(8,I (Hj.wrap ((i:Int)+1)))] (Kr 8 ((i:Int)+1) J8 (Je (Qi (i+1) ⟨J8,(Jaj hx1 (by simpa using h2) hn)⟩ (by (try dsimp only);omega))))))))
 refine KW (JY (J9 (JT (Jb (Jg [0] [(4,I (-1))] (Jn (Jo [0] [I (-1)] (Jx (Jh _) (congrArg I (?_:(QT p_f l)=(-1)).symm)))))))))
 exact Y7 (by rw [Hk (by omega)] at hn;exact hn)
theorem JoY (G:J4) (a_l:Option Addr) (c_l:Nat) (l:List Int) (h_l:RS EU G a_l c_l l) (k_f:FuncId) (caps_f:Array Value) (p_f:Int→Bool) (hk_f:JaY Tryz.prog k_f) (h_f:∀ (x0:Int) (hx0:rU x0),Vp Tryz.prog k_f (#[U x0]++caps_f) G [] (fun u _ _=>u=Bo (p_f x0))) :Q4 179 #[Sl a_l l.length c_l,Fv k_f caps_f] G (Bo (l.any p_f)):=by
 refine JR Tryz.func179 9 [(0,Sl a_l l.length c_l),(1,Fv k_f caps_f)] rfl (fun w0 G0=>?_)
 refine Jg [0] [] (Jf (Jd (Jc [0,0] [(5,Sl a_l l.length c_l),(6,Fv k_f caps_f)] (Jm 7 (I (QT p_f l)) (Jnr G a_l c_l l h_l k_f caps_f p_f hk_f h_f) (Jc [0,0] [(4,Bo (decide (QT p_f l ≥ 0)))] (Je (Jb (Jn (Jo [0] [Bo (decide (QT p_f l ≥ 0))] (Jx (Jh _) (congrArg Bo (?_:(l.any p_f)=(decide (QT p_f l ≥ 0))).symm)))))))))))
 rw [Jak]
theorem JfX (G:J4) (a_l:Option Addr) (c_l:Nat) (l:List JQ) (h_l:RS Ke G a_l c_l l) (k_f:FuncId) (caps_f:Array Value) (p_f:JQ→Bool) (hk_f:JaY Tryz.prog k_f) (h_f:∀ (vs0:List Value) (x0:JQ) (hx0:Ke.R G vs0 x0),Vp Tryz.prog k_f (#[.agg vs0.toArray]++caps_f) G [] (fun u _ _=>u=Bo (p_f x0))) :Q4 211 #[Sl a_l l.length c_l,Fv k_f caps_f] G (I (QT p_f l)):=by
 refine JR Tryz.func211 19 [(0,Sl a_l l.length c_l),(1,Fv k_f caps_f)] rfl (fun w0 G0=>?_)
 refine Jg [0] [] (Jf (Jg [0,0,0] [(7,I (l.length:Int)),(8,I 0)] (Jy ?_)))
 have hlm_h_l:l.length≤9223372036854775807:=Hi (h_l).le (h_l).max
 refine Qh (σ:=Nat) (fun q_=>(q_≤l.length)∧((l.take q_).any p_f=false)) (fun q_=>[(0,Sl a_l l.length c_l),(1,Fv k_f caps_f),(7,I (l.length:Int)),(8,I (q_:Int))]) (fun q_=>G) (fun q_=>[]) (fun q_=>l.length-q_) 0 ⟨(by (try dsimp only);exact Hl _),(by (try dsimp only);simp)⟩ (fun q_ hs=>?_)
 revert hs;revert q_;intro i hs
 obtain ⟨hi,hn⟩:=hs
 dsimp only
 refine Jg [0] [(9,Bo (decide ((i:Int)<(l.length:Int))))] (Jf (Jl (decide ((i:Int)<(l.length:Int))) (fun h1=>?_) (fun h1=>?_)))
 refine Jq (Jb (Jf (Jy (Jg [0,0] [(5,I (i:Int))] (Jf (Jd (Jc [0,0,0] [(11,Fv k_f caps_f),(12,Sl a_l l.length c_l),(13,I (i:Int))] ?_)))))))
 obtain ⟨b1,o1,rfl⟩:=RS.addr h_l (k:=i) (by omega)
 obtain ⟨x1,hx1⟩:=Wf (l:=l) (k:=i) (by omega)
 obtain ⟨_,⟨a1,c1,a2,c2,a3,c3,rfl,w1,w2,w3,w4,hs1,w5,w6,w7,w8,w9,hs2,hs3⟩,hc1⟩:=RS.get h_l hx1
 refine J5 (b:=b1) (off:=o1) (len:=l.length) (cap:=c_l) (ik:=.i64) 14 51 12 i J8 (JZ 15 51 (cs:=(Kq x1 a1 c1 a2 c2 a3 c3)) 0 (Q1 x1 a1 c1 a2 c2 a3 c3) hc1 (ZT (k:=k_f) (caps:=caps_f) (args:=#[(Q1 x1 a1 c1 a2 c2 a3 c3)]) 16 (Bo (p_f x1)) hk_f (h_f (Kq x1 a1 c1 a2 c2 a3 c3) x1 (⟨a1,c1,a2,c2,a3,c3,rfl,w1,w2,w3,w4,hs1,w5,w6,w7,w8,w9,hs2,hs3⟩)) (Je (Jb (Jl (p_f x1) (fun h2=>?_) (fun h2=>?_))))))
 refine Jg [0,0] [(4,I (i:Int))] (Jn (Js (Jj (Qj (Js (Jj (Jo [0] [I (i:Int)] (Jx (Jh _) (congrArg I (?_:(QT p_f l)=(i:Int)).symm)))))))))
 exact Vv hx1 (by simpa using h2) hn
 exact Jq (JN (Jb (Jd (Jc [0,0] [(8,I (Hj.wrap ((i:Int)+1)))] (Kr 8 ((i:Int)+1) J8 (Je (Qi (i+1) ⟨J8,(Jaj hx1 (by simpa using h2) hn)⟩ (by (try dsimp only);omega))))))))
 refine KW (JY (J9 (JT (Jb (Jg [0] [(4,I (-1))] (Jn (Jo [0] [I (-1)] (Jx (Jh _) (congrArg I (?_:(QT p_f l)=(-1)).symm)))))))))
 exact Y7 (by rw [Hk (by omega)] at hn;exact hn)
theorem Jhl (G:J4) (a_l:Option Addr) (c_l:Nat) (l:List JQ) (h_l:RS Ke G a_l c_l l) (k_f:FuncId) (caps_f:Array Value) (p_f:JQ→Bool) (hk_f:JaY Tryz.prog k_f) (h_f:∀ (vs0:List Value) (x0:JQ) (hx0:Ke.R G vs0 x0),Vp Tryz.prog k_f (#[.agg vs0.toArray]++caps_f) G [] (fun u _ _=>u=Bo (p_f x0))) :Q4 158 #[Sl a_l l.length c_l,Fv k_f caps_f] G (Bo (l.any p_f)):=by
 refine JR Tryz.func158 9 [(0,Sl a_l l.length c_l),(1,Fv k_f caps_f)] rfl (fun w0 G0=>?_)
 refine Jg [0] [] (Jf (Jd (Jc [0,0] [(5,Sl a_l l.length c_l),(6,Fv k_f caps_f)] (Jm 7 (I (QT p_f l)) (JfX G a_l c_l l h_l k_f caps_f p_f hk_f h_f) (Jc [0,0] [(4,Bo (decide (QT p_f l ≥ 0)))] (Je (Jb (Jn (Jo [0] [Bo (decide (QT p_f l ≥ 0))] (Jx (Jh _) (congrArg Bo (?_:(l.any p_f)=(decide (QT p_f l ≥ 0))).symm)))))))))))
 rw [Jak]
theorem YA (G:J4) (a_l:Option Addr) (c_l:Nat) (l:List J2) (h_l:RS QD G a_l c_l l) :Yw 162 #[Sl a_l l.length c_l] G [] (fun u G' L'=>∃ (a1:Option Addr) (c2:Nat) (r3:List Kh),u=Sl a1 l.length c2∧(J1 QD G' a1 c2 l r3)∧L'=[r3]):=by
 refine JR Tryz.func162 8 [(0,Sl a_l l.length c_l)] rfl (fun w0 G0=>?_)
 refine Jg [0] [] (Jf (Jf (Jd (Jc [0] [(3,Sl a_l l.length c_l)] (JaV 4 (Bo ((a_l).isNone)) (by intro w;cases a_l <;> kernel_rfl) (Je (Jb (Jl ((a_l).isNone) (fun h1=>?_) (fun h1=>?_)))))))))
 refine Jg [0] [(2,Sl none 0 0)] (Jn (Jj (Zy (Jk 0 ?_))))
 have hf1:l=[]:=by
  exact RS.isNil h_l h1
 refine Jo [0] [Sl none 0 0] (JA [[]] (Jh _) ?_)
 rw [hf1]
 try dsimp only
 exact ⟨none,0,([]),rfl,(J1.none QD _),rfl⟩
 refine Jq (Jb (Jf (Jd (Kt 5 0 #[] 111 (fun b1=>Jc [0] [(6,Sl a_l l.length c_l)] (V7 7 111 0 (J1.of_lit (E:=QD) (b:=b1) [] [] trivial (by simp)) h_l (fun a1 c1 r1 hr1=>Jc [0] [(2,Sl a1 l.length c1)] (Je (Jb (Jn (Jk 0 ?_)))))))))))
 have hf2:l=l:=by
  rfl
 refine Jo [0] [Sl a1 l.length c1] (JA [r1] (Jh _) ?_)
 rw [hf2]
 try dsimp only
 exact ⟨a1,c1,r1,rfl,hr1,rfl⟩
theorem Jfi (G:J4) (a_l:Option Addr) (c_l:Nat) (l:List J2) (h_l:RS QD G a_l c_l l) (k_f:FuncId) (caps_f:Array Value) (p_f:J2→Bool) (hk_f:JaY Tryz.prog k_f) (h_f:∀ (vs0:List Value) (x0:J2) (hx0:QD.R G vs0 x0),Vp Tryz.prog k_f (#[.agg vs0.toArray]++caps_f) G [] (fun u _ _=>u=Bo (p_f x0))) :Q4 219 #[Sl a_l l.length c_l,Fv k_f caps_f] G (I (QT p_f l)):=by
 refine JR Tryz.func219 19 [(0,Sl a_l l.length c_l),(1,Fv k_f caps_f)] rfl (fun w0 G0=>?_)
 refine Jg [0] [] (Jf (Jg [0,0,0] [(7,I (l.length:Int)),(8,I 0)] (Jy ?_)))
 have hlm_h_l:l.length≤9223372036854775807:=Hi (h_l).le (h_l).max
 refine Qh (σ:=Nat) (fun q_=>(q_≤l.length)∧((l.take q_).any p_f=false)) (fun q_=>[(0,Sl a_l l.length c_l),(1,Fv k_f caps_f),(7,I (l.length:Int)),(8,I (q_:Int))]) (fun q_=>G) (fun q_=>[]) (fun q_=>l.length-q_) 0 ⟨(by (try dsimp only);exact Hl _),(by (try dsimp only);simp)⟩ (fun q_ hs=>?_)
 revert hs;revert q_;intro i hs
 obtain ⟨hi,hn⟩:=hs
 dsimp only
 refine Jg [0] [(9,Bo (decide ((i:Int)<(l.length:Int))))] (Jf (Jl (decide ((i:Int)<(l.length:Int))) (fun h1=>?_) (fun h1=>?_)))
 refine Jq (Jb (Jf (Jy (Jg [0,0] [(5,I (i:Int))] (Jf (Jd (Jc [0,0,0] [(11,Fv k_f caps_f),(12,Sl a_l l.length c_l),(13,I (i:Int))] ?_)))))))
 obtain ⟨b1,o1,rfl⟩:=RS.addr h_l (k:=i) (by omega)
 obtain ⟨x1,hx1⟩:=Wf (l:=l) (k:=i) (by omega)
 obtain ⟨_,⟨rfl,w1,w2⟩,hc1⟩:=RS.get h_l hx1
 refine J5 (b:=b1) (off:=o1) (len:=l.length) (cap:=c_l) (ik:=.i64) 14 111 2 i J8 (JZ 15 111 (cs:=[Sr x1.name,Sr x1.value]) 0 (.agg #[Sr x1.name,Sr x1.value]) hc1 (ZT (k:=k_f) (caps:=caps_f) (args:=#[.agg #[Sr x1.name,Sr x1.value]]) 16 (Bo (p_f x1)) hk_f (h_f [Sr x1.name,Sr x1.value] x1 (⟨rfl,w1,w2⟩)) (Je (Jb (Jl (p_f x1) (fun h2=>?_) (fun h2=>?_))))))
 refine Jg [0,0] [(4,I (i:Int))] (Jn (Js (Jj (Qj (Js (Jj (Jo [0] [I (i:Int)] (Jx (Jh _) (congrArg I (?_:(QT p_f l)=(i:Int)).symm)))))))))
 exact Vv hx1 (by simpa using h2) hn
 exact Jq (JN (Jb (Jd (Jc [0,0] [(8,I (Hj.wrap ((i:Int)+1)))] (Kr 8 ((i:Int)+1) J8 (Je (Qi (i+1) ⟨J8,(Jaj hx1 (by simpa using h2) hn)⟩ (by (try dsimp only);omega))))))))
 refine KW (JY (J9 (JT (Jb (Jg [0] [(4,I (-1))] (Jn (Jo [0] [I (-1)] (Jx (Jh _) (congrArg I (?_:(QT p_f l)=(-1)).symm)))))))))
 exact Y7 (by rw [Hk (by omega)] at hn;exact hn)
theorem JlX (G:J4) (a_l:Option Addr) (c_l:Nat) (l:List J2) (h_l:RS QD G a_l c_l l) (k_f:FuncId) (caps_f:Array Value) (p_f:J2→Bool) (hk_f:JaY Tryz.prog k_f) (h_f:∀ (vs0:List Value) (x0:J2) (hx0:QD.R G vs0 x0),Vp Tryz.prog k_f (#[.agg vs0.toArray]++caps_f) G [] (fun u _ _=>u=Bo (p_f x0))) :Q4 177 #[Sl a_l l.length c_l,Fv k_f caps_f] G (Bo (l.any p_f)):=by
 refine JR Tryz.func177 9 [(0,Sl a_l l.length c_l),(1,Fv k_f caps_f)] rfl (fun w0 G0=>?_)
 refine Jg [0] [] (Jf (Jd (Jc [0,0] [(5,Sl a_l l.length c_l),(6,Fv k_f caps_f)] (Jm 7 (I (QT p_f l)) (Jfi G a_l c_l l h_l k_f caps_f p_f hk_f h_f) (Jc [0,0] [(4,Bo (decide (QT p_f l ≥ 0)))] (Je (Jb (Jn (Jo [0] [Bo (decide (QT p_f l ≥ 0))] (Jx (Jh _) (congrArg Bo (?_:(l.any p_f)=(decide (QT p_f l ≥ 0))).symm)))))))))))
 rw [Jak]
theorem YB (G:J4) (a_l:Option Addr) (c_l:Nat) (l:List W8) (h_l:RS QW G a_l c_l l) :Yw 208 #[Sl a_l l.length c_l] G [] (fun u G' L'=>∃ (a1:Option Addr) (c2:Nat) (r3:List Kh),u=Sl a1 l.length c2∧(J1 QW G' a1 c2 l r3)∧L'=[r3]):=by
 refine JR Tryz.func208 8 [(0,Sl a_l l.length c_l)] rfl (fun w0 G0=>?_)
 refine Jg [0] [] (Jf (Jf (Jd (Jc [0] [(3,Sl a_l l.length c_l)] (JaV 4 (Bo ((a_l).isNone)) (by intro w;cases a_l <;> kernel_rfl) (Je (Jb (Jl ((a_l).isNone) (fun h1=>?_) (fun h1=>?_)))))))))
 refine Jg [0] [(2,Sl none 0 0)] (Jn (Jj (Zy (Jk 0 ?_))))
 have hf1:l=[]:=by
  exact RS.isNil h_l h1
 refine Jo [0] [Sl none 0 0] (JA [[]] (Jh _) ?_)
 rw [hf1]
 try dsimp only
 exact ⟨none,0,([]),rfl,(J1.none QW _),rfl⟩
 refine Jq (Jb (Jf (Jd (Kt 5 0 #[] 182 (fun b1=>Jc [0] [(6,Sl a_l l.length c_l)] (V7 7 182 0 (J1.of_lit (E:=QW) (b:=b1) [] [] trivial (by simp)) h_l (fun a1 c1 r1 hr1=>Jc [0] [(2,Sl a1 l.length c1)] (Je (Jb (Jn (Jk 0 ?_)))))))))))
 have hf2:l=l:=by
  rfl
 refine Jo [0] [Sl a1 l.length c1] (JA [r1] (Jh _) ?_)
 rw [hf2]
 try dsimp only
 exact ⟨a1,c1,r1,rfl,hr1,rfl⟩
def Qz (name value:List UInt8):Int:=if KJ name=false then 3 else if 20<value.length then 2 else 0
def Kw (a:W8):Int:=Qz a.name a.value
theorem JeL {a b:Int} (h:0≤a∧a≤30) (hb:1≤b∧b≤30):0≤a.tdiv b∧a.tdiv b≤30:=by
 rw [HC h.1]
 exact ⟨Int.ediv_nonneg h.1 (by omega),Int.le_trans (Int.ediv_le_self _ h.1) h.2⟩
theorem JkY {a b:Int} (h:0≤a∧a≤31) (hb:1≤b∧b≤1000):0≤a*b∧a*b≤31000:=by
 refine ⟨HT h.1 (by omega),?_⟩
 have h1:a*b≤31*b:=HA h.2 (by omega)
 omega
def ZH:List W8→Int
 | []=>0
 | a::l=>if Kw a=0 then ZH l else Kw a
def Kj (q:QR):Int:=if q.most<1∨30<q.most then 4 else if q.most<q.wait.length then 7 else ZH q.wait
def Vk:QR:=⟨0,[]⟩
def Z5 (q:QR) (a:W8):Int:=if Kj q ≠ 0 then Kj q else if Kw a ≠ 0 then Kw a else if (q.wait.length:Int)=q.most then 7 else 0
def JS (q:QR) (a:W8):QR×Int×Int:=if Z5 q a ≠ 0 then (Vk,0,Z5 q a) else (⟨q.most,q.wait++[a]⟩,q.wait.length,0)
def QC (n:Int) (l:List W8):Nat:=if (l.length:Int)<n then l.length else n.toNat
def J6 (q:QR) (n:Int):QR×List W8×Int:=if Kj q ≠ 0 then (Vk,[],Kj q) else if n<0 then (Vk,[],4) else (⟨q.most,q.wait.drop (QC n q.wait)⟩,q.wait.take (QC n q.wait),0)
def KZ (ahead batch every:Int):Int×Int:=if ahead<0∨30<ahead∨batch<1∨30<batch∨every<1∨1000<every then (0,4) else ((ahead.tdiv batch+1)*every,0)
theorem Jfj {l:List W8} {i:Nat} {x:W8} (h:l[i]? = some x) (h0:Kw x=0):ZH (l.drop i)=ZH (l.drop (i+1)):=by
 obtain ⟨hi,rfl⟩:=Hh.1 h
 rw [Hp hi]
 show (if Kw l[i]=0 then _ else _)=_
 rw [if_pos h0]
theorem Jhm {l:List W8} {i:Nat} {x:W8} (h:l[i]? = some x) (h0:¬ Kw x=0):ZH (l.drop i)=Kw x:=by
 obtain ⟨hi,rfl⟩:=Hh.1 h
 rw [Hp hi]
 show (if Kw l[i]=0 then _ else _)=_
 rw [if_neg h0]
theorem Jcd:∀ {l:List W8},ZH l=0 ↔ ∀ a∈l,Kw a=0
 | []=>by simp [ZH]
 | a::l=>by
  unfold ZH
  split
  · rename_i h;simp [Jcd (l:=l),h]
  · rename_i h;simp [h]
theorem K2 {q:QR}:Kj q=0 ↔ 1≤q.most∧q.most≤30∧(q.wait.length:Int)≤q.most∧∀ a∈q.wait,Kw a=0:=by
 unfold Kj
 rw [← Jcd]
 (repeat' split) <;> omega
theorem Jaz {q:QR} {a:W8} (h:(JS q a).2.2=0):Kj q=0∧Kw a=0∧(q.wait.length:Int)<q.most∧JS q a=((⟨q.most,q.wait++[a]⟩:QR),(q.wait.length:Int),(0:Int)):=by
 unfold JS at h ⊢
 split at h
 · contradiction
 ·
  rename_i h1
  rw [if_neg h1]
  unfold Z5 at h1
  have:=@K2 q
  by_cases e1:Kj q=0
  ·
   rw [if_neg (by omega)] at h1
   by_cases e2:Kw a=0
   ·
    rw [if_neg (by omega)] at h1
    by_cases e3:(q.wait.length:Int)=q.most
    · rw [if_pos e3] at h1;omega
    · exact ⟨e1,e2,by have:=this.1 e1;omega,rfl⟩
   · rw [if_pos e2] at h1;omega
  · rw [if_pos e1] at h1;omega
theorem Jfk {q:QR} {a:W8} (h:(JS q a).2.2=0):Kj (JS q a).1=0:=by
 obtain ⟨h1,h2,h3,h4⟩:=Jaz h
 rw [h4]
 rw [K2] at h1 ⊢
 refine ⟨h1.1,h1.2.1,by simp;omega,fun b hb=>?_⟩
 rcases HI.1 hb with hb | hb
 · exact h1.2.2.2 b hb
 · rw [HM.1 hb];exact h2
theorem Jhn {q:QR} {n:Int} (h:(J6 q n).2.2=0):Kj q=0∧0≤n∧J6 q n=((⟨q.most,q.wait.drop (QC n q.wait)⟩:QR),q.wait.take (QC n q.wait),(0:Int)):=by
 unfold J6 at h ⊢
 split at h
 · contradiction
 split at h
 · cases h
 ·
  rename_i h1 h2
  rw [if_neg h1,if_neg h2]
  exact ⟨by omega,by omega,rfl⟩
theorem JeB {q:QR} {n:Int} (h:(J6 q n).2.2=0):Kj (J6 q n).1=0:=by
 obtain ⟨h1,h2,h3⟩:=Jhn h
 rw [h3]
 rw [K2] at h1 ⊢
 exact ⟨h1.1,h1.2.1,by simp;omega,fun b hb=>h1.2.2.2 b (List.mem_of_mem_drop hb)⟩
theorem JlY {n:Int} {l:List W8} (h:0≤n):(if (((l.length:Nat):Int))<n then (((l.length:Nat):Int)) else n)=((QC n l:Nat):Int):=by unfold QC;split <;> omega
theorem JdJ {n:Int} {l:List W8}:QC n l≤l.length:=by unfold QC;split <;> omega
theorem Jho {a b e:Int} (h:(KZ a b e).2=0):0≤a∧a≤30∧1≤b∧b≤30∧1≤e∧e≤1000∧KZ a b e=((a / b+1)*e,0):=by
 unfold KZ at h ⊢
 split at h
 · cases h
 ·
  rename_i h1
  rw [if_neg h1,HC (by omega)]
  exact ⟨by omega,by omega,by omega,by omega,by omega,by omega,rfl⟩
theorem JbE (G:J4) (vs_a:List Value) (a:W8) (h_a:QW.R G vs_a a) :Q4 207 #[.agg vs_a.toArray] G (I (Kw a)):=by
 obtain ⟨rfl,_,_,_,_⟩:=h_a
 refine JR Tryz.func207 13 [(0,.agg #[Sr a.name,Sr a.value,U a.n,U a.tag])] rfl (fun w0 G0=>?_)
 refine Jf (Jd (Jv 1 #[Sr a.name,Sr a.value,U a.n,U a.tag] 182 (fun b1=>Jc [0] [] (Je (Jb (Jf (Jy (Jf (Jd (Jc [0,2] [(5,Sr a.name)] (Jm 6 (Bo (KJ a.name)) (ZN G a.name) (Jc [0,0] [(3,Bo (!(KJ a.name)))] (Je (Jb (Jl (!(KJ a.name)) (fun h1=>?_) (fun h1=>?_))))))))))))))))
 refine Jg [0] [(2,I 3)] (Jn (Js (Jj (Jo [0] [I 3] (Jx (Jh _) (congrArg I (?_:(Kw a)=3).symm))))))
 unfold Kw Qz;simp_all;try omega
 refine Jg [0,2,0,0,0] [(8,Bo (decide (((a.value).length:Int) > 20)))] (Jl (decide (((a.value).length:Int) > 20)) (fun h2=>?_) (fun h2=>?_))
 refine Jg [0] [(2,I 2)] (Jn (Js (Jj (Jo [0] [I 2] (Jx (Jh _) (congrArg I (?_:(Kw a)=2).symm))))))
 unfold Kw Qz;simp_all;try omega
 refine Jq (JN (Jb (Jg [0] [(2,I 0)] (Jn (Jo [0] [I 0] (Jx (Jh _) (congrArg I (?_:(Kw a)=0).symm)))))))
 unfold Kw Qz;simp_all;try omega
theorem Jam (G:J4) (vs_q:List Value) (q:QR) (h_q:JjH.R G vs_q q) :Q4 205 #[.agg vs_q.toArray] G (I (Kj q)):=by
 obtain ⟨a1,c1,rfl,_,hs1⟩:=h_q
 refine JR Tryz.func205 35 [(0,.agg #[I q.most,Sl a1 q.wait.length c1])] rfl (fun w0 G0=>?_)
 refine Jf (Jd (Jv 1 #[I q.most,Sl a1 q.wait.length c1] 57 (fun b1=>Jc [0] [] (Je (Jb (Jf (Jy (Jf (Jd (Jc [0,2,0,0] [(10,Bo (decide (q.most<1)))] (Ks (decide (q.most<1)) [10] [1,1,1,0] [0,2,0,0] (fun bb=>[(14,Bo (bb || (decide (q.most > 30))))]) (Jc [0] [(6,Bo ((decide (q.most<1)) || (decide (q.most > 30))))] (Je (Jb (Jl ((decide (q.most<1)) || (decide (q.most > 30))) (fun h1=>?_) (fun h1=>?_))))))))))))))))
 refine Jg [0] [(2,I 4)] (Jn (Js (Jj (Jo [0] [I 4] (Jx (Jh _) (congrArg I (?_:(Kj q)=4).symm))))))
 · unfold Kj;(rw [if_pos (by omega)];done)
 refine Jg [0,2,0,0,2,0,0] [(15,Bo (decide ((q.wait.length:Int) > q.most)))] (Jl (decide ((q.wait.length:Int) > q.most)) (fun h2=>?_) (fun h2=>?_))
 refine Jg [0] [(2,I 7)] (Jn (Js (Jj (Jo [0] [I 7] (Jx (Jh _) (congrArg I (?_:(Kj q)=7).symm))))))
 · unfold Kj;(rw [if_neg (by omega),if_pos (by omega)];done)
 refine Jq (JN (Jb (Jf (Jg [0,2,0,0] [(23,Sl a1 q.wait.length c1),(24,I (q.wait.length:Int)),(25,I 0)] (Jy ?_)))))
 have hlm_hs1:q.wait.length≤9223372036854775807:=Hi (hs1).le (hs1).max
 refine Qh (σ:=Nat) (fun q_=>(q_≤q.wait.length)∧(ZH q.wait=ZH (q.wait.drop q_))) (fun q_=>[(23,Sl a1 q.wait.length c1),(24,I (q.wait.length:Int)),(25,I (q_:Int))]) (fun q_=>G) (fun q_=>[[Sg b1 0 [I q.most,Sl a1 q.wait.length c1]]]) (fun q_=>q.wait.length-q_) 0 ⟨(by (try dsimp only);exact Hl _),rfl⟩ (fun q_ hs=>?_)
 revert hs;revert q_;intro i hs
 obtain ⟨hi,hn⟩:=hs
 dsimp only
 refine Jg [0] [(26,Bo (decide ((i:Int)<(q.wait.length:Int))))] (Jf (Jl (decide ((i:Int)<(q.wait.length:Int))) (fun h3=>?_) (fun h3=>?_)))
 refine Jq (Jb (Jf (Jy (Jf (Jd ?_)))))
 obtain ⟨b2,o1,rfl⟩:=RS.addr hs1 (k:=i) (by omega)
 obtain ⟨x1,hx1⟩:=Wf (l:=q.wait) (k:=i) (by omega)
 obtain ⟨_,⟨rfl,w2,w3,w4,w5⟩,hc1⟩:=RS.get hs1 hx1
 refine J5 (b:=b2) (off:=o1) (len:=q.wait.length) (cap:=c1) (ik:=.i64) 27 182 4 i J8 (JZ 28 182 (cs:=[Sr x1.name,Sr x1.value,U x1.n,U x1.tag]) 0 (.agg #[Sr x1.name,Sr x1.value,U x1.n,U x1.tag]) hc1 (Jv 4 #[Sr ([]),Sr ([]),U 0,U 0] 182 (fun b3=>JV [3] [] [[Sg b3 0 [Sr x1.name,Sr x1.value,U x1.n,U x1.tag]],[Sg b1 0 [I q.most,Sl (At b2 o1) q.wait.length c1]]] (Je (Jb (Jf (Jd (Jc [2] [(29,.agg #[Sr x1.name,Sr x1.value,U x1.n,U x1.tag])] (Jm 30 (I (Kw x1)) (JbE G [Sr x1.name,Sr x1.value,U x1.n,U x1.tag] x1 (⟨rfl,w2,w3,w4,w5⟩)) (Jc [0] [(5,I (Kw x1))] (Je (Jb (Jg [0,0] [(32,Bo (!decide (Kw x1=0)))] (Jl (!decide (Kw x1=0)) (fun h4=>?_) (fun h4=>?_)))))))))))))))
 refine Jg [0,0] [(2,I (Kw x1))] (Jn (Js (Jj (Qj (Js (Jj (Jo [0] [I (Kw x1)] (Jx (Jh _) (congrArg I (?_:(Kj q)=(Kw x1)).symm)))))))))
 unfold Kj;(rw [if_neg (by omega),if_neg (by omega),hn];exact Jhm hx1 h4)
 exact Jq (JN (Jb (Jd (Jc [0,0] [(25,I (Hj.wrap ((i:Int)+1)))] (Kr 25 ((i:Int)+1) J8 (Je (Qr [[Sg b1 0 [I q.most,Sl (At b2 o1) q.wait.length c1]]] (Qi (i+1) ⟨J8,(by rw [hn];exact Jfj hx1 h4)⟩ (by (try dsimp only);omega)))))))))
 refine KW (JY (J9 (JT (Jb (Jg [0] [(2,I 0)] (Jn (Jo [0] [I 0] (Jx (Jh _) (congrArg I (?_:(Kj q)=0).symm)))))))))
 unfold Kj;(rw [if_neg (by omega),if_neg (by omega),hn];(rw [Ht (by omega)];rfl))
set_option maxRecDepth 20000 in
theorem Jhp (G:J4) (vs_q:List Value) (q:QR) (h_q:JjH.R G vs_q q) (vs_a:List Value) (a:W8) (h_a:QW.R G vs_a a) :Yw 153 #[.agg vs_q.toArray,.agg vs_a.toArray] G [] (fun u G' L'=>∃ (a1:Option Addr) (c2:Nat),u=.tuple #[.agg #[I (((JS q a).1).most),Sl a1 ((((JS q a).1).wait).length) c2],I ((JS q a).2.1),I ((JS q a).2.2)]∧(rI (((JS q a).1).most))∧(RS QW G' a1 c2 (((JS q a).1).wait))∧L'=[]):=by
 obtain ⟨a1,c1,rfl,w1,hs1⟩:=h_q
 obtain ⟨rfl,w2,w3,w4,w5⟩:=h_a
 refine JR Tryz.func153 42 [(0,.agg #[I q.most,Sl a1 q.wait.length c1]),(1,.agg #[Sr a.name,Sr a.value,U a.n,U a.tag])] rfl (fun w0 G0=>?_)
 refine Jf (Jd (Jv 2 #[I q.most,Sl a1 q.wait.length c1] 57 (fun b1=>Jv 3 #[Sr a.name,Sr a.value,U a.n,U a.tag] 182 (fun b2=>Jv 4 #[I 0,Sl none 0 0] 57 (fun b3=>Jc [0,0] [] (Je (Jb (Jf (Jd (Jc [6] [(9,.agg #[I q.most,Sl a1 q.wait.length c1])] (Jm 10 (I (Kj q)) (Jam G [I q.most,Sl a1 q.wait.length c1] q (⟨a1,c1,rfl,w1,hs1⟩)) (Jc [0] [(7,I (Kj q))] (Je (Jb (Jf (Jg [0,0] [(12,Bo (decide (Kj q=0)))] (Jl (decide (Kj q=0)) (fun h1=>?_) (fun h1=>?_))))))))))))))))))
 refine Jd (Jc [4] [(13,.agg #[Sr a.name,Sr a.value,U a.n,U a.tag])] (Jm 14 (I (Kw a)) (JbE G [Sr a.name,Sr a.value,U a.n,U a.tag] a (⟨rfl,w2,w3,w4,w5⟩)) (Jc [0] [(7,I (Kw a))] (Je (Jb (Jf (Jf (Jd (Jc [0,0,0] [(17,Bo (decide (Kw a=0)))] (Ks (decide (Kw a=0)) [17] [0,6,0,0,6,0,0] [1,1,1,1,1,1,0] (fun bb=>[(24,Bo (bb && (decide ((q.wait.length:Int)=q.most))))]) (Je (Jb (Jl ((decide (Kw a=0)) && (decide ((q.wait.length:Int)=q.most))) (fun h2=>?_) (fun h2=>?_))))))))))))))
 refine Jd (Jc [0] [(7,I 7)] (Je (Jb (Jf (Jg [0,0] [(26,Bo true)] (JW (Jg [0,0,3,0,0] [(5,I 0),(6,I 7)] (Jn (Jj ?_)))))))))
 have hf1:JS q a=((⟨0,[]⟩:QR),0,7):=by
  unfold JS Z5 Vk;simp_all;try omega
 refine Jo [0,0,0] [.agg #[I 0,Sl none 0 0],I 0,I 7] (JA [] (Jh _) ?_)
 rw [hf1]
 try dsimp only
 exact ⟨none,0,rfl,J8,(JP QW G),rfl⟩
 refine Jq (Jb (Jf (Jg [0,0] [(26,Bo (!decide (Kw a=0)))] (Jl (!decide (Kw a=0)) (fun h3=>?_) (fun h3=>?_)))))
 refine Jg [0,0,3,0,0] [(5,I 0),(6,I (Kw a))] (Jn (Jj ?_))
 have hf2:JS q a=((⟨0,[]⟩:QR),0,Kw a):=by
  unfold JS Z5 Vk;simp_all;try omega
 refine Jo [0,0,0] [.agg #[I 0,Sl none 0 0],I 0,I (Kw a)] (JA [] (Jh _) ?_)
 rw [hf2]
 try dsimp only
 exact ⟨none,0,rfl,J8,(JP QW G),rfl⟩
 refine Jq (Jb (Jg [0,6,0,0] [(8,I (q.wait.length:Int))] (Jf (Kp [4,6,7,10] (Wl [(0,Pt b1 0),(1,I q.most),(2,Pt b1 1),(3,Sl a1 q.wait.length c1),(5,.agg #[Sr a.name,Sr a.value,U a.n,U a.tag]),(9,I (q.wait.length:Int))] (JK [] [(0,0),(1,6),(2,0),(3,6),(5,4),(9,0)] [] [4,6] (Hf _) (Ki ?_ (Ki ?_ K8))))))))
 refine JC 4 [(35,Sl a1 q.wait.length c1)] (fun X=>?_)
 refine JI 36 (YB G a1 c1 q.wait hs1) (fun v G1 L1 hl1 hp=>?_)
 obtain ⟨a2,c2,_,rfl,hr1,rfl⟩:=hp
 refine JD [(4,Sl a2 q.wait.length c2)] (JK [2,3] [(0,0),(1,8),(5,6),(9,0)] [] [6] (Hf _) (Ki ?_ K8))
 refine JC 6 [(37,.agg #[Sr a.name,Sr a.value,U a.n,U a.tag])] (fun X=>?_)
 refine Kt 38 1 #[Sr a.name,Sr a.value,U a.n,U a.tag] 182 (fun b4=>JD [(6,Sl (At b4 0) 1 1)] (JK [2,3,5] [(0,0),(1,10),(9,0)] [] [7] (Hf _) (Ki ?_ K8)))
 refine JC 7 [(36,Sl a2 q.wait.length c2),(38,Sl (At b4 0) 1 1)] (fun X=>?_)
 refine Qy (b:=b4) (cs:=[Sr a.name,Sr a.value,U a.n,U a.tag]) 39 182 1 0 (E:=QW) a hr1 ⟨rfl,w2,w3,w4,w5⟩ (by have hq_:=K2.1 ‹_›;(try simp only [QW,Hg,Hm,Hn]);omega) (by have hq_:=K2.1 ‹_›;(try simp only [QW,Hg,Hm,Hn]);omega) (fun a3 c3 r2 hr2=>JD [(7,Sl a3 ((q.wait++[a]).length) c3),(8,.agg #[I q.most,Sl a3 ((q.wait++[a]).length) c3])] (JK [2,3,5] [(0,0),(1,10),(8,0),(9,0)] [] [10] (Hf _) (Ki ?_ K8)))
 refine JC 10 [(4,Pt b3 0),(40,.agg #[I q.most,Sl a3 ((q.wait++[a]).length) c3])] (fun X=>?_)
 refine KN 2 [[Sg b4 0 [Sr a.name,Sr a.value,U a.n,U a.tag]],r2,[Sg b3 0 [I q.most,Sl a3 ((q.wait++[a]).length) c3]],[Sg b2 0 [Sr a.name,Sr a.value,U a.n,U a.tag]],[Sg b1 0 [I q.most,Sl a1 q.wait.length c1]]] (Ka [(11,I (q.wait.length:Int)),(12,I 0)] (Km [0,1,2,3,5,8] [(9,0),(11,0),(12,0)] [] [(4,Pt b3 0),(5,I (q.wait.length:Int)),(6,I 0)] (Hf _) (Jb (Jn (Wp (E:=QW) 1 hr2 (by have hq_:=K2.1 ‹_›;(try simp only [QW,Hg,Hm,Hn]);omega) (fun G2 hl2 hs2=>?_))))))
 have hf3:JS q a=((⟨q.most,q.wait++[a]⟩:QR),(q.wait.length:Int),0):=by
  unfold JS Z5 Vk;simp_all;try omega
 refine Jo [2,0,0] [.agg #[I q.most,Sl a3 ((q.wait++[a]).length) c3],I (q.wait.length:Int),I 0] (JA [] (Ja hl1 hl2) ?_)
 rw [hf3]
 try dsimp only
 exact ⟨a3,c3,rfl,w1,hs2,rfl⟩
 refine JC 6 [(37,.agg #[Sr a.name,Sr a.value,U a.n,U a.tag])] (fun X=>?_)
 refine Kt 38 1 #[Sr a.name,Sr a.value,U a.n,U a.tag] 182 (fun b5=>JD [(6,Sl (At b5 0) 1 1)] (JK [5] [(0,0),(1,8),(2,0),(3,8),(9,0)] [] [4] (Hf _) (Ki ?_ K8)))
 refine JC 4 [(35,Sl a1 q.wait.length c1)] (fun X=>?_)
 refine JI 36 (YB G a1 c1 q.wait hs1) (fun v G3 L1 hl3 hp=>?_)
 obtain ⟨a4,c4,_,rfl,hr3,rfl⟩:=hp
 refine JD [(4,Sl a4 q.wait.length c4)] (JK [2,3,5] [(0,0),(1,10),(9,0)] [] [7] (Hf _) (Ki ?_ K8))
 refine JC 7 [(36,Sl a4 q.wait.length c4),(38,Sl (At b5 0) 1 1)] (fun X=>?_)
 refine Qy (b:=b5) (cs:=[Sr a.name,Sr a.value,U a.n,U a.tag]) 39 182 0 1 (E:=QW) a hr3 ⟨rfl,w2,w3,w4,w5⟩ (by have hq_:=K2.1 ‹_›;(try simp only [QW,Hg,Hm,Hn]);omega) (by have hq_:=K2.1 ‹_›;(try simp only [QW,Hg,Hm,Hn]);omega) (fun a5 c5 r4 hr4=>JD [(7,Sl a5 ((q.wait++[a]).length) c5),(8,.agg #[I q.most,Sl a5 ((q.wait++[a]).length) c5])] (JK [2,3,5] [(0,0),(1,10),(8,0),(9,0)] [] [10] (Hf _) (Ki ?_ K8)))
 refine JC 10 [(4,Pt b3 0),(40,.agg #[I q.most,Sl a5 ((q.wait++[a]).length) c5])] (fun X=>?_)
 refine KN 2 [r4,[Sg b5 0 [Sr a.name,Sr a.value,U a.n,U a.tag]],[Sg b3 0 [I q.most,Sl a5 ((q.wait++[a]).length) c5]],[Sg b2 0 [Sr a.name,Sr a.value,U a.n,U a.tag]],[Sg b1 0 [I q.most,Sl a1 q.wait.length c1]]] (Ka [(11,I (q.wait.length:Int)),(12,I 0)] (Km [0,1,2,3,5,8] [(9,0),(11,0),(12,0)] [] [(4,Pt b3 0),(5,I (q.wait.length:Int)),(6,I 0)] (Hf _) (Jb (Jn (Wp (E:=QW) 0 hr4 (by have hq_:=K2.1 ‹_›;(try simp only [QW,Hg,Hm,Hn]);omega) (fun G4 hl4 hs3=>?_))))))
 have hf4:JS q a=((⟨q.most,q.wait++[a]⟩:QR),(q.wait.length:Int),0):=by
  unfold JS Z5 Vk;simp_all;try omega
 refine Jo [2,0,0] [.agg #[I q.most,Sl a5 ((q.wait++[a]).length) c5],I (q.wait.length:Int),I 0] (JA [] (Ja hl3 hl4) ?_)
 rw [hf4]
 try dsimp only
 exact ⟨a5,c5,rfl,w1,hs3,rfl⟩
 refine Jq (Jb (Jf (Jf (Jd (Jc [0,0,0] [(17,Bo (decide (Kj q=0)))] (Ks (decide (Kj q=0)) [17] [0,6,0,0,6,0,0] [1,1,1,1,1,1,0] (fun bb=>[(24,Bo (bb && (decide ((q.wait.length:Int)=q.most))))]) (Je (Jb (Jl ((decide (Kj q=0)) && (decide ((q.wait.length:Int)=q.most))) (fun h4=>?_) (fun h4=>?_))))))))))
 refine Jd (Jc [0] [(7,I 7)] (Je (Jb (Jf (Jg [0,0] [(26,Bo true)] (JW (Jg [0,0,3,0,0] [(5,I 0),(6,I 7)] (Jn (Jj ?_)))))))))
 have hf5:JS q a=((⟨0,[]⟩:QR),0,7):=by
  unfold JS Z5 Vk;simp_all;try omega
 refine Jo [0,0,0] [.agg #[I 0,Sl none 0 0],I 0,I 7] (JA [] (Jh _) ?_)
 rw [hf5]
 try dsimp only
 exact ⟨none,0,rfl,J8,(JP QW G),rfl⟩
 refine Jq (Jb (Jf (Jg [0,0] [(26,Bo (!decide (Kj q=0)))] (Jl (!decide (Kj q=0)) (fun h5=>?_) (fun h5=>?_)))))
 refine Jg [0,0,3,0,0] [(5,I 0),(6,I (Kj q))] (Jn (Jj ?_))
 have hf6:JS q a=((⟨0,[]⟩:QR),0,Kj q):=by
  unfold JS Z5 Vk;simp_all;try omega
 refine Jo [0,0,0] [.agg #[I 0,Sl none 0 0],I 0,I (Kj q)] (JA [] (Jh _) ?_)
 rw [hf6]
 try dsimp only
 exact ⟨none,0,rfl,J8,(JP QW G),rfl⟩
 refine Jq (Jb (Jg [0,6,0,0] [(8,I (q.wait.length:Int))] (Jf (Kp [4,6,7,10] (Wl [(0,Pt b1 0),(1,I q.most),(2,Pt b1 1),(3,Sl a1 q.wait.length c1),(5,.agg #[Sr a.name,Sr a.value,U a.n,U a.tag]),(9,I (q.wait.length:Int))] (JK [] [(0,0),(1,6),(2,0),(3,6),(5,4),(9,0)] [] [4,6] (Hf _) (Ki ?_ (Ki ?_ K8))))))))
 refine JC 4 [(35,Sl a1 q.wait.length c1)] (fun X=>?_)
 refine JI 36 (YB G a1 c1 q.wait hs1) (fun v G5 L1 hl5 hp=>?_)
 obtain ⟨a6,c6,_,rfl,hr5,rfl⟩:=hp
 refine JD [(4,Sl a6 q.wait.length c6)] (JK [2,3] [(0,0),(1,8),(5,6),(9,0)] [] [6] (Hf _) (Ki ?_ K8))
 refine JC 6 [(37,.agg #[Sr a.name,Sr a.value,U a.n,U a.tag])] (fun X=>?_)
 refine Kt 38 1 #[Sr a.name,Sr a.value,U a.n,U a.tag] 182 (fun b6=>JD [(6,Sl (At b6 0) 1 1)] (JK [2,3,5] [(0,0),(1,10),(9,0)] [] [7] (Hf _) (Ki ?_ K8)))
 refine JC 7 [(36,Sl a6 q.wait.length c6),(38,Sl (At b6 0) 1 1)] (fun X=>?_)
 refine Qy (b:=b6) (cs:=[Sr a.name,Sr a.value,U a.n,U a.tag]) 39 182 1 0 (E:=QW) a hr5 ⟨rfl,w2,w3,w4,w5⟩ (by have hq_:=K2.1 ‹_›;(try simp only [QW,Hg,Hm,Hn]);omega) (by have hq_:=K2.1 ‹_›;(try simp only [QW,Hg,Hm,Hn]);omega) (fun a7 c7 r6 hr6=>JD [(7,Sl a7 ((q.wait++[a]).length) c7),(8,.agg #[I q.most,Sl a7 ((q.wait++[a]).length) c7])] (JK [2,3,5] [(0,0),(1,10),(8,0),(9,0)] [] [10] (Hf _) (Ki ?_ K8)))
 refine JC 10 [(4,Pt b3 0),(40,.agg #[I q.most,Sl a7 ((q.wait++[a]).length) c7])] (fun X=>?_)
 refine KN 2 [[Sg b6 0 [Sr a.name,Sr a.value,U a.n,U a.tag]],r6,[Sg b3 0 [I q.most,Sl a7 ((q.wait++[a]).length) c7]],[Sg b2 0 [Sr a.name,Sr a.value,U a.n,U a.tag]],[Sg b1 0 [I q.most,Sl a1 q.wait.length c1]]] (Ka [(11,I (q.wait.length:Int)),(12,I 0)] (Km [0,1,2,3,5,8] [(9,0),(11,0),(12,0)] [] [(4,Pt b3 0),(5,I (q.wait.length:Int)),(6,I 0)] (Hf _) (Jb (Jn (Wp (E:=QW) 1 hr6 (by have hq_:=K2.1 ‹_›;(try simp only [QW,Hg,Hm,Hn]);omega) (fun G6 hl6 hs4=>?_))))))
 have hf7:JS q a=((⟨q.most,q.wait++[a]⟩:QR),(q.wait.length:Int),0):=by
  unfold JS Z5 Vk;simp_all;try omega
 refine Jo [2,0,0] [.agg #[I q.most,Sl a7 ((q.wait++[a]).length) c7],I (q.wait.length:Int),I 0] (JA [] (Ja hl5 hl6) ?_)
 rw [hf7]
 try dsimp only
 exact ⟨a7,c7,rfl,w1,hs4,rfl⟩
 refine JC 6 [(37,.agg #[Sr a.name,Sr a.value,U a.n,U a.tag])] (fun X=>?_)
 refine Kt 38 1 #[Sr a.name,Sr a.value,U a.n,U a.tag] 182 (fun b7=>JD [(6,Sl (At b7 0) 1 1)] (JK [5] [(0,0),(1,8),(2,0),(3,8),(9,0)] [] [4] (Hf _) (Ki ?_ K8)))
 refine JC 4 [(35,Sl a1 q.wait.length c1)] (fun X=>?_)
 refine JI 36 (YB G a1 c1 q.wait hs1) (fun v G7 L1 hl7 hp=>?_)
 obtain ⟨a8,c8,_,rfl,hr7,rfl⟩:=hp
 refine JD [(4,Sl a8 q.wait.length c8)] (JK [2,3,5] [(0,0),(1,10),(9,0)] [] [7] (Hf _) (Ki ?_ K8))
 refine JC 7 [(36,Sl a8 q.wait.length c8),(38,Sl (At b7 0) 1 1)] (fun X=>?_)
 refine Qy (b:=b7) (cs:=[Sr a.name,Sr a.value,U a.n,U a.tag]) 39 182 0 1 (E:=QW) a hr7 ⟨rfl,w2,w3,w4,w5⟩ (by have hq_:=K2.1 ‹_›;(try simp only [QW,Hg,Hm,Hn]);omega) (by have hq_:=K2.1 ‹_›;(try simp only [QW,Hg,Hm,Hn]);omega) (fun a9 c9 r8 hr8=>JD [(7,Sl a9 ((q.wait++[a]).length) c9),(8,.agg #[I q.most,Sl a9 ((q.wait++[a]).length) c9])] (JK [2,3,5] [(0,0),(1,10),(8,0),(9,0)] [] [10] (Hf _) (Ki ?_ K8)))
 refine JC 10 [(4,Pt b3 0),(40,.agg #[I q.most,Sl a9 ((q.wait++[a]).length) c9])] (fun X=>?_)
 refine KN 2 [r8,[Sg b7 0 [Sr a.name,Sr a.value,U a.n,U a.tag]],[Sg b3 0 [I q.most,Sl a9 ((q.wait++[a]).length) c9]],[Sg b2 0 [Sr a.name,Sr a.value,U a.n,U a.tag]],[Sg b1 0 [I q.most,Sl a1 q.wait.length c1]]] (Ka [(11,I (q.wait.length:Int)),(12,I 0)] (Km [0,1,2,3,5,8] [(9,0),(11,0),(12,0)] [] [(4,Pt b3 0),(5,I (q.wait.length:Int)),(6,I 0)] (Hf _) (Jb (Jn (Wp (E:=QW) 0 hr8 (by have hq_:=K2.1 ‹_›;(try simp only [QW,Hg,Hm,Hn]);omega) (fun G8 hl8 hs5=>?_))))))
 have hf8:JS q a=((⟨q.most,q.wait++[a]⟩:QR),(q.wait.length:Int),0):=by
  unfold JS Z5 Vk;simp_all;try omega
 refine Jo [2,0,0] [.agg #[I q.most,Sl a9 ((q.wait++[a]).length) c9],I (q.wait.length:Int),I 0] (JA [] (Ja hl7 hl8) ?_)
 rw [hf8]
 try dsimp only
 exact ⟨a9,c9,rfl,w1,hs5,rfl⟩
theorem JfY (G:J4) (vs_q:List Value) (q:QR) (h_q:JjH.R G vs_q q) (n:Int) :Yw 163 #[.agg vs_q.toArray,I n] G [] (fun u G' L'=>∃ (a1:Option Addr) (c2:Nat) (a3:Option Addr) (c4:Nat),u=.tuple #[.agg #[I (((J6 q n).1).most),Sl a1 ((((J6 q n).1).wait).length) c2],Sl a3 (((J6 q n).2.1).length) c4,I ((J6 q n).2.2)]∧(rI (((J6 q n).1).most))∧(RS QW G' a1 c2 (((J6 q n).1).wait))∧(RS QW G' a3 c4 ((J6 q n).2.1))∧L'=[]):=by
 obtain ⟨a1,c1,rfl,w1,hs1⟩:=h_q
 refine JR Tryz.func163 35 [(0,.agg #[I q.most,Sl a1 q.wait.length c1]),(1,I n)] rfl (fun w0 G0=>?_)
 refine Jf (Jd (Jv 2 #[I q.most,Sl a1 q.wait.length c1] 57 (fun b1=>Jv 4 #[I 0,Sl none 0 0] 57 (fun b2=>Jc [0,0] [] (Je (Jb (Jf (Jf (Jd (Jc [4] [(8,.agg #[I q.most,Sl a1 q.wait.length c1])] (Jm 9 (I (Kj q)) (Jam G [I q.most,Sl a1 q.wait.length c1] q (⟨a1,c1,rfl,w1,hs1⟩)) (Jc [0] [(7,I (Kj q))] (Je (Jb (Jg [0,0] [(11,Bo (!decide (Kj q=0)))] (Jl (!decide (Kj q=0)) (fun h1=>?_) (fun h1=>?_)))))))))))))))))
 refine Jg [0,0,3,0,0] [(5,Sl none 0 0),(6,I (Kj q))] (Jn (Jj ?_))
 have hf1:J6 q n=((⟨0,[]⟩:QR),[],Kj q):=by
  unfold J6 Vk;simp_all;try omega
 refine Jo [0,0,0] [.agg #[I 0,Sl none 0 0],Sl none 0 0,I (Kj q)] (JA [] (Jh _) ?_)
 rw [hf1]
 try dsimp only
 exact ⟨none,0,none,0,rfl,J8,(JP QW G),(JP QW G),rfl⟩
 refine Jq (Jb (Jf (Jg [0,0] [(15,Bo (decide (n<0)))] (Jl (decide (n<0)) (fun h2=>?_) (fun h2=>?_)))))
 refine Jg [0,3,0,0] [(5,Sl none 0 0),(6,I 4)] (Jn (Jj ?_))
 have hf2:J6 q n=((⟨0,[]⟩:QR),[],4):=by
  unfold J6 Vk;simp_all;try omega
 refine Jo [0,0,0] [.agg #[I 0,Sl none 0 0],Sl none 0 0,I 4] (JA [] (Jh _) ?_)
 rw [hf2]
 try dsimp only
 exact ⟨none,0,none,0,rfl,J8,(JP QW G),(JP QW G),rfl⟩
 refine Jq (Jb (Jg [0,0,4,0,0,0] [(1,I (if (q.wait.length:Int)<n then (q.wait.length:Int) else n))] ?_))
 have e1:(if (q.wait.length:Int)<n then (q.wait.length:Int) else n)=((QC n q.wait:Nat):Int):=JlY (by omega)
 refine Q2 1 (I ((QC n q.wait:Nat):Int)) (congrArg I e1) ?_
 clear e1
 refine Jf ?_
 obtain ⟨a2,c2,ea1,ec1,en1,eh1,hs2⟩:=RS.reslXD hs1 (QC n q.wait) (by have:=@JdJ n q.wait;omega)
 obtain ⟨a3,c3,ea2,ec2,en2,eh2,hs3⟩:=RS.reslXT hs1 (QC n q.wait) (by have:=@JdJ n q.wait;omega)
 refine Kp [6,12,13] (Wl [(0,Pt b1 0),(1,I q.most),(2,Pt b1 1),(3,Sl a1 q.wait.length c1),(4,I ((QC n q.wait:Nat):Int)),(5,Sl a2 ((q.wait.drop (QC n q.wait)).length) c2),(8,Pt b1 1),(9,Sl a1 q.wait.length c1),(10,I ((QC n q.wait:Nat):Int)),(11,Sl a3 ((q.wait.take (QC n q.wait)).length) c3)] (JK [] [(0,0),(1,4),(2,0),(3,4),(4,0),(8,0),(9,4),(10,0)] [5,11] [6] (Ki ?_ (Ki ?_ K8)) (Ki ?_ K8)))
 refine Jt 5 27 (Sl a2 ((q.wait.drop (QC n q.wait)).length) c2) [(25,Sl a1 q.wait.length c1),(26,I ((QC n q.wait:Nat):Int))] (fun X=>?_)
 exact Wz (a:=a1) (len:=q.wait.length) (cap:=c1) 27 4 (some (I ((QC n q.wait:Nat):Int))) none (QC n q.wait) q.wait.length (.inr ⟨_,rfl⟩) (.inl ⟨rfl,rfl⟩) (by have:=@JdJ n q.wait;omega) ea1 ec1 en1 eh1 Jp
 refine Jt 11 33 (Sl a3 ((q.wait.take (QC n q.wait)).length) c3) [(31,Sl a1 q.wait.length c1),(32,I ((QC n q.wait:Nat):Int))] (fun X=>?_)
 exact Wz (a:=a1) (len:=q.wait.length) (cap:=c1) 33 4 none (some (I ((QC n q.wait:Nat):Int))) 0 (QC n q.wait) (.inl ⟨rfl,rfl⟩) (.inr ⟨_,rfl⟩) (by exact Hl _) ea2 ec2 en2 eh2 Jp
 refine JC 6 [(27,Sl a2 ((q.wait.drop (QC n q.wait)).length) c2)] (fun X=>?_)
 refine JI 28 (YB G a2 c2 (q.wait.drop (QC n q.wait)) hs2) (fun v G1 L1 hl1 hp=>?_)
 obtain ⟨a4,c4,r1,rfl,hr1,rfl⟩:=hp
 refine JD [(6,Sl a4 ((q.wait.drop (QC n q.wait)).length) c4),(7,.agg #[I q.most,Sl a4 ((q.wait.drop (QC n q.wait)).length) c4])] (JK [2,3,4,5] [(0,0),(1,6),(7,0),(8,0),(9,6),(10,0)] [11] [12] (Ki ?_ K8) (Ki ?_ K8))
 refine Jt 11 33 (Sl a3 ((q.wait.take (QC n q.wait)).length) c3) [(31,Sl a1 q.wait.length c1),(32,I ((QC n q.wait:Nat):Int))] (fun X=>?_)
 exact Wz (a:=a1) (len:=q.wait.length) (cap:=c1) 33 4 none (some (I ((QC n q.wait:Nat):Int))) 0 (QC n q.wait) (.inl ⟨rfl,rfl⟩) (.inr ⟨_,rfl⟩) (by exact Hl _) ea2 ec2 en2 eh2 Jp
 refine JC 12 [(33,Sl a3 ((q.wait.take (QC n q.wait)).length) c3)] (fun X=>?_)
 refine JI 34 (YB G1 a3 c3 (q.wait.take (QC n q.wait)) (hs3.mono hl1)) (fun v G2 L1 hl2 hp=>?_)
 obtain ⟨a6,c6,r2,rfl,hr2,rfl⟩:=hp
 refine JD [(12,Sl a6 ((q.wait.take (QC n q.wait)).length) c6)] (JK [2,3,4,5,8,9,10,11] [(0,0),(1,8),(7,0)] [] [13] (Hf _) (Ki ?_ K8))
 refine JC 13 [(4,Pt b2 0),(29,.agg #[I q.most,Sl a4 ((q.wait.drop (QC n q.wait)).length) c4])] (fun X=>?_)
 refine KN 2 [r2,r1,[Sg b2 0 [I q.most,Sl a4 ((q.wait.drop (QC n q.wait)).length) c4]],[Sg b1 0 [I q.most,Sl a1 q.wait.length c1]]] (Ka [(14,Sl a6 ((q.wait.take (QC n q.wait)).length) c6),(15,I 0)] (Km [0,1,2,3,4,5,7,8,9,10,11] [(14,0),(15,0)] [] [(4,Pt b2 0),(5,Sl a6 ((q.wait.take (QC n q.wait)).length) c6),(6,I 0)] (Hf _) (Jb (Jn (Wp (E:=QW) 1 (hr1.mono hl2) (by exact (hs2).fit) (fun G3 hl3 hs5=>Wp (E:=QW) 0 (hr2.mono hl3) (by exact (hs3.mono hl1).fit) (fun G4 hl4 hs6=>?_)))))))
 have hf3:J6 q n=((⟨q.most,q.wait.drop (QC n q.wait)⟩:QR),q.wait.take (QC n q.wait),0):=by
  unfold J6 Vk;simp_all;try omega
 refine Jo [2,0,0] [.agg #[I q.most,Sl a4 ((q.wait.drop (QC n q.wait)).length) c4],Sl a6 ((q.wait.take (QC n q.wait)).length) c6,I 0] (JA [] (Ja (Ja (Ja hl1 hl2) hl3) hl4) ?_)
 rw [hf3]
 try dsimp only
 exact ⟨a4,c4,a6,c6,rfl,‹_›,(hs5.mono hl4),hs6,rfl⟩
theorem JfZ (G:J4) (a:Int) (b:Int) (e:Int) :Q4 157 #[I a,I b,I e] G (.tuple #[I ((KZ a b e).1),I ((KZ a b e).2)]):=by
 refine JR Tryz.func157 36 [(0,I a),(1,I b),(2,I e)] rfl (fun w0 G0=>?_)
 refine Jg [0,0] [] (Jf (Jf (Jd (Jc [0,0,0] [(10,Bo (decide (a<0)))] (Ks (decide (a<0)) [10] [1,1,0] [0,0,0] (fun bb=>[(13,Bo (bb || (decide (a > 30))))]) (Jc [0] [(14,Bo ((decide (a<0)) || (decide (a > 30))))] (Ks ((decide (a<0)) || (decide (a > 30))) [14] [1,1,0] [0,0,0] (fun bb=>[(17,Bo (bb || (decide (b<1))))]) (Jc [0] [(18,Bo (((decide (a<0)) || (decide (a > 30))) || (decide (b<1))))] (Ks (((decide (a<0)) || (decide (a > 30))) || (decide (b<1))) [18] [1,1,0] [0,0,0] (fun bb=>[(21,Bo (bb || (decide (b > 30))))]) (Jc [0] [(22,Bo ((((decide (a<0)) || (decide (a > 30))) || (decide (b<1))) || (decide (b > 30))))] (Ks ((((decide (a<0)) || (decide (a > 30))) || (decide (b<1))) || (decide (b > 30))) [22] [1,1,0] [0,0,0] (fun bb=>[(25,Bo (bb || (decide (e<1))))]) (Jc [0] [(26,Bo (((((decide (a<0)) || (decide (a > 30))) || (decide (b<1))) || (decide (b > 30))) || (decide (e<1))))] (Ks (((((decide (a<0)) || (decide (a > 30))) || (decide (b<1))) || (decide (b > 30))) || (decide (e<1))) [26] [1,1,0] [0,0,0] (fun bb=>[(29,Bo (bb || (decide (e > 1000))))]) ?_)))))))))))))
 refine Je (Jb (Jl ((((((decide (a<0)) || (decide (a > 30))) || (decide (b<1))) || (decide (b > 30))) || (decide (e<1))) || (decide (e > 1000))) (fun h1=>?_) (fun h1=>?_)))
 refine Jg [0,0] [(6,I 0),(7,I 4)] (Jn (Jj (Jo [0,0] [I 0,I 4] (Jx (Jh _) ?_))))
 have hf_:(KZ a b e)=(0,4):=by
  unfold KZ;(rw [if_pos (by omega)];done)
 · (try rw [hf_]);(simp only [Qx];done)
 refine Jq (Jb (Jf (Jd (Jc [0,0] [(30,I a),(31,I b)] (JcQ (k:=.i64) (x:=a) (y:=b) 32 true ((a).tdiv b) J8 (by simp only [cond_true];exact HE _ (by (have:=JeL (a:=a) (b:=b) J8 (by omega);omega))) (Jc [0,0,0,0,0] [(6,I (Hj.wrap ((Hj.wrap (((a).tdiv b)+1))*e))),(7,I 0)] ?_))))))
 have e1:Hj.wrap (((a).tdiv b)+1)=((a).tdiv b)+1:=HE _ (by (have:=JeL (a:=a) (b:=b) (by omega) (by omega);omega))
 have e2:Hj.wrap ((((a).tdiv b)+1)*e)=(((a).tdiv b)+1)*e:=HE _ (by (have:=JeL (a:=a) (b:=b) (by omega) (by omega);(have:=JkY (a:=a.tdiv b+1) (b:=e) (by omega) (by omega);omega)))
 refine KU 6 (I ((((a).tdiv b)+1)*e)) (show (I (Hj.wrap ((Hj.wrap (((a).tdiv b)+1))*e)):Value)=I ((((a).tdiv b)+1)*e) by simp only [e1,e2]) ?_
 clear e2 e1
 refine Je (Jb (Jn (Jo [0,0] [I ((((a).tdiv b)+1)*e),I 0] (Jx (Jh _) ?_))))
 have hf_:(KZ a b e)=(((((a).tdiv b)+1)*e),0):=by
  unfold KZ;(rw [if_neg (by omega)];done)
 · (try rw [hf_]);(simp only [Qx];done)
theorem le48 {n:Nat} (h:n≤140737488351232):n≤140737488355328:=by omega
theorem Jhq (h:JU):(Q9 h).1.length≤33:=by
 unfold Q9;split
 · simp
 · rw [JeA];exact HG _
theorem JcZ (n:Int):(K1 n).length=8:=Jib n
def KY (h:JU):Int×Int:=if (Q9 h).2 ≠ 0 then (0,(Q9 h).2) else (Ji (Q9 h).1,0)
def Yp (h:JU) (root at_:Int):Int:=if JL h ≠ 0 then JL h else if h.epoch=1000000 then 7 else if at_<h.at_ then 4 else JL ⟨h.epoch+1,root,(KY h).1,at_⟩
def Jz (h:JU) (root at_:Int):JU×Int:=if Yp h root at_ ≠ 0 then (Zr,Yp h root at_) else (⟨h.epoch+1,root,(KY h).1,at_⟩,0)
theorem Jhr (h:JU):(Q9 h).2=JL h:=by unfold Q9;split <;> simp_all
theorem Yh (h:JU):(KY h).2=JL h:=by unfold KY;rw [Jhr];split <;> simp_all
theorem Jec (h:JU):0≤(KY h).1∧(KY h).1<2305843009213693951:=by
 unfold KY;split
 · simp
 · exact QQ _
theorem Jim {h:JU} (e:JL h=0):Q9 h=(VJ h,0):=by unfold Q9;rw [if_neg (by omega)]
theorem Jin {h:JU} (e:JL h=0):KY h=(Ji (VJ h),0):=by
 unfold KY;rw [Jim e];simp
theorem VL {h:JU} {root at_:Int} (e:(Jz h root at_).2=0):JL h=0∧h.epoch<1000000∧h.at_≤at_∧Jz h root at_=(⟨h.epoch+1,root,Ji (VJ h),at_⟩,0)∧JL ⟨h.epoch+1,root,Ji (VJ h),at_⟩=0:=by
 unfold Jz at e ⊢
 split at e
 · contradiction
 ·
  rename_i h1
  rw [if_neg h1]
  unfold Yp at h1
  by_cases e1:JL h=0
  ·
   rw [if_neg (by omega)] at h1
   have hb:=Ze e1
   have hm:=Jin e1
   rw [hm] at h1 ⊢
   by_cases e2:h.epoch=1000000
   · rw [if_pos e2] at h1;simp at h1
   ·
    rw [if_neg e2] at h1
    by_cases e3:at_<h.at_
    · rw [if_pos e3] at h1;simp at h1
    ·
     rw [if_neg e3] at h1
     exact ⟨e1,by omega,by omega,rfl,by simpa using h1⟩
  · rw [if_pos e1] at h1;omega
def Jio:W8:=⟨[],[],0,0⟩
def Vl (key:Int) (s:List UInt8):Int:=Ji ((K1 key++s)++K1 key)
theorem Jns (k:Int) (s:List UInt8):0≤Vl k s∧Vl k s<18446744073709551616:=by have:=QQ ((K1 k++s)++K1 k);unfold Vl;omega
def Ww (name value:List UInt8) (n:Int):List UInt8:=K1 n++(Vq [name,value]).1
def Yl (key:Int) (s:List UInt8) (t:Int):Bool:=decide (Vl key s=t)
def Zb (key:Int) (name value:List UInt8) (n:Int):W8×Int:=if Qz name value ≠ 0 then (Jio,Qz name value) else (⟨name,value,n,Vl key (Ww name value n)⟩,0)
def Z6 (key:Int) (a:W8):Bool:=decide (Qz a.name a.value=0) && decide (Vl key (Ww a.name a.value a.n)=a.tag)
theorem JbZ (l:List (List UInt8)):(Vq l).1.length≤600:=by
 unfold Vq
 split
 · simp
 ·
  split
  ·
   rename_i h
   have:∀ (l:List (List UInt8)) (n:Nat),n≤600→JcY n l=true→n+(JfW l).length≤600:=by
    intro l
    induction l with
    | nil=>intro n h _;simp [JfW];exact h
    | cons p l ih =>
     intro n _ h
     unfold JcY at h
     simp only [HP,decide_eq_true_eq] at h
     have:=ih _ h.1 h.2
     have e:(JfW (p::l)).length=2+p.length+(JfW l).length:=by simp [JfW,putC];omega
     omega
   have:=this l 0 (by omega) h
   simp only;omega
  · simp
theorem Jed (a b:List UInt8) (n:Int):(Ww a b n).length≤608:=by
 unfold Ww;rw [Hg,JcZ];have:=JbZ [a,b];omega
theorem Jhs (G:J4) (vs_h:List Value) (h:JU) (h_h:KA.R G vs_h h) :Q4 142 #[.agg vs_h.toArray] G (.tuple #[U ((KY h).1),I ((KY h).2)]):=by
 obtain ⟨rfl,_,_,_,_⟩:=h_h
 refine JR Tryz.func142 16 [(0,.agg #[I h.epoch,U h.root,U h.prev,I h.at_])] rfl (fun w0 G0=>?_)
 refine Jf (Jd (Jv 1 #[I h.epoch,U h.root,U h.prev,I h.at_] 43 (fun b1=>Jc [0,0] [] (Je (Jb (Jf (Jd (Jc [2] [(7,.agg #[I h.epoch,U h.root,U h.prev,I h.at_])] (Jm 8 (.tuple #[Sr ((Q9 h).1),I ((Q9 h).2)]) (Jhh h G) (Jc [0,0,0,0,0] [(4,Sr ((Q9 h).1)),(5,I ((Q9 h).2))] (Je (Jb (Jf (Jg [0,0] [(12,Bo (!decide ((Q9 h).2=0)))] (Jl (!decide ((Q9 h).2=0)) (fun h1=>?_) (fun h1=>?_))))))))))))))))
 refine Jg [0,0,0] [(2,U 0),(3,I ((Q9 h).2))] (Jn (Jj (Jo [0,0] [U 0,I ((Q9 h).2)] (Jx (Jh _) ?_))))
 have hf_:(KY h)=(0,((Q9 h).2)):=by
  unfold KY;simp_all
 · (try rw [hf_]);(simp only [Qx];done)
 refine Jq (Jb (Jf (Jd (Jc [0] [(14,Sr ((Q9 h).1))] (Jm 15 (U (Ji ((Q9 h).1))) (ZW ((Q9 h).1) (le48 (Hi (Jhq h) (by decide))) G) (Jc [0,0] [(2,U (Ji ((Q9 h).1))),(3,I 0)] (Je (Jb (Jn (Jo [0,0] [U (Ji ((Q9 h).1)),I 0] (Jx (Jh _) ?_)))))))))))
 have hf_:(KY h)=((Ji ((Q9 h).1)),0):=by
  unfold KY;simp_all
 · (try rw [hf_]);(simp only [Qx];done)
theorem Jbe (G:J4) (vs_h:List Value) (h:JU) (h_h:KA.R G vs_h h) (root:Int) (hw_root:rU root) (a:Int) (hw_a:rI a) :Q4 213 #[.agg vs_h.toArray,U root,I a] G (.tuple #[.agg #[I (((Jz h root a).1).epoch),U (((Jz h root a).1).root),U (((Jz h root a).1).prev),I (((Jz h root a).1).at_)],I ((Jz h root a).2)]):=by
 obtain ⟨rfl,w1,w2,w3,w4⟩:=h_h
 refine JR Tryz.func213 46 [(0,.agg #[I h.epoch,U h.root,U h.prev,I h.at_]),(1,U root),(2,I a)] rfl (fun w0 G0=>?_)
 refine Jf (Jd (Jv 3 #[I h.epoch,U h.root,U h.prev,I h.at_] 43 (fun b1=>Jv 6 #[I 0,U 0,U 0,I 0] 43 (fun b2=>Jc [0] [] (Je (Jb (Jf (Jd (Jc [4] [(13,.agg #[I h.epoch,U h.root,U h.prev,I h.at_])] (Jm 14 (.tuple #[U ((KY h).1),I ((KY h).2)]) (Jhs G [I h.epoch,U h.root,U h.prev,I h.at_] h (⟨rfl,w1,w2,w3,w4⟩)) (Jc [0,0,0,0,0] [(8,U ((KY h).1)),(9,I ((KY h).2))] (Je (Jb (Jf (Jy (Jg [0,0,0] [(17,Bo (!decide ((KY h).2=0)))] (Jl (!decide ((KY h).2=0)) (fun h1=>?_) (fun h1=>?_))))))))))))))))))
 refine Jg [0,0,3,0] [(7,I ((KY h).2))] (Jn (Js (Jj (Jo [0,0] [.agg #[I 0,U 0,U 0,I 0],I ((KY h).2)] (Jx (Jh _) ?_)))))
 have hf_:(Jz h root a)=((⟨0,0,0,0⟩:JU),((KY h).2)):=by
  (try rw [Yh] at *);unfold Jz Yp Zr;grind
 · (try rw [hf_]);(simp only [Qx];done)
 refine Jg [0,4,0,0] [(22,Bo (decide (h.epoch=1000000)))] (Jl (decide (h.epoch=1000000)) (fun h2=>?_) (fun h2=>?_))
 refine Jg [0,3,0] [(7,I 7)] (Jn (Js (Jj (Jo [0,0] [.agg #[I 0,U 0,U 0,I 0],I 7] (Jx (Jh _) ?_)))))
 have hf_:(Jz h root a)=((⟨0,0,0,0⟩:JU),7):=by
  (try rw [Yh] at *);unfold Jz Yp Zr;grind
 · (try rw [hf_]);(simp only [Qx];done)
 refine Jq (JN (Jb (Jf (Jd (Jc [0,4,0,0,0,0,0] [(33,.agg #[I (Hj.wrap (h.epoch+1)),U root,U ((KY h).1),I a])] ?_)))))
 have e1:Hj.wrap (h.epoch+1)=h.epoch+1:=HE _ (by have:=Ze (h:=h) (by rw [← Yh];assumption);omega)
 refine KU 33 (.agg #[I (h.epoch+1),U root,U ((KY h).1),I a]) (show (.agg #[I (Hj.wrap (h.epoch+1)),U root,U ((KY h).1),I a]:Value)=.agg #[I (h.epoch+1),U root,U ((KY h).1),I a] by simp only [e1]) ?_
 clear e1
 refine Jv 10 #[I 0,U 0,U 0,I 0] 43 (fun b3=>JV [3] [] [[Sg b3 0 [I (h.epoch+1),U root,U ((KY h).1),I a]],[Sg b2 0 [I 0,U 0,U 0,I 0]],[Sg b1 0 [I h.epoch,U h.root,U h.prev,I h.at_]]] (Je (Jb (Jf (Jg [0,0,6,0] [(37,Bo (decide (a<h.at_)))] (Jl (decide (a<h.at_)) (fun h3=>?_) (fun h3=>?_)))))))
 refine Jg [0,5,0] [(7,I 4)] (Jn (Jj (Jo [1,0] [.agg #[I 0,U 0,U 0,I 0],I 4] (Jx (Jh _) ?_))))
 have hf_:(Jz h root a)=((⟨0,0,0,0⟩:JU),4):=by
  (try rw [Yh] at *);unfold Jz Yp Zr;grind
 · (try rw [hf_]);(simp only [Qx];done)
 refine Jq (Jb (Jf (Jf (Jd (Jc [2] [(39,.agg #[I (h.epoch+1),U root,U ((KY h).1),I a])] (Jm 40 (I (JL (⟨h.epoch+1,root,(KY h).1,a⟩:JU))) (ZV (⟨h.epoch+1,root,(KY h).1,a⟩:JU) G) (Jc [0] [(11,I (JL (⟨h.epoch+1,root,(KY h).1,a⟩:JU)))] (Je (Jb (Jg [0,0] [(42,Bo (!decide (JL (⟨h.epoch+1,root,(KY h).1,a⟩:JU)=0)))] (Jl (!decide (JL (⟨h.epoch+1,root,(KY h).1,a⟩:JU)=0)) (fun h4=>?_) (fun h4=>?_))))))))))))
 refine Jg [0,0,5,0] [(7,I (JL (⟨h.epoch+1,root,(KY h).1,a⟩:JU)))] (Jn (Jj (Jo [1,0] [.agg #[I 0,U 0,U 0,I 0],I (JL (⟨h.epoch+1,root,(KY h).1,a⟩:JU))] (Jx (Jh _) ?_))))
 have hf_:(Jz h root a)=((⟨0,0,0,0⟩:JU),(JL (⟨h.epoch+1,root,(KY h).1,a⟩:JU))):=by
  (try rw [Yh] at *);unfold Jz Yp Zr;grind
 · (try rw [hf_]);(simp only [Qx];done)
 refine Jq (Jb (QA [2,5,0] [(7,I 0)] [[Sg b3 0 [I (h.epoch+1),U root,U ((KY h).1),I a]],[Sg b2 0 [I (h.epoch+1),U root,U ((KY h).1),I a]],[Sg b1 0 [I h.epoch,U h.root,U h.prev,I h.at_]]] (Jn (Jo [1,0] [.agg #[I (h.epoch+1),U root,U ((KY h).1),I a],I 0] (Jx (Jh _) ?_)))))
 have hf_:(Jz h root a)=((⟨h.epoch+1,root,(KY h).1,a⟩:JU),0):=by
  (try rw [Yh] at *);unfold Jz Yp Zr;grind
 · (try rw [hf_]);(simp only [Qx];done)
theorem Jbf (G:J4) (name:List UInt8) (value:List UInt8) :Q4 149 #[Sr name,Sr value] G (I (Qz name value)):=by
 refine JR Tryz.func149 13 [(0,Sr name),(1,Sr value)] rfl (fun w0 G0=>?_)
 refine Jg [0] [] (Jf (Jy (Jf (Jd (Jc [0] [(6,Sr name)] (Jm 7 (Bo (KJ name)) (ZN G name) (Jc [0,0] [(5,Bo (!(KJ name)))] (Je (Jb (Jl (!(KJ name)) (fun h1=>?_) (fun h1=>?_)))))))))))
 refine Jg [0] [(4,I 3)] (Jn (Js (Jj (Jo [0] [I 3] (Jx (Jh _) (congrArg I (?_:(Qz name value)=3).symm))))))
 unfold Qz;simp_all;try omega
 refine Jg [0,0,0,0] [(9,Bo (decide (((value).length:Int) > 20)))] (Jl (decide (((value).length:Int) > 20)) (fun h2=>?_) (fun h2=>?_))
 refine Jg [0] [(4,I 2)] (Jn (Js (Jj (Jo [0] [I 2] (Jx (Jh _) (congrArg I (?_:(Qz name value)=2).symm))))))
 unfold Qz;simp_all;try omega
 refine Jq (JN (Jb (Jg [0] [(4,I 0)] (Jn (Jo [0] [I 0] (Jx (Jh _) (congrArg I (?_:(Qz name value)=0).symm)))))))
 unfold Qz;simp_all;try omega
theorem JgH (G:J4) (key:Int) (s:List UInt8) (hs:s.length≤1000000):Q4 203 #[U key,Sr s] G (U (Vl key s)):=by
 refine JR Tryz.func203 13 [(0,U key),(1,Sr s)] rfl (fun w0 G0=>?_)
 refine Jg [0] [] (Jf (Jd (Jc [0] [(5,U key)] (Jm 6 (Sr (K1 key)) (Yg key G) (Jc [0] [(7,Sr s)] (ZJ 8 (K1 key) s (by simp only [Hg,JcZ];omega) (Jc [0] [(9,U key)] (Jm 10 (Sr (K1 key)) (Yg key G) (ZJ 11 ((K1 key)++s) (K1 key) (by simp only [Hg,JcZ];omega) (Jm 12 (U (Ji (((K1 key)++s)++(K1 key)))) (ZW (((K1 key)++s)++(K1 key)) (le48 (by (simp;omega))) G) (Jc [0] [(4,U (Ji (((K1 key)++s)++(K1 key))))] (Je (Jb (Jn (Jo [0] [U (Ji (((K1 key)++s)++(K1 key)))] (Jx (Jh _) (congrArg U (?_:(Vl key s)=(Ji (((K1 key)++s)++(K1 key)))).symm)))))))))))))))))
 rfl
theorem Jht (G:J4) (key:Int) (s:List UInt8) (t:Int) (hs:s.length≤1000000):Q4 150 #[U key,Sr s,U t] G (Bo (Yl key s t)):=by
 refine JR Tryz.func150 12 [(0,U key),(1,Sr s),(2,U t)] rfl (fun w0 G0=>?_)
 refine Jg [0] [] (Jf (Jd (Jc [0,0] [(7,U key),(8,Sr s)] (Jm 9 (U (Vl key s)) (JgH G key s ‹_›) (Jc [0,0,0] [(6,Bo (decide (Vl key s=t)))] (Je (Jb (Jn (Jo [0] [Bo (decide (Vl key s=t))] (Jx (Jh _) (congrArg Bo (?_:(Yl key s t)=(decide (Vl key s=t))).symm)))))))))))
 rfl
theorem Jee (G:J4) (name:List UInt8) (hw_name:(name).length≤140737488351232) (value:List UInt8) (hw_value:(value).length≤140737488351232) (n:Int) :Q4 151 #[Sr name,Sr value,U n] G (Sr (Ww name value n)):=by
 refine JR Tryz.func151 20 [(0,Sr name),(1,Sr value),(2,U n)] rfl (fun w0 G0=>?_)
 refine Jg [0] [] (Jf (Jd (Jc [0,0] [(10,Sr name),(11,Sr value)] (Kt 12 2 #[Sr name,Sr value] 9 (fun b1=>QZ (b:=b1) (o:=0) (cs:=[Sr name,Sr value]) 0 (fun G1 hl1 hz1=>?_))))))
 have hs1:RS ES G1 (At b1 0) 2 [name,value]:=RS.lit [[Sr name],[Sr value]] [name,value] ⟨⟨rfl,hw_name⟩,⟨⟨rfl,hw_value⟩,trivial⟩⟩ hz1 (Hr rfl) (Hr rfl)
 refine Jm 13 (.tuple #[Sr ((Vq ([name,value])).1),I ((Vq ([name,value])).2)]) (Jij G1 (At b1 0) 2 ([name,value]) hs1) (Jc [0,0,0,0,0] [(7,Sr ((Vq ([name,value])).1))] (Je (Jb (Jf (Jd (Jc [0] [(16,U n)] (Jm 17 (Sr (K1 n)) (Yg n G1) (Jc [0] [(18,Sr ((Vq ([name,value])).1))] (ZJ 19 (K1 n) ((Vq ([name,value])).1) (by have:=JbZ [name,value];simp only [JcZ];omega) (Jc [0] [(6,Sr ((K1 n)++((Vq ([name,value])).1)))] (Je (Jb (Jn (Jo [0] [Sr ((K1 n)++((Vq ([name,value])).1))] (Jx hl1 (congrArg Sr (?_:(Ww name value n)=((K1 n)++((Vq ([name,value])).1))).symm))))))))))))))))
 rfl
theorem JjR (G:J4) (key:Int) (name:List UInt8) (hw_name:(name).length≤140737488351232) (value:List UInt8) (hw_value:(value).length≤140737488351232) (n:Int) (hw_n:rU n) :Yw 148 #[U key,Sr name,Sr value,U n] G [] (fun u G' L'=>u=.tuple #[.agg #[Sr (((Zb key name value n).1).name),Sr (((Zb key name value n).1).value),U (((Zb key name value n).1).n),U (((Zb key name value n).1).tag)],I ((Zb key name value n).2)]∧((((Zb key name value n).1).name).length≤140737488351232)∧((((Zb key name value n).1).value).length≤140737488351232)∧(rU (((Zb key name value n).1).n))∧(rU (((Zb key name value n).1).tag))∧L'=[]):=by
 refine JR Tryz.func148 28 [(0,U key),(1,Sr name),(2,Sr value),(3,U n)] rfl (fun w0 G0=>?_)
 refine Jf (Jd (Jv 8 #[Sr ([]),Sr ([]),U 0,U 0] 182 (fun b1=>Jc [0] [] (Je (Jb (Jf (Jf (Jd (Jc [0,0] [(11,Sr name),(12,Sr value)] (Jm 13 (I (Qz name value)) (Jbf G name value) (Jc [0] [(10,I (Qz name value))] (Je (Jb (Jg [0,0] [(15,Bo (!decide (Qz name value=0)))] (Jl (!decide (Qz name value=0)) (fun h1=>?_) (fun h1=>?_))))))))))))))))
 refine Jg [0,0,3,0] [(9,I (Qz name value))] (Jn (Jj ?_))
 have hf1:Zb key name value n=((⟨[],[],0,0⟩:W8),Qz name value):=by
  unfold Zb Jio;simp_all
 refine Jo [0,0] [.agg #[Sr ([]),Sr ([]),U 0,U 0],I (Qz name value)] (JA [] (Jh _) ?_)
 rw [hf1]
 try dsimp only
 exact ⟨rfl,(Hr rfl),(Hr rfl),J8,J8,rfl⟩
 refine Jq (Jb (Jf (Jd (Jc [0,0,0,0,0,0,0] [(18,Sr name),(19,Sr value),(20,U n),(21,U key),(22,Sr name),(23,Sr value),(24,U n)] (Jm 25 (Sr (Ww name value n)) (Jee G name hw_name value hw_value n) (Jm 26 (U (Vl key (Ww name value n))) (JgH G key (Ww name value n) (Hi (Jed name value n) (by decide))) (JV [0,3,0] [(9,I 0)] [[Sg b1 0 [Sr name,Sr value,U n,U (Vl key (Ww name value n))]]] (Je (Jb (Jn ?_))))))))))
 have hf2:Zb key name value n=((⟨name,value,n,Vl key (Ww name value n)⟩:W8),0):=by
  unfold Zb Jio;simp_all
 refine Jo [0,0] [.agg #[Sr name,Sr value,U n,U (Vl key (Ww name value n))],I 0] (JA [] (Jh _) ?_)
 rw [hf2]
 try dsimp only
 exact ⟨rfl,hw_name,hw_value,hw_n,(Jns _ _),rfl⟩
theorem Jhu (G:J4) (key:Int) (vs_a:List Value) (a:W8) (h_a:QW.R G vs_a a) :Q4 102 #[U key,.agg vs_a.toArray] G (Bo (Z6 key a)):=by
 obtain ⟨rfl,w1,w2,_,_⟩:=h_a
 refine JR Tryz.func102 24 [(0,U key),(1,.agg #[Sr a.name,Sr a.value,U a.n,U a.tag])] rfl (fun w0 G0=>?_)
 refine Jf (Jd (Jv 3 #[Sr a.name,Sr a.value,U a.n,U a.tag] 182 (fun b1=>Jc [0] [] (Je (Jb (Jf ?_))))))
 rcases Bool.eq_false_or_eq_true (decide (Qz a.name a.value=0)) with h1 | h1
 have h1d:=h1
 try simp only [BB] at h1d
 refine Kp [] (Wl [(0,Pt b1 0),(1,Sr a.name),(2,Pt b1 1),(3,Sr a.value),(4,I (Qz a.name a.value)),(5,Bo true),(6,Bo true),(7,U key),(8,Pt b1 0),(9,Sr a.name),(10,Pt b1 1),(11,Sr a.value),(12,Pt b1 2),(13,U a.n),(14,Sr (Ww a.name a.value a.n)),(15,Pt b1 3),(16,U a.tag),(17,Bo (Yl key (Ww a.name a.value a.n) a.tag)),(18,Bo (Yl key (Ww a.name a.value a.n) a.tag)),(19,Bo (Yl key (Ww a.name a.value a.n) a.tag))] (Km [] [(0,0),(1,2),(2,0),(3,2),(6,0),(7,0),(8,0),(9,2),(10,0),(11,2),(12,0),(13,2),(15,0),(16,2),(18,0),(19,0)] [4,5,14,17] [(4,Bo (Yl key (Ww a.name a.value a.n) a.tag))] (Ki ?_ (Ki ?_ (Ki ?_ (Ki ?_ K8)))) ?_))
 refine Jt 4 9 (I (Qz a.name a.value)) [(6,Sr a.name),(8,Sr a.value)] (fun X=>?_)
 exact Jm 9 (I (Qz a.name a.value)) (Jbf G a.name a.value) Jp
 refine Jt 5 10 (Bo true) [(9,I (Qz a.name a.value))] (fun X=>?_)
 exact KV 10 (Bo (decide (Qz a.name a.value=0))) (Bo true) (by rw [h1]) Jp
 refine Jt 14 19 (Sr (Ww a.name a.value a.n)) [(11,Bo true),(14,Sr a.name),(16,Sr a.value),(18,U a.n)] (fun X=>?_)
 exact Jm 19 (Sr (Ww a.name a.value a.n)) (Jee G a.name w1 a.value w2 a.n) Jp
 refine Jt 17 22 (Bo (Yl key (Ww a.name a.value a.n) a.tag)) [(11,Bo true),(12,U key),(19,Sr (Ww a.name a.value a.n)),(21,U a.tag)] (fun X=>?_)
 exact Jm 22 (Bo (Yl key (Ww a.name a.value a.n) a.tag)) (Jht G key (Ww a.name a.value a.n) a.tag (Hi (Jed a.name a.value a.n) (by decide))) Jp
 refine Jb (Jn (Jo [0] [Bo (Yl key (Ww a.name a.value a.n) a.tag)] (Jx (Jh _) (congrArg Bo (?_:(Z6 key a)=(Yl key (Ww a.name a.value a.n) a.tag)).symm))))
 unfold Z6;simp_all [Yl]
 have h1d:=h1
 try simp only [BB] at h1d
 refine Kp [] (Wl [(0,Pt b1 0),(1,Sr a.name),(2,Pt b1 1),(3,Sr a.value),(4,I (Qz a.name a.value)),(5,Bo false),(6,Bo false),(7,undef),(8,undef),(9,undef),(10,undef),(11,undef),(12,undef),(13,undef),(14,undef),(15,undef),(16,undef),(17,undef),(18,Bo false),(19,Bo false)] (Km [] [(0,0),(1,2),(2,0),(3,2),(6,0),(7,1),(8,1),(9,1),(10,1),(11,1),(12,1),(13,1),(14,1),(15,1),(16,1),(17,1),(18,0),(19,0)] [4,5] [(4,Bo false)] (Ki ?_ (Ki ?_ K8)) ?_))
 refine Jt 4 9 (I (Qz a.name a.value)) [(6,Sr a.name),(8,Sr a.value)] (fun X=>?_)
 exact Jm 9 (I (Qz a.name a.value)) (Jbf G a.name a.value) Jp
 refine Jt 5 10 (Bo false) [(9,I (Qz a.name a.value))] (fun X=>?_)
 exact KV 10 (Bo (decide (Qz a.name a.value=0))) (Bo false) (by rw [h1]) Jp
 refine Jb (Jn (Jo [0] [Bo false] (Jx (Jh _) (congrArg Bo (?_:(Z6 key a)=false).symm))))
 unfold Z6;simp_all [Yl]
theorem Jcu {n:Nat} (h:n≤140737488351232):n≤140737488355328:=by omega
def JE (m:Int) (k:Nat):Int:=48+m / 2 ^ k % 2
theorem and1 {x:Int} (h:0≤x∧x<18446744073709551616):Ha.wrap ((Hb 64 x &&& Hb 64 1).toNat:Int)=x % 2:=by
 obtain ⟨m,rfl⟩:=Hz h.1
 have e:(1:Int)=((1:Nat):Int):=rfl
 rw [e,BitVec.toNat_and,Hs,Hs,Hu,Hu,Hx (by omega),Hx (by omega),Nat.and_one_is_mod,WA (by omega) (by omega)]
 omega
theorem Z0 (m:Int) (k:Nat) (h:0≤m∧m<18446744073709551616):Hc.wrap (48+Hc.wrap (Ha.wrap ((Hb 64 (m.fdiv (2 ^ k)) &&& Hb 64 (1)).toNat:Int)))=JE m k:=by
 have hp:(0:Int)<2 ^ k:=Int.pow_pos (by decide)
 have h1:0≤m / 2 ^ k:=Int.ediv_nonneg h.1 (Int.le_of_lt hp)
 have h2:m / 2 ^ k≤m:=Int.ediv_le_self _ h.1
 rw [Hv _ (Int.le_of_lt hp),and1 (by omega),Jhd,Jhd]
 unfold JE
 omega
def YC (name:List UInt8):List UInt8:=([JE (Ji name) 15,JE (Ji name) 14,JE (Ji name) 13,JE (Ji name) 12,JE (Ji name) 11,JE (Ji name) 10,JE (Ji name) 9,JE (Ji name) 8,JE (Ji name) 7,JE (Ji name) 6,JE (Ji name) 5,JE (Ji name) 4,JE (Ji name) 3,JE (Ji name) 2,JE (Ji name) 1,JE (Ji name) 0]:List Int).map fun n=>He n.toNat
theorem VY (name:List UInt8):(YC name).length=16:=rfl
def KI (name:List UInt8):List UInt8×Int:=if KJ name=false then ([],3) else (YC name,0)
theorem JjS (name:List UInt8):(KI name).1.length≤16:=by
 unfold KI;split
 · simp
 · rw [VY];exact HG _
def ZO (x y:List UInt8):Int:=if Go.Op.bytesLess x y=true then -1 else if x=y then 0 else 1
def orI:List Int→Int
 | []=>0
 | a::l=>if a=0 then orI l else a
theorem Jnt {l:List Int} {i:Nat} {x:Int} (hx:l[i]? = some x) (h:x=0):orI (l.drop i)=orI (l.drop (i+1)):=by
 obtain ⟨h1,rfl⟩:=Hh.1 hx
 rw [Hp h1]
 show (if _ then _ else _)=_
 rw [if_pos h]
theorem orI_at {l:List Int} {i:Nat} {x:Int} (hx:l[i]? = some x) (h:¬ x=0):orI (l.drop i)=x:=by
 obtain ⟨h1,rfl⟩:=Hh.1 hx
 rw [Hp h1]
 show (if _ then _ else _)=_
 rw [if_neg h]
theorem JdK:∀ x:List UInt8,Go.Op.bytesLess x x=false
 | []=>rfl
 | a::x=>by
  show (decide (a<a) || (a == a && Go.Op.bytesLess x x))=false
  rw [JdK x];simp
theorem Jip:∀ x y:List UInt8,Go.Op.bytesLess x y=true∨x=y∨Go.Op.bytesLess y x=true
 | [],[]=>.inr (.inl rfl)
 | [],_::_=>.inl rfl
 | _::_,[]=>.inr (.inr rfl)
 | a::x,b::y=>by
  show (decide (a<b) || (a == b && Go.Op.bytesLess x y))=true∨_∨(decide (b<a) || (b == a && Go.Op.bytesLess y x))=true
  simp only [Bool.or_eq_true,HP,decide_eq_true_eq,beq_iff_eq]
  rcases UInt8.lt_or_lt_of_ne (a:=a) (b:=b) |> fun f=>(Classical.em (a=b)).imp id f with h | h | h
  ·
   subst h
   rcases Jip x y with h1 | h1 | h1
   · exact .inl (.inr ⟨rfl,h1⟩)
   · exact .inr (.inl (by rw [h1]))
   · exact .inr (.inr (.inr ⟨rfl,h1⟩))
  · exact .inl (.inl h)
  · exact .inr (.inr (.inl h))
theorem Jc0:∀ {x y z:List UInt8},Go.Op.bytesLess x y=true→Go.Op.bytesLess y z=true→Go.Op.bytesLess x z=true
 | _,_,[],_,h=>by simp [Go.Op.bytesLess] at h
 | _,[],_::_,h,_=>by simp [Go.Op.bytesLess] at h
 | [],_::_,_::_,_,_=>rfl
 | a::x,b::y,c::z,h1,h2=>by
  have k1:(decide (a<b) || (a == b && Go.Op.bytesLess x y))=true:=h1
  have k2:(decide (b<c) || (b == c && Go.Op.bytesLess y z))=true:=h2
  show (decide (a<c) || (a == c && Go.Op.bytesLess x z))=true
  simp only [Bool.or_eq_true,HP,decide_eq_true_eq,beq_iff_eq] at k1 k2 ⊢
  rcases k1 with k1 | ⟨e1,k1⟩ <;> rcases k2 with k2 | ⟨e2,k2⟩
  · exact .inl (UInt8.lt_trans k1 k2)
  · exact .inl (e2 ▸ k1)
  · exact .inl (e1 ▸ k2)
  · exact .inr ⟨e1.trans e2,Jc0 k1 k2⟩
theorem JkZ {x y:List UInt8}:ZO x y<0 ↔ Go.Op.bytesLess x y=true:=by
 unfold ZO
 split
 · rename_i h;simp [h]
 · rename_i h;split <;> simp [h]
theorem V8 {x y:List UInt8}:ZO x y=0 ↔ x=y:=by
 unfold ZO
 split
 ·
  rename_i h
  constructor
  · intro hc;cases hc
  · rintro rfl;rw [JdK] at h;cases h
 · split <;> simp_all
theorem Jk0 {x y:List UInt8}:0<ZO x y ↔ Go.Op.bytesLess y x=true:=by
 unfold ZO
 split
 ·
  rename_i h
  constructor
  · intro hc;omega
  · intro hc;have:=Jc0 h hc;rw [JdK] at this;cases this
 ·
  rename_i h
  split
  · rename_i h2;subst h2;rw [JdK];simp
  ·
   rename_i h2
   constructor
   ·
    intro _;rcases Jip x y with h3 | h3 | h3
    · exact absurd h3 h
    · exact absurd h3 h2
    · exact h3
   · intro _;decide
def way (name:List UInt8):List UInt8:=(KI name).1
theorem JoZ (name:List UInt8):(way name).length≤16:=JjS name
def Ya (a b:List UInt8):Int:=orI [ZO (way a) (way b),ZO a b]
theorem Jhv (a b:List UInt8):Ya a b=if ZO (way a) (way b)=0 then ZO a b else ZO (way a) (way b):=by
 by_cases h:ZO (way a) (way b)=0 <;> by_cases h2:ZO a b=0 <;> simp [Ya,orI,h,h2]
theorem ZI {a b:List UInt8}:Ya a b=0 ↔ a=b:=by
 rw [Jhv]
 split
 · exact V8
 ·
  rename_i h
  constructor
  · intro hc;exact absurd hc h
  · rintro rfl;exact absurd (V8.2 rfl) h
theorem Jk1 {a b:List UInt8}:Ya a b<0 ↔ Go.Op.bytesLess (way a) (way b)=true∨(way a=way b∧Go.Op.bytesLess a b=true):=by
 rw [Jhv]
 split
 ·
  rename_i h
  rw [JkZ]
  have e:=V8.1 h
  rw [e,JdK];simp
 ·
  rename_i h
  rw [JkZ]
  constructor
  · exact .inl
  ·
   rintro (h1 | ⟨h1,_⟩)
   · exact h1
   · exact absurd (V8.2 h1) h
theorem Jo0 {a b:List UInt8}:0<Ya a b ↔ Ya b a<0:=by
 rw [Jhv,Jk1]
 split
 ·
  rename_i h
  rw [Jk0]
  have e:=V8.1 h
  rw [e,JdK];simp
 ·
  rename_i h
  rw [Jk0]
  constructor
  · exact .inl
  ·
   rintro (h1 | ⟨h1,_⟩)
   · exact h1
   · exact absurd (V8.2 h1.symm) h
theorem Jcv {a b c:List UInt8} (h1:Ya a b<0) (h2:Ya b c<0):Ya a c<0:=by
 rw [Jk1] at *
 rcases h1 with h1 | ⟨e1,h1⟩ <;> rcases h2 with h2 | ⟨e2,h2⟩
 · exact .inl (Jc0 h1 h2)
 · exact .inl (e2 ▸ h1)
 · exact .inl (e1 ▸ h2)
 · exact .inr ⟨e1.trans e2,Jc0 h1 h2⟩
set_option maxRecDepth 20000 in
theorem Jhw (G:J4) (name:List UInt8) (hw_name:(name).length≤140737488351232) :Q4 218 #[Sr name] G (Sr (YC name)):=by
 refine JR Tryz.func218 23 [(0,Sr name)] rfl (fun w0 G0=>?_)
 refine Jg [0] [] (Jf (Jd (Jc [0] [(6,Sr name)] (Jm 7 (U (Ji name)) (ZW name (Jcu hw_name) G) (Jc [0] [(3,U (Ji name))] (Je (Jb (Jf (Jd (Jv 4 #[Y 0,Y 0,Y 0,Y 0,Y 0,Y 0,Y 0,Y 0,Y 0,Y 0,Y 0,Y 0,Y 0,Y 0,Y 0,Y 0] 328 (fun b1=>Je (Jb (Jf (Jg [0] [(8,I 0)] (Jy (Jdv 17 (Wr (Jg [0] [(9,Bo true)] (Jf (JW ?_))))))))))))))))))))
 refine Jq (Jb (Jf (Jy (Jg [0,0] [(5,I 0)] (Jd (JV [0,0,0,0,0,0,0,0,0,3] [] [[Sg b1 0 [Y (Hc.wrap (48+(Hc.wrap (Ha.wrap ((Hb 64 ((Ji name).fdiv (2 ^ 15)) &&& Hb 64 1).toNat:Int))))),Y 0,Y 0,Y 0,Y 0,Y 0,Y 0,Y 0,Y 0,Y 0,Y 0,Y 0,Y 0,Y 0,Y 0,Y 0]]] ?_))))))
 have e1:Hc.wrap (48+(Hc.wrap (Ha.wrap ((Hb 64 ((Ji name).fdiv (2 ^ 15)) &&& Hb 64 1).toNat:Int))))=JE (Ji name) 15:=Z0 (Ji name) 15 (by have:=QQ name;omega)
 refine Zo (L':=[[Sg b1 0 [Y (JE (Ji name) 15),Y 0,Y 0,Y 0,Y 0,Y 0,Y 0,Y 0,Y 0,Y 0,Y 0,Y 0,Y 0,Y 0,Y 0,Y 0]]]) (by simp only [e1]) ?_
 clear e1
 refine Je (JN (Jb (Jd (Jc [0,0] [(8,I 1)] (Je (WH (Wr (Jg [0] [(9,Bo true)] (Jf (JW (Jq (Jb (Jf (Jy (Jg [0,0] [(5,I 1)] (Jd (JV [0,0,0,0,0,0,0,0,0,3] [] [[Sg b1 0 [Y (JE (Ji name) 15),Y (Hc.wrap (48+(Hc.wrap (Ha.wrap ((Hb 64 ((Ji name).fdiv (2 ^ 14)) &&& Hb 64 1).toNat:Int))))),Y 0,Y 0,Y 0,Y 0,Y 0,Y 0,Y 0,Y 0,Y 0,Y 0,Y 0,Y 0,Y 0,Y 0]]] ?_)))))))))))))))))
 have e2:Hc.wrap (48+(Hc.wrap (Ha.wrap ((Hb 64 ((Ji name).fdiv (2 ^ 14)) &&& Hb 64 1).toNat:Int))))=JE (Ji name) 14:=Z0 (Ji name) 14 (by have:=QQ name;omega)
 refine Zo (L':=[[Sg b1 0 [Y (JE (Ji name) 15),Y (JE (Ji name) 14),Y 0,Y 0,Y 0,Y 0,Y 0,Y 0,Y 0,Y 0,Y 0,Y 0,Y 0,Y 0,Y 0,Y 0]]]) (by simp only [e2]) ?_
 clear e2
 refine Je (JN (Jb (Jd (Jc [0,0] [(8,I 2)] (Je (WH (Wr (Jg [0] [(9,Bo true)] (Jf (JW (Jq (Jb (Jf (Jy (Jg [0,0] [(5,I 2)] (Jd (JV [0,0,0,0,0,0,0,0,0,3] [] [[Sg b1 0 [Y (JE (Ji name) 15),Y (JE (Ji name) 14),Y (Hc.wrap (48+(Hc.wrap (Ha.wrap ((Hb 64 ((Ji name).fdiv (2 ^ 13)) &&& Hb 64 1).toNat:Int))))),Y 0,Y 0,Y 0,Y 0,Y 0,Y 0,Y 0,Y 0,Y 0,Y 0,Y 0,Y 0,Y 0]]] ?_)))))))))))))))))
 have e3:Hc.wrap (48+(Hc.wrap (Ha.wrap ((Hb 64 ((Ji name).fdiv (2 ^ 13)) &&& Hb 64 1).toNat:Int))))=JE (Ji name) 13:=Z0 (Ji name) 13 (by have:=QQ name;omega)
 refine Zo (L':=[[Sg b1 0 [Y (JE (Ji name) 15),Y (JE (Ji name) 14),Y (JE (Ji name) 13),Y 0,Y 0,Y 0,Y 0,Y 0,Y 0,Y 0,Y 0,Y 0,Y 0,Y 0,Y 0,Y 0]]]) (by simp only [e3]) ?_
 clear e3
 refine Je (JN (Jb (Jd (Jc [0,0] [(8,I 3)] (Je (WH (Wr (Jg [0] [(9,Bo true)] (Jf (JW (Jq (Jb (Jf (Jy (Jg [0,0] [(5,I 3)] (Jd (JV [0,0,0,0,0,0,0,0,0,3] [] [[Sg b1 0 [Y (JE (Ji name) 15),Y (JE (Ji name) 14),Y (JE (Ji name) 13),Y (Hc.wrap (48+(Hc.wrap (Ha.wrap ((Hb 64 ((Ji name).fdiv (2 ^ 12)) &&& Hb 64 1).toNat:Int))))),Y 0,Y 0,Y 0,Y 0,Y 0,Y 0,Y 0,Y 0,Y 0,Y 0,Y 0,Y 0]]] ?_)))))))))))))))))
 have e4:Hc.wrap (48+(Hc.wrap (Ha.wrap ((Hb 64 ((Ji name).fdiv (2 ^ 12)) &&& Hb 64 1).toNat:Int))))=JE (Ji name) 12:=Z0 (Ji name) 12 (by have:=QQ name;omega)
 refine Zo (L':=[[Sg b1 0 [Y (JE (Ji name) 15),Y (JE (Ji name) 14),Y (JE (Ji name) 13),Y (JE (Ji name) 12),Y 0,Y 0,Y 0,Y 0,Y 0,Y 0,Y 0,Y 0,Y 0,Y 0,Y 0,Y 0]]]) (by simp only [e4]) ?_
 clear e4
 refine Je (JN (Jb (Jd (Jc [0,0] [(8,I 4)] (Je (WH (Wr (Jg [0] [(9,Bo true)] (Jf (JW (Jq (Jb (Jf (Jy (Jg [0,0] [(5,I 4)] (Jd (JV [0,0,0,0,0,0,0,0,0,3] [] [[Sg b1 0 [Y (JE (Ji name) 15),Y (JE (Ji name) 14),Y (JE (Ji name) 13),Y (JE (Ji name) 12),Y (Hc.wrap (48+(Hc.wrap (Ha.wrap ((Hb 64 ((Ji name).fdiv (2 ^ 11)) &&& Hb 64 1).toNat:Int))))),Y 0,Y 0,Y 0,Y 0,Y 0,Y 0,Y 0,Y 0,Y 0,Y 0,Y 0]]] ?_)))))))))))))))))
 have e5:Hc.wrap (48+(Hc.wrap (Ha.wrap ((Hb 64 ((Ji name).fdiv (2 ^ 11)) &&& Hb 64 1).toNat:Int))))=JE (Ji name) 11:=Z0 (Ji name) 11 (by have:=QQ name;omega)
 refine Zo (L':=[[Sg b1 0 [Y (JE (Ji name) 15),Y (JE (Ji name) 14),Y (JE (Ji name) 13),Y (JE (Ji name) 12),Y (JE (Ji name) 11),Y 0,Y 0,Y 0,Y 0,Y 0,Y 0,Y 0,Y 0,Y 0,Y 0,Y 0]]]) (by simp only [e5]) ?_
 clear e5
 refine Je (JN (Jb (Jd (Jc [0,0] [(8,I 5)] (Je (WH (Wr (Jg [0] [(9,Bo true)] (Jf (JW (Jq (Jb (Jf (Jy (Jg [0,0] [(5,I 5)] (Jd (JV [0,0,0,0,0,0,0,0,0,3] [] [[Sg b1 0 [Y (JE (Ji name) 15),Y (JE (Ji name) 14),Y (JE (Ji name) 13),Y (JE (Ji name) 12),Y (JE (Ji name) 11),Y (Hc.wrap (48+(Hc.wrap (Ha.wrap ((Hb 64 ((Ji name).fdiv (2 ^ 10)) &&& Hb 64 1).toNat:Int))))),Y 0,Y 0,Y 0,Y 0,Y 0,Y 0,Y 0,Y 0,Y 0,Y 0]]] ?_)))))))))))))))))
 have e6:Hc.wrap (48+(Hc.wrap (Ha.wrap ((Hb 64 ((Ji name).fdiv (2 ^ 10)) &&& Hb 64 1).toNat:Int))))=JE (Ji name) 10:=Z0 (Ji name) 10 (by have:=QQ name;omega)
 refine Zo (L':=[[Sg b1 0 [Y (JE (Ji name) 15),Y (JE (Ji name) 14),Y (JE (Ji name) 13),Y (JE (Ji name) 12),Y (JE (Ji name) 11),Y (JE (Ji name) 10),Y 0,Y 0,Y 0,Y 0,Y 0,Y 0,Y 0,Y 0,Y 0,Y 0]]]) (by simp only [e6]) ?_
 clear e6
 refine Je (JN (Jb (Jd (Jc [0,0] [(8,I 6)] (Je (WH (Wr (Jg [0] [(9,Bo true)] (Jf (JW (Jq (Jb (Jf (Jy (Jg [0,0] [(5,I 6)] (Jd (JV [0,0,0,0,0,0,0,0,0,3] [] [[Sg b1 0 [Y (JE (Ji name) 15),Y (JE (Ji name) 14),Y (JE (Ji name) 13),Y (JE (Ji name) 12),Y (JE (Ji name) 11),Y (JE (Ji name) 10),Y (Hc.wrap (48+(Hc.wrap (Ha.wrap ((Hb 64 ((Ji name).fdiv (2 ^ 9)) &&& Hb 64 1).toNat:Int))))),Y 0,Y 0,Y 0,Y 0,Y 0,Y 0,Y 0,Y 0,Y 0]]] ?_)))))))))))))))))
 have e7:Hc.wrap (48+(Hc.wrap (Ha.wrap ((Hb 64 ((Ji name).fdiv (2 ^ 9)) &&& Hb 64 1).toNat:Int))))=JE (Ji name) 9:=Z0 (Ji name) 9 (by have:=QQ name;omega)
 refine Zo (L':=[[Sg b1 0 [Y (JE (Ji name) 15),Y (JE (Ji name) 14),Y (JE (Ji name) 13),Y (JE (Ji name) 12),Y (JE (Ji name) 11),Y (JE (Ji name) 10),Y (JE (Ji name) 9),Y 0,Y 0,Y 0,Y 0,Y 0,Y 0,Y 0,Y 0,Y 0]]]) (by simp only [e7]) ?_
 clear e7
 refine Je (JN (Jb (Jd (Jc [0,0] [(8,I 7)] (Je (WH (Wr (Jg [0] [(9,Bo true)] (Jf (JW (Jq (Jb (Jf (Jy (Jg [0,0] [(5,I 7)] (Jd (JV [0,0,0,0,0,0,0,0,0,3] [] [[Sg b1 0 [Y (JE (Ji name) 15),Y (JE (Ji name) 14),Y (JE (Ji name) 13),Y (JE (Ji name) 12),Y (JE (Ji name) 11),Y (JE (Ji name) 10),Y (JE (Ji name) 9),Y (Hc.wrap (48+(Hc.wrap (Ha.wrap ((Hb 64 ((Ji name).fdiv (2 ^ 8)) &&& Hb 64 1).toNat:Int))))),Y 0,Y 0,Y 0,Y 0,Y 0,Y 0,Y 0,Y 0]]] ?_)))))))))))))))))
 have e8:Hc.wrap (48+(Hc.wrap (Ha.wrap ((Hb 64 ((Ji name).fdiv (2 ^ 8)) &&& Hb 64 1).toNat:Int))))=JE (Ji name) 8:=Z0 (Ji name) 8 (by have:=QQ name;omega)
 refine Zo (L':=[[Sg b1 0 [Y (JE (Ji name) 15),Y (JE (Ji name) 14),Y (JE (Ji name) 13),Y (JE (Ji name) 12),Y (JE (Ji name) 11),Y (JE (Ji name) 10),Y (JE (Ji name) 9),Y (JE (Ji name) 8),Y 0,Y 0,Y 0,Y 0,Y 0,Y 0,Y 0,Y 0]]]) (by simp only [e8]) ?_
 clear e8
 refine Je (JN (Jb (Jd (Jc [0,0] [(8,I 8)] (Je (WH (Wr (Jg [0] [(9,Bo true)] (Jf (JW (Jq (Jb (Jf (Jy (Jg [0,0] [(5,I 8)] (Jd (JV [0,0,0,0,0,0,0,0,0,3] [] [[Sg b1 0 [Y (JE (Ji name) 15),Y (JE (Ji name) 14),Y (JE (Ji name) 13),Y (JE (Ji name) 12),Y (JE (Ji name) 11),Y (JE (Ji name) 10),Y (JE (Ji name) 9),Y (JE (Ji name) 8),Y (Hc.wrap (48+(Hc.wrap (Ha.wrap ((Hb 64 ((Ji name).fdiv (2 ^ 7)) &&& Hb 64 1).toNat:Int))))),Y 0,Y 0,Y 0,Y 0,Y 0,Y 0,Y 0]]] ?_)))))))))))))))))
 have e9:Hc.wrap (48+(Hc.wrap (Ha.wrap ((Hb 64 ((Ji name).fdiv (2 ^ 7)) &&& Hb 64 1).toNat:Int))))=JE (Ji name) 7:=Z0 (Ji name) 7 (by have:=QQ name;omega)
 refine Zo (L':=[[Sg b1 0 [Y (JE (Ji name) 15),Y (JE (Ji name) 14),Y (JE (Ji name) 13),Y (JE (Ji name) 12),Y (JE (Ji name) 11),Y (JE (Ji name) 10),Y (JE (Ji name) 9),Y (JE (Ji name) 8),Y (JE (Ji name) 7),Y 0,Y 0,Y 0,Y 0,Y 0,Y 0,Y 0]]]) (by simp only [e9]) ?_
 clear e9
 refine Je (JN (Jb (Jd (Jc [0,0] [(8,I 9)] (Je (WH (Wr (Jg [0] [(9,Bo true)] (Jf (JW (Jq (Jb (Jf (Jy (Jg [0,0] [(5,I 9)] (Jd (JV [0,0,0,0,0,0,0,0,0,3] [] [[Sg b1 0 [Y (JE (Ji name) 15),Y (JE (Ji name) 14),Y (JE (Ji name) 13),Y (JE (Ji name) 12),Y (JE (Ji name) 11),Y (JE (Ji name) 10),Y (JE (Ji name) 9),Y (JE (Ji name) 8),Y (JE (Ji name) 7),Y (Hc.wrap (48+(Hc.wrap (Ha.wrap ((Hb 64 ((Ji name).fdiv (2 ^ 6)) &&& Hb 64 1).toNat:Int))))),Y 0,Y 0,Y 0,Y 0,Y 0,Y 0]]] ?_)))))))))))))))))
 have e10:Hc.wrap (48+(Hc.wrap (Ha.wrap ((Hb 64 ((Ji name).fdiv (2 ^ 6)) &&& Hb 64 1).toNat:Int))))=JE (Ji name) 6:=Z0 (Ji name) 6 (by have:=QQ name;omega)
 refine Zo (L':=[[Sg b1 0 [Y (JE (Ji name) 15),Y (JE (Ji name) 14),Y (JE (Ji name) 13),Y (JE (Ji name) 12),Y (JE (Ji name) 11),Y (JE (Ji name) 10),Y (JE (Ji name) 9),Y (JE (Ji name) 8),Y (JE (Ji name) 7),Y (JE (Ji name) 6),Y 0,Y 0,Y 0,Y 0,Y 0,Y 0]]]) (by simp only [e10]) ?_
 clear e10
 refine Je (JN (Jb (Jd (Jc [0,0] [(8,I 10)] (Je (WH (Wr (Jg [0] [(9,Bo true)] (Jf (JW (Jq (Jb (Jf (Jy (Jg [0,0] [(5,I 10)] (Jd (JV [0,0,0,0,0,0,0,0,0,3] [] [[Sg b1 0 [Y (JE (Ji name) 15),Y (JE (Ji name) 14),Y (JE (Ji name) 13),Y (JE (Ji name) 12),Y (JE (Ji name) 11),Y (JE (Ji name) 10),Y (JE (Ji name) 9),Y (JE (Ji name) 8),Y (JE (Ji name) 7),Y (JE (Ji name) 6),Y (Hc.wrap (48+(Hc.wrap (Ha.wrap ((Hb 64 ((Ji name).fdiv (2 ^ 5)) &&& Hb 64 1).toNat:Int))))),Y 0,Y 0,Y 0,Y 0,Y 0]]] ?_)))))))))))))))))
 have e11:Hc.wrap (48+(Hc.wrap (Ha.wrap ((Hb 64 ((Ji name).fdiv (2 ^ 5)) &&& Hb 64 1).toNat:Int))))=JE (Ji name) 5:=Z0 (Ji name) 5 (by have:=QQ name;omega)
 refine Zo (L':=[[Sg b1 0 [Y (JE (Ji name) 15),Y (JE (Ji name) 14),Y (JE (Ji name) 13),Y (JE (Ji name) 12),Y (JE (Ji name) 11),Y (JE (Ji name) 10),Y (JE (Ji name) 9),Y (JE (Ji name) 8),Y (JE (Ji name) 7),Y (JE (Ji name) 6),Y (JE (Ji name) 5),Y 0,Y 0,Y 0,Y 0,Y 0]]]) (by simp only [e11]) ?_
 clear e11
 refine Je (JN (Jb (Jd (Jc [0,0] [(8,I 11)] (Je (WH (Wr (Jg [0] [(9,Bo true)] (Jf (JW (Jq (Jb (Jf (Jy (Jg [0,0] [(5,I 11)] (Jd (JV [0,0,0,0,0,0,0,0,0,3] [] [[Sg b1 0 [Y (JE (Ji name) 15),Y (JE (Ji name) 14),Y (JE (Ji name) 13),Y (JE (Ji name) 12),Y (JE (Ji name) 11),Y (JE (Ji name) 10),Y (JE (Ji name) 9),Y (JE (Ji name) 8),Y (JE (Ji name) 7),Y (JE (Ji name) 6),Y (JE (Ji name) 5),Y (Hc.wrap (48+(Hc.wrap (Ha.wrap ((Hb 64 ((Ji name).fdiv (2 ^ 4)) &&& Hb 64 1).toNat:Int))))),Y 0,Y 0,Y 0,Y 0]]] ?_)))))))))))))))))
 have e12:Hc.wrap (48+(Hc.wrap (Ha.wrap ((Hb 64 ((Ji name).fdiv (2 ^ 4)) &&& Hb 64 1).toNat:Int))))=JE (Ji name) 4:=Z0 (Ji name) 4 (by have:=QQ name;omega)
 refine Zo (L':=[[Sg b1 0 [Y (JE (Ji name) 15),Y (JE (Ji name) 14),Y (JE (Ji name) 13),Y (JE (Ji name) 12),Y (JE (Ji name) 11),Y (JE (Ji name) 10),Y (JE (Ji name) 9),Y (JE (Ji name) 8),Y (JE (Ji name) 7),Y (JE (Ji name) 6),Y (JE (Ji name) 5),Y (JE (Ji name) 4),Y 0,Y 0,Y 0,Y 0]]]) (by simp only [e12]) ?_
 clear e12
 refine Je (JN (Jb (Jd (Jc [0,0] [(8,I 12)] (Je (WH (Wr (Jg [0] [(9,Bo true)] (Jf (JW (Jq (Jb (Jf (Jy (Jg [0,0] [(5,I 12)] (Jd (JV [0,0,0,0,0,0,0,0,0,3] [] [[Sg b1 0 [Y (JE (Ji name) 15),Y (JE (Ji name) 14),Y (JE (Ji name) 13),Y (JE (Ji name) 12),Y (JE (Ji name) 11),Y (JE (Ji name) 10),Y (JE (Ji name) 9),Y (JE (Ji name) 8),Y (JE (Ji name) 7),Y (JE (Ji name) 6),Y (JE (Ji name) 5),Y (JE (Ji name) 4),Y (Hc.wrap (48+(Hc.wrap (Ha.wrap ((Hb 64 ((Ji name).fdiv (2 ^ 3)) &&& Hb 64 1).toNat:Int))))),Y 0,Y 0,Y 0]]] ?_)))))))))))))))))
 have e13:Hc.wrap (48+(Hc.wrap (Ha.wrap ((Hb 64 ((Ji name).fdiv (2 ^ 3)) &&& Hb 64 1).toNat:Int))))=JE (Ji name) 3:=Z0 (Ji name) 3 (by have:=QQ name;omega)
 refine Zo (L':=[[Sg b1 0 [Y (JE (Ji name) 15),Y (JE (Ji name) 14),Y (JE (Ji name) 13),Y (JE (Ji name) 12),Y (JE (Ji name) 11),Y (JE (Ji name) 10),Y (JE (Ji name) 9),Y (JE (Ji name) 8),Y (JE (Ji name) 7),Y (JE (Ji name) 6),Y (JE (Ji name) 5),Y (JE (Ji name) 4),Y (JE (Ji name) 3),Y 0,Y 0,Y 0]]]) (by simp only [e13]) ?_
 clear e13
 refine Je (JN (Jb (Jd (Jc [0,0] [(8,I 13)] (Je (WH (Wr (Jg [0] [(9,Bo true)] (Jf (JW (Jq (Jb (Jf (Jy (Jg [0,0] [(5,I 13)] (Jd (JV [0,0,0,0,0,0,0,0,0,3] [] [[Sg b1 0 [Y (JE (Ji name) 15),Y (JE (Ji name) 14),Y (JE (Ji name) 13),Y (JE (Ji name) 12),Y (JE (Ji name) 11),Y (JE (Ji name) 10),Y (JE (Ji name) 9),Y (JE (Ji name) 8),Y (JE (Ji name) 7),Y (JE (Ji name) 6),Y (JE (Ji name) 5),Y (JE (Ji name) 4),Y (JE (Ji name) 3),Y (Hc.wrap (48+(Hc.wrap (Ha.wrap ((Hb 64 ((Ji name).fdiv (2 ^ 2)) &&& Hb 64 1).toNat:Int))))),Y 0,Y 0]]] ?_)))))))))))))))))
 have e14:Hc.wrap (48+(Hc.wrap (Ha.wrap ((Hb 64 ((Ji name).fdiv (2 ^ 2)) &&& Hb 64 1).toNat:Int))))=JE (Ji name) 2:=Z0 (Ji name) 2 (by have:=QQ name;omega)
 refine Zo (L':=[[Sg b1 0 [Y (JE (Ji name) 15),Y (JE (Ji name) 14),Y (JE (Ji name) 13),Y (JE (Ji name) 12),Y (JE (Ji name) 11),Y (JE (Ji name) 10),Y (JE (Ji name) 9),Y (JE (Ji name) 8),Y (JE (Ji name) 7),Y (JE (Ji name) 6),Y (JE (Ji name) 5),Y (JE (Ji name) 4),Y (JE (Ji name) 3),Y (JE (Ji name) 2),Y 0,Y 0]]]) (by simp only [e14]) ?_
 clear e14
 refine Je (JN (Jb (Jd (Jc [0,0] [(8,I 14)] (Je (WH (Wr (Jg [0] [(9,Bo true)] (Jf (JW (Jq (Jb (Jf (Jy (Jg [0,0] [(5,I 14)] (Jd (JV [0,0,0,0,0,0,0,0,0,3] [] [[Sg b1 0 [Y (JE (Ji name) 15),Y (JE (Ji name) 14),Y (JE (Ji name) 13),Y (JE (Ji name) 12),Y (JE (Ji name) 11),Y (JE (Ji name) 10),Y (JE (Ji name) 9),Y (JE (Ji name) 8),Y (JE (Ji name) 7),Y (JE (Ji name) 6),Y (JE (Ji name) 5),Y (JE (Ji name) 4),Y (JE (Ji name) 3),Y (JE (Ji name) 2),Y (Hc.wrap (48+(Hc.wrap (Ha.wrap ((Hb 64 ((Ji name).fdiv (2 ^ 1)) &&& Hb 64 1).toNat:Int))))),Y 0]]] ?_)))))))))))))))))
 have e15:Hc.wrap (48+(Hc.wrap (Ha.wrap ((Hb 64 ((Ji name).fdiv (2 ^ 1)) &&& Hb 64 1).toNat:Int))))=JE (Ji name) 1:=Z0 (Ji name) 1 (by have:=QQ name;omega)
 refine Zo (L':=[[Sg b1 0 [Y (JE (Ji name) 15),Y (JE (Ji name) 14),Y (JE (Ji name) 13),Y (JE (Ji name) 12),Y (JE (Ji name) 11),Y (JE (Ji name) 10),Y (JE (Ji name) 9),Y (JE (Ji name) 8),Y (JE (Ji name) 7),Y (JE (Ji name) 6),Y (JE (Ji name) 5),Y (JE (Ji name) 4),Y (JE (Ji name) 3),Y (JE (Ji name) 2),Y (JE (Ji name) 1),Y 0]]]) (by simp only [e15]) ?_
 clear e15
 refine Je (JN (Jb (Jd (Jc [0,0] [(8,I 15)] (Je (WH (Wr (Jg [0] [(9,Bo true)] (Jf (JW (Jq (Jb (Jf (Jy (Jg [0,0] [(5,I 15)] (Jd (JV [0,0,0,0,0,0,0,0,0,3] [] [[Sg b1 0 [Y (JE (Ji name) 15),Y (JE (Ji name) 14),Y (JE (Ji name) 13),Y (JE (Ji name) 12),Y (JE (Ji name) 11),Y (JE (Ji name) 10),Y (JE (Ji name) 9),Y (JE (Ji name) 8),Y (JE (Ji name) 7),Y (JE (Ji name) 6),Y (JE (Ji name) 5),Y (JE (Ji name) 4),Y (JE (Ji name) 3),Y (JE (Ji name) 2),Y (JE (Ji name) 1),Y (Hc.wrap (48+(Hc.wrap (Ha.wrap ((Hb 64 ((Ji name).fdiv (2 ^ 0)) &&& Hb 64 1).toNat:Int)))))]]] ?_)))))))))))))))))
 have e16:Hc.wrap (48+(Hc.wrap (Ha.wrap ((Hb 64 ((Ji name).fdiv (2 ^ 0)) &&& Hb 64 1).toNat:Int))))=JE (Ji name) 0:=Z0 (Ji name) 0 (by have:=QQ name;omega)
 refine Zo (L':=[[Sg b1 0 [Y (JE (Ji name) 15),Y (JE (Ji name) 14),Y (JE (Ji name) 13),Y (JE (Ji name) 12),Y (JE (Ji name) 11),Y (JE (Ji name) 10),Y (JE (Ji name) 9),Y (JE (Ji name) 8),Y (JE (Ji name) 7),Y (JE (Ji name) 6),Y (JE (Ji name) 5),Y (JE (Ji name) 4),Y (JE (Ji name) 3),Y (JE (Ji name) 2),Y (JE (Ji name) 1),Y (JE (Ji name) 0)]]]) (by simp only [e16]) ?_
 clear e16
 refine Je (JN (Jb (Jd (Jc [0,0] [(8,I 16)] (Je (WH (Wr (Jg [0] [(9,Bo false)] (Jf (Qq (KW (JY (JY (JT (Jb (Jf (Jd (Jc [0] [(21,Sl (At b1 0) 16 16)] (JaX (b:=b1) (off:=0) (len:=16) (cap:=16) (cs:=HX (Value.int .u8) [JE (Ji name) 15,JE (Ji name) 14,JE (Ji name) 13,JE (Ji name) 12,JE (Ji name) 11,JE (Ji name) 10,JE (Ji name) 9,JE (Ji name) 8,JE (Ji name) 7,JE (Ji name) 6,JE (Ji name) 5,JE (Ji name) 4,JE (Ji name) 3,JE (Ji name) 2,JE (Ji name) 1,JE (Ji name) 0]) 22 0 [JE (Ji name) 15,JE (Ji name) 14,JE (Ji name) 13,JE (Ji name) 12,JE (Ji name) 11,JE (Ji name) 10,JE (Ji name) 9,JE (Ji name) 8,JE (Ji name) 7,JE (Ji name) 6,JE (Ji name) 5,JE (Ji name) 4,JE (Ji name) 3,JE (Ji name) 2,JE (Ji name) 1,JE (Ji name) 0] rfl (V6 (ns:=[JE (Ji name) 15,JE (Ji name) 14,JE (Ji name) 13,JE (Ji name) 12,JE (Ji name) 11,JE (Ji name) 10,JE (Ji name) 9,JE (Ji name) 8,JE (Ji name) 7,JE (Ji name) 6,JE (Ji name) 5,JE (Ji name) 4,JE (Ji name) 3,JE (Ji name) 2,JE (Ji name) 1,JE (Ji name) 0]) rfl) (Jc [0] [(2,Sr (([JE (Ji name) 15,JE (Ji name) 14,JE (Ji name) 13,JE (Ji name) 12,JE (Ji name) 11,JE (Ji name) 10,JE (Ji name) 9,JE (Ji name) 8,JE (Ji name) 7,JE (Ji name) 6,JE (Ji name) 5,JE (Ji name) 4,JE (Ji name) 3,JE (Ji name) 2,JE (Ji name) 1,JE (Ji name) 0]:List Int).map fun n=>He n.toNat))] (Je (Jb (Jn (Jo [0] [Sr (([JE (Ji name) 15,JE (Ji name) 14,JE (Ji name) 13,JE (Ji name) 12,JE (Ji name) 11,JE (Ji name) 10,JE (Ji name) 9,JE (Ji name) 8,JE (Ji name) 7,JE (Ji name) 6,JE (Ji name) 5,JE (Ji name) 4,JE (Ji name) 3,JE (Ji name) 2,JE (Ji name) 1,JE (Ji name) 0]:List Int).map fun n=>He n.toNat)] (Jx (Jh _) (congrArg Sr (?_:(YC name)=(([JE (Ji name) 15,JE (Ji name) 14,JE (Ji name) 13,JE (Ji name) 12,JE (Ji name) 11,JE (Ji name) 10,JE (Ji name) 9,JE (Ji name) 8,JE (Ji name) 7,JE (Ji name) 6,JE (Ji name) 5,JE (Ji name) 4,JE (Ji name) 3,JE (Ji name) 2,JE (Ji name) 1,JE (Ji name) 0]:List Int).map fun n=>He n.toNat)).symm))))))))))))))))))))))))))
 rfl
theorem Jcw (G:J4) (name:List UInt8) (hw_name:(name).length≤140737488351232) :Q4 173 #[Sr name] G (.tuple #[Sr ((KI name).1),I ((KI name).2)]):=by
 refine JR Tryz.func173 9 [(0,Sr name)] rfl (fun w0 G0=>?_)
 refine Jg [0,0] [] (Jf (Jf (Jd (Jc [0] [(4,Sr name)] (Jm 5 (Bo (KJ name)) (ZN G name) (Jc [0] [(6,Bo (!(KJ name)))] (Je (Jb (Jl (!(KJ name)) (fun h1=>?_) (fun h1=>?_))))))))))
 refine Jg [0,0] [(2,Sr ([])),(3,I 3)] (Jn (Jj (Jo [0,0] [Sr ([]),I 3] (Jx (Jh _) ?_))))
 have hf_:(KI name)=([],3):=by
  unfold KI;simp_all
 · (try rw [hf_]);(simp only [Qx];done)
 refine Jq (Jb (Jf (Jd (Jc [0] [(7,Sr name)] (Jm 8 (Sr (YC name)) (Jhw G name hw_name) (Jc [0,0] [(2,Sr (YC name)),(3,I 0)] (Je (Jb (Jn (Jo [0,0] [Sr (YC name),I 0] (Jx (Jh _) ?_)))))))))))
 have hf_:(KI name)=(YC name,0):=by
  unfold KI;simp_all
 · (try rw [hf_]);(simp only [Qx];done)
theorem JgI (G:J4) (x:List UInt8) :Q4 172 #[Sr x] G (Bo false):=by
 refine JR Tryz.func172 6 [(0,Sr x)] rfl (fun w0 G0=>?_)
 refine Jg [0] [] (Jg [0,0,0,0] [(2,Bo (!((B x).toList == (B x).toList)))] (Q2 2 (Bo (!(x == x))) (show (Bo (!((B x).toList == (B x).toList)):Value)=Bo (!(x == x)) by simp only [Q3]) (Jn (Jo [0] [Bo (!(x == x))] (Jx (Jh _) (congrArg Bo (?_:false=(!(x == x))).symm))))))
 simp
theorem Jiq (G:J4) (x:List UInt8) (y:List UInt8) :Q4 117 #[Sr x,Sr y] G (I (ZO x y)):=by
 refine JR Tryz.func117 20 [(0,Sr x),(1,Sr y)] rfl (fun w0 G0=>?_)
 refine Jg [0] [] (Jf (Jd (Jc [0] [(7,Sr x)] (Jm 8 (Bo false) (JgI G x) (Jc [0] [(5,Bo false)] (Je (Jb (Jf (Jd (Jc [0] [(9,Sr y)] (Jm 10 (Bo false) (JgI G y) (Jc [0] [(6,Bo false)] (Je (Jb (Jf (Jg [0] [(11,Bo false)] (Qq (Jq (Jb (Jf (Jg [0] [(13,Bo false)] ?_)))))))))))))))))))))
 refine Qq (Jq (Jb (Jf (Jg [0,0,0] [(16,Bo (Go.Op.bytesLess (B x).toList (B y).toList))] (Q2 16 (Bo (Go.Op.bytesLess x y)) (show (Bo (Go.Op.bytesLess (B x).toList (B y).toList):Value)=Bo (Go.Op.bytesLess x y) by simp only [Q3]) (Jl (Go.Op.bytesLess x y) (fun h1=>?_) (fun h1=>?_)))))))
 refine Jg [0] [(4,I (-1))] (Jn (Jj (Jo [0] [I (-1)] (Jx (Jh _) (congrArg I (?_:(ZO x y)=(-1)).symm)))))
 · unfold ZO;(rw [if_pos ‹_›];done)
 refine Jq (Jb (Jf (Jg [0,0,0] [(19,Bo (!(Go.Op.bytesLess (B x).toList (B y).toList || ((B x).toList == (B y).toList))))] (Q2 19 (Bo (!(Go.Op.bytesLess x y || (x == y)))) (show (Bo (!(Go.Op.bytesLess (B x).toList (B y).toList || ((B x).toList == (B y).toList))):Value)=Bo (!(Go.Op.bytesLess x y || (x == y))) by simp only [Q3]) (Jl (!(Go.Op.bytesLess x y || (x == y))) (fun h2=>?_) (fun h2=>?_))))))
 refine Jg [0] [(4,I 1)] (Jn (Jj (Jo [0] [I 1] (Jx (Jh _) (congrArg I (?_:(ZO x y)=1).symm)))))
 · unfold ZO;(rw [if_neg (by simp_all)];(rw [if_neg (by simp_all)];done))
 refine Jq (Jb (Jg [0] [(4,I 0)] (Jn (Jo [0] [I 0] (Jx (Jh _) (congrArg I (?_:(ZO x y)=0).symm))))))
 · unfold ZO;(rw [if_neg (by simp_all)];(rw [if_pos (by simp_all)];done))
theorem Jo1 (G:J4) (a_l:Option Addr) (c_l:Nat) (l:List Int) (h_l:RS EI G a_l c_l l) :Q4 116 #[Sl a_l l.length c_l] G (I (orI l)):=by
 refine JR Tryz.func116 18 [(0,Sl a_l l.length c_l)] rfl (fun w0 G0=>?_)
 refine Jg [0] [] (Jg [0] [(3,I 0)] (Jf (Jg [0,0,0] [(6,Sl a_l l.length c_l),(7,I (l.length:Int)),(8,I 0)] (Jy ?_))))
 have hlm_h_l:l.length≤9223372036854775807:=Hi (h_l).le (h_l).max
 refine Qh (σ:=Nat) (fun q_=>(q_≤l.length)∧(orI l=orI (l.drop q_))) (fun q_=>[(3,I 0),(6,Sl a_l l.length c_l),(7,I (l.length:Int)),(8,I (q_:Int))]) (fun q_=>G) (fun q_=>[]) (fun q_=>l.length-q_) 0 ⟨(by (try dsimp only);exact Hl _),rfl⟩ (fun q_ hs=>?_)
 revert hs;revert q_;intro i hs
 obtain ⟨hi,hn⟩:=hs
 dsimp only
 refine Jg [0] [(9,Bo (decide ((i:Int)<(l.length:Int))))] (Jf (Jl (decide ((i:Int)<(l.length:Int))) (fun h1=>?_) (fun h1=>?_)))
 refine Jq (Jb (Jf (Jy (Jf (Jd ?_)))))
 obtain ⟨b1,o1,rfl⟩:=RS.addr h_l (k:=i) (by omega)
 obtain ⟨x1,hx1⟩:=Wf (l:=l) (k:=i) (by omega)
 obtain ⟨_,⟨rfl,_⟩,hc1⟩:=RS.get h_l hx1
 refine J5 (b:=b1) (off:=o1) (len:=l.length) (cap:=c_l) (ik:=.i64) 10 3 1 i J8 (JZ 11 3 (cs:=[I x1]) 0 (I x1) hc1 (Jc [0] [(5,I x1)] (Je (Jb (Jg [0,0,0] [(14,Bo (!decide (x1=0)))] (Jl (!decide (x1=0)) (fun h2=>?_) (fun h2=>?_)))))))
 refine Jg [0,0] [(2,I x1)] (Jn (Js (Jj (Qj (Js (Jj (Jo [0] [I x1] (Jx (Jh _) (congrArg I (?_:(orI l)=x1).symm)))))))))
 rw [hn];exact orI_at hx1 (by simp_all)
 exact Jq (JN (Jb (Jd (Jc [0,0] [(8,I (Hj.wrap ((i:Int)+1)))] (Kr 8 ((i:Int)+1) J8 (Je (Qi (i+1) ⟨J8,(by rw [hn];exact Jnt hx1 (by simp_all))⟩ (by (try dsimp only);omega))))))))
 refine KW (JY (J9 (JT (Jb (Jg [0,0] [(2,I 0)] (Jn (Jo [0] [I 0] (Jx (Jh _) (congrArg I (?_:(orI l)=0).symm)))))))))
 rw [hn];(rw [Ht (by omega)];rfl)
theorem Jc1 (G:J4) (name:List UInt8) (hw_name:(name).length≤140737488351232) :Q4 118 #[Sr name] G (Sr (way name)):=by
 refine JR Tryz.func118 11 [(0,Sr name)] rfl (fun w0 G0=>?_)
 refine Jg [0] [] (Jf (Jd (Jc [0] [(6,Sr name)] (Jm 7 (.tuple #[Sr ((KI name).1),I ((KI name).2)]) (Jcw G name hw_name) (Jc [0,0,0,0,0] [(3,Sr ((KI name).1))] (Je (Jb (Jg [0,0] [(2,Sr ((KI name).1))] (Jn (Jo [0] [Sr ((KI name).1)] (Jx (Jh _) (congrArg Sr (?_:(way name)=((KI name).1)).symm))))))))))))
 rfl
theorem Jir (G:J4) (a:List UInt8) (hw_a:(a).length≤140737488351232) (b:List UInt8) (hw_b:(b).length≤140737488351232) :Q4 68 #[Sr a,Sr b] G (I (Ya a b)):=by
 refine JR Tryz.func68 15 [(0,Sr a),(1,Sr b)] rfl (fun w0 G0=>?_)
 refine Jg [0] [] (Jf (Jd (Jc [0] [(5,Sr a)] (Jm 6 (Sr (way a)) (Jc1 G a hw_a) (Jc [0] [(7,Sr b)] (Jm 8 (Sr (way b)) (Jc1 G b hw_b) (Jm 9 (I (ZO (way a) (way b))) (Jiq G (way a) (way b)) (Jc [0,0] [(10,Sr a),(11,Sr b)] (Jm 12 (I (ZO a b)) (Jiq G a b) (Kt 13 2 #[I (ZO (way a) (way b)),I (ZO a b)] 3 (fun b1=>QZ (b:=b1) (o:=0) (cs:=[I (ZO (way a) (way b)),I (ZO a b)]) 0 (fun G1 hl1 hz1=>?_))))))))))))
 have hs1:RS EI G1 (At b1 0) 2 [ZO (way a) (way b),ZO a b]:=RS.lit [[I (ZO (way a) (way b))],[I (ZO a b)]] [ZO (way a) (way b),ZO a b] ⟨⟨rfl,(by (unfold ZO;repeat' split <;> omega))⟩,⟨⟨rfl,(by (unfold ZO;repeat' split <;> omega))⟩,trivial⟩⟩ hz1 (Hr rfl) (Hr rfl)
 refine Jm 14 (I (orI ([ZO (way a) (way b),ZO a b]))) (Jo1 G1 (At b1 0) 2 ([ZO (way a) (way b),ZO a b]) hs1) (Jc [0] [(4,I (orI ([ZO (way a) (way b),ZO a b])))] (Je (Jb (Jn (Jo [0] [I (orI ([ZO (way a) (way b),ZO a b]))] (Jx hl1 (congrArg I (?_:(Ya a b)=(orI ([ZO (way a) (way b),ZO a b]))).symm)))))))
 rfl
end Go.Proofs.YteaampgpgokjmaaGreatDoor
