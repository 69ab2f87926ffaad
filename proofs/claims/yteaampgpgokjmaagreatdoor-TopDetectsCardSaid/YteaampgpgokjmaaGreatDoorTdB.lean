import Derived.Test.YteaampgpgokjmaaGreatDoorTdA
import Derived.Test.YteaampgpgokjmaaGreatDoorRows
import Derived.WalkKit
import Derived.ProofKit
import Derived.OpenShut
import Derived.JoinedCond
import Derived.SizedLaws
import Derived.Deep.CondSized
import Derived.WideKeyArgs
import Derived.Carry
import Derived.Shelf.Strconv.Itoa3
import Derived.Shelf.Strconv.AtoiAll
import Derived.Shelf.Strings.SplitCore
import Derived.Shelf.Strings.OnBuilder
import Derived.Shelf.Strings.Count
import Derived.Shelf.Strings.Search3
import Derived.Lib.SplitLaws
import Derived.Lib.AtoiErrMem
import Derived.BigCall
import Derived.BigGuard
import Derived.Lib.ItoaMem
import Derived.Lib.Hide
import Derived.Lib.AtoiAllCases
import Derived.Lib.ItoaLen
set_option linter.unusedVariables false
set_option linter.unusedSimpArgs false
namespace Go.Proofs.YteaampgpgokjmaaGreatDoor
open Go.Tx
open Go.ChangeShapes Go.WideShapes Go.ChangeAt Go.RowKit
def RdF (rec:TypeId→List Value→Nat→Prop) (P:Program) (cs:List Value):List Field→Nat→Prop
 | [],_=>True
 | f::fs,n=>∃ m r,m+r≤n∧rec f.type ((cs.drop f.offset).take (P.cellsOf f.type)) m∧RdF rec P cs fs r
def Rd (P:Program) (G:Jp):Nat→TypeId→List Value→Nat→Prop
 | 0,_,_,_=>False
 | d+1,t,cs,n=>match P.underlying t with
  | some .bool=>∃ b,cs=[Bo b]
  | some (.int k)=>∃ m,cs=[.int k m]∧(Lit.int k m).wf=true
  | some .string=>∃ l:List UInt8,cs=[Sr l]∧l.length≤140737488351232∧l.length+1≤n
  | some (.slice e)=>cs=[.slice none 0 0]∨∃ a len cap,cs=[.slice (some a) len cap]∧len≤cap∧cap≤9223372036854775807∧cap*P.bytesOf e≤140737488351232∧(0<cap→0<P.cellsOf e→a.spot=none) ∧
    ∃ ns:List Nat,ns.length=len∧ns.sum+1≤n∧∀ i m,ns[i]? = some m→∃ es,es.length=P.cellsOf e∧(∀ j v,es[j]? = some v→G a.block (a.off+i*P.cellsOf e+j)=some v)∧Rd P G d e es m
  | some (.struct fs)=>cs.length=P.cellsOf t∧RdF (Rd P G d) P cs fs.toList n
  | some (.array k e)=>cs.length=P.cellsOf t∧∃ ns:List Nat,ns.length=k∧ns.sum≤n∧∀ i m,ns[i]? = some m→Rd P G d e ((cs.drop (i*P.cellsOf e)).take (P.cellsOf e)) m
  | _=>True
def Jbp (w:World):Jp:=fun b o=>w.cell? ⟨b,o,none⟩
section
variable {H:Type} {enc:TypeId×Value→H} {P:Program} {w:World}
theorem Jaa:∀ (ds:List (DataW H)),Rows.uptoBulkAll ds=(ds.map Rows.uptoBulk).sum
 | []=>rfl
 | d::r=>by rw [Rows.uptoBulkAll,Jaa r];simp
theorem Jab (P:Program) (e:TypeId):∀ (ds:List (DataW H)) (d:DataW H) (x:Nat),d∈ds→x∈d.weights P e→x∈DataW.weightsAll P e ds
 | [],d,x,h,_=>by cases h
 | c::r,d,x,h,hx=>by
  rw [DataW.weightsAll]
  rcases List.mem_cons.1 h with rfl | h
  · exact List.mem_append_left _ hx
  · exact List.mem_append_right _ (Jab P e r d x h hx)
theorem JdJ {a:Addr} {n:Nat} {cs:List Value} (h:w.cells? 0 a n=some cs):cs.length=n∧(∀ j v,cs[j]? = some v→Jbp w a.block (a.off+j)=some v)∧(0<n→a.spot=none):=by
 unfold World.cells? at h
 rw [if_pos (Nat.zero_le _)] at h
 have hl:=mapM_some_length h
 rw [List.length_range] at hl
 have key:∀ j v,cs[j]? = some v→w.cell? (a.add j)=some v:=by
  intro j v hv
  have hj:j<n:=by rw [← hl];exact (List.getElem?_eq_some_iff.1 hv).1
  rw [mapM_some_get h j j (by simp [hj]),hv]
 refine ⟨hl,fun j v hv=>?_,fun hn=>?_⟩
 ·
  have:=key j v hv
  by_cases h0:j=0
  ·
   subst h0
   obtain ⟨b,o,sp⟩:=a
   cases sp with
   | none=>simpa [Addr.add,Jbp] using this
   | some s=>simp [Addr.add,World.cell?] at this;split at this <;> simp at this
  ·
   rw [Addr.add,if_neg h0] at this
   exact this
 ·
  obtain ⟨v,hv⟩:∃ v,cs[0]? = some v:=⟨_,List.getElem?_eq_getElem (by omega)⟩
  have:=key 0 v hv
  obtain ⟨b,o,sp⟩:=a
  cases sp with
  | none=>rfl
  | some s=>simp [Addr.add,World.cell?] at this;split at this <;> simp at this
theorem B_of (s:ByteArray):Value.string s=Sr s.data.toList:=by
 obtain ⟨⟨l⟩⟩:=s
 rfl
theorem Jnn {rec:TypeId→List Value→Nat→Prop} {cs:List Value}:∀ (fs:List Field) {n m:Nat},n≤m→RdF rec P cs fs n→RdF rec P cs fs m
 | [],_,_,_,_=>trivial
 | f::fs,n,m,h,⟨x,y,h1,h2,h3⟩=>⟨x,y,Nat.le_trans h1 h,h2,h3⟩
theorem Jno {d:Nat} {cs:List Value} (ih:∀ t cs dt ps,DataW.trod enc P w 0 (fun _=>true) true d t cs=some (dt,ps)→(∀ x∈DataW.weights P t dt,x≤reachBytes)→Rd P (Jbp w) d t cs (Rows.uptoBulk dt)) :
  ∀ (fs:List Field) (xs:List (DataW H×List MemPlace)),fs.mapM (fun f=>DataW.trod enc P w 0 (fun _=>true) true d f.type ((cs.drop f.offset).take (P.cellsOf f.type)))=some xs →
   (∀ x∈DataW.weightsEach P (fs.map (·.type)) (xs.map (·.1)),x≤reachBytes)→RdF (Rd P (Jbp w) d) P cs fs (Rows.uptoBulkAll (xs.map (·.1)))
 | [],xs,_,_=>trivial
 | f::fs,xs,h,hw=>by
  rw [List.mapM_cons] at h
  simp only [bind,Option.bind_eq_some_iff,pure,Option.some.injEq] at h
  obtain ⟨⟨dt,ps⟩,h1,ys,h2,rfl⟩:=h
  simp only [List.map_cons,DataW.weightsEach,List.mem_append] at hw
  refine ⟨Rows.uptoBulk dt,Rows.uptoBulkAll (ys.map (·.1)),?_,ih _ _ _ _ h1 (fun x hx=>hw x (.inl hx)),Jno ih fs ys h2 (fun x hx=>hw x (.inr hx))⟩
  simp [Rows.uptoBulkAll]
theorem Jfc:∀ (d:Nat) (t:TypeId) (cs:List Value) (dt:DataW H) (ps:List MemPlace),DataW.trod enc P w 0 (fun _=>true) true d t cs=some (dt,ps)→(∀ x∈DataW.weights P t dt,x≤reachBytes) →
  Rd P (Jbp w) d t cs (Rows.uptoBulk dt)
 | 0,_,_,_,_,h,_=>by simp [DataW.trod] at h
 | d+1,t,cs,dt,ps,h,hw=>by
  have ih:=Jfc d
  unfold Rd
  cases hu:P.underlying t with
  | none=>trivial
  | some k =>
   cases k with
   | bool =>
    simp only
    unfold DataW.trod at h
    rw [hu] at h
    split at h <;> simp_all
   | int k =>
    simp only
    unfold DataW.trod at h
    rw [hu] at h
    split at h <;> simp_all
   | string =>
    simp only
    unfold DataW.trod at h
    rw [hu] at h
    split at h <;> try simp_all
    rename_i s
    obtain ⟨h1,rfl,h2⟩:=h
    have:=hw s.data.toList.length (by simp [DataW.weights])
    refine ⟨s.data.toList,Value.string.inj (B_of s),?_,?_⟩
    · simpa [reachBytes] using this
    · simp [Rows.uptoBulk]
   | slice e =>
    simp only
    unfold DataW.trod at h
    rw [hu] at h
    split at h <;> try (exfalso;simp_all;done)
    · exact .inl rfl
    ·
     rename_i e' a len cap heq
     cases heq
     dsimp only at h
     split at h
     ·
      rename_i hc
      simp only [if_true,Option.bind_eq_some_iff,Option.map_eq_some_iff,Prod.mk.injEq] at h
      obtain ⟨xs,h1,ys,h2,rfl,_⟩:=h
      have l1:=mapM_some_length h1
      have l2:=mapM_some_length h2
      rw [List.length_range] at l1 l2
      simp only [DataW.weights,hu,List.mem_cons,List.mem_append,List.length_map] at hw
      have hsz:=hw _ (.inl rfl)
      have get:∀ i z,i<len→xs[i]? = some z→∃ cs,w.cells? 0 (a.add (i*P.cellsOf e)) (P.cellsOf e)=some cs∧DataW.trod enc P w 0 (fun _=>true) true d e cs=some z:=by
       intro i z hi hz
       have:=mapM_some_get h1 i i (by simp [hi])
       rw [hz] at this
       exact Option.bind_eq_some_iff.1 this
      have get2:∀ i z,i<cap-len→ys[i]? = some z→∃ cs,w.cells? 0 (a.add ((len+i)*P.cellsOf e)) (P.cellsOf e)=some cs∧DataW.trod enc P w 0 (fun _=>true) true d e cs=some z:=by
       intro i z hi hz
       have:=mapM_some_get h2 i i (by simp [hi])
       rw [hz] at this
       exact Option.bind_eq_some_iff.1 this
      refine .inr ⟨a,len,cap,rfl,hc.2.1,hc.2.2,?_,fun hc0 he0=>?_,xs.map fun z=>Rows.uptoBulk z.1,by simp [l1],?_,?_⟩
      ·
       rw [l1,l2,show len+(cap-len)=cap by omega] at hsz
       simpa [reachBytes] using hsz
      ·
       by_cases hl:0<len
       ·
        obtain ⟨z,hz⟩:∃ z,xs[0]? = some z:=⟨_,List.getElem?_eq_getElem (by omega)⟩
        obtain ⟨cs,hcs,_⟩:=get 0 z hl hz
        have:=(JdJ hcs).2.2 he0
        simpa [Addr.add] using this
       ·
        obtain ⟨z,hz⟩:∃ z,ys[0]? = some z:=⟨_,List.getElem?_eq_getElem (by omega)⟩
        obtain ⟨cs,hcs,_⟩:=get2 0 z (by omega) hz
        have:=(JdJ hcs).2.2 he0
        rw [show len=0 by omega] at this
        simpa [Addr.add] using this
      · simp [Rows.uptoBulk,Jaa,Function.comp_def]
      ·
       intro i m hm
       rw [List.getElem?_map,Option.map_eq_some_iff] at hm
       obtain ⟨z,hz,rfl⟩:=hm
       have hi:i<len:=by rw [← l1];exact (List.getElem?_eq_some_iff.1 hz).1
       obtain ⟨cs,hcs,hz'⟩:=get i z hi hz
       obtain ⟨c1,c2,c3⟩:=JdJ hcs
       refine ⟨cs,c1,fun j v hv=>?_,ih _ _ _ _ hz' (fun x hx=>hw x (.inr (.inl (Jab P e _ z.1 x (List.mem_map.2 ⟨z,List.mem_of_getElem? hz,rfl⟩) hx))))⟩
       have:=c2 j v hv
       unfold Addr.add at this
       split at this
       · rename_i h0;rw [h0];simpa using this
       · exact this
     · cases h
   | struct fs =>
    simp only
    unfold DataW.trod at h
    rw [hu] at h
    split at h <;> try (exfalso;simp_all;done)
    rename_i fs' heq
    cases heq
    split at h
    ·
     rename_i hc
     rw [Option.map_eq_some_iff] at h
     obtain ⟨xs,h1,h2⟩:=h
     cases h2
     simp only [DataW.weights,hu] at hw
     refine ⟨hc,?_⟩
     have:=Jno ih fs.toList xs h1 hw
     revert this
     generalize fs.toList=fl
     rw [Rows.uptoBulk]
     exact Jnn fl (Nat.le_succ _)
    · cases h
   | array k e =>
    simp only
    unfold DataW.trod at h
    rw [hu] at h
    split at h <;> try (exfalso;simp_all;done)
    rename_i k' e' heq
    cases heq
    split at h
    ·
     rename_i hc
     rw [Option.map_eq_some_iff] at h
     obtain ⟨xs,h1,h2⟩:=h
     cases h2
     have l1:=mapM_some_length h1
     rw [List.length_range] at l1
     simp only [DataW.weights,hu] at hw
     refine ⟨hc,xs.map fun z=>Rows.uptoBulk z.1,by simp [l1],by simp [Rows.uptoBulk,Jaa,Function.comp_def],?_⟩
     intro i m hm
     rw [List.getElem?_map,Option.map_eq_some_iff] at hm
     obtain ⟨z,hz,rfl⟩:=hm
     have hi:i<k:=by rw [← l1];exact (List.getElem?_eq_some_iff.1 hz).1
     have:=mapM_some_get h1 i i (by simp [hi])
     rw [hz] at this
     exact ih _ _ _ _ this (fun x hx=>hw x (Jab P e _ z.1 x (List.mem_map.2 ⟨z,List.mem_of_getElem? hz,rfl⟩) hx))
    · cases h
   | _=>trivial
theorem Jce (hl:laidOutB P=true) {W W':World} (hb:Below W.heap.size W W'):∀ (ts:List TypeId) (vs:List Value) (ds:List (DataW H)) (ps:List MemPlace),
  (∀ t∈ts,P.readableRec t=true∧t<P.types.size)→DataW.TrodAll enc P W 0 (fun _=>true) true ts vs ds ps→(∀ x∈ps,x.block<W.heap.size) →
  ∀ sp:Nat→Bool,(∀ p∈ps,sp p.block=true)→DataW.TrodAll enc P W' 0 sp true ts vs ds ps
 | [],vs,ds,ps,_,h,_,sp,_=>by
  obtain ⟨rfl,rfl,rfl⟩:=trodAll_nil h
  exact trodAll_mk0
 | t::ts,vs,ds,ps,hr,h,hlt,sp,hsp=>by
  obtain ⟨v,vs',d,ds',p,q,rfl,rfl,rfl,h1,h2⟩:=trodAll_cons h
  have ht:=hr t (by simp)
  refine trodAll_cons_mk ?_ (Jce hl hb ts vs' ds' q (fun u hu=>hr u (by simp [hu])) h2 (fun x hx=>hlt x (by simp [hx])) sp (fun x hx=>hsp x (by simp [hx])))
  exact WideElems.Trod_stays hl ht.1 ht.2 h1 (fun x hx=>hb.same (hlt x (by simp [hx]))) (fun x hx=>hsp x (by simp [hx]))
def Jif (P:Program) (ts:List TypeId):Bool:=ts.all fun t=>P.readableRec t && decide (t<P.types.size)
theorem Jnp {f:Func} {s:ChangeSpec} {fresh handsOn again:Bool} {W W':World} {args:Array Value} {ds gs:List (DataW H)} {before:List MemPlace} {t:TypeId}
  (hl:laidOutB P=true) (hr:Jif P f.params.toList=true) (hv:s.vars=[])
  (hW:DataW.Whole enc P f.params.toList s.vars false W args.toList ds gs before)
  (ho:s.fn H ds={ results:=[.lit (.bool true)],args:=ds }) (ht:f.resultTypes=#[t]) (hu:P.underlying t=some .bool) (hb:Below W.heap.size W W') :
  s.post enc P f false fresh handsOn again W args (.bool true) W':=by
 obtain ⟨p,q,hA,hV,rfl,hfz,hnd⟩:=hW
 have hV0:=hV
 rw [hv] at hV
 obtain ⟨rfl,rfl⟩:=trodVars_none hV
 have hW:DataW.Whole enc P f.params.toList s.vars false W args.toList ds [] (p++[]):=⟨p,[],hA,hV0,rfl,hfz,hnd⟩
 have hlt:=hW.lt
 simp only [List.append_nil] at hlt hfz hnd
 have hrf:∀ t∈f.params.toList,P.readableRec t=true∧t<P.types.size:=by
  intro t ht
  have:=List.all_eq_true.1 hr t ht
  simpa using this
 have hargs:=Jce hl hb _ _ _ _ hrf hA hlt
 have hvars:∀ sp,DataW.TrodVars enc P W' sp s.vars [] []:=by intro sp;rw [hv];rfl
 have hres:∀ (b:Nat) (sp:Nat→Bool) (hd:Bool),DataW.TrodAll enc P W' b sp hd f.resultTypes.toList ((Value.bool true).resultList f.resultTypes.size) [.lit (.bool true)] []:=by
  intro b sp hd
  rw [ht]
  exact trodAll_cons_mk (p:=[]) (p':=[]) (shut_bool hu true) trodAll_mk0
 refine ⟨ds,[],p++[],[],p,[],hW,?_,?_,?_,hb.frame _,fun _=>⟨ok_one ht rfl (okWide_bool_mk hu _),[.lit (.bool true)]++ds,[],([]++p)++[],⟨[]++p,[],trodAll_append (hargs (fun _=>true) (fun _ _=>rfl)) (hres 0 (fun _=>true) true),?_,rfl,?_,fun h=>by cases h⟩,?_⟩⟩
 · rw [List.append_nil,ho];exact hres _ _ _
 · rw [List.append_nil,ho];exact hargs _ (fun x hx=>by simpa using hlt x hx)
 · rw [List.append_nil,ho];exact hvars _
 · exact hvars _
 ·
  intro b off hp
  rw [hb.frozen (hlt (.cell b off) (by simpa using hp))]
  exact hfz b off (by simpa using hp)
 ·
  intro x hx _
  simpa using hx
end
inductive LK where
 | bool
 | int (k:IntKind)
 | str
 | sl (t:TypeId)
def Jhe (rec:TypeId→Option (List LK)) (P:Program):Nat→List Field→Option (List LK)
 | _,[]=>some []
 | off,f::fs=>if f.offset=off then match rec f.type with
  | some ks=>if ks.length=P.cellsOf f.type then (Jhe rec P (off+ks.length) fs).map (ks++·) else none
  | none=>none
  else none
def Jfd (P:Program):Nat→TypeId→Option (List LK)
 | 0,_=>none
 | m+1,t=>match P.underlying t with
  | some .bool=>some [.bool]
  | some (.int k)=>some [.int k]
  | some .string=>some [.str]
  | some (.slice _)=>some [.sl t]
  | some (.struct fs)=>match Jhe (Jfd P m) P 0 fs.toList with
   | some ks=>if ks.length=P.cellsOf t then some ks else none
   | none=>none
  | some (.array k e)=>match Jfd P m e with
   | some ks=>if ks.length=P.cellsOf e∧P.cellsOf t=k*ks.length then some (List.replicate k ks).flatten else none
   | none=>none
  | _=>none
def RdK (P:Program) (G:Jp):LK→Value→Nat→Prop
 | .bool,v,_=>∃ b,v=Bo b
 | .int k,v,_=>∃ m,v=.int k m∧(Lit.int k m).wf=true
 | .str,v,n=>∃ l:List UInt8,v=Sr l∧l.length≤140737488351232∧l.length+1≤n
 | .sl t,v,n=>∃ d,Rd P G d t [v] n
def RdL (P:Program) (G:Jp):List LK→List Value→Nat→Prop
 | [],cs,_=>cs=[]
 | k::ks,cs,n=>∃ v cs' m r,cs=v::cs'∧m+r≤n∧RdK P G k v m∧RdL P G ks cs' r
section
variable {P:Program} {G:Jp}
theorem JlY {rec:TypeId→List Value→Nat→Prop} {cs:List Value}:∀ (fs:List Field) {n m:Nat},n≤m→RdF rec P cs fs n→RdF rec P cs fs m
 | [],_,_,_,_=>trivial
 | f::fs,n,m,h,⟨x,y,h1,h2,h3⟩=>⟨x,y,Nat.le_trans h1 h,h2,h3⟩
theorem Jo4:∀ (d:Nat) (t:TypeId) (cs:List Value) {n m:Nat},n≤m→Rd P G d t cs n→Rd P G d t cs m
 | 0,_,_,_,_,_,h=>h
 | d+1,t,cs,n,m,hle,h=>by
  unfold Rd at h ⊢
  split at h
  · exact h
  · exact h
  ·
   obtain ⟨l,a,b,c⟩:=h
   exact ⟨l,a,b,Nat.le_trans c hle⟩
  ·
   rcases h with h | ⟨a,len,cap,h1,h2,h3,h4,h5,ns,h6,h7,h8⟩
   · exact .inl h
   · exact .inr ⟨a,len,cap,h1,h2,h3,h4,h5,ns,h6,Nat.le_trans h7 hle,h8⟩
  · exact ⟨h.1,JlY _ hle h.2⟩
  ·
   obtain ⟨h1,ns,h2,h3,h4⟩:=h
   exact ⟨h1,ns,h2,Nat.le_trans h3 hle,h4⟩
  · trivial
theorem Jc0:∀ {ks:List LK} {cs:List Value} {n m:Nat},n≤m→RdL P G ks cs n→RdL P G ks cs m
 | [],_,_,_,_,h=>h
 | _::_,_,_,_,h,⟨v,cs',a,b,h1,h2,h3,h4⟩=>⟨v,cs',a,b,h1,Nat.le_trans h2 h,h3,h4⟩
theorem Jnq:∀ {k:LK} {v:Value} {n m:Nat},n≤m→RdK P G k v n→RdK P G k v m
 | .bool,_,_,_,_,h=>h
 | .int _,_,_,_,_,h=>h
 | .str,_,_,_,h,⟨l,a,b,c⟩=>⟨l,a,b,Nat.le_trans c h⟩
 | .sl t,_,_,_,h,⟨d,hd⟩=>⟨d,Jo4 d _ _ h hd⟩
theorem JcA:∀ {k1 k2:List LK} {c1 c2:List Value} {m r:Nat},RdL P G k1 c1 m→RdL P G k2 c2 r→RdL P G (k1++k2) (c1++c2) (m+r)
 | [],_,_,_,m,r,h,h'=>by cases h;exact Jc0 (Nat.le_add_left _ _) h'
 | k::ks,k2,c1,c2,m,r,⟨v,cs',a,b,h1,h2,h3,h4⟩,h'=>by
  subst h1
  exact ⟨v,cs'++c2,a,b+r,rfl,by omega,h3,JcA h4 h'⟩
theorem Jig {d m:Nat} (ih:∀ (t:TypeId) (ks:List LK) (cs:List Value) (n:Nat),Jfd P m t=some ks→Rd P G d t cs n→RdL P G ks cs n) {cs:List Value} :
  ∀ (fs:List Field) (off:Nat) (ks:List LK) (n:Nat),Jhe (Jfd P m) P off fs=some ks→off+ks.length=cs.length→RdF (Rd P G d) P cs fs n→RdL P G ks (cs.drop off) n
 | [],off,ks,n,h,hl,_=>by
  cases h
  exact List.drop_eq_nil_of_le (by simp at hl;omega)
 | f::fs,off,ks,n,h,hl,⟨a,b,h1,h2,h3⟩=>by
  unfold Jhe at h
  split at h
  ·
   rename_i ho
   split at h
   ·
    rename_i k1 hk
    split at h
    ·
     rename_i hk1
     obtain ⟨k2,h4,rfl⟩:=Option.map_eq_some_iff.1 h
     have:=Jig ih fs _ k2 b h4 (by simp at hl;omega) h3
     have h5:=ih _ _ _ _ hk h2
     rw [ho] at h5
     have:=Jc0 h1 (JcA h5 this)
     rwa [hk1,← List.drop_drop,List.take_append_drop] at this
    · cases h
   · cases h
  · cases h
theorem Jhf:∀ (m d:Nat) (t:TypeId) (ks:List LK) (cs:List Value) (n:Nat),Jfd P m t=some ks→Rd P G d t cs n→RdL P G ks cs n
 | 0,_,_,_,_,_,h,_=>by cases h
 | _+1,0,_,_,_,_,_,h=>by cases h
 | m+1,d+1,t,ks,cs,n,h,hr=>by
  have ih:=fun t ks cs n=>Jhf m d t ks cs n
  have hr0:=hr
  unfold Jfd at h
  unfold Rd at hr
  split at h
  ·
   rename_i hu;rw [hu] at hr;cases h
   obtain ⟨b,rfl⟩:=hr
   exact ⟨_,_,0,0,rfl,by omega,⟨b,rfl⟩,rfl⟩
  ·
   rename_i hu;rw [hu] at hr;cases h
   obtain ⟨b,rfl,hw⟩:=hr
   exact ⟨_,_,0,0,rfl,by omega,⟨b,rfl,hw⟩,rfl⟩
  ·
   rename_i hu;rw [hu] at hr;cases h
   obtain ⟨b,rfl,h1,h2⟩:=hr
   exact ⟨_,_,n,0,rfl,by omega,⟨b,rfl,h1,h2⟩,rfl⟩
  ·
   rename_i hu;rw [hu] at hr;cases h
   obtain ⟨v,rfl⟩:∃ v,cs=[v]:=by
    rcases hr with rfl | ⟨a,len,cap,rfl,_⟩
    · exact ⟨_,rfl⟩
    · exact ⟨_,rfl⟩
   exact ⟨_,_,n,0,rfl,by omega,⟨d+1,hr0⟩,rfl⟩
  ·
   rename_i fs hu;rw [hu] at hr
   split at h
   ·
    rename_i ks' hk
    split at h
    ·
     rename_i hl
     cases h
     obtain ⟨hc,hf⟩:=hr
     have:=Jig ih _ 0 _ _ hk (by omega) hf
     simpa using this
    · cases h
   · cases h
  ·
   rename_i k e hu;rw [hu] at hr
   split at h
   ·
    rename_i ke hk
    split at h
    ·
     rename_i hl
     cases h
     obtain ⟨hc,ns,hn,hs,hx⟩:=hr
     have key:∀ (j:Nat),j≤k→RdL P G (List.replicate j ke).flatten (cs.drop ((k-j)*P.cellsOf e)) ((ns.drop (k-j)).sum):=by
      intro j
      induction j with
      | zero =>
       intro _
       refine List.drop_eq_nil_of_le ?_
       rw [Nat.sub_zero,hc,hl.2,hl.1]
       exact Nat.le_refl _
      | succ j ihj =>
       intro hj
       have h1:=ihj (by omega)
       have hlt:k-(j+1)<ns.length:=by omega
       have h2:=ih _ _ _ _ hk (hx (k-(j+1)) ns[k-(j+1)] (List.getElem?_eq_getElem hlt))
       have h3:=JcA h2 h1
       rw [show k-j=(k-(j+1))+1 by omega,Nat.succ_mul,← List.drop_drop,List.take_append_drop] at h3
       rw [List.replicate_succ,List.flatten_cons,List.drop_eq_getElem_cons hlt,List.sum_cons]
       exact h3
     have:=key k (Nat.le_refl _)
     rw [Nat.sub_self,Nat.zero_mul,List.drop_zero,List.drop_zero] at this
     exact Jc0 hs this
    · cases h
   · cases h
  · cases h
theorem JkY {α:Type} {p:Nat→α→Prop}:∀ (n:Nat),(∀ i,i<n→∃ x,p i x)→∃ l:List α,l.length=n∧∀ i x,l[i]? = some x→p i x
 | 0,_=>⟨[],rfl,fun i x h=>by simp at h⟩
 | n+1,h=>by
  obtain ⟨l,h1,h2⟩:=JkY n (fun i hi=>h i (by omega))
  obtain ⟨x,hx⟩:=h n (by omega)
  refine ⟨l++[x],by simp [h1],fun i y hy=>?_⟩
  rw [List.getElem?_append] at hy
  split at hy
  · exact h2 i y hy
  ·
   rename_i hi
   have:i=l.length:=by
    have:=(List.getElem?_eq_some_iff.1 hy).1
    simp at this;omega
   subst this
   simp at hy
   subst hy
   rw [h1];exact hx
theorem JgI {α:Type} {size:α→Nat}:∀ (l:List α) (ns:List Nat),l.length=ns.length→(∀ i x,l[i]? = some x→size x≤ns.getD i 0)→(l.map size).sum≤ns.sum
 | [],_,_,_=>by simp
 | x::l,[],h,_=>by simp at h
 | x::l,n::ns,h,hx=>by
  have h1:=hx 0 x rfl
  have h2:=JgI l ns (by simpa using h) (fun i y hy=>by simpa using hx (i+1) y (by simpa using hy))
  simp at h1 ⊢
  omega
theorem Jc1 {α:Type} {E:YJ α} {size:α→Nat} {t e:TypeId} {ks:List LK} {v:Value} {n:Nat} (h:RdK P G (.sl t) v n) (hu:P.underlying t=some (.slice e)) (hk:Jfd P 50 e=some ks)
  (hE:∀ cs m,RdL P G ks cs m→∃ x,E.R G cs x∧size x≤m) (hpos:0<P.cellsOf e) (hz:P.cellsOf e=E.sz) (hb:P.bytesOf e=E.bytes) :
  ∃ a cap l,v=Sl a l.length cap∧RS E G a cap l∧(l.map size).sum≤n∧cap*E.bytes≤140737488351232:=by
 obtain ⟨d,h⟩:=h
 cases d with
 | zero=>cases h
 | succ d =>
  unfold Rd at h
  rw [hu] at h
  rcases h with h | ⟨a,len,cap,h,h1,h2,h3,h4,ns,h5,h6,h7⟩
  ·
   cases h
   exact ⟨none,0,[],rfl,RS.nil' E G,by simp,by simp⟩
  ·
   cases h
   have hx:∀ i:Nat,i<len→∃ x:α,∃ es,E.R G es x∧size x≤ns.getD i 0∧∀ j v,es[j]? = some v→G a.block (a.off+i*E.sz+j)=some v:=by
    intro i hi
    obtain ⟨es,he1,he2,he3⟩:=h7 i ns[i] (List.getElem?_eq_getElem (by omega))
    obtain ⟨x,hx1,hx2⟩:=hE es _ (Jhf 50 d e ks es _ hk he3)
    refine ⟨x,es,hx1,?_,?_⟩
    · rw [List.getD_eq_getElem?_getD,List.getElem?_eq_getElem (by omega)];exact hx2
    · rw [← hz];exact he2
   obtain ⟨l,hl,hx⟩:=JkY len hx
   refine ⟨some a,cap,l,by rw [hl],⟨by omega,?_,h2,by simp,?_,?_⟩,?_,by rw [← hb];exact h3⟩
   ·
    rw [hb] at h3
    have:=Nat.mul_le_mul_right E.bytes (show l.length≤cap by omega)
    omega
   ·
    rintro _ ⟨⟩ hc0
    exact h4 hc0 hpos
   ·
    rintro _ ⟨⟩ i x hix
    obtain ⟨es,h8,_,h9⟩:=hx i x hix
    exact ⟨es,h8,h9⟩
   ·
    have:=JgI (size:=size) l ns (by omega) (fun i x hix=>by obtain ⟨_,_,h,_⟩:=hx i x hix;exact h)
    omega
def aggT (P:Program) (t:TypeId):Bool:=match P.underlying t with
 | some (.struct _)=>true
 | some (.array _ _)=>true
 | _=>false
def RdV (P:Program) (G:Jp) (t:TypeId) (v:Value) (m:Nat):Prop :=
 (aggT P t=true→∃ cs:List Value,v=.agg cs.toArray∧∀ ks,Jfd P 50 t=some ks→RdL P G ks cs m)∧(aggT P t=false→∀ k,Jfd P 50 t=some [k]→RdK P G k v m)
theorem RdV.agg {t:TypeId} {v:Value} {m:Nat} (h:RdV P G t v m) (ks:List LK) (ha:aggT P t=true) (hk:Jfd P 50 t=some ks):∃ cs:List Value,v=.agg cs.toArray∧RdL P G ks cs m:=by
 obtain ⟨cs,h1,h2⟩:=h.1 ha
 exact ⟨cs,h1,h2 ks hk⟩
theorem RdV.one {t:TypeId} {v:Value} {m:Nat} (h:RdV P G t v m) (k:LK) (ha:aggT P t=false) (hk:Jfd P 50 t=some [k]):RdK P G k v m:=h.2 ha k hk
theorem rdV_of {H:Type} {enc:TypeId×Value→H} {W:World} {base:Nat} {t:TypeId} {v:Value} {d:DataW H} {ps:List MemPlace}
  (h:DataW.Trod enc P W 0 (fun _=>true) true t v d ps) (hok:Value.okWide P W .any base t v) (hw:∀ x∈DataW.weights P t d,x≤reachBytes):RdV P (Jbp W) t v (Rows.uptoBulk d):=by
 obtain ⟨fuel,h⟩:=h
 have hr:=Jfc _ _ _ _ _ h hw
 have hf:=fun ks hk=>Jhf 50 _ _ ks _ _ hk hr
 unfold Value.okWide at hok
 constructor
 ·
  intro ha
  unfold aggT at ha
  split at ha
  ·
   rename_i hu
   rw [hu] at hok
   obtain ⟨cs,rfl,_⟩:=hok
   exact ⟨cs.toList,by simp,hf⟩
  ·
   rename_i hu
   rw [hu] at hok
   obtain ⟨cs,rfl,_⟩:=hok
   exact ⟨cs.toList,by simp,hf⟩
  · cases ha
 ·
  intro ha k hk
  obtain ⟨u,cs',m,r,h1,h2,h3,h4⟩:=hf _ hk
  have h4:cs'=[]:=h4
  subst h4
  have hv:v=u∨∃ cs,v=.agg cs:=by
   cases v <;> simp_all [Value.cells]
  rcases hv with rfl | ⟨cs,rfl⟩
  ·
   have:m≤Rows.uptoBulk d:=by omega
   exact (Jc0 (ks:=[k]) (cs:=[v]) (n:=m) this ⟨v,[],m,0,rfl,by omega,h3,rfl⟩).elim fun a ⟨b,c,e,f1,f2,f3,f4⟩=>by
    cases f1
    exact Jnq (by omega) f3
  ·
   exfalso
   unfold aggT at ha
   split at ha
   · cases ha
   · cases ha
   ·
    rename_i h1 h2
    unfold Cell.okWide at hok
    split at hok
    · rename_i hu;exact h1 _ hu
    · rename_i hu;exact h2 _ _ hu
    ·
     split at hok <;> first | (rename_i hu;cases hu;done) | skip
     all_goals (unfold Cell.ok at hok;split at hok <;> simp_all)
def RdA (P:Program) (G:Jp):List TypeId→List Value→Nat→Prop
 | [],vs,_=>vs=[]
 | t::ts,vs,n=>∃ v vs' m r,vs=v::vs'∧m+r≤n∧RdV P G t v m∧RdA P G ts vs' r
theorem Jnr {H:Type} {enc:TypeId×Value→H} {W:World} {base:Nat}:∀ (ts:List TypeId) (vs:List Value) (ds:List (DataW H)) (ps:List MemPlace),DataW.TrodAll enc P W 0 (fun _=>true) true ts vs ds ps →
  (∀ (j:Nat) t v,ts[j]? = some t→vs[j]? = some v→Value.okWide P W .any base t v)→(∀ x∈DataW.weightsEach P ts ds,x≤reachBytes)→RdA P (Jbp W) ts vs (Rows.uptoBulkAll ds)
 | [],vs,ds,ps,h,_,_=>(trodAll_nil h).1
 | t::ts,vs,ds,ps,h,hok,hw=>by
  obtain ⟨v,vs',d,ds',p,q,rfl,rfl,rfl,h1,h2⟩:=trodAll_cons h
  simp only [DataW.weightsEach,List.mem_append] at hw
  refine ⟨v,vs',Rows.uptoBulk d,Rows.uptoBulkAll ds',rfl,by simp [Rows.uptoBulkAll],rdV_of h1 (hok 0 t v rfl rfl) (fun x hx=>hw x (.inl hx)),Jnr ts vs' ds' q h2 (fun j t v h3 h4=>hok (j+1) t v (by simpa using h3) (by simpa using h4)) (fun x hx=>hw x (.inr hx))⟩
theorem all_le {l:List Nat} {N:Nat} (h:l.all (fun x=>decide (x≤N))=true):∀ x∈l,x≤N:=fun x hx=>by simpa using List.all_eq_true.1 h x hx
theorem Jns {Q:TypeId→Value→Prop} {ts:Array TypeId} {vs:Array Value} (h:∀ (j:Nat) t v,ts[j]? = some t→vs[j]? = some v→Q t v) (j:Nat) (t:TypeId) (v:Value)
  (h1:ts.toList[j]? = some t) (h2:vs.toList[j]? = some v):Q t v:=h j t v (by simpa using h1) (by simpa using h2)
theorem own:ownKnob Tryz.prog.godebug=none:=by kernel_rfl
theorem Jo5:laidOutB Tryz.prog=true:=by kernel_rfl
end
abbrev Yi (k:FuncId) (args:Array Value) (G:Jp) (L:List (List Kg)) (p:Value→Jp→List (List Kg)→Prop):Prop:=Vi Tryz.prog k args G L p
abbrev Q2 (k:FuncId) (args:Array Value) (G:Jp) (v:Value):Prop:=Vi Tryz.prog k args G [] (fun u _ _=>u=v)
theorem JjR {α β:Type} {f:β→α→β} {z:β} {l:List α} {i:Nat} {x:α} (h:l[i]? = some x):(l.take (i+1)).foldl f z=f ((l.take i).foldl f z) x:=by
 rw [List.take_add_one,h];simp
def numL (n:Int):List Int:=[IntKind.u8.wrap (n.fdiv (2 ^ 56)),IntKind.u8.wrap (n.fdiv (2 ^ 48)),IntKind.u8.wrap (n.fdiv (2 ^ 40)),IntKind.u8.wrap (n.fdiv (2 ^ 32)),IntKind.u8.wrap (n.fdiv (2 ^ 24)),IntKind.u8.wrap (n.fdiv (2 ^ 16)),IntKind.u8.wrap (n.fdiv (2 ^ 8)),IntKind.u8.wrap (n.fdiv (2 ^ 0))]
def KX (n:Int):List UInt8:=(numL n).map fun x=>UInt8.ofNat x.toNat
def JkZ (n:Int) (b:UInt8):Int:=IntKind.u64.wrap ((BitVec.ofInt 64 (IntKind.u64.wrap (n*2 ^ 8)) ||| BitVec.ofInt 64 (IntKind.u64.wrap (b.toNat:Int))).toNat:Int)
def readN (l:List UInt8):Int:=l.foldl JkZ 0
@[simp] theorem Jih (n:Int):(KX n).length=8:=by simp [KX,numL]
theorem Wh {x:Int} (h0:0≤x) (h1:x<18446744073709551616):IntKind.u64.wrap x=x:=IntWalk.u64_in _ (by omega)
theorem Ja5 (x:Int):IntKind.u8.wrap x=x % 256:=by
 simp [IntKind.wrap,IntKind.signed,IntKind.bits]
theorem JbX (x:Int):IntKind.u64.wrap x=x % 18446744073709551616:=by
 simp [IntKind.wrap,IntKind.signed,IntKind.bits]
theorem Jnt {n:Int} {b:UInt8} (h0:0≤n) (h1:n<72057594037927936):JkZ n b=n*256+(b.toNat:Int):=by
 obtain ⟨m,rfl⟩:=Int.eq_ofNat_of_zero_le h0
 have hb:=b.toNat_lt
 unfold JkZ
 rw [Wh (x:=(m:Int)*2 ^ 8) (by omega) (by omega),Wh (x:=(b.toNat:Int)) (by omega) (by omega)]
 have e1:((m:Int)*2 ^ 8)=((m*256:Nat):Int):=by omega
 rw [e1,BitVec.toNat_or,BitVec.ofInt_natCast,BitVec.ofInt_natCast,BitVec.toNat_ofNat,BitVec.toNat_ofNat,Nat.mod_eq_of_lt (by omega),Nat.mod_eq_of_lt (by omega)]
 have e2:m*256 ||| b.toNat=m*256+b.toNat:=by
  have:=Nat.shiftLeft_add_eq_or_of_lt (i:=8) (b:=b.toNat) (by omega) m
  rw [Nat.shiftLeft_eq] at this
  exact this.symm
 rw [e2,Wh (by omega) (by omega)]
 omega
theorem Jo6 (n:Int):((UInt8.ofNat (IntKind.u8.wrap n).toNat).toNat:Int)=n % 256:=by
 rw [Ja5,UInt8.toNat_ofNat']
 have h0:=Int.emod_nonneg n (show (256:Int) ≠ 0 by omega)
 have h1:=Int.emod_lt_of_pos n (show (0:Int)<256 by omega)
 rw [Nat.mod_eq_of_lt (by omega)]
 omega
theorem Jfe {n:Int} (h0:0≤n) (h1:n<18446744073709551616):readN (KX n)=n:=by
 simp only [readN,KX,numL,List.map_cons,List.map_nil,List.foldl_cons,List.foldl_nil]
 have fd:∀ k:Nat,n.fdiv (2 ^ k)=n / (2 ^ k:Int):=fun k=>Int.fdiv_eq_ediv_of_nonneg _ (by exact Int.le_of_lt (Int.pow_pos (by omega)))
 simp only [fd]
 have t:∀ (a c:Int),0≤a→a<72057594037927936→a=c / 256→JkZ a (UInt8.ofNat (IntKind.u8.wrap c).toNat)=c:=by
  intro a c ha hb hc
  rw [Jnt ha hb,Jo6]
  omega
 rw [t 0 (n / 2 ^ 56) (by omega) (by omega) (by omega),t (n / 2 ^ 56) (n / 2 ^ 48) (by omega) (by omega) (by omega),t (n / 2 ^ 48) (n / 2 ^ 40) (by omega) (by omega) (by omega),
  t (n / 2 ^ 40) (n / 2 ^ 32) (by omega) (by omega) (by omega),t (n / 2 ^ 32) (n / 2 ^ 24) (by omega) (by omega) (by omega),t (n / 2 ^ 24) (n / 2 ^ 16) (by omega) (by omega) (by omega),
  t (n / 2 ^ 16) (n / 2 ^ 8) (by omega) (by omega) (by omega),t (n / 2 ^ 8) (n / 2 ^ 0) (by omega) (by omega) (by omega)]
 omega
def QR {α:Type} (p:α→Bool) (l:List α):Int:=match l.findIdx? p with | some i=>(i:Int) | none=>-1
theorem Vw {α:Type} {p:α→Bool} {l:List α} {i:Nat} {x:α} (h:l[i]? = some x) (hp:p x=true) (hi:(l.take i).any p=false):QR p l=(i:Int):=by
 have:l.findIdx? p=some i:=by
  rw [List.findIdx?_eq_some_iff_getElem]
  obtain ⟨h1,h2⟩:=List.getElem?_eq_some_iff.1 h
  refine ⟨h1,by rw [h2];exact hp,fun j hj=>?_⟩
  have h3:(l.take i)[j]? = some l[j]:=by rw [List.getElem?_take,if_pos hj,List.getElem?_eq_getElem (by omega)]
  have:=List.any_eq_false.1 hi _ (List.mem_of_getElem? h3)
  simpa using this
 simp [QR,this]
theorem Jac {α:Type} {p:α→Bool} {l:List α} {i:Nat} {x:α} (h:l[i]? = some x) (hp:p x=false) (hi:(l.take i).any p=false):(l.take (i+1)).any p=false:=by
 rw [List.take_add_one,h];simp [hi,hp]
theorem Y8 {α:Type} {p:α→Bool} {l:List α} (hi:l.any p=false):QR p l=-1:=by
 have:l.findIdx? p=none:=by
  rw [List.findIdx?_eq_none_iff]
  intro x hx
  simpa using List.any_eq_false.1 hi x hx
 simp [QR,this]
theorem Jad {α:Type} (p:α→Bool) (l:List α):decide (QR p l ≥ 0)=l.any p:=by
 cases h:l.any p with
 | false=>rw [Y8 h];rfl
 | true =>
  have:(l.findIdx? p).isSome:=by rw [List.findIdx?_isSome];exact h
  obtain ⟨i,hi⟩:=Option.isSome_iff_exists.1 this
  simp [QR,hi]
theorem Jk0 {x:Int} (h:0≤x∧x<18446744073709551616):IntKind.u64.wrap ((BitVec.ofInt 64 x &&& BitVec.ofInt 64 4294967295).toNat:Int)=x % 4294967296:=by
 obtain ⟨m,rfl⟩:=Int.eq_ofNat_of_zero_le h.1
 have e:(4294967295:Int)=((4294967295:Nat):Int):=rfl
 rw [e,BitVec.toNat_and,BitVec.ofInt_natCast,BitVec.ofInt_natCast,BitVec.toNat_ofNat,BitVec.toNat_ofNat,Nat.mod_eq_of_lt (by omega),Nat.mod_eq_of_lt (by omega)]
 have e2:m &&& 4294967295=m % 4294967296:=Nat.and_two_pow_sub_one_eq_mod m 32
 rw [e2,Wh (by omega) (by omega)]
 omega
theorem Jnu (x:Int):x.fdiv (2 ^ 32)=x / 4294967296:=Int.fdiv_eq_ediv_of_nonneg _ (by decide)
theorem Jhg {a b:Int} (ha:0≤a∧a<4294967296) (hb:0≤b∧b<4294967296):0≤a*b∧a*b≤18446744065119617025:=by
 refine ⟨Int.mul_nonneg ha.1 hb.1,?_⟩
 have h1:a*b≤4294967295*b:=Int.mul_le_mul_of_nonneg_right (by omega) hb.1
 omega
theorem Jnv {x y:Int} (hx:0≤x∧x<18446744073709551616) (hy:0≤y∧y<18446744073709551616) :
  IntKind.u64.wrap (IntKind.u64.wrap (IntKind.u64.wrap (x.fdiv (2 ^ 32)*y.fdiv (2 ^ 32)) +
   (IntKind.u64.wrap (IntKind.u64.wrap (x.fdiv (2 ^ 32)*IntKind.u64.wrap ((BitVec.ofInt 64 y &&& BitVec.ofInt 64 4294967295).toNat:Int)) +
    (IntKind.u64.wrap (IntKind.u64.wrap ((BitVec.ofInt 64 x &&& BitVec.ofInt 64 4294967295).toNat:Int)*IntKind.u64.wrap ((BitVec.ofInt 64 y &&& BitVec.ofInt 64 4294967295).toNat:Int))).fdiv (2 ^ 32))).fdiv (2 ^ 32)) +
   (IntKind.u64.wrap (IntKind.u64.wrap ((BitVec.ofInt 64 (IntKind.u64.wrap (IntKind.u64.wrap (x.fdiv (2 ^ 32)*IntKind.u64.wrap ((BitVec.ofInt 64 y &&& BitVec.ofInt 64 4294967295).toNat:Int)) +
    (IntKind.u64.wrap (IntKind.u64.wrap ((BitVec.ofInt 64 x &&& BitVec.ofInt 64 4294967295).toNat:Int)*IntKind.u64.wrap ((BitVec.ofInt 64 y &&& BitVec.ofInt 64 4294967295).toNat:Int))).fdiv (2 ^ 32))) &&& BitVec.ofInt 64 4294967295).toNat:Int) +
    IntKind.u64.wrap (IntKind.u64.wrap ((BitVec.ofInt 64 x &&& BitVec.ofInt 64 4294967295).toNat:Int)*y.fdiv (2 ^ 32)))).fdiv (2 ^ 32))=x*y / 18446744073709551616:=by
 rw [Jk0 hx,Jk0 hy]
 simp only [Jnu]
 have hx1:0≤x / 4294967296∧x / 4294967296<4294967296:=by omega
 have hx0:0≤x % 4294967296∧x % 4294967296<4294967296:=by omega
 have hy1:0≤y / 4294967296∧y / 4294967296<4294967296:=by omega
 have hy0:0≤y % 4294967296∧y % 4294967296<4294967296:=by omega
 have ex:x=x / 4294967296*4294967296+x % 4294967296:=by omega
 have ey:y=y / 4294967296*4294967296+y % 4294967296:=by omega
 have exy:x*y=(x / 4294967296*(y / 4294967296))*18446744073709551616+(x / 4294967296*(y % 4294967296)+x % 4294967296*(y / 4294967296))*4294967296+x % 4294967296*(y % 4294967296):=by
  generalize x / 4294967296=x1 at *
  generalize x % 4294967296=x0 at *
  generalize y / 4294967296=y1 at *
  generalize y % 4294967296=y0 at *
  subst ex ey
  simp only [Int.mul_add,Int.add_mul]
  have r:∀ a b:Int,a*4294967296*(b*4294967296)=a*b*18446744073709551616:=fun a b=>by
   rw [Int.mul_assoc a,Int.mul_comm 4294967296,Int.mul_assoc b,← Int.mul_assoc a];rfl
  have r1:∀ a b:Int,a*4294967296*b=a*b*4294967296:=fun a b=>by rw [Int.mul_assoc,Int.mul_comm 4294967296,← Int.mul_assoc]
  have r2:∀ a b:Int,a*(b*4294967296)=a*b*4294967296:=fun a b=>by rw [Int.mul_assoc]
  rw [r,r1,r2]
  omega
 rw [exy]
 have b11:=Jhg hx1 hy1
 have b10:=Jhg hx1 hy0
 have b01:=Jhg hx0 hy1
 have b00:=Jhg hx0 hy0
 generalize x / 4294967296*(y / 4294967296)=p11 at *
 generalize x / 4294967296*(y % 4294967296)=p10 at *
 generalize x % 4294967296*(y / 4294967296)=p01 at *
 generalize x % 4294967296*(y % 4294967296)=p00 at *
 clear exy ex ey
 rw [Wh (x:=p00) (by omega) (by omega),Wh (x:=p10) (by omega) (by omega),Wh (x:=p01) (by omega) (by omega),Wh (x:=p11) (by omega) (by omega)]
 rw [Wh (x:=p10+p00 / 4294967296) (by omega) (by omega),Jk0 ⟨by omega,by omega⟩]
 rw [Wh (x:=(p10+p00 / 4294967296) % 4294967296+p01) (by omega) (by omega)]
 rw [Wh (x:=p11+(p10+p00 / 4294967296) / 4294967296) (by omega) (by omega)]
 rw [Wh (by omega) (by omega)]
 omega
def Wx (hi lo:Int):Int:=IntKind.u64.wrap ((BitVec.ofInt 64 (IntKind.u64.wrap (hi*2 ^ 3)) ||| BitVec.ofInt 64 (lo.fdiv (2 ^ 61))).toNat:Int)
theorem Jk1 {hi lo:Int} (h:0≤hi∧hi<2305843009213693951) (hl:0≤lo∧lo<18446744073709551616):Wx hi lo=hi*8+lo / 2305843009213693952:=by
 obtain ⟨a,rfl⟩:=Int.eq_ofNat_of_zero_le h.1
 obtain ⟨b,rfl⟩:=Int.eq_ofNat_of_zero_le hl.1
 unfold Wx
 have e1:IntKind.u64.wrap ((a:Int)*2 ^ 3)=((a*8:Nat):Int):=by rw [Wh (by omega) (by omega)];omega
 have e2:(b:Int).fdiv (2 ^ 61)=((b / 2305843009213693952:Nat):Int):=by
  rw [Int.fdiv_eq_ediv_of_nonneg _ (by decide)];omega
 rw [e1,e2,BitVec.toNat_or,BitVec.ofInt_natCast,BitVec.ofInt_natCast,BitVec.toNat_ofNat,BitVec.toNat_ofNat,Nat.mod_eq_of_lt (by omega),Nat.mod_eq_of_lt (by omega)]
 have e3:a*8 ||| b / 2305843009213693952=a*8+b / 2305843009213693952:=by
  have:=Nat.shiftLeft_add_eq_or_of_lt (i:=3) (b:=b / 2305843009213693952) (by omega) a
  rw [Nat.shiftLeft_eq] at this
  exact this.symm
 rw [e3,Wh (by omega) (by omega)]
 omega
structure Ja6 (u z q r:Int):Prop where
 u0:0≤u
 u1:u<18446744073709551608
 z0:0≤z
 z1:z<4294967296
 r0:0≤r
 r1:r<4294967296
 q0:0≤q
 e:u=q*4294967295+r
 up:u*4294967296+z<(q+1)*18446744073709551608
theorem JdK {u z:Int} (h:0≤u∧u<18446744073709551608) (hz:0≤z∧z<4294967296) :
  Ja6 u z (IntKind.u64.wrap (u.tdiv 4294967295)) (IntKind.u64.wrap (u-IntKind.u64.wrap (IntKind.u64.wrap (u.tdiv 4294967295)*4294967295))):=by
 have e:u.tdiv 4294967295=u / 4294967295:=Int.tdiv_eq_ediv_of_nonneg h.1
 rw [e,Wh (x:=u / 4294967295) (by omega) (by omega),Wh (x:=u / 4294967295*4294967295) (by omega) (by omega),Wh (by omega) (by omega)]
 exact ⟨h.1,h.2,hz.1,hz.2,by omega,by omega,by omega,by omega,by omega⟩
theorem Yx {u z q r:Int} (h:Ja6 u z q r) (hc:q ≥ 4294967296∨IntKind.u64.wrap (q*4294967288) > IntKind.u64.wrap (IntKind.u64.wrap (4294967296*r)+z)) :
  0<q∧IntKind.u64.wrap (q-1)=q-1∧IntKind.u64.wrap (r+4294967295)=r+4294967295∧u*4294967296+z<q*18446744073709551608:=by
 obtain ⟨h1,h2,h3,h4,h5,h6,h7,h8,h9⟩:=h
 have key:u*4294967296+z<q*18446744073709551608:=by
  rcases Int.lt_or_le q 4294967296 with hq | hq
  ·
   rcases hc with hc | hc
   · omega
   ·
    rw [Wh (x:=q*4294967288) (by omega) (by omega),Wh (x:=4294967296*r) (by omega) (by omega),Wh (by omega) (by omega)] at hc
    omega
  · omega
 have hq:0<q:=by omega
 exact ⟨hq,Wh (by omega) (by omega),Wh (by omega) (by omega),key⟩
theorem Jff {u z q r:Int} (h:Ja6 u z q r) (hc:q ≥ 4294967296∨IntKind.u64.wrap (q*4294967288) > IntKind.u64.wrap (IntKind.u64.wrap (4294967296*r)+z)) (hr:r+4294967295<4294967296) :
  Ja6 u z (q-1) (r+4294967295):=by
 have:=Yx h hc
 obtain ⟨h1,h2,h3,h4,h5,h6,h7,h8,h9⟩:=h
 exact ⟨h1,h2,h3,h4,by omega,hr,by omega,by omega,by omega⟩
structure Dig (u z q:Int):Prop where
 q0:0≤q
 q1:q<4294967296
 lo:q*18446744073709551608≤u*4294967296+z
 up:u*4294967296+z<(q+1)*18446744073709551608
theorem Jfg {u z q r:Int} (h:Ja6 u z q r) (hc:q<4294967296∧IntKind.u64.wrap (q*4294967288)≤IntKind.u64.wrap (IntKind.u64.wrap (4294967296*r)+z)):Dig u z q:=by
 obtain ⟨h1,h2,h3,h4,h5,h6,h7,h8,h9⟩:=h
 have hc2:=hc.2
 rw [Wh (x:=q*4294967288) (by omega) (by omega),Wh (x:=4294967296*r) (by omega) (by omega),Wh (by omega) (by omega)] at hc2
 exact ⟨h7,hc.1,by omega,h9⟩
theorem JdL {u z q r:Int} (h:Ja6 u z q r) (hc:q ≥ 4294967296∨IntKind.u64.wrap (q*4294967288) > IntKind.u64.wrap (IntKind.u64.wrap (4294967296*r)+z)) (hr:r+4294967295 ≥ 4294967296):Dig u z (q-1):=by
 have:=Yx h hc
 obtain ⟨h1,h2,h3,h4,h5,h6,h7,h8,h9⟩:=h
 exact ⟨by omega,by omega,by omega,by omega⟩
def Jc2 (lo:Int):Int:=IntKind.u64.wrap (lo*2 ^ 3)
def WI (lo:Int):Int:=(Jc2 lo).fdiv (2 ^ 32)
def ZI (lo:Int):Int:=IntKind.u64.wrap ((BitVec.ofInt 64 (Jc2 lo) &&& BitVec.ofInt 64 4294967295).toNat:Int)
def Wt (u z q:Int):Int:=IntKind.u64.wrap (IntKind.u64.wrap (IntKind.u64.wrap (u*4294967296)+z)-IntKind.u64.wrap (q*18446744073709551608))
theorem Jk2 (lo:Int):Jc2 lo=lo*8 % 18446744073709551616:=by unfold Jc2;rw [JbX];omega
theorem Jk3 (lo:Int):0≤Jc2 lo∧Jc2 lo<18446744073709551616:=by rw [Jk2];omega
theorem Jk4 (lo:Int):WI lo=Jc2 lo / 4294967296:=Jnu _
theorem Jk5 (lo:Int):ZI lo=Jc2 lo % 4294967296:=Jk0 (Jk3 lo)
theorem JeL {u z q:Int} (h:Dig u z q) (hu:0≤u) (hz:0≤z):Wt u z q=u*4294967296+z-q*18446744073709551608∧0≤Wt u z q∧Wt u z q<18446744073709551608:=by
 obtain ⟨h1,h2,h3,h4⟩:=h
 have:Wt u z q=u*4294967296+z-q*18446744073709551608:=by
  unfold Wt;simp only [JbX];omega
 rw [this];omega
theorem JeM {hi lo:Int} (h:0≤hi∧hi<2305843009213693951) (hl:0≤lo∧lo<18446744073709551616):0≤Wx hi lo∧Wx hi lo<18446744073709551608:=by
 rw [Jk1 h hl];omega
theorem JeN (lo:Int):0≤WI lo∧WI lo<4294967296:=by rw [Jk4];have:=Jk3 lo;omega
theorem Jhh (lo:Int):0≤ZI lo∧ZI lo<4294967296:=by rw [Jk5];omega
theorem JeO {hi lo q q0:Int} (h:0≤hi∧hi<2305843009213693951) (hl:0≤lo∧lo<18446744073709551616) (h1:Dig (Wx hi lo) (WI lo) q) (h2:Dig (Wt (Wx hi lo) (WI lo) q) (ZI lo) q0) :
  IntKind.u64.wrap (IntKind.u64.wrap (q*4294967296)+q0)=(hi*18446744073709551616+lo) / 2305843009213693951 ∧
  (Wt (Wt (Wx hi lo) (WI lo) q) (ZI lo) q0).fdiv (2 ^ 3)=(hi*18446744073709551616+lo) % 2305843009213693951:=by
 have e1:=JeL h1 (JeM h hl).1 (JeN lo).1
 have e2:=JeL h2 e1.2.1 (Jhh lo).1
 have e3:=Jk1 h hl
 have e4:=Jk2 lo
 have e5:=Jk4 lo
 have e6:=Jk5 lo
 rw [Int.fdiv_eq_ediv_of_nonneg _ (by decide),e2.1,e1.1,e3,e5,e6,e4]
 rw [e1.1,e3,e5,e6,e4] at e2
 rw [e5,e3,e4] at e1
 have a1:=h1.q0;have a2:=h1.q1;have b1:=h2.q0;have b2:=h2.q1
 simp only [JbX]
 clear h1 h2 e3 e4 e5 e6
 omega
theorem JlZ {a b:Int} (ha:0≤a∧a<18446744073709551616) (hb:0≤b∧b<18446744073709551616):0≤a*b / 18446744073709551616∧a*b / 18446744073709551616<18446744073709551616:=by
 have h0:=Int.mul_nonneg ha.1 hb.1
 have h1:a*b≤18446744073709551615*b:=Int.mul_le_mul_of_nonneg_right (by omega) hb.1
 omega
def WF (a b:Int):Int:=a*b % 2305843009213693951
theorem JbY (a b:Int):0≤WF a b∧WF a b<2305843009213693951:=by unfold WF;omega
def Jeh (m:Int) (b:UInt8):Int:=(WF m 1099511628211+(b.toNat:Int)+1) % 2305843009213693951
def Jg (s:List UInt8):Int:=s.foldl Jeh 1
theorem Jnw (m:Int) (b:UInt8):0≤Jeh m b∧Jeh m b<2305843009213693951:=by unfold Jeh;omega
theorem Jnx (s:List UInt8):∀ m:Int,0≤m∧m<2305843009213693951→0≤s.foldl Jeh m∧s.foldl Jeh m<2305843009213693951:=by
 induction s with
 | nil=>intro m h;exact h
 | cons b s ih=>intro m h;exact ih _ (Jnw m b)
theorem Qo (s:List UInt8):0≤Jg s∧Jg s<2305843009213693951:=Jnx s 1 (by omega)
theorem JcB {n:Int} (h:(Lit.int .i64 n).wf=true):-9223372036854775808≤n∧n<9223372036854775808:=by
 simp [Lit.wf,IntKind.min,IntKind.max,IntKind.signed,IntKind.bits] at h;omega
theorem Jby {n:Int} (h:(Lit.int .u64 n).wf=true):0≤n∧n<18446744073709551616:=by
 simp [Lit.wf,IntKind.min,IntKind.max,IntKind.signed,IntKind.bits] at h;omega
abbrev Jcf (k:FuncId) (args:Array Value) (G:Jp) (L:List (List Kg)) (p:Value→Jp→List (List Kg)→Prop):Prop:=Jha Tryz.prog k args G L p
structure J2 where
 name:List UInt8
 value:List UInt8
deriving DecidableEq
structure Zv where
 name:List UInt8
 value:List UInt8
 n:Int
 tag:Int
deriving DecidableEq
structure JQ where
 epoch:Int
 root:Int
 prev:Int
 at_:Int
deriving DecidableEq
structure Wa where
 least:Int
 most:Int
 lost:Int
 gap:Int
 next:Int
 asked:Int
deriving DecidableEq
structure Jae where
 kind:Int
 who:Int
 n:Int
 at_:Int
deriving DecidableEq
structure Qy where
 name:List UInt8
 entries:List J2
 sides:List Int
deriving DecidableEq
structure QB where
 head:JQ
 proof:Qy
deriving DecidableEq
structure Q0 where
 most:Int
 wait:List Zv
deriving DecidableEq
structure KP where
 queue:Q0
 batch:Int
 every:Int
 now:Int
 heads:List JQ
 books:List (List J2)
deriving DecidableEq
structure K2 where
 name:List UInt8
 key:Int
 head:JQ
 wanted:List (List UInt8)
 had:Int
deriving DecidableEq
structure JS where
 to_:Int
 from_:Int
 since:Int
 due:Int
 heads:List JQ
 reply:QB
deriving DecidableEq
structure YR where
 now:Int
 way:List JS
deriving DecidableEq
structure KC where
 names:List (List UInt8)
 keys:List Int
 most:Int
 batch:Int
 every:Int
 least:Int
 top:Int
 lost:Int
 reach:Int
deriving DecidableEq
structure Qc where
 kind:Int
 who:Int
 value:List UInt8
 fates:List Int
 letter:JS
deriving DecidableEq
structure Wf where
 clerk:KP
 owners:List K2
 polls:List Wa
 net:YR
deriving DecidableEq
def EI:YJ Int:=⟨1,8,fun G cs x=>cs=[I x]∧(-9223372036854775808≤x∧x<9223372036854775808),fun hle h=>by obtain ⟨rfl,h0⟩:=h;exact ⟨rfl,h0⟩,fun h=>by obtain ⟨rfl,h0⟩:=h;rfl,fun h=>by obtain ⟨rfl,h0⟩:=h;exact Z0 rfl⟩
def EU:YJ Int:=⟨1,8,fun G cs x=>cs=[U x]∧(0≤x∧x<18446744073709551616),fun hle h=>by obtain ⟨rfl,h0⟩:=h;exact ⟨rfl,h0⟩,fun h=>by obtain ⟨rfl,h0⟩:=h;rfl,fun h=>by obtain ⟨rfl,h0⟩:=h;exact Z0 rfl⟩
def ES:YJ ((List UInt8)):=⟨1,16,fun G cs x=>cs=[Sr x]∧((x).length≤140737488351232),fun hle h=>by obtain ⟨rfl,h0⟩:=h;exact ⟨rfl,h0⟩,fun h=>by obtain ⟨rfl,h0⟩:=h;rfl,fun h=>by obtain ⟨rfl,h0⟩:=h;exact Z0 rfl⟩
def QA:YJ J2:=⟨2,32,fun G cs x=>cs=[Sr x.name,Sr x.value]∧((x.name).length≤140737488351232)∧((x.value).length≤140737488351232),fun hle h=>by obtain ⟨rfl,h0,h1⟩:=h;exact ⟨rfl,h0,h1⟩,fun h=>by obtain ⟨rfl,h0,h1⟩:=h;rfl,fun h=>by obtain ⟨rfl,h0,h1⟩:=h;exact Z0 rfl⟩
def Q3:YJ Zv:=⟨4,48,fun G cs x=>cs=[Sr x.name,Sr x.value,U x.n,U x.tag]∧((x.name).length≤140737488351232)∧((x.value).length≤140737488351232)∧(0≤x.n∧x.n<18446744073709551616)∧(0≤x.tag∧x.tag<18446744073709551616),fun hle h=>by obtain ⟨rfl,h0,h1,h2,h3⟩:=h;exact ⟨rfl,h0,h1,h2,h3⟩,fun h=>by obtain ⟨rfl,h0,h1,h2,h3⟩:=h;rfl,fun h=>by obtain ⟨rfl,h0,h1,h2,h3⟩:=h;exact Z0 rfl⟩
def KA:YJ JQ:=⟨4,32,fun G cs x=>cs=[I x.epoch,U x.root,U x.prev,I x.at_]∧(-9223372036854775808≤x.epoch∧x.epoch<9223372036854775808)∧(0≤x.root∧x.root<18446744073709551616)∧(0≤x.prev∧x.prev<18446744073709551616)∧(-9223372036854775808≤x.at_∧x.at_<9223372036854775808),fun hle h=>by obtain ⟨rfl,h0,h1,h2,h3⟩:=h;exact ⟨rfl,h0,h1,h2,h3⟩,fun h=>by obtain ⟨rfl,h0,h1,h2,h3⟩:=h;rfl,fun h=>by obtain ⟨rfl,h0,h1,h2,h3⟩:=h;exact Z0 rfl⟩
def Wy:YJ Wa:=⟨6,48,fun G cs x=>cs=[I x.least,I x.most,I x.lost,I x.gap,I x.next,I x.asked]∧(-9223372036854775808≤x.least∧x.least<9223372036854775808)∧(-9223372036854775808≤x.most∧x.most<9223372036854775808)∧(-9223372036854775808≤x.lost∧x.lost<9223372036854775808)∧(-9223372036854775808≤x.gap∧x.gap<9223372036854775808)∧(-9223372036854775808≤x.next∧x.next<9223372036854775808)∧(-9223372036854775808≤x.asked∧x.asked<9223372036854775808),fun hle h=>by obtain ⟨rfl,h0,h1,h2,h3,h4,h5⟩:=h;exact ⟨rfl,h0,h1,h2,h3,h4,h5⟩,fun h=>by obtain ⟨rfl,h0,h1,h2,h3,h4,h5⟩:=h;rfl,fun h=>by obtain ⟨rfl,h0,h1,h2,h3,h4,h5⟩:=h;exact Z0 rfl⟩
def Wn:YJ Jae:=⟨4,32,fun G cs x=>cs=[I x.kind,I x.who,I x.n,I x.at_]∧(-9223372036854775808≤x.kind∧x.kind<9223372036854775808)∧(-9223372036854775808≤x.who∧x.who<9223372036854775808)∧(-9223372036854775808≤x.n∧x.n<9223372036854775808)∧(-9223372036854775808≤x.at_∧x.at_<9223372036854775808),fun hle h=>by obtain ⟨rfl,h0,h1,h2,h3⟩:=h;exact ⟨rfl,h0,h1,h2,h3⟩,fun h=>by obtain ⟨rfl,h0,h1,h2,h3⟩:=h;rfl,fun h=>by obtain ⟨rfl,h0,h1,h2,h3⟩:=h;exact Z0 rfl⟩
def JcC:YJ Qy:=⟨3,64,fun G cs x=>∃ a0 c0 a1 c1,cs=[Sr x.name,Sl a0 x.entries.length c0,Sl a1 x.sides.length c1]∧((x.name).length≤140737488351232)∧(RS QA G a0 c0 x.entries)∧(RS EU G a1 c1 x.sides),fun hle h=>by obtain ⟨a0,c0,a1,c1,rfl,h0,h1,h2⟩:=h;exact ⟨a0,c0,a1,c1,rfl,h0,h1.mono hle,h2.mono hle⟩,fun h=>by obtain ⟨a0,c0,a1,c1,rfl,h0,h1,h2⟩:=h;rfl,fun h=>by obtain ⟨a0,c0,a1,c1,rfl,h0,h1,h2⟩:=h;exact Z0 rfl⟩
def Jbz:YJ QB:=⟨7,96,fun G cs x=>∃ a0 c0 a1 c1,cs=[I x.head.epoch,U x.head.root,U x.head.prev,I x.head.at_,Sr x.proof.name,Sl a0 x.proof.entries.length c0,Sl a1 x.proof.sides.length c1]∧(-9223372036854775808≤x.head.epoch∧x.head.epoch<9223372036854775808)∧(0≤x.head.root∧x.head.root<18446744073709551616)∧(0≤x.head.prev∧x.head.prev<18446744073709551616)∧(-9223372036854775808≤x.head.at_∧x.head.at_<9223372036854775808)∧((x.proof.name).length≤140737488351232)∧(RS QA G a0 c0 x.proof.entries)∧(RS EU G a1 c1 x.proof.sides),fun hle h=>by obtain ⟨a0,c0,a1,c1,rfl,h0,h1,h2,h3,h4,h5,h6⟩:=h;exact ⟨a0,c0,a1,c1,rfl,h0,h1,h2,h3,h4,h5.mono hle,h6.mono hle⟩,fun h=>by obtain ⟨a0,c0,a1,c1,rfl,h0,h1,h2,h3,h4,h5,h6⟩:=h;rfl,fun h=>by obtain ⟨a0,c0,a1,c1,rfl,h0,h1,h2,h3,h4,h5,h6⟩:=h;exact Z0 rfl⟩
def JjS:YJ Q0:=⟨2,32,fun G cs x=>∃ a0 c0,cs=[I x.most,Sl a0 x.wait.length c0]∧(-9223372036854775808≤x.most∧x.most<9223372036854775808)∧(RS Q3 G a0 c0 x.wait),fun hle h=>by obtain ⟨a0,c0,rfl,h0,h1⟩:=h;exact ⟨a0,c0,rfl,h0,h1.mono hle⟩,fun h=>by obtain ⟨a0,c0,rfl,h0,h1⟩:=h;rfl,fun h=>by obtain ⟨a0,c0,rfl,h0,h1⟩:=h;exact Z0 rfl⟩
def Qs:YJ (List J2):=⟨1,24,fun G cs x=>∃ a0 c0,cs=[Sl a0 x.length c0]∧(RS QA G a0 c0 x),fun hle h=>by obtain ⟨a0,c0,rfl,h0⟩:=h;exact ⟨a0,c0,rfl,h0.mono hle⟩,fun h=>by obtain ⟨a0,c0,rfl,h0⟩:=h;rfl,fun h=>by obtain ⟨a0,c0,rfl,h0⟩:=h;exact Z0 rfl⟩
def Jaf:YJ KP:=⟨7,104,fun G cs x=>∃ a0 c0 a1 c1 a2 c2,cs=[I x.queue.most,Sl a0 x.queue.wait.length c0,I x.batch,I x.every,I x.now,Sl a1 x.heads.length c1,Sl a2 x.books.length c2]∧(-9223372036854775808≤x.queue.most∧x.queue.most<9223372036854775808)∧(RS Q3 G a0 c0 x.queue.wait)∧(-9223372036854775808≤x.batch∧x.batch<9223372036854775808)∧(-9223372036854775808≤x.every∧x.every<9223372036854775808)∧(-9223372036854775808≤x.now∧x.now<9223372036854775808)∧(RS KA G a1 c1 x.heads)∧(RS Qs G a2 c2 x.books),fun hle h=>by obtain ⟨a0,c0,a1,c1,a2,c2,rfl,h0,h1,h2,h3,h4,h5,h6⟩:=h;exact ⟨a0,c0,a1,c1,a2,c2,rfl,h0,h1.mono hle,h2,h3,h4,h5.mono hle,h6.mono hle⟩,fun h=>by obtain ⟨a0,c0,a1,c1,a2,c2,rfl,h0,h1,h2,h3,h4,h5,h6⟩:=h;rfl,fun h=>by obtain ⟨a0,c0,a1,c1,a2,c2,rfl,h0,h1,h2,h3,h4,h5,h6⟩:=h;exact Z0 rfl⟩
def Q1:YJ K2:=⟨8,88,fun G cs x=>∃ a0 c0,cs=[Sr x.name,U x.key,I x.head.epoch,U x.head.root,U x.head.prev,I x.head.at_,Sl a0 x.wanted.length c0,I x.had]∧((x.name).length≤140737488351232)∧(0≤x.key∧x.key<18446744073709551616)∧(-9223372036854775808≤x.head.epoch∧x.head.epoch<9223372036854775808)∧(0≤x.head.root∧x.head.root<18446744073709551616)∧(0≤x.head.prev∧x.head.prev<18446744073709551616)∧(-9223372036854775808≤x.head.at_∧x.head.at_<9223372036854775808)∧(RS ES G a0 c0 x.wanted)∧(-9223372036854775808≤x.had∧x.had<9223372036854775808),fun hle h=>by obtain ⟨a0,c0,rfl,h0,h1,h2,h3,h4,h5,h6,h7⟩:=h;exact ⟨a0,c0,rfl,h0,h1,h2,h3,h4,h5,h6.mono hle,h7⟩,fun h=>by obtain ⟨a0,c0,rfl,h0,h1,h2,h3,h4,h5,h6,h7⟩:=h;rfl,fun h=>by obtain ⟨a0,c0,rfl,h0,h1,h2,h3,h4,h5,h6,h7⟩:=h;exact Z0 rfl⟩
def Kh:YJ JS:=⟨12,152,fun G cs x=>∃ a0 c0 a1 c1 a2 c2,cs=[I x.to_,I x.from_,I x.since,I x.due,Sl a0 x.heads.length c0,I x.reply.head.epoch,U x.reply.head.root,U x.reply.head.prev,I x.reply.head.at_,Sr x.reply.proof.name,Sl a1 x.reply.proof.entries.length c1,Sl a2 x.reply.proof.sides.length c2]∧(-9223372036854775808≤x.to_∧x.to_<9223372036854775808)∧(-9223372036854775808≤x.from_∧x.from_<9223372036854775808)∧(-9223372036854775808≤x.since∧x.since<9223372036854775808)∧(-9223372036854775808≤x.due∧x.due<9223372036854775808)∧(RS KA G a0 c0 x.heads)∧(-9223372036854775808≤x.reply.head.epoch∧x.reply.head.epoch<9223372036854775808)∧(0≤x.reply.head.root∧x.reply.head.root<18446744073709551616)∧(0≤x.reply.head.prev∧x.reply.head.prev<18446744073709551616)∧(-9223372036854775808≤x.reply.head.at_∧x.reply.head.at_<9223372036854775808)∧((x.reply.proof.name).length≤140737488351232)∧(RS QA G a1 c1 x.reply.proof.entries)∧(RS EU G a2 c2 x.reply.proof.sides),fun hle h=>by obtain ⟨a0,c0,a1,c1,a2,c2,rfl,h0,h1,h2,h3,h4,h5,h6,h7,h8,h9,h10,h11⟩:=h;exact ⟨a0,c0,a1,c1,a2,c2,rfl,h0,h1,h2,h3,h4.mono hle,h5,h6,h7,h8,h9,h10.mono hle,h11.mono hle⟩,fun h=>by obtain ⟨a0,c0,a1,c1,a2,c2,rfl,h0,h1,h2,h3,h4,h5,h6,h7,h8,h9,h10,h11⟩:=h;rfl,fun h=>by obtain ⟨a0,c0,a1,c1,a2,c2,rfl,h0,h1,h2,h3,h4,h5,h6,h7,h8,h9,h10,h11⟩:=h;exact Z0 rfl⟩
def ENet:YJ YR:=⟨2,32,fun G cs x=>∃ a0 c0,cs=[I x.now,Sl a0 x.way.length c0]∧(-9223372036854775808≤x.now∧x.now<9223372036854775808)∧(RS Kh G a0 c0 x.way),fun hle h=>by obtain ⟨a0,c0,rfl,h0,h1⟩:=h;exact ⟨a0,c0,rfl,h0,h1.mono hle⟩,fun h=>by obtain ⟨a0,c0,rfl,h0,h1⟩:=h;rfl,fun h=>by obtain ⟨a0,c0,rfl,h0,h1⟩:=h;exact Z0 rfl⟩
def JjT:YJ KC:=⟨9,104,fun G cs x=>∃ a0 c0 a1 c1,cs=[Sl a0 x.names.length c0,Sl a1 x.keys.length c1,I x.most,I x.batch,I x.every,I x.least,I x.top,I x.lost,I x.reach]∧(RS ES G a0 c0 x.names)∧(RS EU G a1 c1 x.keys)∧(-9223372036854775808≤x.most∧x.most<9223372036854775808)∧(-9223372036854775808≤x.batch∧x.batch<9223372036854775808)∧(-9223372036854775808≤x.every∧x.every<9223372036854775808)∧(-9223372036854775808≤x.least∧x.least<9223372036854775808)∧(-9223372036854775808≤x.top∧x.top<9223372036854775808)∧(-9223372036854775808≤x.lost∧x.lost<9223372036854775808)∧(-9223372036854775808≤x.reach∧x.reach<9223372036854775808),fun hle h=>by obtain ⟨a0,c0,a1,c1,rfl,h0,h1,h2,h3,h4,h5,h6,h7,h8⟩:=h;exact ⟨a0,c0,a1,c1,rfl,h0.mono hle,h1.mono hle,h2,h3,h4,h5,h6,h7,h8⟩,fun h=>by obtain ⟨a0,c0,a1,c1,rfl,h0,h1,h2,h3,h4,h5,h6,h7,h8⟩:=h;rfl,fun h=>by obtain ⟨a0,c0,a1,c1,rfl,h0,h1,h2,h3,h4,h5,h6,h7,h8⟩:=h;exact Z0 rfl⟩
def WW:YJ Qc:=⟨16,208,fun G cs x=>∃ a0 c0 a1 c1 a2 c2 a3 c3,cs=[I x.kind,I x.who,Sr x.value,Sl a0 x.fates.length c0,I x.letter.to_,I x.letter.from_,I x.letter.since,I x.letter.due,Sl a1 x.letter.heads.length c1,I x.letter.reply.head.epoch,U x.letter.reply.head.root,U x.letter.reply.head.prev,I x.letter.reply.head.at_,Sr x.letter.reply.proof.name,Sl a2 x.letter.reply.proof.entries.length c2,Sl a3 x.letter.reply.proof.sides.length c3]∧(-9223372036854775808≤x.kind∧x.kind<9223372036854775808)∧(-9223372036854775808≤x.who∧x.who<9223372036854775808)∧((x.value).length≤140737488351232)∧(RS EI G a0 c0 x.fates)∧(-9223372036854775808≤x.letter.to_∧x.letter.to_<9223372036854775808)∧(-9223372036854775808≤x.letter.from_∧x.letter.from_<9223372036854775808)∧(-9223372036854775808≤x.letter.since∧x.letter.since<9223372036854775808)∧(-9223372036854775808≤x.letter.due∧x.letter.due<9223372036854775808)∧(RS KA G a1 c1 x.letter.heads)∧(-9223372036854775808≤x.letter.reply.head.epoch∧x.letter.reply.head.epoch<9223372036854775808)∧(0≤x.letter.reply.head.root∧x.letter.reply.head.root<18446744073709551616)∧(0≤x.letter.reply.head.prev∧x.letter.reply.head.prev<18446744073709551616)∧(-9223372036854775808≤x.letter.reply.head.at_∧x.letter.reply.head.at_<9223372036854775808)∧((x.letter.reply.proof.name).length≤140737488351232)∧(RS QA G a2 c2 x.letter.reply.proof.entries)∧(RS EU G a3 c3 x.letter.reply.proof.sides),fun hle h=>by obtain ⟨a0,c0,a1,c1,a2,c2,a3,c3,rfl,h0,h1,h2,h3,h4,h5,h6,h7,h8,h9,h10,h11,h12,h13,h14,h15⟩:=h;exact ⟨a0,c0,a1,c1,a2,c2,a3,c3,rfl,h0,h1,h2,h3.mono hle,h4,h5,h6,h7,h8.mono hle,h9,h10,h11,h12,h13,h14.mono hle,h15.mono hle⟩,fun h=>by obtain ⟨a0,c0,a1,c1,a2,c2,a3,c3,rfl,h0,h1,h2,h3,h4,h5,h6,h7,h8,h9,h10,h11,h12,h13,h14,h15⟩:=h;rfl,fun h=>by obtain ⟨a0,c0,a1,c1,a2,c2,a3,c3,rfl,h0,h1,h2,h3,h4,h5,h6,h7,h8,h9,h10,h11,h12,h13,h14,h15⟩:=h;exact Z0 rfl⟩
def JeP:YJ (List JQ):=⟨1,24,fun G cs x=>∃ a0 c0,cs=[Sl a0 x.length c0]∧(RS KA G a0 c0 x),fun hle h=>by obtain ⟨a0,c0,rfl,h0⟩:=h;exact ⟨a0,c0,rfl,h0.mono hle⟩,fun h=>by obtain ⟨a0,c0,rfl,h0⟩:=h;rfl,fun h=>by obtain ⟨a0,c0,rfl,h0⟩:=h;exact Z0 rfl⟩
def Vk:YJ (List Int):=⟨1,24,fun G cs x=>∃ a0 c0,cs=[Sl a0 x.length c0]∧(RS EI G a0 c0 x),fun hle h=>by obtain ⟨a0,c0,rfl,h0⟩:=h;exact ⟨a0,c0,rfl,h0.mono hle⟩,fun h=>by obtain ⟨a0,c0,rfl,h0⟩:=h;rfl,fun h=>by obtain ⟨a0,c0,rfl,h0⟩:=h;exact Z0 rfl⟩
theorem o_EU {G:Jp} {cs:List Value} {m:Nat} (h:RdL Tryz.prog G [.int .u64] cs m):∃ x,EU.R G cs x∧(fun _=>0) x≤m:=by
 obtain ⟨_,c0,_,_,rfl,_,k0,h⟩:=h
 obtain ⟨x0,rfl,w0⟩:=k0
 have h:c0=[]:=h
 subst h
 exact ⟨x0,⟨rfl,Jby w0⟩,Nat.zero_le _⟩
theorem o_ES {G:Jp} {cs:List Value} {m:Nat} (h:RdL Tryz.prog G [.str] cs m):∃ x,ES.R G cs x∧(fun _=>0) x≤m:=by
 obtain ⟨_,c0,_,_,rfl,_,k0,h⟩:=h
 obtain ⟨x0,rfl,w0,_⟩:=k0
 have h:c0=[]:=h
 subst h
 exact ⟨x0,⟨rfl,w0⟩,Nat.zero_le _⟩
theorem o_EEnt {G:Jp} {cs:List Value} {m:Nat} (h:RdL Tryz.prog G [.str,.str] cs m):∃ x,QA.R G cs x∧(fun _=>0) x≤m:=by
 obtain ⟨_,c0,_,_,rfl,_,k0,h⟩:=h
 obtain ⟨x0,rfl,w0,_⟩:=k0
 obtain ⟨_,c1,_,_,rfl,_,k1,h⟩:=h
 obtain ⟨x1,rfl,w1,_⟩:=k1
 have h:c1=[]:=h
 subst h
 exact ⟨(⟨x0,x1⟩:J2),⟨rfl,w0,w1⟩,Nat.zero_le _⟩
theorem Jo7 {G:Jp} {cs:List Value} {m:Nat} (h:RdL Tryz.prog G [.int .i64,.int .u64,.int .u64,.int .i64] cs m):∃ x,KA.R G cs x∧(fun _=>0) x≤m:=by
 obtain ⟨_,c0,_,_,rfl,_,k0,h⟩:=h
 obtain ⟨x0,rfl,w0⟩:=k0
 obtain ⟨_,c1,_,_,rfl,_,k1,h⟩:=h
 obtain ⟨x1,rfl,w1⟩:=k1
 obtain ⟨_,c2,_,_,rfl,_,k2,h⟩:=h
 obtain ⟨x2,rfl,w2⟩:=k2
 obtain ⟨_,c3,_,_,rfl,_,k3,h⟩:=h
 obtain ⟨x3,rfl,w3⟩:=k3
 have h:c3=[]:=h
 subst h
 exact ⟨(⟨x0,x1,x2,x3⟩:JQ),⟨rfl,JcB w0,Jby w1,Jby w2,JcB w3⟩,Nat.zero_le _⟩
theorem Jii {G:Jp} {cs:List Value} {m:Nat} (h:RdL Tryz.prog G [.int .i64,.int .u64,.int .u64,.int .i64,.str,.sl 44,.sl 45] cs m):∃ x,Jbz.R G cs x∧(fun _=>0) x≤m:=by
 obtain ⟨_,c0,_,_,rfl,_,k0,h⟩:=h
 obtain ⟨x0,rfl,w0⟩:=k0
 obtain ⟨_,c1,_,_,rfl,_,k1,h⟩:=h
 obtain ⟨x1,rfl,w1⟩:=k1
 obtain ⟨_,c2,_,_,rfl,_,k2,h⟩:=h
 obtain ⟨x2,rfl,w2⟩:=k2
 obtain ⟨_,c3,_,_,rfl,_,k3,h⟩:=h
 obtain ⟨x3,rfl,w3⟩:=k3
 obtain ⟨_,c4,_,_,rfl,_,k4,h⟩:=h
 obtain ⟨x4,rfl,w4,_⟩:=k4
 obtain ⟨_,c5,_,_,rfl,_,k5,h⟩:=h
 obtain ⟨a5,c5_,x5,rfl,hs5,_,hcap5⟩:=Jc1 (E:=QA) (e:=111) (size:=fun _=>0) k5 (by kernel_rfl) (by kernel_rfl) (fun cs m h=>o_EEnt h) (by decide +kernel) (by kernel_rfl) (by kernel_rfl)
 obtain ⟨_,c6,_,_,rfl,_,k6,h⟩:=h
 obtain ⟨a6,c6_,x6,rfl,hs6,_,hcap6⟩:=Jc1 (E:=EU) (e:=41) (size:=fun _=>0) k6 (by kernel_rfl) (by kernel_rfl) (fun cs m h=>o_EU h) (by decide +kernel) (by kernel_rfl) (by kernel_rfl)
 have h:c6=[]:=h
 subst h
 exact ⟨(⟨(⟨x0,x1,x2,x3⟩:JQ),(⟨x4,x5,x6⟩:Qy)⟩:QB),⟨a5,c5_,a6,c6_,rfl,JcB w0,Jby w1,Jby w2,JcB w3,w4,hs5,hs6⟩,Nat.zero_le _⟩
theorem Jny {G:Jp} {cs:List Value} {m:Nat} (h:RdL Tryz.prog G [.str,.int .u64,.int .i64,.int .u64,.int .u64,.int .i64,.sl 22,.int .i64] cs m):∃ x,Q1.R G cs x∧(fun _=>0) x≤m:=by
 obtain ⟨_,c0,_,_,rfl,_,k0,h⟩:=h
 obtain ⟨x0,rfl,w0,_⟩:=k0
 obtain ⟨_,c1,_,_,rfl,_,k1,h⟩:=h
 obtain ⟨x1,rfl,w1⟩:=k1
 obtain ⟨_,c2,_,_,rfl,_,k2,h⟩:=h
 obtain ⟨x2,rfl,w2⟩:=k2
 obtain ⟨_,c3,_,_,rfl,_,k3,h⟩:=h
 obtain ⟨x3,rfl,w3⟩:=k3
 obtain ⟨_,c4,_,_,rfl,_,k4,h⟩:=h
 obtain ⟨x4,rfl,w4⟩:=k4
 obtain ⟨_,c5,_,_,rfl,_,k5,h⟩:=h
 obtain ⟨x5,rfl,w5⟩:=k5
 obtain ⟨_,c6,_,_,rfl,_,k6,h⟩:=h
 obtain ⟨a6,c6_,x6,rfl,hs6,_,hcap6⟩:=Jc1 (E:=ES) (e:=9) (size:=fun _=>0) k6 (by kernel_rfl) (by kernel_rfl) (fun cs m h=>o_ES h) (by decide +kernel) (by kernel_rfl) (by kernel_rfl)
 obtain ⟨_,c7,_,_,rfl,_,k7,h⟩:=h
 obtain ⟨x7,rfl,w7⟩:=k7
 have h:c7=[]:=h
 subst h
 exact ⟨(⟨x0,x1,(⟨x2,x3,x4,x5⟩:JQ),x6,x7⟩:K2),⟨a6,c6_,rfl,w0,Jby w1,JcB w2,Jby w3,Jby w4,JcB w5,hs6,JcB w7⟩,Nat.zero_le _⟩
abbrev Jij (x:Zv):List Value:=[Sr x.name,Sr x.value,U x.n,U x.tag]
abbrev JjU (x:Zv):Value:=.agg #[Sr x.name,Sr x.value,U x.n,U x.tag]
abbrev KU (x:KP) (a0:Option Addr) (c0:Nat) (a1:Option Addr) (c1:Nat) (a2:Option Addr) (c2:Nat):List Value:=[I x.queue.most,Sl a0 x.queue.wait.length c0,I x.batch,I x.every,I x.now,Sl a1 x.heads.length c1,Sl a2 x.books.length c2]
abbrev Qz (x:KP) (a0:Option Addr) (c0:Nat) (a1:Option Addr) (c1:Nat) (a2:Option Addr) (c2:Nat):Value:=.agg #[I x.queue.most,Sl a0 x.queue.wait.length c0,I x.batch,I x.every,I x.now,Sl a1 x.heads.length c1,Sl a2 x.books.length c2]
abbrev WT (x:Qc) (a0:Option Addr) (c0:Nat) (a1:Option Addr) (c1:Nat) (a2:Option Addr) (c2:Nat) (a3:Option Addr) (c3:Nat):List Value:=[I x.kind,I x.who,Sr x.value,Sl a0 x.fates.length c0,I x.letter.to_,I x.letter.from_,I x.letter.since,I x.letter.due,Sl a1 x.letter.heads.length c1,I x.letter.reply.head.epoch,U x.letter.reply.head.root,U x.letter.reply.head.prev,I x.letter.reply.head.at_,Sr x.letter.reply.proof.name,Sl a2 x.letter.reply.proof.entries.length c2,Sl a3 x.letter.reply.proof.sides.length c3]
abbrev Jfh (x:Qc) (a0:Option Addr) (c0:Nat) (a1:Option Addr) (c1:Nat) (a2:Option Addr) (c2:Nat) (a3:Option Addr) (c3:Nat):Value:=.agg #[I x.kind,I x.who,Sr x.value,Sl a0 x.fates.length c0,I x.letter.to_,I x.letter.from_,I x.letter.since,I x.letter.due,Sl a1 x.letter.heads.length c1,I x.letter.reply.head.epoch,U x.letter.reply.head.root,U x.letter.reply.head.prev,I x.letter.reply.head.at_,Sr x.letter.reply.proof.name,Sl a2 x.letter.reply.proof.entries.length c2,Sl a3 x.letter.reply.proof.sides.length c3]
abbrev Jc3 (x:JQ):List Value:=[I x.epoch,U x.root,U x.prev,I x.at_]
abbrev Y9 (x:JQ):Value:=.agg #[I x.epoch,U x.root,U x.prev,I x.at_]
abbrev Kp (x:JS) (a0:Option Addr) (c0:Nat) (a1:Option Addr) (c1:Nat) (a2:Option Addr) (c2:Nat):List Value:=[I x.to_,I x.from_,I x.since,I x.due,Sl a0 x.heads.length c0,I x.reply.head.epoch,U x.reply.head.root,U x.reply.head.prev,I x.reply.head.at_,Sr x.reply.proof.name,Sl a1 x.reply.proof.entries.length c1,Sl a2 x.reply.proof.sides.length c2]
abbrev QZ (x:JS) (a0:Option Addr) (c0:Nat) (a1:Option Addr) (c1:Nat) (a2:Option Addr) (c2:Nat):Value:=.agg #[I x.to_,I x.from_,I x.since,I x.due,Sl a0 x.heads.length c0,I x.reply.head.epoch,U x.reply.head.root,U x.reply.head.prev,I x.reply.head.at_,Sr x.reply.proof.name,Sl a1 x.reply.proof.entries.length c1,Sl a2 x.reply.proof.sides.length c2]
abbrev KE (x:K2) (a0:Option Addr) (c0:Nat):List Value:=[Sr x.name,U x.key,I x.head.epoch,U x.head.root,U x.head.prev,I x.head.at_,Sl a0 x.wanted.length c0,I x.had]
abbrev Ku (x:K2) (a0:Option Addr) (c0:Nat):Value:=.agg #[Sr x.name,U x.key,I x.head.epoch,U x.head.root,U x.head.prev,I x.head.at_,Sl a0 x.wanted.length c0,I x.had]
abbrev YQ (x:Wa):List Value:=[I x.least,I x.most,I x.lost,I x.gap,I x.next,I x.asked]
abbrev Zt (x:Wa):Value:=.agg #[I x.least,I x.most,I x.lost,I x.gap,I x.next,I x.asked]
abbrev Yy (x:Qy) (a0:Option Addr) (c0:Nat) (a1:Option Addr) (c1:Nat):List Value:=[Sr x.name,Sl a0 x.entries.length c0,Sl a1 x.sides.length c1]
abbrev Yq (x:Qy) (a0:Option Addr) (c0:Nat) (a1:Option Addr) (c1:Nat):Value:=.agg #[Sr x.name,Sl a0 x.entries.length c0,Sl a1 x.sides.length c1]
abbrev Wp (x:QB) (a0:Option Addr) (c0:Nat) (a1:Option Addr) (c1:Nat):List Value:=[I x.head.epoch,U x.head.root,U x.head.prev,I x.head.at_,Sr x.proof.name,Sl a0 x.proof.entries.length c0,Sl a1 x.proof.sides.length c1]
abbrev Q9 (x:QB) (a0:Option Addr) (c0:Nat) (a1:Option Addr) (c1:Nat):Value:=.agg #[I x.head.epoch,U x.head.root,U x.head.prev,I x.head.at_,Sr x.proof.name,Sl a0 x.proof.entries.length c0,Sl a1 x.proof.sides.length c1]
abbrev W6 (x:KC) (a0:Option Addr) (c0:Nat) (a1:Option Addr) (c1:Nat):List Value:=[Sl a0 x.names.length c0,Sl a1 x.keys.length c1,I x.most,I x.batch,I x.every,I x.least,I x.top,I x.lost,I x.reach]
abbrev Jag (x:KC) (a0:Option Addr) (c0:Nat) (a1:Option Addr) (c1:Nat):Value:=.agg #[Sl a0 x.names.length c0,Sl a1 x.keys.length c1,I x.most,I x.batch,I x.every,I x.least,I x.top,I x.lost,I x.reach]
abbrev VP (x:Wf) (a0:Option Addr) (c0:Nat) (a1:Option Addr) (c1:Nat) (a2:Option Addr) (c2:Nat) (a3:Option Addr) (c3:Nat) (a4:Option Addr) (c4:Nat) (a5:Option Addr) (c5:Nat):List Value:=[I x.clerk.queue.most,Sl a0 x.clerk.queue.wait.length c0,I x.clerk.batch,I x.clerk.every,I x.clerk.now,Sl a1 x.clerk.heads.length c1,Sl a2 x.clerk.books.length c2,Sl a3 x.owners.length c3,Sl a4 x.polls.length c4,I x.net.now,Sl a5 x.net.way.length c5]
abbrev Jaw (x:Wf) (a0:Option Addr) (c0:Nat) (a1:Option Addr) (c1:Nat) (a2:Option Addr) (c2:Nat) (a3:Option Addr) (c3:Nat) (a4:Option Addr) (c4:Nat) (a5:Option Addr) (c5:Nat):Value:=.agg #[I x.clerk.queue.most,Sl a0 x.clerk.queue.wait.length c0,I x.clerk.batch,I x.clerk.every,I x.clerk.now,Sl a1 x.clerk.heads.length c1,Sl a2 x.clerk.books.length c2,Sl a3 x.owners.length c3,Sl a4 x.polls.length c4,I x.net.now,Sl a5 x.net.way.length c5]
open Go.Proofs Go.Shelf
theorem JjV (w:World) (k:Nat) (os:Array Obj):Below w.heap.size w (Sort.grow (w.drewN k) os):=by
 refine ⟨rfl,rfl,rfl,by simp [Sort.grow,World.drewN],fun b hb=>?_⟩
 simp [Sort.grow,World.drewN,Array.getElem?_append,hb]
theorem Jnz {P:Program} {ρ:Ren} (L:LaysM.n171 P ρ) (G:Jp) (n:Int) (h:-9223372036854775808≤n∧n<9223372036854775808):JaD P (ρ.f 171) #[I n] G [] (fun u _ L'=>u=Sr (Lib.itoa n)∧L'=[]) (fun _ _ _=>False) :=
 Jcd fun w hT _=>(Any.strconv_Itoa L n h.1 (by omega) w hT.1).mono fun e w' ⟨he,k,os,hw⟩=>⟨_,he,rfl,hw ▸ JjV w k os⟩
def JaU (s:List UInt8):Option Int:=match Lib.atoiAll s with | .ok v=>some v | _=>none
theorem JgJ {s:List UInt8} {v:Int} (h:JaU s=some v):-9223372036854775808≤v∧v<9223372036854775808:=by
 unfold JaU at h
 split at h
 ·
  rename_i u hu
  cases h
  have:=Lib.atoiAll_bounds hu
  omega
 · cases h
theorem JnA {P : Program} {ρ : Ren} (L : LaysC.n172 P ρ) (g1 : P.globalNamed "strconv.ErrSyntax" = some (ρ.g 15)) (g2 : P.globalNamed "strconv.ErrRange" = some (ρ.g 16)) (G : Jp) (s : List UInt8) (hs : s.length ≤ 140737488355328) :
  JaD P (ρ.f 172) #[Sr s] G [] (fun u _ L'=>((∃ v,JaU s=some v∧u=.tuple #[I v,.nilIface])∨(JaU s=none∧∃ v N,u=.tuple #[I v,.iface (ρ.t 168) (Pt N 0)]))∧L'=[]) (fun _ _ _=>False) :=
 Jcd fun w hT _=>by
  have hd:(B s).data.toList=s:=by simp [B]
  have hz:(B s).size=s.length:=by rw [Lib.size_eq,hd]
  obtain ⟨_,⟨q1,e1,k1,c1,d1⟩,⟨q2,e2,k2,c2,d2⟩⟩:=hT
  obtain rfl:q1=ρ.g 15:=Option.some.inj (k1.symm.trans g1)
  obtain rfl:q2=ρ.g 16:=Option.some.inj (k2.symm.trans g2)
  cases ha:Lib.atoiAll s
  ·
   rename_i v
   refine (Any.strconv_Atoi_ok L (B s) (by omega) v (by rw [hd];exact ha) w).mono ?_
   rintro e w' ⟨rfl,hw⟩
   refine ⟨_,rfl,.inl ⟨v,by unfold JaU;rw [ha],rfl⟩,?_⟩
   rcases hw with rfl | ⟨t,rfl⟩
   · exact Below.refl _ _
   · exact Lib.bytesWorld_below _ _ _
  ·
   refine (Any.strconv_Atoi_syntax L (B s) (by omega) (by rw [hd];exact ha) e1 w c1 d1).mono ?_
   rintro e w' ⟨N,rfl,_,_,hb⟩
   exact ⟨_,rfl,.inr ⟨by unfold JaU;rw [ha],_,N,rfl⟩,hb⟩
  ·
   refine (Any.strconv_Atoi_range L (B s) (by omega) (by rw [hd];exact ha) e2 w c2 d2).mono ?_
   rintro e w' ⟨N,rfl,_,_,hb⟩
   exact ⟨_,rfl,.inr ⟨by unfold JaU;rw [ha],_,N,rfl⟩,hb⟩
def JH (s:List UInt8):List (List UInt8):=Lib.split s [32]
theorem JdM (s:List UInt8):(B s).data.toList=s:=by simp [B]
theorem Jg5 (s:List UInt8):(B s).size=s.length:=by rw [Lib.size_eq,JdM]
theorem JbA (s:List UInt8):(Lib.splitB ⟨#[32]⟩ 0 (Lib.countB (B s) ⟨#[32]⟩) (B s)).map (·.data.toList)=JH s:=by
 rw [Lib.splitB_data,JdM]
 show Lib.splitK _ 0 (Lib.count (B s).data.toList _) s=_
 rw [JdM];rfl
theorem JgK (sep:List UInt8) (n:Nat):∀ (k:Nat) (s:List UInt8),s.length≤n→∀ x∈Lib.splitK sep 0 k s,x.length≤n
 | 0,s,h,x,hx=>by unfold Lib.splitK at hx;rw [List.mem_singleton.1 hx];exact h
 | k+1,s,h,x,hx=>by
  unfold Lib.splitK at hx
  split at hx
  · rw [List.mem_singleton.1 hx];exact h
  ·
   rcases List.mem_cons.1 hx with rfl | hx
   · rw [List.length_take];omega
   · exact JgK sep n k _ (by rw [List.length_drop];omega) x hx
theorem Jfi {s x:List UInt8} (h:x∈JH s):x.length≤s.length:=JgK _ _ _ _ (Nat.le_refl _) x h
theorem Y3 (s:List UInt8):0<(JH s).length:=by
 rw [← JbA,List.length_map]
 have:=Lib.splitB_all ⟨#[32]⟩ (by decide) 0 _ (B s) rfl
 omega
theorem flat1 {α β:Type} (f:α→β):∀ l:List α,(l.map fun x=>[f x]).flatten=l.map f
 | []=>rfl
 | x::l=>by simp only [List.map_cons,List.flatten_cons,flat1 f l];rfl
theorem Jik (G:Jp):∀ l:List ByteArray,(∀ x∈l,x.data.toList.length≤140737488351232)→Jf3 ES G (l.map fun x=>[Value.string x]) (l.map (·.data.toList))
 | [],_=>trivial
 | x::l,h=>⟨⟨by show [Value.string x]=[Value.string (B x.data.toList)];simp [B],h x (List.mem_cons_self ..)⟩,Jik G l fun y hy=>h y (List.mem_cons_of_mem _ hy)⟩
theorem JjW {P:Program} {ρ:Ren} (L:Lays.n221 P ρ) (L1:Lays.n138 P ρ) (L2:Lays.n143 P ρ) (hi9:(P.info? (ρ.t 9)).map (fun i=>(i.zero,i.size,i.bytes))=some (some (.string ByteArray.empty),1,16)) (G:Jp) (s:List UInt8) (hs:s.length<4294967281) :
  Vi P (ρ.f 221) #[Sr s,Sr [32],I 0,I (-1)] G [] (fun u G' L'=>∃ b r,u=Sl (At b 0) (JH s).length (JH s).length∧J0 ES G' (At b 0) (JH s).length (JH s) r∧L'=[r]):=fun w0 G0 w hw=>by
 have hz:=Jg5 s
 have hlen:=Lib.splitB_all ⟨#[32]⟩ (by decide) 0 _ (B s) rfl
 have hle:=Lib.countB_le ⟨#[32]⟩ (by decide) (B s).size (B s) (Nat.le_refl _)
 have hc:=Any.strings_Count_one L1 (B s) 32 w
 rw [show Lib.countByte (B s).data.toList 32=Lib.countB (B s) ⟨#[32]⟩ from (Lib.count_one 32 (B s).data.toList).symm] at hc
 refine (Any.strings_genSplit_core L hi9 (B s) ⟨#[32]⟩ 0 (-1) (Lib.countB (B s) ⟨#[32]⟩+1) w (by omega) (by decide) (Nat.zero_le _) (fun x c _=>by
  have:=Any.strings_Index_one L2 x 32 (w.alloc (.cells c (ρ.t 9)))
  rw [← Lib.index_one] at this
  exact this) hc (by decide) (by decide) (by rw [if_pos (by decide)];omega)).mono ?_
 rintro e w' ⟨rfl,rfl⟩
 rw [Nat.add_sub_cancel,hlen]
 have e2:Lib.cellsOf (Lib.splitB ⟨#[32]⟩ 0 (Lib.countB (B s) ⟨#[32]⟩) (B s)) (Lib.countB (B s) ⟨#[32]⟩+1)=((Lib.splitB ⟨#[32]⟩ 0 (Lib.countB (B s) ⟨#[32]⟩) (B s)).map Value.string).toArray:=by rw [← hlen];exact Lib.cellsOf_full _
 rw [e2]
 have hl:(JH s).length=Lib.countB (B s) ⟨#[32]⟩+1:=by rw [← JbA,List.length_map];exact hlen
 have hw2:=hw.alloc ((Lib.splitB ⟨#[32]⟩ 0 (Lib.countB (B s) ⟨#[32]⟩) (B s)).map Value.string).toArray (ρ.t 9)
 have hr:J0 ES G (At w.heap.size 0) (JH s).length (JH s) [Sg w.heap.size 0 ((Lib.splitB ⟨#[32]⟩ 0 (Lib.countB (B s) ⟨#[32]⟩) (B s)).map Value.string)]:=by
  have:=J0.of_lit (E:=ES) (G:=G) (b:=w.heap.size) _ _ (Jik G (Lib.splitB ⟨#[32]⟩ 0 (Lib.countB (B s) ⟨#[32]⟩) (B s)) (fun x hx=>by
   have:x.data.toList∈JH s:=by rw [← JbA];exact List.mem_map.2 ⟨x,hx,rfl⟩
   have:=Jfi this;omega)) (by rw [List.length_map,hlen];omega)
  rw [JbA] at this
  rwa [show ((Lib.splitB ⟨#[32]⟩ 0 (Lib.countB (B s) ⟨#[32]⟩) (B s)).map fun x=>[Value.string x]).flatten=(Lib.splitB ⟨#[32]⟩ 0 (Lib.countB (B s) ⟨#[32]⟩) (B s)).map Value.string from flat1 _ _] at this
 exact ⟨_,G,[[Sg w.heap.size 0 ((Lib.splitB ⟨#[32]⟩ 0 (Lib.countB (B s) ⟨#[32]⟩) (B s)).map Value.string)]],rfl,by simpa using hw2,Jp.le_refl _,w.heap.size,_,by rw [hl],hr,rfl⟩
theorem JnB {P:Program} {ρ:Ren} (L:Lays.n156 P ρ) (X:Builder.Extra P ρ) (G:Jp) (b o c:Nat) (l:List (List UInt8)) (sep:List UInt8) (hr:RS ES G (At b o) c l) (hne:l ≠ []) (hn:l.length≤140737488355328) (hj:(Lib.join l sep).length≤140737488355328) :
  Vi P (ρ.f 156) #[Sl (At b o) l.length c,Sr sep] G [] (fun u _ _=>u=Sr (Lib.join l sep)):=Jhd fun w hG=>by
 have hm:(l.map B).map (·.data.toList)=l:=by rw [List.map_map];exact (List.map_congr_left fun x _=>JdM x).trans (List.map_id _)
 have hget:∀ (j:Nat) x,(l.map B)[j]? = some x→w.cell? ⟨b,o+j,none⟩=some (.string x):=fun j x hx=>by
  rw [List.getElem?_map] at hx
  obtain ⟨y,hy,rfl⟩:=Option.map_eq_some_iff.1 hx
  obtain ⟨cs,⟨rfl,_⟩,h2⟩:=hr.elem _ rfl j y hy
  have:=hG _ _ _ (h2 0 _ rfl)
  simpa [ES] using this
 have hb:b<w.heap.size:=by
  cases l with
  | nil=>exact (hne rfl).elim
  | cons x l=>exact Wv (hget 0 _ rfl)
 have:=Any.strings_Join L X b o c (l.map B) (B sep) w hget hb (by rw [List.length_map];exact hn) (by rw [List.length_map];exact hr.le) (by rw [hm,JdM];exact hj)
 rw [hm,JdM,List.length_map] at this
 exact this
open Go.Lib Go.Sort
def Jhi:Go.Shelf.Ren:=⟨fun x=>if Nat.beq x 129 then 223 else if Nat.beq x 138 then 132 else if Nat.beq x 143 then 133 else if Nat.beq x 156 then 50 else if Nat.beq x 165 then 90 else if Nat.beq x 166 then 91 else if Nat.beq x 169 then 92 else if Nat.beq x 171 then 46 else if Nat.beq x 172 then 192 else if Nat.beq x 195 then 188 else if Nat.beq x 197 then 189 else if Nat.beq x 205 then 267 else if Nat.beq x 217 then 228 else if Nat.beq x 218 then 190 else if Nat.beq x 219 then 191 else if Nat.beq x 221 then 77 else if Nat.beq x 224 then 230 else if Nat.beq x 225 then 229 else if Nat.beq x 240 then 144 else if Nat.beq x 241 then 145 else if Nat.beq x 243 then 76 else if Nat.beq x 244 then 232 else if Nat.beq x 245 then 233 else if Nat.beq x 246 then 130 else if Nat.beq x 247 then 255 else if Nat.beq x 260 then 227 else if Nat.beq x 266 then 253 else if Nat.beq x 267 then 231 else if Nat.beq x 268 then 131 else if Nat.beq x 276 then 197 else if Nat.beq x 277 then 198 else if Nat.beq x 279 then 256 else if Nat.beq x 280 then 257 else if Nat.beq x 281 then 258 else if Nat.beq x 282 then 259 else if Nat.beq x 283 then 184 else if Nat.beq x 284 then 185 else if Nat.beq x 285 then 186 else if Nat.beq x 286 then 187 else if Nat.beq x 287 then 265 else if Nat.beq x 314 then 254 else if Nat.beq x 316 then 266 else if Nat.beq x 317 then 222 else if Nat.beq x 318 then 224 else if Nat.beq x 319 then 225 else if Nat.beq x 320 then 226 else if Nat.beq x 321 then 271 else if Nat.beq x 322 then 272 else if Nat.beq x 337 then 251 else if Nat.beq x 338 then 252 else x,fun x=>if Nat.beq x 31 then 22 else if Nat.beq x 37 then 35 else if Nat.beq x 46 then 98 else if Nat.beq x 51 then 132 else if Nat.beq x 53 then 41 else if Nat.beq x 70 then 163 else if Nat.beq x 72 then 165 else if Nat.beq x 75 then 168 else if Nat.beq x 76 then 169 else if Nat.beq x 80 then 171 else if Nat.beq x 85 then 336 else if Nat.beq x 105 then 273 else if Nat.beq x 119 then 330 else if Nat.beq x 127 then 227 else if Nat.beq x 138 then 332 else if Nat.beq x 139 then 333 else if Nat.beq x 143 then 352 else if Nat.beq x 145 then 354 else if Nat.beq x 146 then 133 else if Nat.beq x 164 then 280 else if Nat.beq x 167 then 335 else if Nat.beq x 168 then 338 else if Nat.beq x 171 then 268 else if Nat.beq x 173 then 271 else if Nat.beq x 175 then 344 else if Nat.beq x 210 then 347 else if Nat.beq x 212 then 310 else if Nat.beq x 213 then 311 else if Nat.beq x 232 then 342 else if Nat.beq x 233 then 343 else x,fun x=>if Nat.beq x 1 then 3 else if Nat.beq x 3 then 4 else if Nat.beq x 4 then 5 else if Nat.beq x 15 then 8 else if Nat.beq x 16 then 9 else if Nat.beq x 17 then 2 else if Nat.beq x 18 then 6 else if Nat.beq x 19 then 7 else x⟩
theorem Jo8:LaysM.n171 Tryz.prog Jhi:={
 mixed:=rfl,
 f129:=Tryz.func223.trans (by kernel_rfl),
 f171:=Tryz.func46.trans (by kernel_rfl),
 f243:=Tryz.func76.trans (by kernel_rfl),
 f246:=Tryz.func130.trans (by kernel_rfl),
 f283:=Tryz.func184.trans (by kernel_rfl),
 f284:=Tryz.func185.trans (by kernel_rfl),
 f285:=Tryz.func186.trans (by kernel_rfl),
 f286:=Tryz.func187.trans (by kernel_rfl),
 f317:=Tryz.func222.trans (by kernel_rfl),
 f318:=Tryz.func224.trans (by kernel_rfl),
 f319:=Tryz.func225.trans (by kernel_rfl),
 f320:=Tryz.func226.trans (by kernel_rfl),
 f337:=Tryz.func251.trans (by kernel_rfl),
 f338:=Tryz.func252.trans (by kernel_rfl),
 t0:=by kernel_rfl,
 a0:=fun _=>by kernel_rfl,
 z0:=fun _=>by kernel_rfl,
 v0:=fun _=>by kernel_rfl,
 t2:=by kernel_rfl,
 a2:=fun _=>by kernel_rfl,
 z2:=fun _=>by kernel_rfl,
 v2:=fun _=>by kernel_rfl,
 t3:=by kernel_rfl,
 a3:=fun _=>by kernel_rfl,
 z3:=fun _=>by kernel_rfl,
 v3:=fun _=>by kernel_rfl,
 t4:=by kernel_rfl,
 a4:=fun _=>by kernel_rfl,
 z4:=fun _=>by kernel_rfl,
 v4:=fun _=>by kernel_rfl,
 t5:=by kernel_rfl,
 a5:=fun _=>by kernel_rfl,
 z5:=fun _=>by kernel_rfl,
 v5:=fun _=>by kernel_rfl,
 t9:=by kernel_rfl,
 a9:=fun _=>by kernel_rfl,
 z9:=fun _=>by kernel_rfl,
 v9:=fun _=>by kernel_rfl,
 t20:=by kernel_rfl,
 a20:=fun _=>by kernel_rfl,
 z20:=fun _=>by kernel_rfl,
 v20:=fun _=>by kernel_rfl,
 t37:=by kernel_rfl,
 a37:=fun _=>by kernel_rfl,
 z37:=fun _=>by kernel_rfl,
 v37:=fun _=>by kernel_rfl,
 t46:=by kernel_rfl,
 a46:=fun _=>by kernel_rfl,
 z46:=fun _=>by kernel_rfl,
 v46:=fun _=>by kernel_rfl,
 t51:=by kernel_rfl,
 a51:=fun _=>by kernel_rfl,
 z51:=fun _=>by kernel_rfl,
 v51:=fun _=>by kernel_rfl,
 t53:=by kernel_rfl,
 a53:=fun _=>by kernel_rfl,
 z53:=fun _=>by kernel_rfl,
 v53:=fun _=>by kernel_rfl,
 t171:=by kernel_rfl,
 a171:=fun _=>by kernel_rfl,
 z171:=fun _=>by kernel_rfl,
 v171:=fun _=>by kernel_rfl,
 t173:=by kernel_rfl,
 a173:=fun _=>by kernel_rfl,
 z173:=fun _=>by kernel_rfl,
 v173:=fun _=>by kernel_rfl,
 t212:=by kernel_rfl,
 a212:=fun _=>by kernel_rfl,
 z212:=fun _=>by kernel_rfl,
 v212:=fun _=>by kernel_rfl,
 t213:=by kernel_rfl,
 a213:=fun _=>by kernel_rfl,
 z213:=fun _=>by kernel_rfl,
 t232:=by kernel_rfl,
 a232:=fun _=>by kernel_rfl,
 z232:=fun _=>by kernel_rfl,
 v232:=fun _=>by kernel_rfl,
 t233:=by kernel_rfl,
 a233:=fun _=>by kernel_rfl,
 z233:=fun _=>by kernel_rfl,
 v233:=fun _=>by kernel_rfl,
 g17:=by kernel_rfl,
 g18:=by kernel_rfl,
 g19:=by kernel_rfl,
 i0:=by kernel_rfl,
 i2:=by kernel_rfl,
 i3:=by kernel_rfl,
 i4:=by kernel_rfl,
 i5:=by kernel_rfl,
 i9:=by kernel_rfl,
 i20:=by kernel_rfl,
 i37:=by kernel_rfl,
 i46:=by kernel_rfl,
 i51:=by kernel_rfl,
 i53:=by kernel_rfl,
 i171:=by kernel_rfl,
 i173:=by kernel_rfl,
 i212:=by kernel_rfl,
 i232:=by kernel_rfl,
 i233:=by kernel_rfl,
 m17:=by kernel_rfl,
 m18:=by kernel_rfl,
 m19:=by kernel_rfl }
theorem Jo9:LaysC.n172 Tryz.prog Jhi:={
 mixed:=rfl,
 f129:=Tryz.func223.trans (by kernel_rfl),
 f171:=Tryz.func46.trans (by kernel_rfl),
 f172:=Tryz.func192.trans (by kernel_rfl),
 f205:=Tryz.func267.trans (by kernel_rfl),
 f243:=Tryz.func76.trans (by kernel_rfl),
 f244:=Tryz.func232.trans (by kernel_rfl),
 f245:=Tryz.func233.trans (by kernel_rfl),
 f246:=Tryz.func130.trans (by kernel_rfl),
 f247:=Tryz.func255.trans (by kernel_rfl),
 f279:=Tryz.func256.trans (by kernel_rfl),
 f280:=Tryz.func257.trans (by kernel_rfl),
 f281:=Tryz.func258.trans (by kernel_rfl),
 f282:=Tryz.func259.trans (by kernel_rfl),
 f283:=Tryz.func184.trans (by kernel_rfl),
 f284:=Tryz.func185.trans (by kernel_rfl),
 f285:=Tryz.func186.trans (by kernel_rfl),
 f286:=Tryz.func187.trans (by kernel_rfl),
 f287:=Tryz.func265.trans (by kernel_rfl),
 f316:=Tryz.func266.trans (by kernel_rfl),
 f317:=Tryz.func222.trans (by kernel_rfl),
 f318:=Tryz.func224.trans (by kernel_rfl),
 f319:=Tryz.func225.trans (by kernel_rfl),
 f320:=Tryz.func226.trans (by kernel_rfl),
 f321:=Tryz.func271.trans (by kernel_rfl),
 f322:=Tryz.func272.trans (by kernel_rfl),
 f337:=Tryz.func251.trans (by kernel_rfl),
 f338:=Tryz.func252.trans (by kernel_rfl),
 t0:=by kernel_rfl,
 a0:=fun _=>by kernel_rfl,
 z0:=fun _=>by kernel_rfl,
 v0:=fun _=>by kernel_rfl,
 t2:=by kernel_rfl,
 a2:=fun _=>by kernel_rfl,
 z2:=fun _=>by kernel_rfl,
 v2:=fun _=>by kernel_rfl,
 t3:=by kernel_rfl,
 a3:=fun _=>by kernel_rfl,
 z3:=fun _=>by kernel_rfl,
 v3:=fun _=>by kernel_rfl,
 t4:=by kernel_rfl,
 a4:=fun _=>by kernel_rfl,
 z4:=fun _=>by kernel_rfl,
 v4:=fun _=>by kernel_rfl,
 t5:=by kernel_rfl,
 a5:=fun _=>by kernel_rfl,
 z5:=fun _=>by kernel_rfl,
 v5:=fun _=>by kernel_rfl,
 t9:=by kernel_rfl,
 a9:=fun _=>by kernel_rfl,
 z9:=fun _=>by kernel_rfl,
 v9:=fun _=>by kernel_rfl,
 t20:=by kernel_rfl,
 a20:=fun _=>by kernel_rfl,
 z20:=fun _=>by kernel_rfl,
 v20:=fun _=>by kernel_rfl,
 t21:=by kernel_rfl,
 a21:=fun _=>by kernel_rfl,
 z21:=fun _=>by kernel_rfl,
 v21:=fun _=>by kernel_rfl,
 t37:=by kernel_rfl,
 a37:=fun _=>by kernel_rfl,
 z37:=fun _=>by kernel_rfl,
 v37:=fun _=>by kernel_rfl,
 t46:=by kernel_rfl,
 a46:=fun _=>by kernel_rfl,
 z46:=fun _=>by kernel_rfl,
 v46:=fun _=>by kernel_rfl,
 t51:=by kernel_rfl,
 a51:=fun _=>by kernel_rfl,
 z51:=fun _=>by kernel_rfl,
 v51:=fun _=>by kernel_rfl,
 t53:=by kernel_rfl,
 a53:=fun _=>by kernel_rfl,
 z53:=fun _=>by kernel_rfl,
 v53:=fun _=>by kernel_rfl,
 t75:=by kernel_rfl,
 a75:=fun _=>by kernel_rfl,
 z75:=fun _=>by kernel_rfl,
 v75:=fun _=>by kernel_rfl,
 t76:=by kernel_rfl,
 a76:=fun _=>by kernel_rfl,
 z76:=fun _=>by kernel_rfl,
 v76:=fun _=>by kernel_rfl,
 t85:=by kernel_rfl,
 a85:=fun _=>by kernel_rfl,
 z85:=fun _=>by kernel_rfl,
 v85:=fun _=>by kernel_rfl,
 t127:=by kernel_rfl,
 a127:=fun _=>by kernel_rfl,
 z127:=fun _=>by kernel_rfl,
 v127:=fun _=>by kernel_rfl,
 t143:=by kernel_rfl,
 a143:=fun _=>by kernel_rfl,
 z143:=fun _=>by kernel_rfl,
 v143:=fun _=>by kernel_rfl,
 t145:=by kernel_rfl,
 a145:=fun _=>by kernel_rfl,
 z145:=fun _=>by kernel_rfl,
 v145:=fun _=>by kernel_rfl,
 t167:=by kernel_rfl,
 a167:=fun _=>by kernel_rfl,
 z167:=fun _=>by kernel_rfl,
 v167:=fun _=>by kernel_rfl,
 t168:=by kernel_rfl,
 a168:=fun _=>by kernel_rfl,
 z168:=fun _=>by kernel_rfl,
 v168:=fun _=>by kernel_rfl,
 t171:=by kernel_rfl,
 a171:=fun _=>by kernel_rfl,
 z171:=fun _=>by kernel_rfl,
 v171:=fun _=>by kernel_rfl,
 t173:=by kernel_rfl,
 a173:=fun _=>by kernel_rfl,
 z173:=fun _=>by kernel_rfl,
 v173:=fun _=>by kernel_rfl,
 t175:=by kernel_rfl,
 a175:=fun _=>by kernel_rfl,
 z175:=fun _=>by kernel_rfl,
 v175:=fun _=>by kernel_rfl,
 t210:=by kernel_rfl,
 a210:=fun _=>by kernel_rfl,
 z210:=fun _=>by kernel_rfl,
 v210:=fun _=>by kernel_rfl,
 t212:=by kernel_rfl,
 a212:=fun _=>by kernel_rfl,
 z212:=fun _=>by kernel_rfl,
 v212:=fun _=>by kernel_rfl,
 t213:=by kernel_rfl,
 a213:=fun _=>by kernel_rfl,
 z213:=fun _=>by kernel_rfl,
 t232:=by kernel_rfl,
 a232:=fun _=>by kernel_rfl,
 z232:=fun _=>by kernel_rfl,
 v232:=fun _=>by kernel_rfl,
 t233:=by kernel_rfl,
 a233:=fun _=>by kernel_rfl,
 z233:=fun _=>by kernel_rfl,
 v233:=fun _=>by kernel_rfl,
 g15:=by kernel_rfl,
 g16:=by kernel_rfl,
 g17:=by kernel_rfl,
 g18:=by kernel_rfl,
 g19:=by kernel_rfl,
 t80:=by kernel_rfl,
 a80:=fun _=>by kernel_rfl,
 z80:=fun _=>by kernel_rfl,
 v80:=fun _=>by kernel_rfl,
 i0:=by kernel_rfl,
 i2:=by kernel_rfl,
 i3:=by kernel_rfl,
 i4:=by kernel_rfl,
 i5:=by kernel_rfl,
 i9:=by kernel_rfl,
 i20:=by kernel_rfl,
 i21:=by kernel_rfl,
 i37:=by kernel_rfl,
 i46:=by kernel_rfl,
 i51:=by kernel_rfl,
 i53:=by kernel_rfl,
 i75:=by kernel_rfl,
 i76:=by kernel_rfl,
 i80:=by kernel_rfl,
 i85:=by kernel_rfl,
 i127:=by kernel_rfl,
 i143:=by kernel_rfl,
 i145:=by kernel_rfl,
 i167:=by kernel_rfl,
 i168:=by kernel_rfl,
 i171:=by kernel_rfl,
 i173:=by kernel_rfl,
 i175:=by kernel_rfl,
 i210:=by kernel_rfl,
 i212:=by kernel_rfl,
 i232:=by kernel_rfl,
 i233:=by kernel_rfl,
 m15:=by kernel_rfl,
 m16:=by kernel_rfl,
 m17:=by kernel_rfl,
 m18:=by kernel_rfl,
 m19:=by kernel_rfl,
 c0:=by kernel_rfl,
 c2:=by kernel_rfl,
 c3:=by kernel_rfl,
 c4:=by kernel_rfl,
 c5:=by kernel_rfl,
 c9:=by kernel_rfl,
 c20:=by kernel_rfl,
 c21:=by kernel_rfl,
 c37:=by kernel_rfl,
 c46:=by kernel_rfl,
 c51:=by kernel_rfl,
 c53:=by kernel_rfl,
 c75:=by kernel_rfl,
 c76:=by kernel_rfl,
 c80:=by kernel_rfl,
 c85:=by kernel_rfl,
 c127:=by kernel_rfl,
 c143:=by kernel_rfl,
 c145:=by kernel_rfl,
 c167:=by kernel_rfl,
 c168:=by kernel_rfl,
 c171:=by kernel_rfl,
 c173:=by kernel_rfl,
 c175:=by kernel_rfl,
 c210:=by kernel_rfl,
 c212:=by kernel_rfl,
 c213:=by kernel_rfl,
 c232:=by kernel_rfl,
 c233:=by kernel_rfl }
theorem Jpa:Lays.n221 Tryz.prog Jhi:={
 mixed:=rfl,
 f138:=Tryz.func132.trans (by kernel_rfl),
 f143:=Tryz.func133.trans (by kernel_rfl),
 f195:=Tryz.func188.trans (by kernel_rfl),
 f197:=Tryz.func189.trans (by kernel_rfl),
 f217:=Tryz.func228.trans (by kernel_rfl),
 f218:=Tryz.func190.trans (by kernel_rfl),
 f219:=Tryz.func191.trans (by kernel_rfl),
 f221:=Tryz.func77.trans (by kernel_rfl),
 f224:=Tryz.func230.trans (by kernel_rfl),
 f225:=Tryz.func229.trans (by kernel_rfl),
 f260:=Tryz.func227.trans (by kernel_rfl),
 f266:=Tryz.func253.trans (by kernel_rfl),
 f267:=Tryz.func231.trans (by kernel_rfl),
 f268:=Tryz.func131.trans (by kernel_rfl),
 f314:=Tryz.func254.trans (by kernel_rfl),
 t0:=by kernel_rfl,
 a0:=fun _=>by kernel_rfl,
 z0:=fun _=>by kernel_rfl,
 v0:=fun _=>by kernel_rfl,
 t3:=by kernel_rfl,
 a3:=fun _=>by kernel_rfl,
 z3:=fun _=>by kernel_rfl,
 v3:=fun _=>by kernel_rfl,
 t4:=by kernel_rfl,
 a4:=fun _=>by kernel_rfl,
 z4:=fun _=>by kernel_rfl,
 v4:=fun _=>by kernel_rfl,
 t5:=by kernel_rfl,
 a5:=fun _=>by kernel_rfl,
 z5:=fun _=>by kernel_rfl,
 v5:=fun _=>by kernel_rfl,
 t9:=by kernel_rfl,
 a9:=fun _=>by kernel_rfl,
 z9:=fun _=>by kernel_rfl,
 v9:=fun _=>by kernel_rfl,
 t21:=by kernel_rfl,
 a21:=fun _=>by kernel_rfl,
 z21:=fun _=>by kernel_rfl,
 v21:=fun _=>by kernel_rfl,
 t31:=by kernel_rfl,
 a31:=fun _=>by kernel_rfl,
 z31:=fun _=>by kernel_rfl,
 v31:=fun _=>by kernel_rfl,
 t46:=by kernel_rfl,
 a46:=fun _=>by kernel_rfl,
 z46:=fun _=>by kernel_rfl,
 v46:=fun _=>by kernel_rfl,
 t51:=by kernel_rfl,
 a51:=fun _=>by kernel_rfl,
 z51:=fun _=>by kernel_rfl,
 v51:=fun _=>by kernel_rfl,
 t105:=by kernel_rfl,
 a105:=fun _=>by kernel_rfl,
 z105:=fun _=>by kernel_rfl,
 v105:=fun _=>by kernel_rfl,
 t119:=by kernel_rfl,
 a119:=fun _=>by kernel_rfl,
 z119:=fun _=>by kernel_rfl,
 t138:=by kernel_rfl,
 a138:=fun _=>by kernel_rfl,
 z138:=fun _=>by kernel_rfl,
 v138:=fun _=>by kernel_rfl,
 t139:=by kernel_rfl,
 a139:=fun _=>by kernel_rfl,
 z139:=fun _=>by kernel_rfl,
 v139:=fun _=>by kernel_rfl,
 t146:=by kernel_rfl,
 a146:=fun _=>by kernel_rfl,
 z146:=fun _=>by kernel_rfl,
 v146:=fun _=>by kernel_rfl,
 g1:=by kernel_rfl,
 g3:=by kernel_rfl,
 g4:=by kernel_rfl }
theorem Jpb:Lays.n138 Tryz.prog Jhi:={
 mixed:=rfl,
 f138:=Tryz.func132.trans (by kernel_rfl),
 f143:=Tryz.func133.trans (by kernel_rfl),
 f195:=Tryz.func188.trans (by kernel_rfl),
 f217:=Tryz.func228.trans (by kernel_rfl),
 f218:=Tryz.func190.trans (by kernel_rfl),
 f219:=Tryz.func191.trans (by kernel_rfl),
 f224:=Tryz.func230.trans (by kernel_rfl),
 f225:=Tryz.func229.trans (by kernel_rfl),
 f266:=Tryz.func253.trans (by kernel_rfl),
 f267:=Tryz.func231.trans (by kernel_rfl),
 f314:=Tryz.func254.trans (by kernel_rfl),
 t0:=by kernel_rfl,
 a0:=fun _=>by kernel_rfl,
 z0:=fun _=>by kernel_rfl,
 v0:=fun _=>by kernel_rfl,
 t3:=by kernel_rfl,
 a3:=fun _=>by kernel_rfl,
 z3:=fun _=>by kernel_rfl,
 v3:=fun _=>by kernel_rfl,
 t4:=by kernel_rfl,
 a4:=fun _=>by kernel_rfl,
 z4:=fun _=>by kernel_rfl,
 v4:=fun _=>by kernel_rfl,
 t5:=by kernel_rfl,
 a5:=fun _=>by kernel_rfl,
 z5:=fun _=>by kernel_rfl,
 v5:=fun _=>by kernel_rfl,
 t9:=by kernel_rfl,
 a9:=fun _=>by kernel_rfl,
 z9:=fun _=>by kernel_rfl,
 v9:=fun _=>by kernel_rfl,
 t46:=by kernel_rfl,
 a46:=fun _=>by kernel_rfl,
 z46:=fun _=>by kernel_rfl,
 v46:=fun _=>by kernel_rfl,
 t51:=by kernel_rfl,
 a51:=fun _=>by kernel_rfl,
 z51:=fun _=>by kernel_rfl,
 v51:=fun _=>by kernel_rfl,
 t146:=by kernel_rfl,
 a146:=fun _=>by kernel_rfl,
 z146:=fun _=>by kernel_rfl,
 v146:=fun _=>by kernel_rfl,
 g1:=by kernel_rfl }
theorem Jpc:Lays.n143 Tryz.prog Jhi:={
 mixed:=rfl,
 f143:=Tryz.func133.trans (by kernel_rfl),
 f217:=Tryz.func228.trans (by kernel_rfl),
 f219:=Tryz.func191.trans (by kernel_rfl),
 f224:=Tryz.func230.trans (by kernel_rfl),
 f225:=Tryz.func229.trans (by kernel_rfl),
 f266:=Tryz.func253.trans (by kernel_rfl),
 f267:=Tryz.func231.trans (by kernel_rfl),
 f314:=Tryz.func254.trans (by kernel_rfl),
 t3:=by kernel_rfl,
 a3:=fun _=>by kernel_rfl,
 z3:=fun _=>by kernel_rfl,
 v3:=fun _=>by kernel_rfl,
 t4:=by kernel_rfl,
 a4:=fun _=>by kernel_rfl,
 z4:=fun _=>by kernel_rfl,
 v4:=fun _=>by kernel_rfl,
 t5:=by kernel_rfl,
 a5:=fun _=>by kernel_rfl,
 z5:=fun _=>by kernel_rfl,
 v5:=fun _=>by kernel_rfl,
 t9:=by kernel_rfl,
 a9:=fun _=>by kernel_rfl,
 z9:=fun _=>by kernel_rfl,
 v9:=fun _=>by kernel_rfl,
 t46:=by kernel_rfl,
 a46:=fun _=>by kernel_rfl,
 z46:=fun _=>by kernel_rfl,
 v46:=fun _=>by kernel_rfl,
 t51:=by kernel_rfl,
 a51:=fun _=>by kernel_rfl,
 z51:=fun _=>by kernel_rfl,
 v51:=fun _=>by kernel_rfl,
 t146:=by kernel_rfl,
 a146:=fun _=>by kernel_rfl,
 z146:=fun _=>by kernel_rfl,
 v146:=fun _=>by kernel_rfl,
 g1:=by kernel_rfl }
theorem Jpd:Lays.n156 Tryz.prog Jhi:={
 mixed:=rfl,
 f156:=Tryz.func50.trans (by kernel_rfl),
 f165:=Tryz.func90.trans (by kernel_rfl),
 f166:=Tryz.func91.trans (by kernel_rfl),
 f169:=Tryz.func92.trans (by kernel_rfl),
 f240:=Tryz.func144.trans (by kernel_rfl),
 f241:=Tryz.func145.trans (by kernel_rfl),
 f276:=Tryz.func197.trans (by kernel_rfl),
 f277:=Tryz.func198.trans (by kernel_rfl),
 t0:=by kernel_rfl,
 a0:=fun _=>by kernel_rfl,
 z0:=fun _=>by kernel_rfl,
 v0:=fun _=>by kernel_rfl,
 t3:=by kernel_rfl,
 a3:=fun _=>by kernel_rfl,
 z3:=fun _=>by kernel_rfl,
 v3:=fun _=>by kernel_rfl,
 t4:=by kernel_rfl,
 a4:=fun _=>by kernel_rfl,
 z4:=fun _=>by kernel_rfl,
 v4:=fun _=>by kernel_rfl,
 t9:=by kernel_rfl,
 a9:=fun _=>by kernel_rfl,
 z9:=fun _=>by kernel_rfl,
 v9:=fun _=>by kernel_rfl,
 t20:=by kernel_rfl,
 a20:=fun _=>by kernel_rfl,
 z20:=fun _=>by kernel_rfl,
 v20:=fun _=>by kernel_rfl,
 t31:=by kernel_rfl,
 a31:=fun _=>by kernel_rfl,
 z31:=fun _=>by kernel_rfl,
 v31:=fun _=>by kernel_rfl,
 t37:=by kernel_rfl,
 a37:=fun _=>by kernel_rfl,
 z37:=fun _=>by kernel_rfl,
 v37:=fun _=>by kernel_rfl,
 t70:=by kernel_rfl,
 a70:=fun _=>by kernel_rfl,
 z70:=fun _=>by kernel_rfl,
 v70:=fun _=>by kernel_rfl,
 t72:=by kernel_rfl,
 a72:=fun _=>by kernel_rfl,
 z72:=fun _=>by kernel_rfl,
 v72:=fun _=>by kernel_rfl,
 t75:=by kernel_rfl,
 a75:=fun _=>by kernel_rfl,
 z75:=fun _=>by kernel_rfl,
 v75:=fun _=>by kernel_rfl,
 t76:=by kernel_rfl,
 a76:=fun _=>by kernel_rfl,
 z76:=fun _=>by kernel_rfl,
 v76:=fun _=>by kernel_rfl,
 t127:=by kernel_rfl,
 a127:=fun _=>by kernel_rfl,
 z127:=fun _=>by kernel_rfl,
 v127:=fun _=>by kernel_rfl,
 t164:=by kernel_rfl,
 a164:=fun _=>by kernel_rfl,
 z164:=fun _=>by kernel_rfl,
 v164:=fun _=>by kernel_rfl }
theorem extraB:Builder.Extra Tryz.prog Jhi:={ sizeBuilder:=by kernel_rfl,liesBuilder:=by kernel_rfl,t5:=by kernel_rfl,a5:=fun _=>by kernel_rfl,z5:=fun _=>by kernel_rfl,v5:=fun _=>by kernel_rfl,infoByte:=by kernel_rfl,cellsByte:=by kernel_rfl,sizeByte:=by kernel_rfl,neB5:=by decide }
theorem Jil (G:Jp) (n:Int) (h:-9223372036854775808≤n∧n<9223372036854775808):JaD Tryz.prog 46 #[I n] G [] (fun u _ _=>u=Sr (Lib.itoa n)) (fun _ _ _=>False):=(Jnz Jo8 G n h).mono (fun _ _ _ h=>h.1) (fun _ _ _ h=>h)
theorem JnC (G:Jp) (s:List UInt8) (hs:s.length≤140737488355328):JaD Tryz.prog 192 #[Sr s] G [] (fun u _ L'=>((∃ v,JaU s=some v∧u=.tuple #[I v,.nilIface])∨(JaU s=none∧∃ v N,u=.tuple #[I v,.iface (Jhi.t 168) (Pt N 0)]))∧L'=[]) (fun _ _ _=>False):=JnA Jo9 (by kernel_rfl) (by kernel_rfl) G s hs
theorem JjX (G:Jp) (s:List UInt8) (hs:s.length<4294967281):Vi Tryz.prog 77 #[Sr s,Sr [32],I 0,I (-1)] G [] (fun u G' L'=>∃ b r,u=Sl (At b 0) (JH s).length (JH s).length∧J0 ES G' (At b 0) (JH s).length (JH s) r∧L'=[r]):=JjW Jpa Jpb Jpc (by kernel_rfl) G s hs
theorem Jc4 (G:Jp) (b o c:Nat) (l:List (List UInt8)) (sep:List UInt8) (hr:RS ES G (At b o) c l) (hne:l ≠ []) (hn:l.length≤140737488355328) (hj:(Lib.join l sep).length≤140737488355328) :
  Vi Tryz.prog 50 #[Sl (At b o) l.length c,Sr sep] G [] (fun u _ _=>u=Sr (Lib.join l sep)):=JnB Jpd extraB G b o c l sep hr hne hn hj
theorem Jl0 (G:Jp) (s:List UInt8) (hs:s.length<4294967281):Yi 47 #[Sr s,Sr ([32])] G [] (fun u G' L'=>∃ (a1:Option Addr) (c2:Nat) (r3:List Kg),u=Sl a1 ((JH s).length) c2∧(J0 ES G' a1 c2 (JH s) r3)∧L'=[r3]):=by
 refine JN Tryz.func47 8 [(0,Sr s),(1,Sr ([32]))] rfl (fun w0 G0=>?_)
 refine Jf [0] [] (Je (Jc (Ja [0,0] [(5,Sr s),(6,Sr ([32]))] (JF 7 (JjX G s J7) (fun v G1 L1 hl1 hp=>?_)))))
 obtain ⟨b1,r1,rfl,hr1,rfl⟩:=hp
 refine Ja [0] [(4,Sl (At b1 0) ((JH s).length) ((JH s).length))] (Jd (Jb (Jl (Ji 0 ?_))))
 have hf1:JH s=(JH s):=by
  rfl
 refine Jm [0] [Sl (At b1 0) ((JH s).length) ((JH s).length)] (Jy [r1] hl1 ?_)
 rw [hf1]
 try dsimp only
 exact ⟨(At b1 0),((JH s).length),r1,rfl,hr1,rfl⟩
theorem Yd (n:Int) (G:Jp):Vi Tryz.prog 182 #[U n] G [] (fun u G' L'=>u=Sr (KX n)):=by
 refine JN Tryz.func182 19 [(0,U n)] rfl (fun w0 G0=>?_)
 refine Jf [0] [] (Je (Jc (Jv 3 #[Y 0,Y 0,Y 0,Y 0,Y 0,Y 0,Y 0,Y 0] 307 (fun b1=>Jd (Jb (Je (Jf [0] [(5,I 0)] (Jz (JdC 9 (Wq (Jf [0] [(6,Bo true)] (Je (JU (Jo (Jb (Je (Jz (Jf [0,0] [(4,I 0)] (Jc (JV [0,0,0,0,0,0,0,0,3] [] [[Sg b1 0 [Y (IntKind.u8.wrap ((n).fdiv (2 ^ 56))),Y 0,Y 0,Y 0,Y 0,Y 0,Y 0,Y 0]]] (Jd (JM (Jb (Jc ?_))))))))))))))))))))))))
 refine Ja [0,0] [(5,I 1)] (Jd (WG (Wq (Jf [0] [(6,Bo true)] (Je (JU (Jo (Jb (Je (Jz (Jf [0,0] [(4,I 1)] (Jc (JV [0,0,0,0,0,0,0,0,3] [] [[Sg b1 0 [Y (IntKind.u8.wrap ((n).fdiv (2 ^ 56))),Y (IntKind.u8.wrap ((n).fdiv (2 ^ 48))),Y 0,Y 0,Y 0,Y 0,Y 0,Y 0]]] (Jd (JM (Jb (Jc (Ja [0,0] [(5,I 2)] (Jd (WG (Wq ?_)))))))))))))))))))))
 refine Jf [0] [(6,Bo true)] (Je (JU (Jo (Jb (Je (Jz (Jf [0,0] [(4,I 2)] (Jc (JV [0,0,0,0,0,0,0,0,3] [] [[Sg b1 0 [Y (IntKind.u8.wrap ((n).fdiv (2 ^ 56))),Y (IntKind.u8.wrap ((n).fdiv (2 ^ 48))),Y (IntKind.u8.wrap ((n).fdiv (2 ^ 40))),Y 0,Y 0,Y 0,Y 0,Y 0]]] (Jd (JM (Jb (Jc (Ja [0,0] [(5,I 3)] (Jd (WG (Wq (Jf [0] [(6,Bo true)] (Je (JU (Jo (Jb (Je (Jz ?_))))))))))))))))))))))))
 refine Jf [0,0] [(4,I 3)] (Jc (JV [0,0,0,0,0,0,0,0,3] [] [[Sg b1 0 [Y (IntKind.u8.wrap ((n).fdiv (2 ^ 56))),Y (IntKind.u8.wrap ((n).fdiv (2 ^ 48))),Y (IntKind.u8.wrap ((n).fdiv (2 ^ 40))),Y (IntKind.u8.wrap ((n).fdiv (2 ^ 32))),Y 0,Y 0,Y 0,Y 0]]] (Jd (JM (Jb (Jc (Ja [0,0] [(5,I 4)] (Jd (WG (Wq (Jf [0] [(6,Bo true)] (Je (JU (Jo (Jb (Je (Jz (Jf [0,0] [(4,I 4)] (Jc (JV [0,0,0,0,0,0,0,0,3] [] [[Sg b1 0 [Y (IntKind.u8.wrap ((n).fdiv (2 ^ 56))),Y (IntKind.u8.wrap ((n).fdiv (2 ^ 48))),Y (IntKind.u8.wrap ((n).fdiv (2 ^ 40))),Y (IntKind.u8.wrap ((n).fdiv (2 ^ 32))),Y (IntKind.u8.wrap ((n).fdiv (2 ^ 24))),Y 0,Y 0,Y 0]]] (Jd (JM (Jb (Jc (Ja [0,0] [(5,I 5)] (Jd ?_))))))))))))))))))))))))))
 refine WG (Wq (Jf [0] [(6,Bo true)] (Je (JU (Jo (Jb (Je (Jz (Jf [0,0] [(4,I 5)] (Jc (JV [0,0,0,0,0,0,0,0,3] [] [[Sg b1 0 [Y (IntKind.u8.wrap ((n).fdiv (2 ^ 56))),Y (IntKind.u8.wrap ((n).fdiv (2 ^ 48))),Y (IntKind.u8.wrap ((n).fdiv (2 ^ 40))),Y (IntKind.u8.wrap ((n).fdiv (2 ^ 32))),Y (IntKind.u8.wrap ((n).fdiv (2 ^ 24))),Y (IntKind.u8.wrap ((n).fdiv (2 ^ 16))),Y 0,Y 0]]] (Jd (JM (Jb (Jc (Ja [0,0] [(5,I 6)] (Jd (WG (Wq (Jf [0] [(6,Bo true)] (Je ?_)))))))))))))))))))))
 refine JU (Jo (Jb (Je (Jz (Jf [0,0] [(4,I 6)] (Jc (JV [0,0,0,0,0,0,0,0,3] [] [[Sg b1 0 [Y (IntKind.u8.wrap ((n).fdiv (2 ^ 56))),Y (IntKind.u8.wrap ((n).fdiv (2 ^ 48))),Y (IntKind.u8.wrap ((n).fdiv (2 ^ 40))),Y (IntKind.u8.wrap ((n).fdiv (2 ^ 32))),Y (IntKind.u8.wrap ((n).fdiv (2 ^ 24))),Y (IntKind.u8.wrap ((n).fdiv (2 ^ 16))),Y (IntKind.u8.wrap ((n).fdiv (2 ^ 8))),Y 0]]] (Jd (JM (Jb (Jc (Ja [0,0] [(5,I 7)] (Jd (WG (Wq (Jf [0] [(6,Bo true)] (Je (JU (Jo (Jb (Je (Jz (Jf [0,0] [(4,I 7)] (Jc ?_))))))))))))))))))))))))
 refine JV [0,0,0,0,0,0,0,0,3] [] [[Sg b1 0 [Y (IntKind.u8.wrap ((n).fdiv (2 ^ 56))),Y (IntKind.u8.wrap ((n).fdiv (2 ^ 48))),Y (IntKind.u8.wrap ((n).fdiv (2 ^ 40))),Y (IntKind.u8.wrap ((n).fdiv (2 ^ 32))),Y (IntKind.u8.wrap ((n).fdiv (2 ^ 24))),Y (IntKind.u8.wrap ((n).fdiv (2 ^ 16))),Y (IntKind.u8.wrap ((n).fdiv (2 ^ 8))),Y (IntKind.u8.wrap ((n).fdiv (2 ^ 0)))]]] (Jd (JM (Jb (Jc (Ja [0,0] [(5,I 8)] (Jd (WG (Wq (Jf [0] [(6,Bo false)] (Je (Qq (KW (JZ (JZ (JR (Jb (Je (Jc (Ja [0] [(17,Sl (At b1 0) 8 8)] (JaQ (b:=b1) (off:=0) (len:=8) (cap:=8) (cs:=List.map (Value.int .u8) [IntKind.u8.wrap ((n).fdiv (2 ^ 56)),IntKind.u8.wrap ((n).fdiv (2 ^ 48)),IntKind.u8.wrap ((n).fdiv (2 ^ 40)),IntKind.u8.wrap ((n).fdiv (2 ^ 32)),IntKind.u8.wrap ((n).fdiv (2 ^ 24)),IntKind.u8.wrap ((n).fdiv (2 ^ 16)),IntKind.u8.wrap ((n).fdiv (2 ^ 8)),IntKind.u8.wrap ((n).fdiv (2 ^ 0))]) 18 0 [IntKind.u8.wrap ((n).fdiv (2 ^ 56)),IntKind.u8.wrap ((n).fdiv (2 ^ 48)),IntKind.u8.wrap ((n).fdiv (2 ^ 40)),IntKind.u8.wrap ((n).fdiv (2 ^ 32)),IntKind.u8.wrap ((n).fdiv (2 ^ 24)),IntKind.u8.wrap ((n).fdiv (2 ^ 16)),IntKind.u8.wrap ((n).fdiv (2 ^ 8)),IntKind.u8.wrap ((n).fdiv (2 ^ 0))] rfl (V0 (ns:=[IntKind.u8.wrap ((n).fdiv (2 ^ 56)),IntKind.u8.wrap ((n).fdiv (2 ^ 48)),IntKind.u8.wrap ((n).fdiv (2 ^ 40)),IntKind.u8.wrap ((n).fdiv (2 ^ 32)),IntKind.u8.wrap ((n).fdiv (2 ^ 24)),IntKind.u8.wrap ((n).fdiv (2 ^ 16)),IntKind.u8.wrap ((n).fdiv (2 ^ 8)),IntKind.u8.wrap ((n).fdiv (2 ^ 0))]) rfl) (Ja [0] [(2,Sr (([IntKind.u8.wrap ((n).fdiv (2 ^ 56)),IntKind.u8.wrap ((n).fdiv (2 ^ 48)),IntKind.u8.wrap ((n).fdiv (2 ^ 40)),IntKind.u8.wrap ((n).fdiv (2 ^ 32)),IntKind.u8.wrap ((n).fdiv (2 ^ 24)),IntKind.u8.wrap ((n).fdiv (2 ^ 16)),IntKind.u8.wrap ((n).fdiv (2 ^ 8)),IntKind.u8.wrap ((n).fdiv (2 ^ 0))]:List Int).map fun n=>UInt8.ofNat n.toNat))] (Jd (Jb (Jl (Jm [0] [Sr (([IntKind.u8.wrap ((n).fdiv (2 ^ 56)),IntKind.u8.wrap ((n).fdiv (2 ^ 48)),IntKind.u8.wrap ((n).fdiv (2 ^ 40)),IntKind.u8.wrap ((n).fdiv (2 ^ 32)),IntKind.u8.wrap ((n).fdiv (2 ^ 24)),IntKind.u8.wrap ((n).fdiv (2 ^ 16)),IntKind.u8.wrap ((n).fdiv (2 ^ 8)),IntKind.u8.wrap ((n).fdiv (2 ^ 0))]:List Int).map fun n=>UInt8.ofNat n.toNat)] (Jw (Jp.le_refl _) ?_))))))))))))))))))))))))))
 rfl
def Zq:JQ:=⟨0,0,0,0⟩
def JI (h:JQ):Int :=
 if h.epoch<0∨1000000<h.epoch∨2305843009213693951≤h.root∨2305843009213693951≤h.prev∨h.at_<0∨1000000000<h.at_ then 4 else if h.epoch=0∧h.prev ≠ 0 then 3 else 0
theorem Zb {h:JQ} (e:JI h=0):0≤h.epoch∧h.epoch≤1000000∧h.root<2305843009213693951∧h.prev<2305843009213693951∧0≤h.at_∧h.at_≤1000000000∧(h.epoch=0→h.prev=0):=by
 unfold JI at e;split at e
 · cases e
 split at e
 · cases e
 omega
def VG (h:JQ):List UInt8:=((([3]++KX (IntKind.u64.wrap h.epoch))++KX h.root)++KX h.prev)++KX (IntKind.u64.wrap h.at_)
def Q8 (h:JQ):List UInt8×Int:=if JI h ≠ 0 then ([],JI h) else (VG h,0)
theorem Jpe {x y:UInt8}:((x.toNat:Int)=(y.toNat:Int)) ↔ x=y:=⟨fun h=>UInt8.toNat.inj (by omega),fun h=>by rw [h]⟩
theorem JeE (h:JQ):(VG h).length=33:=by simp [VG]
theorem ZS (h:JQ) (G:Jp):Vi Tryz.prog 41 #[.agg #[I h.epoch,U h.root,U h.prev,I h.at_]] G [] (fun u G' L'=>u=I (JI h)):=by
 refine JN Tryz.func41 41 [(0,.agg #[I h.epoch,U h.root,U h.prev,I h.at_])] rfl (fun w0 G0=>?_)
 refine Je (Jc (Jv 1 #[I h.epoch,U h.root,U h.prev,I h.at_] 43 (fun b1=>Ja [0] [] (Jd (Jb (Je (Jz (Je (Jc (Ja [0,2,0,0] [(7,Bo (decide (h.epoch<0)))] (Kn (decide (h.epoch<0)) [7] [1,1,1,0] [0,2,0,0] (fun bb=>[(11,Bo (bb || (decide (h.epoch > 1000000))))]) (Ja [0] [(12,Bo ((decide (h.epoch<0)) || (decide (h.epoch > 1000000))))] (Kn ((decide (h.epoch<0)) || (decide (h.epoch > 1000000))) [12] [1,1,1,0] [0,2,0,0] (fun bb=>[(16,Bo (bb || (decide (h.root ≥ 2305843009213693951))))]) (Ja [0] [(17,Bo (((decide (h.epoch<0)) || (decide (h.epoch > 1000000))) || (decide (h.root ≥ 2305843009213693951))))] (Kn (((decide (h.epoch<0)) || (decide (h.epoch > 1000000))) || (decide (h.root ≥ 2305843009213693951))) [17] [1,1,1,0] [0,2,0,0] (fun bb=>[(21,Bo (bb || (decide (h.prev ≥ 2305843009213693951))))]) (Ja [0] [(22,Bo ((((decide (h.epoch<0)) || (decide (h.epoch > 1000000))) || (decide (h.root ≥ 2305843009213693951))) || (decide (h.prev ≥ 2305843009213693951))))] (Kn ((((decide (h.epoch<0)) || (decide (h.epoch > 1000000))) || (decide (h.root ≥ 2305843009213693951))) || (decide (h.prev ≥ 2305843009213693951))) [22] [1,1,1,0] [0,2,0,0] (fun bb=>[(26,Bo (bb || (decide (h.at_<0))))]) ?_)))))))))))))))))
 refine Ja [0] [(27,Bo (((((decide (h.epoch<0)) || (decide (h.epoch > 1000000))) || (decide (h.root ≥ 2305843009213693951))) || (decide (h.prev ≥ 2305843009213693951))) || (decide (h.at_<0))))] (Kn (((((decide (h.epoch<0)) || (decide (h.epoch > 1000000))) || (decide (h.root ≥ 2305843009213693951))) || (decide (h.prev ≥ 2305843009213693951))) || (decide (h.at_<0))) [27] [1,1,1,0] [0,2,0,0] (fun bb=>[(31,Bo (bb || (decide (h.at_ > 1000000000))))]) (Ja [0] [(3,Bo ((((((decide (h.epoch<0)) || (decide (h.epoch > 1000000))) || (decide (h.root ≥ 2305843009213693951))) || (decide (h.prev ≥ 2305843009213693951))) || (decide (h.at_<0))) || (decide (h.at_ > 1000000000))))] (Jd (Jb (Jk ((((((decide (h.epoch<0)) || (decide (h.epoch > 1000000))) || (decide (h.root ≥ 2305843009213693951))) || (decide (h.prev ≥ 2305843009213693951))) || (decide (h.at_<0))) || (decide (h.at_ > 1000000000))) (fun h1=>?_) (fun h1=>?_))))))
 refine Jf [0] [(2,I 4)] (Jl (Jt (Jh (Jm [0] [I 4] (Jw (Jp.le_refl _) ?_)))))
 refine congrArg I ?_;unfold JI;(repeat' split) <;> first | rfl | omega
 refine Je (Jc (Ja [0,2,0,0] [(36,Bo (decide (h.epoch=0)))] (Kn (decide (h.epoch=0)) [36] [0,2,0,0] [1,1,1,0] (fun bb=>[(40,Bo (bb && (!decide (h.prev=0))))]) (Ja [0] [(32,Bo ((decide (h.epoch=0)) && (!decide (h.prev=0))))] (Jd (Jb (Jk ((decide (h.epoch=0)) && (!decide (h.prev=0))) (fun h2=>?_) (fun h2=>?_))))))))
 refine Jf [0] [(2,I 3)] (Jl (Jt (Jh (Jm [0] [I 3] (Jw (Jp.le_refl _) ?_)))))
 refine congrArg I ?_;unfold JI;(repeat' split) <;> first | rfl | omega
 refine Jo (JM (Jb (Jf [0] [(2,I 0)] (Jl (Jm [0] [I 0] (Jw (Jp.le_refl _) ?_))))))
 refine congrArg I ?_;unfold JI;(repeat' split) <;> first | rfl | omega
theorem Jhj (h:JQ) (G:Jp):Vi Tryz.prog 195 #[.agg #[I h.epoch,U h.root,U h.prev,I h.at_]] G [] (fun u G' L'=>u=.tuple #[Sr ((Q8 h).1),I ((Q8 h).2)]):=by
 refine JN Tryz.func195 30 [(0,.agg #[I h.epoch,U h.root,U h.prev,I h.at_])] rfl (fun w0 G0=>?_)
 refine Je (Jc (Jv 1 #[I h.epoch,U h.root,U h.prev,I h.at_] 43 (fun b1=>Ja [0,0] [] (Jd (Jb (Je (Je (Jc (Ja [2] [(5,.agg #[I h.epoch,U h.root,U h.prev,I h.at_])] (Jj 6 (I (JI h)) (ZS h G) (Ja [0] [(4,I (JI h))] (Jd (Jb (Jf [0,0] [(8,Bo (!decide (JI h=0)))] (Jk (!decide (JI h=0)) (fun h1=>?_) (fun h1=>?_))))))))))))))))
 refine Jf [0,0,0] [(2,Sr ([])),(3,I (JI h))] (Jl (Jh (Jm [0,0] [Sr ([]),I (JI h)] (Jw (Jp.le_refl _) ?_))))
 (unfold Q8;rw [if_pos (by omega)];rfl)
 refine Jo (Jb (Je (Ko [0] (Wm [(2,Pt b1 0),(3,I h.epoch),(4,U (IntKind.u64.wrap h.epoch)),(5,Sr (KX (IntKind.u64.wrap h.epoch))),(7,Pt b1 1),(8,U h.root),(9,Sr (KX h.root)),(11,Pt b1 2),(12,U h.prev),(13,Sr (KX h.prev)),(15,Pt b1 3),(16,I h.at_),(17,U (IntKind.u64.wrap h.at_)),(18,Sr (KX (IntKind.u64.wrap h.at_)))] (JK [] [(2,0),(3,2),(4,0),(7,0),(8,2),(11,0),(12,2),(15,0),(16,2),(17,0)] [5,9,13,18] [0] (Ke ?_ (Ke ?_ (Ke ?_ (Ke ?_ K4)))) (Ke ?_ K4))))))
 refine Jr 5 15 (Sr (KX (IntKind.u64.wrap h.epoch))) [(14,U (IntKind.u64.wrap h.epoch))] (fun X=>?_)
 exact Jj 15 (Sr (KX (IntKind.u64.wrap h.epoch))) (Yd (IntKind.u64.wrap h.epoch) G) Jn
 refine Jr 9 19 (Sr (KX h.root)) [(18,U h.root)] (fun X=>?_)
 exact Jj 19 (Sr (KX h.root)) (Yd h.root G) Jn
 refine Jr 13 23 (Sr (KX h.prev)) [(22,U h.prev)] (fun X=>?_)
 exact Jj 23 (Sr (KX h.prev)) (Yd h.prev G) Jn
 refine Jr 18 28 (Sr (KX (IntKind.u64.wrap h.at_))) [(27,U (IntKind.u64.wrap h.at_))] (fun X=>?_)
 exact Jj 28 (Sr (KX (IntKind.u64.wrap h.at_))) (Yd (IntKind.u64.wrap h.at_) G) Jn
 refine JD 0 [] (fun X=>?_)
 refine Kq 10 1 #[Y 3] 5 (fun b2=>JC [(0,Sl (At b2 0) 1 1),(1,Sr (([3]:List Int).map fun n=>UInt8.ofNat n.toNat)),(6,Sr ((([3]:List Int).map fun n=>UInt8.ofNat n.toNat)++(KX (IntKind.u64.wrap h.epoch)))),(10,Sr (((([3]:List Int).map fun n=>UInt8.ofNat n.toNat)++(KX (IntKind.u64.wrap h.epoch)))++(KX h.root))),(14,Sr ((((([3]:List Int).map fun n=>UInt8.ofNat n.toNat)++(KX (IntKind.u64.wrap h.epoch)))++(KX h.root))++(KX h.prev))),(19,Sr (((((([3]:List Int).map fun n=>UInt8.ofNat n.toNat)++(KX (IntKind.u64.wrap h.epoch)))++(KX h.root))++(KX h.prev))++(KX (IntKind.u64.wrap h.at_)))),(20,Sr (((((([3]:List Int).map fun n=>UInt8.ofNat n.toNat)++(KX (IntKind.u64.wrap h.epoch)))++(KX h.root))++(KX h.prev))++(KX (IntKind.u64.wrap h.at_)))),(21,I 0)] (Km [] [(2,0),(3,4),(4,0),(7,0),(8,4),(11,0),(12,4),(15,0),(16,4),(17,0),(20,0),(21,0)] [1,5,6,9,10,13,14,18,19] [(2,Sr (((((([3]:List Int).map fun n=>UInt8.ofNat n.toNat)++(KX (IntKind.u64.wrap h.epoch)))++(KX h.root))++(KX h.prev))++(KX (IntKind.u64.wrap h.at_)))),(3,I 0)] (Ke ?_ (Ke ?_ (Ke ?_ (Ke ?_ (Ke ?_ (Ke ?_ (Ke ?_ (Ke ?_ (Ke ?_ K4))))))))) ?_))
 refine Jr 1 11 (Sr (([3]:List Int).map fun n=>UInt8.ofNat n.toNat)) [(10,Sl (At b2 0) 1 1)] (fun X=>?_)
 exact JaQ (b:=b2) (off:=0) (len:=1) (cap:=1) (cs:=List.map (Value.int .u8) [3]) 11 0 [3] rfl (V0 (ns:=[3]) rfl) Jn
 refine Jr 5 15 (Sr (KX (IntKind.u64.wrap h.epoch))) [(14,U (IntKind.u64.wrap h.epoch))] (fun X=>?_)
 exact Jj 15 (Sr (KX (IntKind.u64.wrap h.epoch))) (Yd (IntKind.u64.wrap h.epoch) G) Jn
 refine Jr 6 16 (Sr ((([3]:List Int).map fun n=>UInt8.ofNat n.toNat)++(KX (IntKind.u64.wrap h.epoch)))) [(11,Sr (([3]:List Int).map fun n=>UInt8.ofNat n.toNat)),(15,Sr (KX (IntKind.u64.wrap h.epoch)))] (fun X=>?_)
 exact ZF 16 (([3]:List Int).map fun n=>UInt8.ofNat n.toNat) (KX (IntKind.u64.wrap h.epoch)) (by simp) Jn
 refine Jr 9 19 (Sr (KX h.root)) [(18,U h.root)] (fun X=>?_)
 exact Jj 19 (Sr (KX h.root)) (Yd h.root G) Jn
 refine Jr 10 20 (Sr (((([3]:List Int).map fun n=>UInt8.ofNat n.toNat)++(KX (IntKind.u64.wrap h.epoch)))++(KX h.root))) [(16,Sr ((([3]:List Int).map fun n=>UInt8.ofNat n.toNat)++(KX (IntKind.u64.wrap h.epoch)))),(19,Sr (KX h.root))] (fun X=>?_)
 exact ZF 20 ((([3]:List Int).map fun n=>UInt8.ofNat n.toNat)++(KX (IntKind.u64.wrap h.epoch))) (KX h.root) (by simp) Jn
 refine Jr 13 23 (Sr (KX h.prev)) [(22,U h.prev)] (fun X=>?_)
 exact Jj 23 (Sr (KX h.prev)) (Yd h.prev G) Jn
 refine Jr 14 24 (Sr ((((([3]:List Int).map fun n=>UInt8.ofNat n.toNat)++(KX (IntKind.u64.wrap h.epoch)))++(KX h.root))++(KX h.prev))) [(20,Sr (((([3]:List Int).map fun n=>UInt8.ofNat n.toNat)++(KX (IntKind.u64.wrap h.epoch)))++(KX h.root))),(23,Sr (KX h.prev))] (fun X=>?_)
 exact ZF 24 (((([3]:List Int).map fun n=>UInt8.ofNat n.toNat)++(KX (IntKind.u64.wrap h.epoch)))++(KX h.root)) (KX h.prev) (by simp) Jn
 refine Jr 18 28 (Sr (KX (IntKind.u64.wrap h.at_))) [(27,U (IntKind.u64.wrap h.at_))] (fun X=>?_)
 exact Jj 28 (Sr (KX (IntKind.u64.wrap h.at_))) (Yd (IntKind.u64.wrap h.at_) G) Jn
 refine Jr 19 29 (Sr (((((([3]:List Int).map fun n=>UInt8.ofNat n.toNat)++(KX (IntKind.u64.wrap h.epoch)))++(KX h.root))++(KX h.prev))++(KX (IntKind.u64.wrap h.at_)))) [(24,Sr ((((([3]:List Int).map fun n=>UInt8.ofNat n.toNat)++(KX (IntKind.u64.wrap h.epoch)))++(KX h.root))++(KX h.prev))),(28,Sr (KX (IntKind.u64.wrap h.at_)))] (fun X=>?_)
 exact ZF 29 ((((([3]:List Int).map fun n=>UInt8.ofNat n.toNat)++(KX (IntKind.u64.wrap h.epoch)))++(KX h.root))++(KX h.prev)) (KX (IntKind.u64.wrap h.at_)) (by simp) Jn
 refine Jb (Jl (Jm [0,0] [Sr (((((([3]:List Int).map fun n=>UInt8.ofNat n.toNat)++(KX (IntKind.u64.wrap h.epoch)))++(KX h.root))++(KX h.prev))++(KX (IntKind.u64.wrap h.at_))),I 0] (Jw (Jp.le_refl _) ?_)))
 (unfold Q8;rw [if_neg (by omega)];rfl)
theorem Jl1  (G:Jp):Vi Tryz.prog 223 #[U 2305843009213693951] G [] (fun u G' L'=>u=I 61):=by
 refine JN Tryz.func223 25 [(0,U 2305843009213693951)] rfl (fun w0 G0=>?_)
 refine Jf [0] [(2,I 0)] (Je (Jf [0,0] [(4,Bo true)] (JU (Jf [0,0,0] [(0,U 536870911)] (Jc (Ja [0] [(2,I 32)] (Jd (Jb (Je (Jf [0,0] [(8,Bo true)] (JU (Jf [0,0,0] [(0,U 8191)] (Jc (Ja [0,0,0] [(2,I 48)] (Jd (Jb (Je (Jf [0,0] [(14,Bo true)] (JU ?_)))))))))))))))))))
 refine Jf [0,0,0] [(0,U 31)] (Jc (Ja [0,0,0] [(2,I 56)] (Jd (Jb (Jf [0,0,0,0,0,0,0] [(2,I 61)] (Jl (Jm [0] [I 61] (Jw (Jp.le_refl _) ?_))))))))
 rfl
theorem JnD  (G:Jp):Vi Tryz.prog 221 #[U 2305843009213693951] G [] (fun u G' L'=>u=I 3):=by
 refine JN Tryz.func221 6 [(0,U 2305843009213693951)] rfl (fun w0 G0=>?_)
 refine Jf [0] [] (Je (Jc (Ja [0] [(3,U 2305843009213693951)] (Jj 4 (I 61) (Jl1  G) (Ja [0,0] [(2,I 3)] (Jd (Jb (Jl (Jm [0] [I 3] (Jw (Jp.le_refl _) ?_))))))))))
 rfl
theorem JgL (x y:Int) (hx:rU x) (hy:rU y) (G:Jp):Vi Tryz.prog 54 #[U x,U y] G [] (fun u G' L'=>u=.tuple #[U (x*y / 18446744073709551616),U (x*y % 18446744073709551616)]):=by
 refine JN Tryz.func54 51 [(0,U x),(1,U y)] rfl (fun w0 G0=>?_)
 refine Jf [0,0] [] (Jf [0,0,0] [(6,U (IntKind.u64.wrap ((BitVec.ofInt 64 x &&& BitVec.ofInt 64 4294967295).toNat:Int)))] (Jf [0,0,0] [(7,U ((x).fdiv (2 ^ 32)))] (Jf [0,0,0] [(8,U (IntKind.u64.wrap ((BitVec.ofInt 64 y &&& BitVec.ofInt 64 4294967295).toNat:Int)))] (Jf [0,0,0] [(9,U ((y).fdiv (2 ^ 32)))] (Jf [0,0,0,0] [(10,U (IntKind.u64.wrap ((IntKind.u64.wrap ((BitVec.ofInt 64 x &&& BitVec.ofInt 64 4294967295).toNat:Int))*(IntKind.u64.wrap ((BitVec.ofInt 64 y &&& BitVec.ofInt 64 4294967295).toNat:Int)))))] (Jf [0,0,0,0,0,0,0] [(11,U (IntKind.u64.wrap ((IntKind.u64.wrap (((x).fdiv (2 ^ 32))*(IntKind.u64.wrap ((BitVec.ofInt 64 y &&& BitVec.ofInt 64 4294967295).toNat:Int))))+((IntKind.u64.wrap ((IntKind.u64.wrap ((BitVec.ofInt 64 x &&& BitVec.ofInt 64 4294967295).toNat:Int))*(IntKind.u64.wrap ((BitVec.ofInt 64 y &&& BitVec.ofInt 64 4294967295).toNat:Int)))).fdiv (2 ^ 32)))))] (Jf [0,0,0] [(12,U (IntKind.u64.wrap ((BitVec.ofInt 64 (IntKind.u64.wrap ((IntKind.u64.wrap (((x).fdiv (2 ^ 32))*(IntKind.u64.wrap ((BitVec.ofInt 64 y &&& BitVec.ofInt 64 4294967295).toNat:Int))))+((IntKind.u64.wrap ((IntKind.u64.wrap ((BitVec.ofInt 64 x &&& BitVec.ofInt 64 4294967295).toNat:Int))*(IntKind.u64.wrap ((BitVec.ofInt 64 y &&& BitVec.ofInt 64 4294967295).toNat:Int)))).fdiv (2 ^ 32)))) &&& BitVec.ofInt 64 4294967295).toNat:Int)))] (Jf [0,0,0] [(13,U ((IntKind.u64.wrap ((IntKind.u64.wrap (((x).fdiv (2 ^ 32))*(IntKind.u64.wrap ((BitVec.ofInt 64 y &&& BitVec.ofInt 64 4294967295).toNat:Int))))+((IntKind.u64.wrap ((IntKind.u64.wrap ((BitVec.ofInt 64 x &&& BitVec.ofInt 64 4294967295).toNat:Int))*(IntKind.u64.wrap ((BitVec.ofInt 64 y &&& BitVec.ofInt 64 4294967295).toNat:Int)))).fdiv (2 ^ 32)))).fdiv (2 ^ 32)))] (Jf [0,0,0,0,0,0] [(12,U (IntKind.u64.wrap ((IntKind.u64.wrap ((BitVec.ofInt 64 (IntKind.u64.wrap ((IntKind.u64.wrap (((x).fdiv (2 ^ 32))*(IntKind.u64.wrap ((BitVec.ofInt 64 y &&& BitVec.ofInt 64 4294967295).toNat:Int))))+((IntKind.u64.wrap ((IntKind.u64.wrap ((BitVec.ofInt 64 x &&& BitVec.ofInt 64 4294967295).toNat:Int))*(IntKind.u64.wrap ((BitVec.ofInt 64 y &&& BitVec.ofInt 64 4294967295).toNat:Int)))).fdiv (2 ^ 32)))) &&& BitVec.ofInt 64 4294967295).toNat:Int))+(IntKind.u64.wrap ((IntKind.u64.wrap ((BitVec.ofInt 64 x &&& BitVec.ofInt 64 4294967295).toNat:Int))*((y).fdiv (2 ^ 32)))))))] (Jf [0,0,0,0,0,0,0,0,0] [(4,U (IntKind.u64.wrap ((IntKind.u64.wrap ((IntKind.u64.wrap (((x).fdiv (2 ^ 32))*((y).fdiv (2 ^ 32))))+((IntKind.u64.wrap ((IntKind.u64.wrap (((x).fdiv (2 ^ 32))*(IntKind.u64.wrap ((BitVec.ofInt 64 y &&& BitVec.ofInt 64 4294967295).toNat:Int))))+((IntKind.u64.wrap ((IntKind.u64.wrap ((BitVec.ofInt 64 x &&& BitVec.ofInt 64 4294967295).toNat:Int))*(IntKind.u64.wrap ((BitVec.ofInt 64 y &&& BitVec.ofInt 64 4294967295).toNat:Int)))).fdiv (2 ^ 32)))).fdiv (2 ^ 32))))+((IntKind.u64.wrap ((IntKind.u64.wrap ((BitVec.ofInt 64 (IntKind.u64.wrap ((IntKind.u64.wrap (((x).fdiv (2 ^ 32))*(IntKind.u64.wrap ((BitVec.ofInt 64 y &&& BitVec.ofInt 64 4294967295).toNat:Int))))+((IntKind.u64.wrap ((IntKind.u64.wrap ((BitVec.ofInt 64 x &&& BitVec.ofInt 64 4294967295).toNat:Int))*(IntKind.u64.wrap ((BitVec.ofInt 64 y &&& BitVec.ofInt 64 4294967295).toNat:Int)))).fdiv (2 ^ 32)))) &&& BitVec.ofInt 64 4294967295).toNat:Int))+(IntKind.u64.wrap ((IntKind.u64.wrap ((BitVec.ofInt 64 x &&& BitVec.ofInt 64 4294967295).toNat:Int))*((y).fdiv (2 ^ 32)))))).fdiv (2 ^ 32)))))] ?_))))))))))
 exact Jf [0,0,0,0] [(5,U (IntKind.u64.wrap (x*y)))] (Jl (Jm [0,0] [U (IntKind.u64.wrap ((IntKind.u64.wrap ((IntKind.u64.wrap (((x).fdiv (2 ^ 32))*((y).fdiv (2 ^ 32))))+((IntKind.u64.wrap ((IntKind.u64.wrap (((x).fdiv (2 ^ 32))*(IntKind.u64.wrap ((BitVec.ofInt 64 y &&& BitVec.ofInt 64 4294967295).toNat:Int))))+((IntKind.u64.wrap ((IntKind.u64.wrap ((BitVec.ofInt 64 x &&& BitVec.ofInt 64 4294967295).toNat:Int))*(IntKind.u64.wrap ((BitVec.ofInt 64 y &&& BitVec.ofInt 64 4294967295).toNat:Int)))).fdiv (2 ^ 32)))).fdiv (2 ^ 32))))+((IntKind.u64.wrap ((IntKind.u64.wrap ((BitVec.ofInt 64 (IntKind.u64.wrap ((IntKind.u64.wrap (((x).fdiv (2 ^ 32))*(IntKind.u64.wrap ((BitVec.ofInt 64 y &&& BitVec.ofInt 64 4294967295).toNat:Int))))+((IntKind.u64.wrap ((IntKind.u64.wrap ((BitVec.ofInt 64 x &&& BitVec.ofInt 64 4294967295).toNat:Int))*(IntKind.u64.wrap ((BitVec.ofInt 64 y &&& BitVec.ofInt 64 4294967295).toNat:Int)))).fdiv (2 ^ 32)))) &&& BitVec.ofInt 64 4294967295).toNat:Int))+(IntKind.u64.wrap ((IntKind.u64.wrap ((BitVec.ofInt 64 x &&& BitVec.ofInt 64 4294967295).toNat:Int))*((y).fdiv (2 ^ 32)))))).fdiv (2 ^ 32)))),U (IntKind.u64.wrap (x*y))] (Jw (Jp.le_refl _) (congr (congrArg (fun a b=>Value.tuple #[U a,U b]) (Jnv hx hy)) (JbX _)))))
set_option maxRecDepth 20000 in
theorem Jl2 (hi lo:Int) (hx:0≤hi∧hi<2305843009213693951) (hy:rU lo) (G:Jp):Vi Tryz.prog 183 #[U hi,U lo,U 2305843009213693951] G [] (fun u G' L'=>u=.tuple #[U ((hi*18446744073709551616+lo) / 2305843009213693951),U ((hi*18446744073709551616+lo) % 2305843009213693951)]):=by
 refine JN Tryz.func183 135 [(0,U hi),(1,U lo),(2,U 2305843009213693951)] rfl (fun w0 G0=>?_)
 refine Jf [0,0] [] (Je (Jf [0,0] [(20,Bo false)] (Qq (Jo (Jb (Je (Jf [0,0,0] [(24,Bo (decide (2305843009213693951≤hi)))] (Jk (decide (2305843009213693951≤hi)) (fun h1=>?_) (fun h1=>?_)))))))))
 exfalso;omega
 refine Jo (Jb (Je (Jf [0,0] [(27,Bo (decide (hi=0)))] (Jk (decide (hi=0)) (fun h2=>?_) (fun h2=>?_)))))
 refine Je ?_
 have e1:IntKind.u64.wrap ((lo).tdiv 2305843009213693951)=lo / 2305843009213693951:=IntWalk.u64_quo _ _ (by omega)
 have e2:(lo).tmod 2305843009213693951=lo % 2305843009213693951:=IntWalk.rem_in _ _ (by omega)
 refine Ko [] (Wm [(0,U lo),(1,U 2305843009213693951),(2,U (lo / 2305843009213693951)),(3,U lo),(4,U 2305843009213693951),(5,U (lo % 2305843009213693951)),(6,U (lo / 2305843009213693951)),(7,U (lo % 2305843009213693951))] (Km [] [(0,0),(1,0),(3,0),(4,0),(6,0),(7,0)] [2,5] [(6,U (lo / 2305843009213693951)),(7,U (lo % 2305843009213693951))] (Ke ?_ (Ke ?_ K4)) ?_))
 refine Jr 2 30 (U (lo / 2305843009213693951)) [(28,U lo),(29,U 2305843009213693951)] (fun X=>?_)
 exact K5 30 (U (IntKind.u64.wrap ((lo).tdiv 2305843009213693951))) (U (lo / 2305843009213693951)) (by simp only [e1]) Jn
 refine Jr 5 33 (U (lo % 2305843009213693951)) [(31,U lo),(32,U 2305843009213693951)] (fun X=>?_)
 exact K5 33 (U ((lo).tmod 2305843009213693951)) (U (lo % 2305843009213693951)) (by simp only [e2]) Jn
 refine Jb (Jl (Jh (Jm [0,0] [U (lo / 2305843009213693951),U (lo % 2305843009213693951)] (Jw (Jp.le_refl _) ?_))))
 · (subst h2;simp [Ql];done)
 refine Jo (Jb (Je (Jc (Ja [0] [(34,U 2305843009213693951)] (Jj 35 (I 3) (JnD  G) (Ja [0,0] [(8,U 3)] (Jd (Jb (Jf [0,0,0,0] [(2,U 18446744073709551608)] (Jf [0,0,0] [(9,U 4294967295)] (Jf [0,0,0] [(10,U 4294967288)] (Jf [0,0,0,0,0,0,0,0,0] [(11,U (IntKind.u64.wrap ((BitVec.ofInt 64 (IntKind.u64.wrap (hi*2 ^ 3)) ||| BitVec.ofInt 64 ((lo).fdiv (2 ^ 61))).toNat:Int)))] ?_))))))))))))
 have e3:IntKind.u64.wrap ((BitVec.ofInt 64 (IntKind.u64.wrap (hi*2 ^ 3)) ||| BitVec.ofInt 64 ((lo).fdiv (2 ^ 61))).toNat:Int)=Wx hi lo:=rfl
 refine QX 11 (U (Wx hi lo)) (congrArg U e3) ?_
 clear e3
 refine Jf [0,0,0,0] [(12,U (IntKind.u64.wrap (lo*2 ^ 3)))] ?_
 have e4:IntKind.u64.wrap (lo*2 ^ 3)=Jc2 lo:=rfl
 refine QX 12 (U (Jc2 lo)) (congrArg U e4) ?_
 clear e4
 refine Jf [0,0,0] [(13,U ((Jc2 lo).fdiv (2 ^ 32)))] ?_
 have e5:(Jc2 lo).fdiv (2 ^ 32)=WI lo:=rfl
 refine QX 13 (U (WI lo)) (congrArg U e5) ?_
 clear e5
 refine Jf [0,0,0] [(14,U (IntKind.u64.wrap ((BitVec.ofInt 64 (Jc2 lo) &&& BitVec.ofInt 64 4294967295).toNat:Int)))] ?_
 have e6:IntKind.u64.wrap ((BitVec.ofInt 64 (Jc2 lo) &&& BitVec.ofInt 64 4294967295).toNat:Int)=ZI lo:=rfl
 refine QX 14 (U (ZI lo)) (congrArg U e6) ?_
 clear e6
 refine Jf [0,0,0,0] [(15,U (IntKind.u64.wrap ((Wx hi lo).tdiv 4294967295)))] (Jf [0,0,0,0,0,0] [(16,U (IntKind.u64.wrap ((Wx hi lo)-(IntKind.u64.wrap ((IntKind.u64.wrap ((Wx hi lo).tdiv 4294967295))*4294967295)))))] (Je (Jz ?_)))
 refine Qh (σ:=Int×Int) (fun s=>(Ja6 (Wx hi lo) (WI lo) s.1 s.2)) (fun s=>[(2,U 18446744073709551608),(8,U 3),(9,U 4294967295),(10,U 4294967288),(11,U (Wx hi lo)),(13,U (WI lo)),(14,U (ZI lo)),(15,U s.1),(16,U s.2)]) (fun s=>G) (fun s=>[]) (fun s=>s.1.toNat) (IntKind.u64.wrap ((Wx hi lo).tdiv 4294967295),IntKind.u64.wrap (Wx hi lo-IntKind.u64.wrap (IntKind.u64.wrap ((Wx hi lo).tdiv 4294967295)*4294967295))) (JdK (JeM hx hy) (JeN lo)) (fun s hs=>?_)
 obtain ⟨q,r⟩:=s
 have hI:=hs
 dsimp only at hI
 dsimp only
 refine Je (Je (Jc (Ja [0,0,0] [(69,Bo (decide (q ≥ 4294967296)))] (Kn (decide (q ≥ 4294967296)) [69] [1,1,1,1,1,1,1,1,0] [0,0,0,0,0,0,0,0,0] (fun bb=>[(78,Bo (bb || (decide (IntKind.u64.wrap (q*4294967288) > IntKind.u64.wrap ((IntKind.u64.wrap (4294967296*r))+(WI lo))))))]) (Jd (Jb (Jk ((decide (q ≥ 4294967296)) || (decide (IntKind.u64.wrap (q*4294967288) > IntKind.u64.wrap ((IntKind.u64.wrap (4294967296*r))+(WI lo))))) (fun h3=>?_) (fun h3=>?_))))))))
 refine Jo (Jb (Jz (Jf [0,0,0] [(15,U (IntKind.u64.wrap (q-1)))] (JbT 15 (q-1) (by (have hm:=Yx hI ‹_›;have:=hI.e;have:=hI.u1;have:=hI.r0;have:=hI.r1;omega)) (Jf [0,0,0,0] [(16,U (IntKind.u64.wrap (r+4294967295)))] (JbT 16 (r+4294967295) (by (have hm:=Yx hI ‹_›;have:=hI.e;have:=hI.u1;have:=hI.r0;have:=hI.r1;omega)) (Jf [0,0] [(85,Bo (decide (r+4294967295 ≥ 4294967296)))] (Jk (decide (r+4294967295 ≥ 4294967296)) (fun h4=>?_) (fun h4=>?_)))))))))
 refine KW (YL rfl (J8 (JR (Jb (Jf [0,0,0,0,0,0,0,0,0] [(17,U (IntKind.u64.wrap ((IntKind.u64.wrap ((IntKind.u64.wrap ((Wx hi lo)*4294967296))+(WI lo)))-(IntKind.u64.wrap ((q-1)*18446744073709551608)))))] ?_)))))
 have e7:IntKind.u64.wrap ((IntKind.u64.wrap ((IntKind.u64.wrap ((Wx hi lo)*4294967296))+(WI lo)))-(IntKind.u64.wrap ((q-1)*18446744073709551608)))=Wt (Wx hi lo) (WI lo) (q-1):=rfl
 refine QX 17 (U (Wt (Wx hi lo) (WI lo) (q-1))) (congrArg U e7) ?_
 clear e7
 refine Jf [0,0,0,0] [(18,U (IntKind.u64.wrap ((Wt (Wx hi lo) (WI lo) (q-1)).tdiv 4294967295)))] (Jf [0,0,0,0,0,0] [(16,U (IntKind.u64.wrap ((Wt (Wx hi lo) (WI lo) (q-1))-(IntKind.u64.wrap ((IntKind.u64.wrap ((Wt (Wx hi lo) (WI lo) (q-1)).tdiv 4294967295))*4294967295)))))] (Je (Jz ?_)))
 have hD1:Dig (Wx hi lo) (WI lo) (q-1):=by exact JdL hI ‹_› (by omega)
 have hb1:=JeL hD1 (JeM hx hy).1 (JeN lo).1
 refine Qh (σ:=Int×Int) (fun s=>(Ja6 (Wt (Wx hi lo) (WI lo) (q-1)) (ZI lo) s.1 s.2)) (fun s=>[(2,U 18446744073709551608),(8,U 3),(9,U 4294967295),(10,U 4294967288),(14,U (ZI lo)),(15,U (q-1)),(16,U s.2),(17,U (Wt (Wx hi lo) (WI lo) (q-1))),(18,U s.1)]) (fun s=>G) (fun s=>[]) (fun s=>s.1.toNat) (IntKind.u64.wrap ((Wt (Wx hi lo) (WI lo) (q-1)).tdiv 4294967295),IntKind.u64.wrap (Wt (Wx hi lo) (WI lo) (q-1)-IntKind.u64.wrap (IntKind.u64.wrap ((Wt (Wx hi lo) (WI lo) (q-1)).tdiv 4294967295)*4294967295))) (JdK hb1.2 (Jhh lo)) (fun s hs=>?_)
 obtain ⟨q2,r2⟩:=s
 have hJ:=hs
 dsimp only at hJ
 dsimp only
 refine Je (Je (Jc (Ja [0,0,0] [(104,Bo (decide (q2 ≥ 4294967296)))] (Kn (decide (q2 ≥ 4294967296)) [104] [1,1,1,1,1,1,1,1,0] [0,0,0,0,0,0,0,0,0] (fun bb=>[(113,Bo (bb || (decide (IntKind.u64.wrap (q2*4294967288) > IntKind.u64.wrap ((IntKind.u64.wrap (4294967296*r2))+(ZI lo))))))]) (Jd (Jb (Jk ((decide (q2 ≥ 4294967296)) || (decide (IntKind.u64.wrap (q2*4294967288) > IntKind.u64.wrap ((IntKind.u64.wrap (4294967296*r2))+(ZI lo))))) (fun h5=>?_) (fun h5=>?_))))))))
 refine Jo (Jb (Jz (Jf [0,0,0] [(18,U (IntKind.u64.wrap (q2-1)))] (JbT 18 (q2-1) (by (have hm:=Yx hJ ‹_›;have:=hJ.e;have:=hJ.u1;have:=hJ.r0;have:=hJ.r1;omega)) (Jf [0,0,0,0] [(16,U (IntKind.u64.wrap (r2+4294967295)))] (JbT 16 (r2+4294967295) (by (have hm:=Yx hJ ‹_›;have:=hJ.e;have:=hJ.u1;have:=hJ.r0;have:=hJ.r1;omega)) (Jf [0,0] [(120,Bo (decide (r2+4294967295 ≥ 4294967296)))] (Jk (decide (r2+4294967295 ≥ 4294967296)) (fun h6=>?_) (fun h6=>?_)))))))))
 refine KW (YL rfl (J8 (JR (Jb (Jf [0,0,0,0,0,0,0,0,0,0,0,0,0,0,0,0] [(6,U (IntKind.u64.wrap ((IntKind.u64.wrap ((q-1)*4294967296))+(q2-1)))),(7,U ((IntKind.u64.wrap ((IntKind.u64.wrap ((IntKind.u64.wrap ((Wt (Wx hi lo) (WI lo) (q-1))*4294967296))+(ZI lo)))-(IntKind.u64.wrap ((q2-1)*18446744073709551608)))).fdiv (2 ^ 3)))] ?_)))))
 have e8:IntKind.u64.wrap ((IntKind.u64.wrap ((IntKind.u64.wrap ((Wt (Wx hi lo) (WI lo) (q-1))*4294967296))+(ZI lo)))-(IntKind.u64.wrap ((q2-1)*18446744073709551608)))=Wt (Wt (Wx hi lo) (WI lo) (q-1)) (ZI lo) (q2-1):=rfl
 refine QX 7 (U ((Wt (Wt (Wx hi lo) (WI lo) (q-1)) (ZI lo) (q2-1)).fdiv (2 ^ 3))) (show (U ((IntKind.u64.wrap ((IntKind.u64.wrap ((IntKind.u64.wrap ((Wt (Wx hi lo) (WI lo) (q-1))*4294967296))+(ZI lo)))-(IntKind.u64.wrap ((q2-1)*18446744073709551608)))).fdiv (2 ^ 3)):Value)=U ((Wt (Wt (Wx hi lo) (WI lo) (q-1)) (ZI lo) (q2-1)).fdiv (2 ^ 3)) by simp only [e8]) ?_
 clear e8
 refine Jl (Jm [0,0] [U (IntKind.u64.wrap ((IntKind.u64.wrap ((q-1)*4294967296))+(q2-1))),U ((Wt (Wt (Wx hi lo) (WI lo) (q-1)) (ZI lo) (q2-1)).fdiv (2 ^ 3))] (Jw (Jp.le_refl _) ?_))
 (have hD2:Dig _ _ _:=(by exact JdL hJ ‹_› (by omega));have he:=JeO hx hy hD1 hD2;exact congr (congrArg (fun a b=>Value.tuple #[U a,U b]) he.1) he.2)
 exact Jo (JM (Qr (q2-1,r2+4294967295) (Jff hJ ‹_› J7) (by dsimp only;have:=(Yx hJ ‹_›).1;omega)))
 refine KW (JZ (J8 (JR (Jb (Jf [0,0,0,0,0,0,0,0,0,0,0,0,0,0,0,0] [(6,U (IntKind.u64.wrap ((IntKind.u64.wrap ((q-1)*4294967296))+q2))),(7,U ((IntKind.u64.wrap ((IntKind.u64.wrap ((IntKind.u64.wrap ((Wt (Wx hi lo) (WI lo) (q-1))*4294967296))+(ZI lo)))-(IntKind.u64.wrap (q2*18446744073709551608)))).fdiv (2 ^ 3)))] ?_)))))
 have e9:IntKind.u64.wrap ((IntKind.u64.wrap ((IntKind.u64.wrap ((Wt (Wx hi lo) (WI lo) (q-1))*4294967296))+(ZI lo)))-(IntKind.u64.wrap (q2*18446744073709551608)))=Wt (Wt (Wx hi lo) (WI lo) (q-1)) (ZI lo) q2:=rfl
 refine QX 7 (U ((Wt (Wt (Wx hi lo) (WI lo) (q-1)) (ZI lo) q2).fdiv (2 ^ 3))) (show (U ((IntKind.u64.wrap ((IntKind.u64.wrap ((IntKind.u64.wrap ((Wt (Wx hi lo) (WI lo) (q-1))*4294967296))+(ZI lo)))-(IntKind.u64.wrap (q2*18446744073709551608)))).fdiv (2 ^ 3)):Value)=U ((Wt (Wt (Wx hi lo) (WI lo) (q-1)) (ZI lo) q2).fdiv (2 ^ 3)) by simp only [e9]) ?_
 clear e9
 refine Jl (Jm [0,0] [U (IntKind.u64.wrap ((IntKind.u64.wrap ((q-1)*4294967296))+q2)),U ((Wt (Wt (Wx hi lo) (WI lo) (q-1)) (ZI lo) q2).fdiv (2 ^ 3))] (Jw (Jp.le_refl _) ?_))
 (have hD2:Dig _ _ _:=(by exact Jfg hJ ‹_›);have he:=JeO hx hy hD1 hD2;exact congr (congrArg (fun a b=>Value.tuple #[U a,U b]) he.1) he.2)
 exact Jo (JM (Qr (q-1,r+4294967295) (Jff hI ‹_› J7) (by dsimp only;have:=(Yx hI ‹_›).1;omega)))
 refine KW (JZ (J8 (JR (Jb (Jf [0,0,0,0,0,0,0,0,0] [(17,U (IntKind.u64.wrap ((IntKind.u64.wrap ((IntKind.u64.wrap ((Wx hi lo)*4294967296))+(WI lo)))-(IntKind.u64.wrap (q*18446744073709551608)))))] ?_)))))
 have e10:IntKind.u64.wrap ((IntKind.u64.wrap ((IntKind.u64.wrap ((Wx hi lo)*4294967296))+(WI lo)))-(IntKind.u64.wrap (q*18446744073709551608)))=Wt (Wx hi lo) (WI lo) q:=rfl
 refine QX 17 (U (Wt (Wx hi lo) (WI lo) q)) (congrArg U e10) ?_
 clear e10
 refine Jf [0,0,0,0] [(18,U (IntKind.u64.wrap ((Wt (Wx hi lo) (WI lo) q).tdiv 4294967295)))] (Jf [0,0,0,0,0,0] [(16,U (IntKind.u64.wrap ((Wt (Wx hi lo) (WI lo) q)-(IntKind.u64.wrap ((IntKind.u64.wrap ((Wt (Wx hi lo) (WI lo) q).tdiv 4294967295))*4294967295)))))] (Je (Jz ?_)))
 have hD1:Dig (Wx hi lo) (WI lo) q:=by exact Jfg hI ‹_›
 have hb1:=JeL hD1 (JeM hx hy).1 (JeN lo).1
 refine Qh (σ:=Int×Int) (fun s=>(Ja6 (Wt (Wx hi lo) (WI lo) q) (ZI lo) s.1 s.2)) (fun s=>[(2,U 18446744073709551608),(8,U 3),(9,U 4294967295),(10,U 4294967288),(14,U (ZI lo)),(15,U q),(16,U s.2),(17,U (Wt (Wx hi lo) (WI lo) q)),(18,U s.1)]) (fun s=>G) (fun s=>[]) (fun s=>s.1.toNat) (IntKind.u64.wrap ((Wt (Wx hi lo) (WI lo) q).tdiv 4294967295),IntKind.u64.wrap (Wt (Wx hi lo) (WI lo) q-IntKind.u64.wrap (IntKind.u64.wrap ((Wt (Wx hi lo) (WI lo) q).tdiv 4294967295)*4294967295))) (JdK hb1.2 (Jhh lo)) (fun s hs=>?_)
 obtain ⟨q2,r2⟩:=s
 have hJ:=hs
 dsimp only at hJ
 dsimp only
 refine Je (Je (Jc (Ja [0,0,0] [(104,Bo (decide (q2 ≥ 4294967296)))] (Kn (decide (q2 ≥ 4294967296)) [104] [1,1,1,1,1,1,1,1,0] [0,0,0,0,0,0,0,0,0] (fun bb=>[(113,Bo (bb || (decide (IntKind.u64.wrap (q2*4294967288) > IntKind.u64.wrap ((IntKind.u64.wrap (4294967296*r2))+(ZI lo))))))]) (Jd (Jb (Jk ((decide (q2 ≥ 4294967296)) || (decide (IntKind.u64.wrap (q2*4294967288) > IntKind.u64.wrap ((IntKind.u64.wrap (4294967296*r2))+(ZI lo))))) (fun h7=>?_) (fun h7=>?_))))))))
 refine Jo (Jb (Jz (Jf [0,0,0] [(18,U (IntKind.u64.wrap (q2-1)))] (JbT 18 (q2-1) (by (have hm:=Yx hJ ‹_›;have:=hJ.e;have:=hJ.u1;have:=hJ.r0;have:=hJ.r1;omega)) (Jf [0,0,0,0] [(16,U (IntKind.u64.wrap (r2+4294967295)))] (JbT 16 (r2+4294967295) (by (have hm:=Yx hJ ‹_›;have:=hJ.e;have:=hJ.u1;have:=hJ.r0;have:=hJ.r1;omega)) (Jf [0,0] [(120,Bo (decide (r2+4294967295 ≥ 4294967296)))] (Jk (decide (r2+4294967295 ≥ 4294967296)) (fun h8=>?_) (fun h8=>?_)))))))))
 refine KW (YL rfl (J8 (JR (Jb (Jf [0,0,0,0,0,0,0,0,0,0,0,0,0,0,0,0] [(6,U (IntKind.u64.wrap ((IntKind.u64.wrap (q*4294967296))+(q2-1)))),(7,U ((IntKind.u64.wrap ((IntKind.u64.wrap ((IntKind.u64.wrap ((Wt (Wx hi lo) (WI lo) q)*4294967296))+(ZI lo)))-(IntKind.u64.wrap ((q2-1)*18446744073709551608)))).fdiv (2 ^ 3)))] ?_)))))
 have e11:IntKind.u64.wrap ((IntKind.u64.wrap ((IntKind.u64.wrap ((Wt (Wx hi lo) (WI lo) q)*4294967296))+(ZI lo)))-(IntKind.u64.wrap ((q2-1)*18446744073709551608)))=Wt (Wt (Wx hi lo) (WI lo) q) (ZI lo) (q2-1):=rfl
 refine QX 7 (U ((Wt (Wt (Wx hi lo) (WI lo) q) (ZI lo) (q2-1)).fdiv (2 ^ 3))) (show (U ((IntKind.u64.wrap ((IntKind.u64.wrap ((IntKind.u64.wrap ((Wt (Wx hi lo) (WI lo) q)*4294967296))+(ZI lo)))-(IntKind.u64.wrap ((q2-1)*18446744073709551608)))).fdiv (2 ^ 3)):Value)=U ((Wt (Wt (Wx hi lo) (WI lo) q) (ZI lo) (q2-1)).fdiv (2 ^ 3)) by simp only [e11]) ?_
 clear e11
 refine Jl (Jm [0,0] [U (IntKind.u64.wrap ((IntKind.u64.wrap (q*4294967296))+(q2-1))),U ((Wt (Wt (Wx hi lo) (WI lo) q) (ZI lo) (q2-1)).fdiv (2 ^ 3))] (Jw (Jp.le_refl _) ?_))
 (have hD2:Dig _ _ _:=(by exact JdL hJ ‹_› (by omega));have he:=JeO hx hy hD1 hD2;exact congr (congrArg (fun a b=>Value.tuple #[U a,U b]) he.1) he.2)
 exact Jo (JM (Qr (q2-1,r2+4294967295) (Jff hJ ‹_› J7) (by dsimp only;have:=(Yx hJ ‹_›).1;omega)))
 refine KW (JZ (J8 (JR (Jb (Jf [0,0,0,0,0,0,0,0,0,0,0,0,0,0,0,0] [(6,U (IntKind.u64.wrap ((IntKind.u64.wrap (q*4294967296))+q2))),(7,U ((IntKind.u64.wrap ((IntKind.u64.wrap ((IntKind.u64.wrap ((Wt (Wx hi lo) (WI lo) q)*4294967296))+(ZI lo)))-(IntKind.u64.wrap (q2*18446744073709551608)))).fdiv (2 ^ 3)))] ?_)))))
 have e12:IntKind.u64.wrap ((IntKind.u64.wrap ((IntKind.u64.wrap ((Wt (Wx hi lo) (WI lo) q)*4294967296))+(ZI lo)))-(IntKind.u64.wrap (q2*18446744073709551608)))=Wt (Wt (Wx hi lo) (WI lo) q) (ZI lo) q2:=rfl
 refine QX 7 (U ((Wt (Wt (Wx hi lo) (WI lo) q) (ZI lo) q2).fdiv (2 ^ 3))) (show (U ((IntKind.u64.wrap ((IntKind.u64.wrap ((IntKind.u64.wrap ((Wt (Wx hi lo) (WI lo) q)*4294967296))+(ZI lo)))-(IntKind.u64.wrap (q2*18446744073709551608)))).fdiv (2 ^ 3)):Value)=U ((Wt (Wt (Wx hi lo) (WI lo) q) (ZI lo) q2).fdiv (2 ^ 3)) by simp only [e12]) ?_
 clear e12
 refine Jl (Jm [0,0] [U (IntKind.u64.wrap ((IntKind.u64.wrap (q*4294967296))+q2)),U ((Wt (Wt (Wx hi lo) (WI lo) q) (ZI lo) q2).fdiv (2 ^ 3))] (Jw (Jp.le_refl _) ?_))
 (have hD2:Dig _ _ _:=(by exact Jfg hJ ‹_›);have he:=JeO hx hy hD1 hD2;exact congr (congrArg (fun a b=>Value.tuple #[U a,U b]) he.1) he.2)
theorem Jl3 (hi lo:Int) (hx:rU hi) (hy:rU lo) (G:Jp):Vi Tryz.prog 129 #[U hi,U lo,U 2305843009213693951] G [] (fun u G' L'=>u=U ((hi*18446744073709551616+lo) % 2305843009213693951)):=by
 refine JN Tryz.func129 19 [(0,U hi),(1,U lo),(2,U 2305843009213693951)] rfl (fun w0 G0=>?_)
 refine Jf [0] [] (Je (Jc (Ja [0,0,0,0,0] [(12,U ((hi).tmod 2305843009213693951)),(13,U lo),(14,U 2305843009213693951)] ?_)))
 have e1:(hi).tmod 2305843009213693951=hi % 2305843009213693951:=IntWalk.rem_in _ _ (by omega)
 refine KI 12 (U (hi % 2305843009213693951)) (congrArg U e1) ?_
 clear e1
 exact Jj 15 (.tuple #[U (((hi % 2305843009213693951)*18446744073709551616+lo) / 2305843009213693951),U (((hi % 2305843009213693951)*18446744073709551616+lo) % 2305843009213693951)]) (Jl2 (hi % 2305843009213693951) lo J7 J7 G) (Ja [0,0,0,0,0] [(8,U (((hi % 2305843009213693951)*18446744073709551616+lo) % 2305843009213693951))] (Jd (Jb (Jf [0,0] [(6,U (((hi % 2305843009213693951)*18446744073709551616+lo) % 2305843009213693951))] (Jl (Jm [0] [U (((hi % 2305843009213693951)*18446744073709551616+lo) % 2305843009213693951)] (Jw (Jp.le_refl _) (congrArg U J7))))))))
theorem Jl4 (a b:Int) (hx:rU a) (hy:rU b) (G:Jp):Vi Tryz.prog 75 #[U a,U b] G [] (fun u G' L'=>u=U (WF a b)):=by
 refine JN Tryz.func75 16 [(0,U a),(1,U b)] rfl (fun w0 G0=>?_)
 exact Jf [0] [] (Je (Jc (Ja [0,0] [(8,U a),(9,U b)] (Jj 10 (.tuple #[U (a*b / 18446744073709551616),U (a*b % 18446744073709551616)]) (JgL a b J7 J7 G) (Ja [0,0,0,0,0] [(5,U (a*b / 18446744073709551616)),(6,U (a*b % 18446744073709551616))] (Jd (Jb (Je (Jc (Ja [0,0] [(13,U (a*b / 18446744073709551616)),(14,U (a*b % 18446744073709551616))] (Jj 15 (U (((a*b / 18446744073709551616)*18446744073709551616+(a*b % 18446744073709551616)) % 2305843009213693951)) (Jl3 (a*b / 18446744073709551616) (a*b % 18446744073709551616) (by exact JlZ J7 J7) J7 G) (Ja [0] [(4,U (((a*b / 18446744073709551616)*18446744073709551616+(a*b % 18446744073709551616)) % 2305843009213693951))] (Jd (Jb (Jl (Jm [0] [U (((a*b / 18446744073709551616)*18446744073709551616+(a*b % 18446744073709551616)) % 2305843009213693951)] (Jw (Jp.le_refl _) (congrArg U (by unfold WF;omega)))))))))))))))))))
def KZ (k a b:Int):List UInt8:=(([k]:List Int).map (fun n=>UInt8.ofNat n.toNat)++KX a)++KX b
theorem Jim {a b:Int} (ha:0≤a∧a<18446744073709551616) (hb:0≤b∧b<18446744073709551616) (h:KX a=KX b):a=b:=by
 rw [← Jfe ha.1 ha.2,← Jfe hb.1 hb.2,h]
theorem Jhk {k a b j c d:Int} (hk:0≤k∧k<256) (hj:0≤j∧j<256) (ha:0≤a∧a<18446744073709551616) (hb:0≤b∧b<18446744073709551616) (hc:0≤c∧c<18446744073709551616) (hd:0≤d∧d<18446744073709551616) :
  (KZ k a b == KZ j c d)=(decide (k=j) && decide (a=c) && decide (b=d)):=by
 rw [Bool.eq_iff_iff]
 simp only [beq_iff_eq,Bool.and_eq_true,decide_eq_true_eq]
 constructor
 ·
  intro h
  unfold KZ at h
  obtain ⟨h1,h2⟩:=List.append_inj h (by simp)
  obtain ⟨h3,h4⟩:=List.append_inj h1 (by simp)
  simp only [List.map_cons,List.map_nil,List.cons.injEq,and_true] at h3
  have h5:=congrArg UInt8.toNat h3
  rw [UInt8.toNat_ofNat',UInt8.toNat_ofNat'] at h5
  exact ⟨⟨by omega,Jim ha hc h4⟩,Jim hb hd h2⟩
 · rintro ⟨⟨rfl,rfl⟩,rfl⟩;rfl
theorem W3 (k a b:Int):(KZ k a b).length=17:=by simp [KZ]
theorem WX (l:List UInt8) (hl:l.length≤140737488355328) (G:Jp):Vi Tryz.prog 44 #[Sr l] G [] (fun u G' L'=>u=U (Jg l)):=by
 refine JN Tryz.func44 21 [(0,Sr l)] rfl (fun w0 G0=>?_)
 refine Jf [0] [] (Jf [0] [(3,U 1)] (Je (Jf [0,0,0] [(6,I ((l).length:Int)),(7,I 0)] (Jz ?_))))
 refine Qh (σ:=Nat×Int) (fun s=>(s.1≤l.length)∧(0≤s.2∧s.2<2305843009213693951)∧(s.2=(l.take s.1).foldl Jeh 1)) (fun s=>[(0,Sr l),(3,U s.2),(6,I ((l).length:Int)),(7,I (s.1:Int))]) (fun s=>G) (fun s=>[]) (fun s=>l.length-s.1) (0,1) (⟨Nat.zero_le _,by omega,by simp⟩) (fun s hs=>?_)
 obtain ⟨i,m⟩:=s
 obtain ⟨hi,hb,hm⟩:=hs
 dsimp only at hi hb hm
 dsimp only
 refine Jf [0] [(8,Bo (decide ((i:Int)<((l).length:Int))))] (Je (Jk (decide ((i:Int)<((l).length:Int))) (fun h1=>?_) (fun h1=>?_)))
 refine Jo (Jb (Je (Jz (Jf [0,0] [(4,I (i:Int))] ?_))))
 obtain ⟨y1,hy1⟩:=We (l:=l) (k:=i) (by omega)
 have e1:IntKind.u64.wrap (y1.toNat:Int)=(y1.toNat:Int):=IntWalk.u64_in _ (by (have:=JbY m 1099511628211;have:=y1.toNat_lt;omega))
 have e2:IntKind.u64.wrap ((WF m 1099511628211)+(y1.toNat:Int))=(WF m 1099511628211)+(y1.toNat:Int):=IntWalk.u64_in _ (by (have:=JbY m 1099511628211;have:=y1.toNat_lt;omega))
 have e3:IntKind.u64.wrap (((WF m 1099511628211)+(y1.toNat:Int))+1)=((WF m 1099511628211)+(y1.toNat:Int))+1:=IntWalk.u64_in _ (by (have:=JbY m 1099511628211;have:=y1.toNat_lt;omega))
 have e4:(((WF m 1099511628211)+(y1.toNat:Int))+1).tmod 2305843009213693951=(((WF m 1099511628211)+(y1.toNat:Int))+1) % 2305843009213693951:=IntWalk.rem_in _ _ (by (have:=JbY m 1099511628211;have:=y1.toNat_lt;omega))
 refine Ko [] (Wm [(0,U m),(1,U (WF m 1099511628211)),(2,Sr l),(3,I (i:Int)),(4,Y (y1.toNat:Int)),(5,U (y1.toNat:Int)),(6,U ((WF m 1099511628211)+(y1.toNat:Int))),(7,U (((WF m 1099511628211)+(y1.toNat:Int))+1)),(8,U ((((WF m 1099511628211)+(y1.toNat:Int))+1) % 2305843009213693951)),(9,U ((((WF m 1099511628211)+(y1.toNat:Int))+1) % 2305843009213693951))] (Km [] [(0,0),(2,0),(3,0),(9,0)] [1,4,5,6,7,8] [(0,Sr l),(3,U ((((WF m 1099511628211)+(y1.toNat:Int))+1) % 2305843009213693951)),(6,I ((l).length:Int)),(7,I (i:Int))] (Ke ?_ (Ke ?_ (Ke ?_ (Ke ?_ (Ke ?_ (Ke ?_ K4)))))) ?_))
 refine Jr 1 11 (U (WF m 1099511628211)) [(10,U m)] (fun X=>?_)
 exact Jj 11 (U (WF m 1099511628211)) (Jl4 m 1099511628211 J7 J7 G) Jn
 refine Jr 4 14 (Y (y1.toNat:Int)) [(12,Sr l),(13,I (i:Int))] (fun X=>?_)
 exact JaP (ik:=.i64) 14 i y1 hy1 Jn
 refine Jr 5 15 (U (y1.toNat:Int)) [(14,Y (y1.toNat:Int))] (fun X=>?_)
 exact K5 15 (U (IntKind.u64.wrap (y1.toNat:Int))) (U (y1.toNat:Int)) (by simp only [e1]) Jn
 refine Jr 6 16 (U ((WF m 1099511628211)+(y1.toNat:Int))) [(11,U (WF m 1099511628211)),(15,U (y1.toNat:Int))] (fun X=>?_)
 exact K5 16 (U (IntKind.u64.wrap ((WF m 1099511628211)+(y1.toNat:Int)))) (U ((WF m 1099511628211)+(y1.toNat:Int))) (by simp only [e2]) Jn
 refine Jr 7 17 (U (((WF m 1099511628211)+(y1.toNat:Int))+1)) [(16,U ((WF m 1099511628211)+(y1.toNat:Int)))] (fun X=>?_)
 exact K5 17 (U (IntKind.u64.wrap (((WF m 1099511628211)+(y1.toNat:Int))+1))) (U (((WF m 1099511628211)+(y1.toNat:Int))+1)) (by simp only [e3]) Jn
 refine Jr 8 18 (U ((((WF m 1099511628211)+(y1.toNat:Int))+1) % 2305843009213693951)) [(17,U (((WF m 1099511628211)+(y1.toNat:Int))+1))] (fun X=>?_)
 exact K5 18 (U ((((WF m 1099511628211)+(y1.toNat:Int))+1).tmod 2305843009213693951)) (U ((((WF m 1099511628211)+(y1.toNat:Int))+1) % 2305843009213693951)) (by simp only [e4]) Jn
 exact JM (Jb (Jc (Ja [0,0] [(7,I (IntKind.i64.wrap ((i:Int)+1)))] (Kw 7 ((i:Int)+1) J7 (Jd (Qr (i+1,(((WF m 1099511628211)+(y1.toNat:Int))+1) % 2305843009213693951) (⟨by omega,by dsimp only;omega,by rw [hm];exact (JjR (f:=Jeh) hy1).symm⟩) (by dsimp only;omega)))))))
 exact KW (JZ (J8 (JR (Jb (Jf [0,0] [(2,U m)] (Jl (Jm [0] [U m] (Jw (Jp.le_refl _) (congrArg U (by rw [hm,List.take_of_length_le (by omega)];rfl))))))))))
theorem Ja7 (k x y:Int) (G:Jp):Vi Tryz.prog 128 #[Y k,U x,U y] G [] (fun u G' L'=>u=Sr (KZ k x y)):=by
 refine JN Tryz.func128 16 [(0,Y k),(1,U x),(2,U y)] rfl (fun w0 G0=>?_)
 refine Jf [0] [] (Je (Ko [1] (Wm [(0,Y k),(3,U x),(4,Sr (KX x)),(6,U y),(7,Sr (KX y))] (JK [] [(0,0),(3,0),(6,0)] [4,7] [1] (Ke ?_ (Ke ?_ K4)) (Ke ?_ K4)))))
 refine Jr 4 11 (Sr (KX x)) [(10,U x)] (fun X=>?_)
 exact Jj 11 (Sr (KX x)) (Yd x G) Jn
 refine Jr 7 14 (Sr (KX y)) [(13,U y)] (fun X=>?_)
 exact Jj 14 (Sr (KX y)) (Yd y G) Jn
 refine JD 1 [(7,Y k)] (fun X=>?_)
 refine Kq 8 1 #[Y k] 5 (fun b1=>JC [(1,Sl (At b1 0) 1 1),(2,Sr (([k]:List Int).map fun n=>UInt8.ofNat n.toNat)),(5,Sr ((([k]:List Int).map fun n=>UInt8.ofNat n.toNat)++(KX x))),(8,Sr (((([k]:List Int).map fun n=>UInt8.ofNat n.toNat)++(KX x))++(KX y))),(9,Sr (((([k]:List Int).map fun n=>UInt8.ofNat n.toNat)++(KX x))++(KX y)))] (Km [0] [(3,0),(6,0),(9,0)] [2,4,5,7,8] [(6,Sr (((([k]:List Int).map fun n=>UInt8.ofNat n.toNat)++(KX x))++(KX y)))] (Ke ?_ (Ke ?_ (Ke ?_ (Ke ?_ (Ke ?_ K4))))) ?_))
 refine Jr 2 9 (Sr (([k]:List Int).map fun n=>UInt8.ofNat n.toNat)) [(8,Sl (At b1 0) 1 1)] (fun X=>?_)
 exact JaQ (b:=b1) (off:=0) (len:=1) (cap:=1) (cs:=List.map (Value.int .u8) [k]) 9 0 [k] rfl (V0 (ns:=[k]) rfl) Jn
 refine Jr 4 11 (Sr (KX x)) [(10,U x)] (fun X=>?_)
 exact Jj 11 (Sr (KX x)) (Yd x G) Jn
 refine Jr 5 12 (Sr ((([k]:List Int).map fun n=>UInt8.ofNat n.toNat)++(KX x))) [(9,Sr (([k]:List Int).map fun n=>UInt8.ofNat n.toNat)),(11,Sr (KX x))] (fun X=>?_)
 exact ZF 12 (([k]:List Int).map fun n=>UInt8.ofNat n.toNat) (KX x) (by simp) Jn
 refine Jr 7 14 (Sr (KX y)) [(13,U y)] (fun X=>?_)
 exact Jj 14 (Sr (KX y)) (Yd y G) Jn
 refine Jr 8 15 (Sr (((([k]:List Int).map fun n=>UInt8.ofNat n.toNat)++(KX x))++(KX y))) [(12,Sr ((([k]:List Int).map fun n=>UInt8.ofNat n.toNat)++(KX x))),(14,Sr (KX y))] (fun X=>?_)
 exact ZF 15 ((([k]:List Int).map fun n=>UInt8.ofNat n.toNat)++(KX x)) (KX y) (by simp) Jn
 refine Jb (Jl (Jm [0] [Sr (((([k]:List Int).map fun n=>UInt8.ofNat n.toNat)++(KX x))++(KX y))] (Jw (Jp.le_refl _) ?_)))
 rfl
theorem Jin (k x y:Int) (G:Jp):Vi Tryz.prog 241 #[Y k,U x,U y] G [] (fun u G' L'=>u=U (Jg (KZ k x y))):=by
 refine JN Tryz.func241 12 [(0,Y k),(1,U x),(2,U y)] rfl (fun w0 G0=>?_)
 refine Jf [0] [] (Je (Jc (Ja [0,0,0] [(7,Y k),(8,U x),(9,U y)] (Jj 10 (Sr (KZ k x y)) (Ja7 k x y G) (Jj 11 (U (Jg (KZ k x y))) (WX (KZ k x y) (by (simp [KZ];done)) G) (Ja [0] [(6,U (Jg (KZ k x y)))] (Jd (Jb (Jl (Jm [0] [U (Jg (KZ k x y))] (Jw (Jp.le_refl _) ?_)))))))))))
 rfl
theorem Jcg (s t:List UInt8) (hs:s.length≤140737488355328) (ht:t.length≤140737488355328) (G:Jp):Vi Tryz.prog 26 #[Sr s,Sr t] G [] (fun u G' L'=>u=Bo (!(s == t) && decide (Jg s=Jg t))):=by
 refine JN Tryz.func26 15 [(0,Sr s),(1,Sr t)] rfl (fun w0 G0=>?_)
 refine Jf [0] [] (Je (Jc (Ja [0,0,0,0] [(8,Bo (!((B s).toList == (B t).toList)))] (KI 8 (Bo (!(s == t))) (show (Bo (!((B s).toList == (B t).toList)):Value)=Bo (!(s == t)) by simp only [Qj]) (Qu [8] (!(s == t)) (fun h1=>?_) (fun h1=>?_))))))
 refine Ja [0] [(9,Sr s)] (Jj 10 (U (Jg s)) (WX s ‹_› G) (Ja [0] [(11,Sr t)] (Jj 12 (U (Jg t)) (WX t ‹_› G) (Ja [0,0,0] [(4,Bo (decide (Jg s=Jg t)))] (Jd (Jb (Jl (Jm [0] [Bo (decide (Jg s=Jg t))] (Jw (Jp.le_refl _) ?_)))))))))
 (simp_all [Ql])
 refine Ja [1,1,1,1,1,0,0] [(4,Bo false)] (Jd (Jb (Jl (Jm [0] [Bo false] (Jw (Jp.le_refl _) ?_)))))
 (simp_all [Ql])
def Yj (y:Int):UInt8:=UInt8.ofNat y.toNat
theorem u8w (x:Int):0≤IntKind.u8.wrap x∧IntKind.u8.wrap x<256:=by rw [Ja5];omega
theorem Jfj {y:Int} (h:0≤y∧y<256):y=((Yj y).toNat:Int):=by
 unfold Yj;rw [UInt8.toNat_ofNat'];omega
theorem Jl5 {p:Int→Bool} {s:List UInt8} {pos:Nat} (hp:pos<s.length) (h:p ((Utf8.decode (B s) pos).1:Int)=false) :
  Ja4 p s (s.length-(pos+(Utf8.decode (B s) pos).2)) (pos+(Utf8.decode (B s) pos).2)=Ja4 p s (s.length-pos) pos:=by
 have hw:=Jnf s pos
 rw [JkU _ (s.length-pos-1) _ (by omega) (by omega)]
 obtain ⟨n,hn⟩:∃ n,s.length-pos=n+1:=⟨s.length-pos-1,by omega⟩
 rw [hn]
 show _=(if pos<s.length then (if p _ then (pos:Int) else Ja4 p s n (pos+(Utf8.decode (B s) pos).2)) else -1)
 rw [if_pos hp,if_neg (by rw [h];simp)]
 rfl
theorem JjY {p:Int→Bool} {s:List UInt8} {pos:Nat} (hp:pos<s.length) (h:p ((Utf8.decode (B s) pos).1:Int)=true):Ja4 p s (s.length-pos) pos=(pos:Int):=by
 obtain ⟨n,hn⟩:∃ n,s.length-pos=n+1:=⟨s.length-pos-1,by omega⟩
 rw [hn];unfold Ja4;rw [if_pos hp,if_pos h]
theorem JnE {p:Int→Bool} {s:List UInt8} {n pos:Nat} (hp:¬ pos<s.length):Ja4 p s n pos=-1:=by
 cases n with
 | zero=>rfl
 | succ n=>unfold Ja4;rw [if_neg hp]
def Vl (s:List UInt8) (p:Int→Bool) (t:Bool):Int:=Ja4 (fun r=>p r == t) s s.length 0
def VH (s:List UInt8) (p:Int→Bool):Int:=Vl s p true
def Ja8 (s:List UInt8) (p:Int→Bool):Bool:=decide (VH s p ≥ 0)
theorem JjZ {s:List UInt8} {p:Int→Bool} (hp:∀ r:Int,128≤r→p r=true):Ja8 s p=s.any fun b=>p (b.toNat:Int):=by
 unfold Ja8 VH Vl
 have:=Jib (p:=fun r=>p r == true) (fun r h=>by simp [hp r h]) (l:=s) s.length 0 (by omega)
 simpa using this
def Jbq (r:Int):Bool:=decide (97≤r∧r≤122) || decide (48≤r∧r≤57)
def VA (r:Int):Bool:=!Jbq r
def KN (s:List UInt8):Bool:=decide (1≤s.length) && decide (s.length≤12) && !Ja8 s VA
theorem Jhl {s:List UInt8}:KN s=true ↔ 1≤s.length∧s.length≤12∧∀ b∈s,Jbq (b.toNat:Int)=true:=by
 unfold KN
 rw [JjZ (fun r h=>by unfold VA Jbq;simp;omega)]
 simp [VA,and_assoc]
def Jhm (s:List UInt8):List UInt8×List UInt8×Bool:=match s with
 | a::b::r=>if a.toNat*256+b.toNat≤r.length then (r.take (a.toNat*256+b.toNat),r.drop (a.toNat*256+b.toNat),true) else ([],[],false)
 | _=>([],[],false)
def Jc5 (p:List UInt8):List UInt8:=Yj (IntKind.u8.wrap ((p.length:Int).fdiv (2 ^ 8)))::Yj (IntKind.u8.wrap (p.length:Int))::p
def Jbt (l:List (List UInt8)):List UInt8:=(l.map Jc5).flatten
def JbB:Nat→List (List UInt8)→Bool
 | _,[]=>true
 | n,p::l=>decide (n+2+p.length≤600) && JbB (n+2+p.length) l
theorem Jl6 {l:List (List UInt8)} {i:Nat} {x:List UInt8} (h:l[i]? = some x):((Jbt (l.take i)++[Yj (IntKind.u8.wrap ((x.length:Int).fdiv (2 ^ 8)))])++[Yj (IntKind.u8.wrap (x.length:Int))])++x=Jbt (l.take (i+1)):=by
 rw [List.take_add_one,h];simp [Jbt,Jc5]
theorem Jj0 {l:List (List UInt8)} {i n:Nat} {x:List UInt8} (h:l[i]? = some x) (hn:n+2+x.length≤600):JbB n (l.drop i)=JbB (((n+1)+1)+x.length) (l.drop (i+1)):=by
 obtain ⟨hi,rfl⟩:=List.getElem?_eq_some_iff.1 h
 rw [List.drop_eq_getElem_cons hi]
 show (decide _ && _)=_
 rw [decide_eq_true hn];rfl
theorem JnF {l:List (List UInt8)} {i n:Nat} {x:List UInt8} (h:l[i]? = some x) (hn:600<n+2+x.length):JbB n (l.drop i)=false:=by
 obtain ⟨hi,rfl⟩:=List.getElem?_eq_some_iff.1 h
 rw [List.drop_eq_getElem_cons hi]
 show (decide _ && _)=_
 rw [decide_eq_false (by omega)];rfl
def Vf (l:List (List UInt8)):List UInt8×Int:=if 60<l.length then ([],2) else if JbB 0 l then (Jbt l,0) else ([],2)
theorem JgM (G:Jp) (b:Nat) (A:Value) (a:Option Addr) (n c:Nat) (hA:A=.pointer none∨A=Pt b 0):Jha Tryz.prog 144 #[Pt b 0] G [[Vd 165 b 0 [A,Sl a n c]]] (fun u G' L'=>u=.tuple #[]∧L'=[[Vd 165 b 0 [Pt b 0,Sl a n c]]]):=by
 rcases hA with rfl | rfl
 intro Lr
 refine JN Tryz.func144 20 [(0,Pt b 0)] rfl (fun w0 G0=>?_)
 show TC _ _ _ _ _ ([Vd 165 b 0 [.pointer none,Sl a n c]]::Lr)
 refine Jf [0,0,0,2,0] [(6,Bo true)] (JU (Jc (Ja [0,0] [(7,Pt b 0),(8,Pt b 0)] ?_)))
 refine Jia (cs:=[.pointer none,Sl a n c]) 9 0 165 165 true ?_
 refine Jne (f:=197) (args:=#[Pt b 0]) 10 (Pt b 0) (fun w=>by rw [run_callFunc_extern (e:=Extern.AbiNoEscape.same) Tryz.func197 (by kernel_rfl) (by kernel_rfl) (by kernel_rfl) (by kernel_rfl)];rfl) ?_
 refine Jia (cs:=[.pointer none,Sl a n c]) 11 0 165 165 false ?_
 exact JV [0,0,3] [] ([Vd 165 b 0 [Pt b 0,Sl a n c]]::Lr) (Jd (ZC [] [] (KQ (Lr:=Lr) [[Vd 165 b 0 [Pt b 0,Sl a n c]]] (Jp.le_refl _) (⟨rfl,rfl⟩))))
 intro Lr
 refine JN Tryz.func144 20 [(0,Pt b 0)] rfl (fun w0 G0=>?_)
 show TC _ _ _ _ _ ([Vd 165 b 0 [Pt b 0,Sl a n c]]::Lr)
 exact Jf [0,0,0,2,0] [(6,Bo false)] (Qq (Je (Jc (Ja [0,0,0,2,0] [(17,Pt b 0),(18,Pt b 0)] (JjM 19 (b:=b) (o':=0) (eq:=false) (Jd (Jb (Qq (Jo (ZC [] [] (KQ (Lr:=Lr) [[Vd 165 b 0 [Pt b 0,Sl a n c]]] (Jp.le_refl _) (⟨rfl,rfl⟩))))))))))))
theorem JnG (G:Jp) (b:Nat) (A:Value) (a:Option Addr) (c:Nat) (l:List UInt8) (r:List Kg) (hb:Ja3 5 a c l r) (hA:A=.pointer none∨A=Pt b 0):Jha Tryz.prog 245 #[Pt b 0] G [[Vd 165 b 0 [A,Sl a l.length c]],r] (fun u G' L'=>u=I (l.length:Int)∧L'=[[Vd 165 b 0 [A,Sl a l.length c]],r]):=by
 intro Lr
 refine JN Tryz.func245 8 [(0,Pt b 0)] rfl (fun w0 G0=>?_)
 show TC _ _ _ _ _ ([Vd 165 b 0 [A,Sl a l.length c]]::r::Lr)
 exact Jf [0] [] (Jf [0,0,0,2,0,0] [(2,I (l.length:Int))] (Jl (Jm [0] [I (l.length:Int)] (KQ (Lr:=Lr) [[Vd 165 b 0 [A,Sl a l.length c]],r] (Jp.le_refl _) (⟨rfl,rfl⟩)))))
theorem JbC (G:Jp) (b:Nat) (A:Value) (a:Option Addr) (c:Nat) (l:List UInt8) (r:List Kg) (hb:Ja3 5 a c l r) (hA:A=.pointer none∨A=Pt b 0) (y:Int) (hy:0≤y∧y<256) (hl:l.length+1≤140737488355328):Jha Tryz.prog 246 #[Pt b 0,Y y] G [[Vd 165 b 0 [A,Sl a l.length c]],r] (fun u G' L'=>∃ a' c' r',u=.nilIface∧Ja3 5 a' c' (l++[Yj y]) r'∧L'=[[Vd 165 b 0 [Pt b 0,Sl a' (l++[Yj y]).length c']],r']):=by
 intro Lr
 refine JN Tryz.func246 17 [(0,Pt b 0),(1,Y y)] rfl (fun w0 G0=>?_)
 show TC _ _ _ _ _ ([Vd 165 b 0 [A,Sl a l.length c]]::r::Lr)
 refine Jf [0] [] (Je (Jc (Ja [0] [(5,Pt b 0)] (Jx 0 (Qn (Ls:=[[Vd 165 b 0 [A,Sl a l.length c]]]) (Lr:=(r::Lr)) 6 (JgM G b A a l.length c hA) (fun v G1 L1 hl1 hp=>?_))))))
 obtain ⟨rfl,rfl⟩:=hp
 exact Jd (Jb (Je (Jc (Ja [0,0,0,0,2,0] [(7,Pt b 0),(11,Sl a l.length c),(12,Y y)] (Kq 13 1 #[Y y] 5 (fun b1=>JlQ (b:=b1) 14 5 2 0 (Yj y) y (Jfj ‹_›) hb J7 (fun a1 c1 r1 hb1=>JV [0,0,5] [] ([Sg b1 0 [Y y]]::[Vd 165 b 0 [Pt b 0,Sl a1 ((l++[Yj y]).length) c1]]::r1::Lr) (Jd (Jb (Jf [0] [(4,.nilIface)] (Jl (Jm [0] [.nilIface] (KQ (Lr:=Lr) [[Vd 165 b 0 [Pt b 0,Sl a1 ((l++[Yj y]).length) c1]],r1] hl1 (⟨a1,c1,r1,rfl,hb1,rfl⟩))))))))))))))
theorem JdN (G:Jp) (b:Nat) (A:Value) (a:Option Addr) (c:Nat) (l:List UInt8) (r:List Kg) (hb:Ja3 5 a c l r) (hA:A=.pointer none∨A=Pt b 0) (s:List UInt8) (hl:l.length+s.length≤140737488355328):Jha Tryz.prog 91 #[Pt b 0,Sr s] G [[Vd 165 b 0 [A,Sl a l.length c]],r] (fun u G' L'=>∃ a' c' r',u=.tuple #[I (s.length:Int),.nilIface]∧Ja3 5 a' c' (l++s) r'∧L'=[[Vd 165 b 0 [Pt b 0,Sl a' (l++s).length c']],r']):=by
 intro Lr
 refine JN Tryz.func91 19 [(0,Pt b 0),(1,Sr s)] rfl (fun w0 G0=>?_)
 show TC _ _ _ _ _ ([Vd 165 b 0 [A,Sl a l.length c]]::r::Lr)
 refine Jf [0,0] [] (Je (Jc (Ja [0] [(6,Pt b 0)] (Jx 0 (Qn (Ls:=[[Vd 165 b 0 [A,Sl a l.length c]]]) (Lr:=(r::Lr)) 7 (JgM G b A a l.length c hA) (fun v G1 L1 hl1 hp=>?_))))))
 obtain ⟨rfl,rfl⟩:=hp
 exact Jd (Jb (Je (Jc (Ja [0,0,0,0,2,0] [(8,Pt b 0),(12,Sl a l.length c),(13,Sr s)] (JlP (s:=s) 14 5 1 hb J7 (fun a1 c1 r1 hb1=>JV [0,0,3] [] ([Vd 165 b 0 [Pt b 0,Sl a1 ((l++s).length) c1]]::r1::Lr) (Jd (Jb (Jf [0,0,0,0] [(4,I ((s).length:Int)),(5,.nilIface)] (Jl (Jm [0,0] [I ((s).length:Int),.nilIface] (KQ (Lr:=Lr) [[Vd 165 b 0 [Pt b 0,Sl a1 ((l++s).length) c1]],r1] hl1 (⟨a1,c1,r1,rfl,hb1,rfl⟩)))))))))))))
theorem Jio (G:Jp) (b:Nat) (A:Value) (a:Option Addr) (c:Nat) (l:List UInt8) (r:List Kg) (hb:Ja3 5 a c l r) (hA:A=.pointer none∨A=Pt b 0):Jha Tryz.prog 92 #[Pt b 0] G [[Vd 165 b 0 [A,Sl a l.length c]],r] (fun u G' L'=>u=Sr l∧L'=[[Vd 165 b 0 [A,Sl a l.length c]],[]]):=by
 intro Lr
 refine JN Tryz.func92 14 [(0,Pt b 0)] rfl (fun w0 G0=>?_)
 show TC _ _ _ _ _ ([Vd 165 b 0 [A,Sl a l.length c]]::r::Lr)
 refine Jf [0] [] (Je (Ko [10] (Wm [(0,Pt b 0),(1,Pt b 0),(2,Pt b 1),(3,Sl a l.length c),(4,JgF a),(5,Pt b 0),(6,Pt b 0),(7,Pt b 1),(8,Sl a l.length c),(9,I (l.length:Int))] (JK [] [(0,0),(1,0),(2,0),(3,2),(5,0),(6,0),(7,0),(8,2),(9,0)] [4] [10] (Ke ?_ K4) (Ke ?_ K4)))))
 refine Jr 4 7 (JgF a) [(6,Sl a l.length c)] (fun X=>?_)
 exact Jna 7 hb Jn
 refine JD 10 [(7,JgF a),(12,I (l.length:Int))] (fun X=>?_)
 exact JlR (e:=5) 13 1 hb (JC [(10,Sr l),(11,Sr l)] (Km [0,1,2,3,4,5,6,7,8,9] [(11,0)] [] [(2,Sr l)] (List.forall_mem_nil _) (Jb (Jl (Jm [0] [Sr l] (KQ (Lr:=Lr) [[Vd 165 b 0 [A,Sl a l.length c]],[]] (Jp.le_refl _) (⟨rfl,rfl⟩)))))))
theorem Jip (G:Jp) (s:List UInt8) (k_f:FuncId) (caps_f:Array Value) (p_f:Int→Bool) (hk_f:JaS Tryz.prog k_f) (h_f:∀ (x0:Int),Vi Tryz.prog k_f (#[.int .i32 x0]++caps_f) G [] (fun u _ _=>u=Bo (p_f x0))) (t:Bool) :Q2 202 #[Sr s,Fv k_f caps_f,Bo t] G (I (Vl s p_f t)):=by
 refine JN Tryz.func202 21 [(0,Sr s),(1,Fv k_f caps_f),(2,Bo t)] rfl (fun w0 G0=>?_)
 refine Jf [0] [] (Je (Je (Jc (Ja [0] [(9,Sr s)] (JjL (l:=s) 10 (fun b1=>Jd (Jb (Jz ?_))))))))
 refine Qh (σ:=Nat) (fun q_=>(Ja4 (fun r=>p_f r == t) s (s.length-q_) q_=Ja4 (fun r=>p_f r == t) s s.length 0)) (fun q_=>[(1,Fv k_f caps_f),(2,Bo t),(10,Pt b1 0)]) (fun q_=>G) (fun q_=>[[Ob b1 (.stringIter (B s) q_)]]) (fun q_=>s.length-q_) 0 rfl (fun q_ hs=>?_)
 revert hs;revert q_;intro pos hs
 have hn:=hs
 dsimp only
 refine Je (Jc (JlS (b:=b1) (pos:=pos) (l:=s) 11 0 (fun hp1=>?_) (fun hp1=>?_)))
 refine Ja [0] [(12,Bo true)] (Jd (Jb (Je (JU (Jo (Jb (Jz (Jf [0,0,0,0] [(7,I (pos:Int)),(8,.int .i32 ((Utf8.decode (B s) pos).1:Int))] (Je (Jc (Ja [0,0] [(15,Fv k_f caps_f),(16,.int .i32 ((Utf8.decode (B s) pos).1:Int))] (ZQ (k:=k_f) (caps:=caps_f) (args:=#[.int .i32 ((Utf8.decode (B s) pos).1:Int)]) 17 (Bo (p_f ((Utf8.decode (B s) pos).1:Int))) hk_f (h_f ((Utf8.decode (B s) pos).1:Int)) (Ja [0,0] [(19,Bo ((p_f ((Utf8.decode (B s) pos).1:Int)) == t))] (Jd (Jb (Jk ((p_f ((Utf8.decode (B s) pos).1:Int)) == t) (fun h1=>?_) (fun h1=>?_)))))))))))))))))
 refine Jf [0,0] [(6,I (pos:Int))] (Jl (Jt (QS (Jt (Jh (Jm [0] [I (pos:Int)] (Jw (Jp.le_refl _) (congrArg I (?_:(Vl s p_f t)=(pos:Int)).symm))))))))
 unfold Vl;rw [← hn];exact JjY (p:=(fun r=>p_f r == t)) hp1 (by simpa using h1)
 exact Jo (JM (Qr (pos+(Utf8.decode (B s) pos).2) (by rw [← hn];exact Jl5 (p:=(fun r=>p_f r == t)) hp1 (by simpa using h1)) (by have:=Jnf s pos;(try dsimp only);omega)))
 refine Ja [0] [(12,Bo false)] (Jd (Jb (Je (Qq (KW (JZ (J8 (JR (Jb (Jf [0] [(6,I (-1))] (Jl (Jm [0] [I (-1)] (Jw (Jp.le_refl _) (congrArg I (?_:(Vl s p_f t)=(-1)).symm))))))))))))))
 unfold Vl;rw [← hn];exact JnE hp1
theorem Jhn (G:Jp) (s:List UInt8) (k_f:FuncId) (caps_f:Array Value) (p_f:Int→Bool) (hk_f:JaS Tryz.prog k_f) (h_f:∀ (x0:Int),Vi Tryz.prog k_f (#[.int .i32 x0]++caps_f) G [] (fun u _ _=>u=Bo (p_f x0))) :Q2 147 #[Sr s,Fv k_f caps_f] G (I (VH s p_f)):=by
 refine JN Tryz.func147 8 [(0,Sr s),(1,Fv k_f caps_f)] rfl (fun w0 G0=>?_)
 refine Jf [0] [] (Je (Jc (Ja [0,0] [(5,Sr s),(6,Fv k_f caps_f)] (Jj 7 (I (Vl s p_f true)) (Jip G s k_f caps_f p_f hk_f h_f true) (Ja [0] [(4,I (Vl s p_f true))] (Jd (Jb (Jl (Jm [0] [I (Vl s p_f true)] (Jw (Jp.le_refl _) (congrArg I (?_:(VH s p_f)=(Vl s p_f true)).symm)))))))))))
 rfl
theorem Jj1 (G:Jp) (s:List UInt8) (k_f:FuncId) (caps_f:Array Value) (p_f:Int→Bool) (hk_f:JaS Tryz.prog k_f) (h_f:∀ (x0:Int),Vi Tryz.prog k_f (#[.int .i32 x0]++caps_f) G [] (fun u _ _=>u=Bo (p_f x0))) :Q2 98 #[Sr s,Fv k_f caps_f] G (Bo (Ja8 s p_f)):=by
 refine JN Tryz.func98 9 [(0,Sr s),(1,Fv k_f caps_f)] rfl (fun w0 G0=>?_)
 refine Jf [0] [] (Je (Jc (Ja [0,0] [(5,Sr s),(6,Fv k_f caps_f)] (Jj 7 (I (VH s p_f)) (Jhn G s k_f caps_f p_f hk_f h_f) (Ja [0,0] [(4,Bo (decide (VH s p_f ≥ 0)))] (Jd (Jb (Jl (Jm [0] [Bo (decide (VH s p_f ≥ 0))] (Jw (Jp.le_refl _) (congrArg Bo (?_:(Ja8 s p_f)=(decide (VH s p_f ≥ 0))).symm)))))))))))
 rfl
theorem Jl7 (G:Jp) (r:Int) :Q2 97 #[.int .i32 r] G (Bo (Jbq r)):=by
 refine JN Tryz.func97 17 [(0,.int .i32 r)] rfl (fun w0 G0=>?_)
 refine Jf [0] [] (Je (Jc (Ja [0,0,0] [(5,Bo (decide (r ≥ 97)))] (Kn (decide (r ≥ 97)) [5] [0,0,0] [1,1,0] (fun bb=>[(8,Bo (bb && (decide (r≤122))))]) (Ja [0] [(9,Bo ((decide (r ≥ 97)) && (decide (r≤122))))] (Qu [9] ((decide (r ≥ 97)) && (decide (r≤122))) (fun h1=>?_) (fun h1=>?_)))))))
 refine Ja [1,1,1,1,1,1,0,0] [(2,Bo true)] (Jd (Jb (Jl (Jm [0] [Bo true] (Jw (Jp.le_refl _) (congrArg Bo (?_:(Jbq r)=true).symm))))))
 rw [Bool.eq_iff_iff];unfold Jbq;simp;omega
 refine Ja [0,0,0] [(12,Bo (decide (r ≥ 48)))] (Kn (decide (r ≥ 48)) [12] [0,0,0] [1,1,0] (fun bb=>[(15,Bo (bb && (decide (r≤57))))]) (Ja [0,0] [(2,Bo ((decide (r ≥ 48)) && (decide (r≤57))))] (Jd (Jb (Jl (Jm [0] [Bo ((decide (r ≥ 48)) && (decide (r≤57)))] (Jw (Jp.le_refl _) (congrArg Bo (?_:(Jbq r)=((decide (r ≥ 48)) && (decide (r≤57)))).symm))))))))
 rw [Bool.eq_iff_iff];unfold Jbq;simp;omega
theorem Jiq (G:Jp) (r:Int) (b_i:Nat) (hz_i:∀ j v,([Fv 97 #[]]:List Value)[j]? = some v→G b_i (0+j)=some v) :Q2 99 #[.int .i32 r,Pt b_i 0] G (Bo (VA r)):=by
 refine JN Tryz.func99 8 [(0,.int .i32 r),(1,Pt b_i 0)] rfl (fun w0 G0=>?_)
 refine Jf [0] [] (Je (Jc (JW (o':=0) 4 178 (cs:=[Fv 97 #[]]) 0 (Fv 97 #[]) hz_i (Ja [0] [(5,.int .i32 r)] (Jj 6 (Bo (Jbq r)) (Jl7 G r) (Ja [0,0] [(3,Bo (!(Jbq r)))] (Jd (Jb (Jl (Jm [0] [Bo (!(Jbq r))] (Jw (Jp.le_refl _) (congrArg Bo (?_:(VA r)=(!(Jbq r))).symm))))))))))))
 rfl
theorem ZJ (G:Jp) (s:List UInt8) :Q2 56 #[Sr s] G (Bo (KN s)):=by
 refine JN Tryz.func56 18 [(0,Sr s)] rfl (fun w0 G0=>?_)
 refine Jf [0] [] (Je (Jc (Jv 3 #[.nilFunc] 178 (fun b1=>JV [3] [] [[Sg b1 0 [Fv 97 #[]]]] (Jd (Jb (Je (Jc (Ja [0,0,0,0] [(7,Bo (decide (((s).length:Int) ≥ 1)))] (Kn (decide (((s).length:Int) ≥ 1)) [7] [0,0,0,0] [1,1,1,0] (fun bb=>[(11,Bo (bb && (decide (((s).length:Int)≤12))))]) (Ja [0] [(12,Bo ((decide (((s).length:Int) ≥ 1)) && (decide (((s).length:Int)≤12))))] (Qu [12] ((decide (((s).length:Int) ≥ 1)) && (decide (((s).length:Int)≤12))) (fun h1=>?_) (fun h1=>?_)))))))))))))
 refine Ja [0,0] [(13,Sr s),(14,Fv 99 #[Pt b1 0])] (QV (b:=b1) (o:=0) (cs:=[Fv 97 #[]]) 0 (fun G1 hl1 hz1=>Jj 15 (Bo (Ja8 s (fun x0=>VA x0))) (Jj1 G1 s 99 #[Pt b1 0] (fun x0=>VA x0) (fun _ _=>by kernel_rfl) (fun x0=>Jiq G1 x0 b1 hz1)) (Ja [0,0,0] [(2,Bo (!(Ja8 s (fun x0=>VA x0))))] (Jd (Jb (Jl (Jm [0] [Bo (!(Ja8 s (fun x0=>VA x0)))] (Jw hl1 (congrArg Bo (?_:(KN s)=(!(Ja8 s (fun x0=>VA x0)))).symm)))))))))
 unfold KN;(try simp_all) <;> (intros;omega)
 refine Ja [1,1,1,1,0,0] [(2,Bo false)] (Jd (Jb (Jl (Jm [0] [Bo false] (Jw (Jp.le_refl _) (congrArg Bo (?_:(KN s)=false).symm))))))
 unfold KN;(try simp_all) <;> (intros;omega)
theorem Jir (G:Jp) (a_l:Option Addr) (c_l:Nat) (l:List (List UInt8)) (h_l:RS ES G a_l c_l l) :Q2 204 #[Sl a_l l.length c_l] G (.tuple #[Sr ((Vf l).1),I ((Vf l).2)]):=by
 refine JN Tryz.func204 34 [(0,Sl a_l l.length c_l)] rfl (fun w0 G0=>?_)
 refine Jf [0,0] [] (Je (Jf [0,0,0] [(9,Bo (decide ((l.length:Int) > 60)))] (Jk (decide ((l.length:Int) > 60)) (fun h1=>?_) (fun h1=>?_))))
 refine Jf [0,0] [(2,Sr ([])),(3,I 2)] (Jl (Jh (Jm [0,0] [Sr ([]),I 2] (Jw (Jp.le_refl _) ?_))))
 have hf_:(Vf l)=([],2):=by
  unfold Vf;(rw [if_pos (by omega)];done)
 · (try rw [hf_]);(simp only [Ql];done)
 refine Jo (Jb (Je (Jc (JlT 4 #[.pointer none,Sl none 0 0] 165 (fun b1=>Jd (Jb (Je (Jf [0,0,0] [(10,Sl a_l l.length c_l),(11,I (l.length:Int)),(12,I 0)] (Jz (Yh ?_))))))))))
 have hlm_h_l:l.length≤9223372036854775807:=Nat.le_trans (h_l).le (h_l).max
 refine Qh (σ:=Nat×Value×Option Addr×Nat×List Kg×List UInt8×Jp) (fun q_=>(Jp.le G q_.2.2.2.2.2.2)∧(q_.1≤l.length)∧(q_.2.1=.pointer none∨q_.2.1=Pt b1 0)∧(Ja3 5 q_.2.2.1 q_.2.2.2.1 q_.2.2.2.2.2.1 q_.2.2.2.2.1)∧(q_.2.2.2.2.2.1=Jbt (l.take q_.1))∧(q_.2.2.2.2.2.1.length≤600)∧(JbB 0 l=JbB q_.2.2.2.2.2.1.length (l.drop q_.1))) (fun q_=>[(4,Pt b1 0),(10,Sl a_l l.length c_l),(11,I (l.length:Int)),(12,I (q_.1:Int))]) (fun q_=>q_.2.2.2.2.2.2) (fun q_=>[q_.2.2.2.2.1,[Vd 165 b1 0 [q_.2.1,Sl q_.2.2.1 q_.2.2.2.2.2.1.length q_.2.2.2.1]]]) (fun q_=>l.length-q_.1) (0,.pointer none,none,0,[],[],G) ⟨(Jp.le_refl _),(by (try dsimp only);exact Nat.zero_le _),(.inl rfl),(Ja3.nil _),rfl,(by (try dsimp only);simp),rfl⟩ (fun q_ hs=>?_)
 obtain ⟨i,A,a,c,r,t,g⟩:=q_
 obtain ⟨hle,hi,hA,hb,ht,hl6,hk⟩:=hs
 dsimp only at hle hi hA hb ht hl6 hk
 dsimp only
 refine Jf [0] [(13,Bo (decide ((i:Int)<(l.length:Int))))] (Je (Jk (decide ((i:Int)<(l.length:Int))) (fun h2=>?_) (fun h2=>?_)))
 refine Jo (Jb (Je (Jz (Je (Jc ?_)))))
 obtain ⟨b2,o1,rfl⟩:=RS.addr (h_l.mono hle) (k:=i) (by omega)
 obtain ⟨x1,hx1⟩:=We (l:=l) (k:=i) (by omega)
 obtain ⟨_,⟨rfl,_⟩,hc1⟩:=RS.get (h_l.mono hle) hx1
 refine J3 (b:=b2) (off:=o1) (len:=l.length) (cap:=c_l) (ik:=.i64) 14 9 1 i J7 (JW 15 9 (cs:=[Sr x1]) 0 (Sr x1) hc1 (Ja [0] [(6,Sr x1)] (Jd (Jb (Je (Je (Jc (Ja [0,0] [(17,I ((x1).length:Int))] (Jx 0 (Jx 1 (Qn (Ls:=[[Vd 165 b1 0 [A,Sl a t.length c]],r]) (Lr:=[]) 18 (JnG g b1 A a c t r hb hA) (fun v G1 L1 hl1 hp=>?_))))))))))))
 obtain ⟨rfl,rfl⟩:=hp
 refine Ja [0,0] [(20,Bo (decide (((x1).length:Int) > IntKind.i64.wrap (598-((t).length:Int)))))] ?_
 have e1:IntKind.i64.wrap (598-((t).length:Int))=598-((t).length:Int):=IntWalk.i64_in _ (by omega)
 refine KI 20 (Bo (decide (((x1).length:Int) > 598-((t).length:Int)))) (show (Bo (decide (((x1).length:Int) > IntKind.i64.wrap (598-((t).length:Int)))):Value)=Bo (decide (((x1).length:Int) > 598-((t).length:Int))) by simp only [e1]) ?_
 clear e1
 refine Jd (Jb (Jk (decide (((x1).length:Int) > 598-((t).length:Int))) (fun h3=>?_) (fun h3=>?_)))
 refine Jf [0,0] [(2,Sr ([])),(3,I 2)] (Jl (Jh (Jt (Jh (QS (Jt (Jh (Jm [0,0] [Sr ([]),I 2] (Jw (Jp.le_trans hle hl1) ?_)))))))))
 have hf_:(Vf l)=([],2):=by
  unfold Vf;(rw [if_neg (by omega),hk];(rw [JnF hx1 (by omega)];rfl))
 · (try rw [hf_]);(simp only [Ql];done)
 refine Jo (Jb (Je (Jc (Ja [0,0,0,0] [(24,Y (IntKind.u8.wrap (((x1).length:Int).fdiv (2 ^ 8))))] (Jx 1 (Jx 1 (Qn (Ls:=[[Vd 165 b1 0 [A,Sl a t.length c]],r]) (Lr:=[]) 25 (JbC G1 b1 A a c t r hb hA (IntKind.u8.wrap (((x1).length:Int).fdiv (2 ^ 8))) (u8w _) J7) (fun v G2 L1 hl2 hp=>?_))))))))
 obtain ⟨a1,c1,r1,rfl,hb1,rfl⟩:=hp
 refine Jd (Jb (Je (Jc (Ja [0,0,0] [(28,Y (IntKind.u8.wrap ((x1).length:Int)))] (Jx 1 (Jx 1 (Qn (Ls:=[[Vd 165 b1 0 [Pt b1 0,Sl a1 ((t++[Yj (IntKind.u8.wrap (((x1).length:Int).fdiv (2 ^ 8)))]).length) c1]],r1]) (Lr:=[]) 29 (JbC G2 b1 (Pt b1 0) a1 c1 (t++[Yj (IntKind.u8.wrap (((x1).length:Int).fdiv (2 ^ 8)))]) r1 hb1 (.inr rfl) (IntKind.u8.wrap ((x1).length:Int)) (u8w _) (by (simp only [List.length_append,List.length_cons,List.length_nil];omega))) (fun v G3 L1 hl3 hp=>?_))))))))
 obtain ⟨a2,c2,r2,rfl,hb2,rfl⟩:=hp
 refine Jd (Jb (Jc (Ja [0] [(30,Sr x1)] (Jx 1 (Jx 1 (Qn (Ls:=[[Vd 165 b1 0 [Pt b1 0,Sl a2 (((t++[Yj (IntKind.u8.wrap (((x1).length:Int).fdiv (2 ^ 8)))])++[Yj (IntKind.u8.wrap ((x1).length:Int))]).length) c2]],r2]) (Lr:=[]) 31 (JdN G3 b1 (Pt b1 0) a2 c2 ((t++[Yj (IntKind.u8.wrap (((x1).length:Int).fdiv (2 ^ 8)))])++[Yj (IntKind.u8.wrap ((x1).length:Int))]) r2 hb2 (.inr rfl) x1 (by (simp only [List.length_append,List.length_cons,List.length_nil];omega))) (fun v G4 L1 hl4 hp=>?_)))))))
 obtain ⟨a3,c3,r3,rfl,hb3,rfl⟩:=hp
 refine Jd (JM (Jb (Jc (Ja [0,0] [(12,I (IntKind.i64.wrap ((i:Int)+1)))] (Kw 12 ((i:Int)+1) J7 (Jd (Ji 0 (Ji 1 ?_))))))))
 exact QT [r3,[Vd 165 b1 0 [Pt b1 0,Sl a3 ((((t++[Yj (IntKind.u8.wrap (((x1).length:Int).fdiv (2 ^ 8)))])++[Yj (IntKind.u8.wrap ((x1).length:Int))])++x1).length) c3]]] (Qr (i+1,Pt b1 0,a3,c3,r3,((t++[Yj (IntKind.u8.wrap (((x1).length:Int).fdiv (2 ^ 8)))])++[Yj (IntKind.u8.wrap ((x1).length:Int))])++x1,G4) ⟨(Jp.le_trans hle (Jp.le_trans (Jp.le_trans (Jp.le_trans hl1 hl2) hl3) hl4)),J7,(.inr rfl),hb3,(by rw [ht];exact Jl6 hx1),(by simp only [List.length_append,List.length_cons,List.length_nil];omega),(by rw [hk,Jj0 (n:=t.length) hx1 (by omega)];simp [Nat.add_assoc,Nat.add_comm,Nat.add_left_comm])⟩ (by (try dsimp only);omega))
 refine KW (JZ (J8 (JR (Jb (Je (Jc (Jx 0 (Jx 1 (Qn (Ls:=[[Vd 165 b1 0 [A,Sl a t.length c]],r]) (Lr:=[]) 33 (Jio g b1 A a c t r hb hA) (fun v G5 L1 hl5 hp=>?_))))))))))
 obtain ⟨rfl,rfl⟩:=hp
 refine Ja [0,0] [(2,Sr t),(3,I 0)] (Jd (Jb (Jl (Jm [0,0] [Sr t,I 0] (Jw (Jp.le_trans hle hl5) ?_)))))
 have hf_:(Vf l)=(t,0):=by
  unfold Vf;(rw [if_neg (by omega),hk];(rw [List.drop_eq_nil_of_le (by omega),ht,List.take_of_length_le (by omega)];rfl))
 · (try rw [hf_]);(simp only [Ql];done)
theorem Jis {α:Type} {a b:List α} {i:Nat} {x y:α} (h:a.take i=b.take i) (hx:a[i]? = some x) (hy:b[i]? = some y) (e:x=y):a.take (i+1)=b.take (i+1):=by
 rw [List.take_add_one,List.take_add_one,h,hx,hy,e]
theorem ne_at {α:Type} {a b:List α} {i:Nat} {x y:α} (hx:a[i]? = some x) (hy:b[i]? = some y) (e:¬ x=y):¬ a=b:=by
 intro h;rw [h,hy] at hx;exact e (Option.some.inj hx).symm
theorem Jj2 {α:Type} {a b:List α} {i:Nat} (hl:a.length=b.length) (hi:a.length≤i) (h:a.take i=b.take i):a=b:=by
 rwa [List.take_of_length_le hi,List.take_of_length_le (by omega)] at h
theorem Jpf {x y:J2}:x=y ↔ x.name=y.name∧x.value=y.value:=by cases x;cases y;simp
theorem Yz {x y:JQ}:x=y ↔ x.epoch=y.epoch∧x.root=y.root∧x.prev=y.prev∧x.at_=y.at_:=by cases x;cases y;simp
theorem Jho {α:Type} {p:α→Bool} {l:List α} {i:Nat} (h:QR p l=(i:Int)):∃ x,l[i]? = some x∧p x=true:=by
 unfold QR at h
 cases hh:l.findIdx? p with
 | none=>rw [hh] at h;simp at h
 | some k =>
  rw [hh] at h
  have:k=i:=by simp at h;omega
  subst this
  rw [List.findIdx?_eq_some_iff_getElem] at hh
  obtain ⟨h1,h2,_⟩:=hh
  exact ⟨l[k],List.getElem?_eq_getElem h1,h2⟩
theorem JbZ (G:Jp) (a_l:Option Addr) (c_l:Nat) (l:List (List UInt8)) (h_l:RS ES G a_l c_l l) :Yi 12 #[Sl a_l l.length c_l] G [] (fun u G' L'=>∃ (a1:Option Addr) (c2:Nat) (r3:List Kg),u=Sl a1 l.length c2∧(J0 ES G' a1 c2 l r3)∧L'=[r3]):=by
 refine JN Tryz.func12 8 [(0,Sl a_l l.length c_l)] rfl (fun w0 G0=>?_)
 refine Jf [0] [] (Je (Je (Jc (Ja [0] [(3,Sl a_l l.length c_l)] (JaO 4 (Bo ((a_l).isNone)) (by intro w;cases a_l <;> kernel_rfl) (Jd (Jb (Jk ((a_l).isNone) (fun h1=>?_) (fun h1=>?_)))))))))
 refine Jf [0] [(2,Sl none 0 0)] (Jl (Jh (Zy (Ji 0 ?_))))
 have hf1:l=[]:=by
  exact RS.isNil h_l h1
 refine Jm [0] [Sl none 0 0] (Jy [[]] (Jp.le_refl _) ?_)
 rw [hf1]
 try dsimp only
 exact ⟨none,0,([]),rfl,(J0.none ES _),rfl⟩
 refine Jo (Jb (Je (Jc (Kq 5 0 #[] 9 (fun b1=>Ja [0] [(6,Sl a_l l.length c_l)] (V1 7 9 0 (J0.of_lit (E:=ES) (b:=b1) [] [] trivial (by simp)) h_l (fun a1 c1 r1 hr1=>Ja [0] [(2,Sl a1 l.length c1)] (Jd (Jb (Jl (Ji 0 ?_)))))))))))
 have hf2:l=l:=by
  rfl
 refine Jm [0] [Sl a1 l.length c1] (Jy [r1] (Jp.le_refl _) ?_)
 rw [hf2]
 try dsimp only
 exact ⟨a1,c1,r1,rfl,hr1,rfl⟩
theorem seq_ES (G:Jp) (a_a:Option Addr) (c_a:Nat) (a:List (List UInt8)) (h_a:RS ES G a_a c_a a) (a_b:Option Addr) (c_b:Nat) (b:List (List UInt8)) (h_b:RS ES G a_b c_b b) :Q2 10 #[Sl a_a a.length c_a,Sl a_b b.length c_b] G (Bo (decide (a=b))):=by
 refine JN Tryz.func10 26 [(0,Sl a_a a.length c_a),(1,Sl a_b b.length c_b)] rfl (fun w0 G0=>?_)
 refine Jf [0] [] (Je (Jf [0,0,0,0,0] [(10,Bo (!decide ((a.length:Int)=(b.length:Int))))] (Jk (!decide ((a.length:Int)=(b.length:Int))) (fun h1=>?_) (fun h1=>?_))))
 refine Jf [0] [(4,Bo false)] (Jl (Jh (Jm [0] [Bo false] (Jw (Jp.le_refl _) (congrArg Bo (?_:(decide (a=b))=false).symm)))))
 (rw [decide_eq_false];intro hh;subst hh;exact absurd rfl h1)
 refine Jo (Jb (Je (Jf [0,0,0] [(12,I (a.length:Int)),(13,I 0)] (Jz ?_))))
 have hlm_h_a:a.length≤9223372036854775807:=Nat.le_trans (h_a).le (h_a).max
 have hlm_h_b:b.length≤9223372036854775807:=Nat.le_trans (h_b).le (h_b).max
 refine Qh (σ:=Nat) (fun q_=>(q_≤a.length)∧(a.take q_=b.take q_)) (fun q_=>[(0,Sl a_a a.length c_a),(1,Sl a_b b.length c_b),(12,I (a.length:Int)),(13,I (q_:Int))]) (fun q_=>G) (fun q_=>[]) (fun q_=>a.length-q_) 0 ⟨(by (try dsimp only);exact Nat.zero_le _),rfl⟩ (fun q_ hs=>?_)
 revert hs;revert q_;intro i hs
 obtain ⟨hi,he⟩:=hs
 dsimp only
 refine Jf [0] [(14,Bo (decide ((i:Int)<(a.length:Int))))] (Je (Jk (decide ((i:Int)<(a.length:Int))) (fun h2=>?_) (fun h2=>?_)))
 refine Jo (Jb (Je (Jz (Jf [0,0] [(5,I (i:Int))] (Je ?_)))))
 obtain ⟨b1,o1,rfl⟩:=RS.addr h_a (k:=i) (by omega)
 obtain ⟨x1,hx1⟩:=We (l:=a) (k:=i) (by omega)
 obtain ⟨_,⟨rfl,_⟩,hc1⟩:=RS.get h_a hx1
 obtain ⟨b2,o2,rfl⟩:=RS.addr h_b (k:=i) (by omega)
 obtain ⟨x2,hx2⟩:=We (l:=b) (k:=i) (by omega)
 obtain ⟨_,⟨rfl,_⟩,hc2⟩:=RS.get h_b hx2
 refine Ko [] (Wm [(0,Sl (At b1 o1) a.length c_a),(1,I (i:Int)),(2,Pt b1 (o1+i*1)),(3,Sr x1),(4,Sl (At b2 o2) b.length c_b),(5,I (i:Int)),(6,Pt b2 (o2+i*1)),(7,Sr x2),(8,Bo (!((B x1).toList == (B x2).toList)))] (Km [] [(0,0),(1,0),(4,0),(5,0),(8,0)] [2,3,6,7] [(0,Sl (At b1 o1) a.length c_a),(1,Sl (At b2 o2) b.length c_b),(12,I (a.length:Int)),(13,I (i:Int)),(24,Bo (!((B x1).toList == (B x2).toList)))] (Ke ?_ (Ke ?_ (Ke ?_ (Ke ?_ K4)))) ?_))
 refine Jr 2 18 (Pt b1 (o1+i*1)) [(16,Sl (At b1 o1) a.length c_a),(17,I (i:Int))] (fun X=>?_)
 exact J3 (b:=b1) (off:=o1) (len:=a.length) (cap:=c_a) (ik:=.i64) 18 9 1 i J7 Jn
 refine Jr 3 19 (Sr x1) [(18,Pt b1 (o1+i*1))] (fun X=>?_)
 exact JW 19 9 (cs:=[Sr x1]) 0 (Sr x1) hc1 Jn
 refine Jr 6 22 (Pt b2 (o2+i*1)) [(20,Sl (At b2 o2) b.length c_b),(21,I (i:Int))] (fun X=>?_)
 exact J3 (b:=b2) (off:=o2) (len:=b.length) (cap:=c_b) (ik:=.i64) 22 9 1 i J7 Jn
 refine Jr 7 23 (Sr x2) [(22,Pt b2 (o2+i*1))] (fun X=>?_)
 exact JW 23 9 (cs:=[Sr x2]) 0 (Sr x2) hc2 Jn
 refine Jcx 24 (Bo (!(x1 == x2))) (show (Bo (!((B x1).toList == (B x2).toList)):Value)=Bo (!(x1 == x2)) by simp only [Qj]) (Jb (Jk (!(x1 == x2)) (fun h3=>?_) (fun h3=>?_)))
 refine Jf [0] [(4,Bo false)] (Jl (Jt (Jh (QS (Jt (Jh (Jm [0] [Bo false] (Jw (Jp.le_refl _) (congrArg Bo (?_:(decide (a=b))=false).symm)))))))))
 (rw [decide_eq_false];exact ne_at hx1 hx2 ‹_›)
 exact Jo (JM (Jb (Jc (Ja [0,0] [(13,I (IntKind.i64.wrap ((i:Int)+1)))] (Kw 13 ((i:Int)+1) J7 (Jd (Qr (i+1) ⟨J7,(Jis he hx1 hx2 ‹_›)⟩ (by (try dsimp only);omega))))))))
 refine KW (JZ (J8 (JR (Jb (Jf [0] [(4,Bo true)] (Jl (Jm [0] [Bo true] (Jw (Jp.le_refl _) (congrArg Bo (?_:(decide (a=b))=true).symm)))))))))
 (rw [decide_eq_true];exact Jj2 (by omega) (by omega) he)
theorem JnH (G:Jp) (a_l:Option Addr) (c_l:Nat) (l:List (List UInt8)) (h_l:RS ES G a_l c_l l) (k_f:FuncId) (caps_f:Array Value) (p_f:(List UInt8)→Bool) (hk_f:JaS Tryz.prog k_f) (h_f:∀ (x0:(List UInt8)) (hx0:(x0).length≤140737488351232),Vi Tryz.prog k_f (#[Sr x0]++caps_f) G [] (fun u _ _=>u=Bo (p_f x0))) :Q2 119 #[Sl a_l l.length c_l,Fv k_f caps_f] G (I (QR p_f l)):=by
 refine JN Tryz.func119 19 [(0,Sl a_l l.length c_l),(1,Fv k_f caps_f)] rfl (fun w0 G0=>?_)
 refine Jf [0] [] (Je (Jf [0,0,0] [(7,I (l.length:Int)),(8,I 0)] (Jz ?_)))
 have hlm_h_l:l.length≤9223372036854775807:=Nat.le_trans (h_l).le (h_l).max
 refine Qh (σ:=Nat) (fun q_=>(q_≤l.length)∧((l.take q_).any p_f=false)) (fun q_=>[(0,Sl a_l l.length c_l),(1,Fv k_f caps_f),(7,I (l.length:Int)),(8,I (q_:Int))]) (fun q_=>G) (fun q_=>[]) (fun q_=>l.length-q_) 0 ⟨(by (try dsimp only);exact Nat.zero_le _),(by (try dsimp only);simp)⟩ (fun q_ hs=>?_)
 revert hs;revert q_;intro i hs
 obtain ⟨hi,hn⟩:=hs
 dsimp only
 refine Jf [0] [(9,Bo (decide ((i:Int)<(l.length:Int))))] (Je (Jk (decide ((i:Int)<(l.length:Int))) (fun h1=>?_) (fun h1=>?_)))
 refine Jo (Jb (Je (Jz (Jf [0,0] [(5,I (i:Int))] (Je (Jc (Ja [0,0,0] [(11,Fv k_f caps_f),(12,Sl a_l l.length c_l),(13,I (i:Int))] ?_)))))))
 obtain ⟨b1,o1,rfl⟩:=RS.addr h_l (k:=i) (by omega)
 obtain ⟨x1,hx1⟩:=We (l:=l) (k:=i) (by omega)
 obtain ⟨_,⟨rfl,w1⟩,hc1⟩:=RS.get h_l hx1
 refine J3 (b:=b1) (off:=o1) (len:=l.length) (cap:=c_l) (ik:=.i64) 14 9 1 i J7 (JW 15 9 (cs:=[Sr x1]) 0 (Sr x1) hc1 (ZQ (k:=k_f) (caps:=caps_f) (args:=#[Sr x1]) 16 (Bo (p_f x1)) hk_f (h_f x1 w1) (Jd (Jb (Jk (p_f x1) (fun h2=>?_) (fun h2=>?_))))))
 refine Jf [0,0] [(4,I (i:Int))] (Jl (Jt (Jh (QS (Jt (Jh (Jm [0] [I (i:Int)] (Jw (Jp.le_refl _) (congrArg I (?_:(QR p_f l)=(i:Int)).symm)))))))))
 exact Vw hx1 (by simpa using h2) hn
 exact Jo (JM (Jb (Jc (Ja [0,0] [(8,I (IntKind.i64.wrap ((i:Int)+1)))] (Kw 8 ((i:Int)+1) J7 (Jd (Qr (i+1) ⟨J7,(Jac hx1 (by simpa using h2) hn)⟩ (by (try dsimp only);omega))))))))
 refine KW (JZ (J8 (JR (Jb (Jf [0] [(4,I (-1))] (Jl (Jm [0] [I (-1)] (Jw (Jp.le_refl _) (congrArg I (?_:(QR p_f l)=(-1)).symm)))))))))
 exact Y8 (by rw [List.take_of_length_le (by omega)] at hn;exact hn)
theorem Jpg (G:Jp) (a_l:Option Addr) (c_l:Nat) (l:List (List UInt8)) (h_l:RS ES G a_l c_l l) (k_f:FuncId) (caps_f:Array Value) (p_f:(List UInt8)→Bool) (hk_f:JaS Tryz.prog k_f) (h_f:∀ (x0:(List UInt8)) (hx0:(x0).length≤140737488351232),Vi Tryz.prog k_f (#[Sr x0]++caps_f) G [] (fun u _ _=>u=Bo (p_f x0))) :Q2 69 #[Sl a_l l.length c_l,Fv k_f caps_f] G (Bo (l.any p_f)):=by
 refine JN Tryz.func69 9 [(0,Sl a_l l.length c_l),(1,Fv k_f caps_f)] rfl (fun w0 G0=>?_)
 refine Jf [0] [] (Je (Jc (Ja [0,0] [(5,Sl a_l l.length c_l),(6,Fv k_f caps_f)] (Jj 7 (I (QR p_f l)) (JnH G a_l c_l l h_l k_f caps_f p_f hk_f h_f) (Ja [0,0] [(4,Bo (decide (QR p_f l ≥ 0)))] (Jd (Jb (Jl (Jm [0] [Bo (decide (QR p_f l ≥ 0))] (Jw (Jp.le_refl _) (congrArg Bo (?_:(l.any p_f)=(decide (QR p_f l ≥ 0))).symm)))))))))))
 rw [Jad]
theorem Jk6 (G:Jp) (a_l:Option Addr) (c_l:Nat) (l:List (List UInt8)) (h_l:RS ES G a_l c_l l) (v:List UInt8) :Q2 37 #[Sl a_l l.length c_l,Sr v] G (I (QR (fun x=>decide (v=x)) l)):=by
 refine JN Tryz.func37 19 [(0,Sl a_l l.length c_l),(1,Sr v)] rfl (fun w0 G0=>?_)
 refine Jf [0] [] (Je (Jf [0,0,0] [(7,I (l.length:Int)),(8,I 0)] (Jz ?_)))
 have hlm_h_l:l.length≤9223372036854775807:=Nat.le_trans (h_l).le (h_l).max
 refine Qh (σ:=Nat) (fun q_=>(q_≤l.length)∧((l.take q_).any (fun x=>decide (v=x))=false)) (fun q_=>[(0,Sl a_l l.length c_l),(1,Sr v),(7,I (l.length:Int)),(8,I (q_:Int))]) (fun q_=>G) (fun q_=>[]) (fun q_=>l.length-q_) 0 ⟨(by (try dsimp only);exact Nat.zero_le _),(by (try dsimp only);simp)⟩ (fun q_ hs=>?_)
 revert hs;revert q_;intro i hs
 obtain ⟨hi,hn⟩:=hs
 dsimp only
 refine Jf [0] [(9,Bo (decide ((i:Int)<(l.length:Int))))] (Je (Jk (decide ((i:Int)<(l.length:Int))) (fun h1=>?_) (fun h1=>?_)))
 refine Jo (Jb (Je (Jz (Jf [0,0] [(5,I (i:Int))] (Je (Jc (Ja [0,0,0] [(11,Sr v),(12,Sl a_l l.length c_l),(13,I (i:Int))] ?_)))))))
 obtain ⟨b1,o1,rfl⟩:=RS.addr h_l (k:=i) (by omega)
 obtain ⟨x1,hx1⟩:=We (l:=l) (k:=i) (by omega)
 obtain ⟨_,⟨rfl,_⟩,hc1⟩:=RS.get h_l hx1
 refine J3 (b:=b1) (off:=o1) (len:=l.length) (cap:=c_l) (ik:=.i64) 14 9 1 i J7 (JW 15 9 (cs:=[Sr x1]) 0 (Sr x1) hc1 (Ja [0] [(16,Bo ((B v).toList == (B x1).toList))] (KI 16 (Bo (v == x1)) (show (Bo ((B v).toList == (B x1).toList):Value)=Bo (v == x1) by simp only [Qj]) (Jd (Jb (Jk (v == x1) (fun h2=>?_) (fun h2=>?_)))))))
 refine Jf [0,0] [(4,I (i:Int))] (Jl (Jt (Jh (QS (Jt (Jh (Jm [0] [I (i:Int)] (Jw (Jp.le_refl _) (congrArg I (?_:(QR (fun x=>decide (v=x)) l)=(i:Int)).symm)))))))))
 exact Vw hx1 (decide_eq_true (by simpa using h2)) hn
 exact Jo (JM (Jb (Jc (Ja [0,0] [(8,I (IntKind.i64.wrap ((i:Int)+1)))] (Kw 8 ((i:Int)+1) J7 (Jd (Qr (i+1) ⟨J7,(Jac hx1 (decide_eq_false (by simpa using h2)) hn)⟩ (by (try dsimp only);omega))))))))
 refine KW (JZ (J8 (JR (Jb (Jf [0] [(4,I (-1))] (Jl (Jm [0] [I (-1)] (Jw (Jp.le_refl _) (congrArg I (?_:(QR (fun x=>decide (v=x)) l)=(-1)).symm)))))))))
 exact Y8 (by rw [List.take_of_length_le (by omega)] at hn;exact hn)
theorem Jk7 (G:Jp) (a_l:Option Addr) (c_l:Nat) (l:List (List UInt8)) (h_l:RS ES G a_l c_l l) (v:List UInt8) :Q2 22 #[Sl a_l l.length c_l,Sr v] G (Bo (l.any (fun x=>decide (v=x)))):=by
 refine JN Tryz.func22 9 [(0,Sl a_l l.length c_l),(1,Sr v)] rfl (fun w0 G0=>?_)
 refine Jf [0] [] (Je (Jc (Ja [0,0] [(5,Sl a_l l.length c_l),(6,Sr v)] (Jj 7 (I (QR (fun x=>decide (v=x)) l)) (Jk6 G a_l c_l l h_l v) (Ja [0,0] [(4,Bo (decide (QR (fun x=>decide (v=x)) l ≥ 0)))] (Jd (Jb (Jl (Jm [0] [Bo (decide (QR (fun x=>decide (v=x)) l ≥ 0))] (Jw (Jp.le_refl _) (congrArg Bo (?_:(l.any (fun x=>decide (v=x)))=(decide (QR (fun x=>decide (v=x)) l ≥ 0))).symm)))))))))))
 rw [Jad]
theorem Jl8 (G:Jp) (a_l:Option Addr) (c_l:Nat) (l:List Int) (h_l:RS EI G a_l c_l l) :Yi 61 #[Sl a_l l.length c_l] G [] (fun u G' L'=>∃ (a1:Option Addr) (c2:Nat) (r3:List Kg),u=Sl a1 l.length c2∧(J0 EI G' a1 c2 l r3)∧L'=[r3]):=by
 refine JN Tryz.func61 8 [(0,Sl a_l l.length c_l)] rfl (fun w0 G0=>?_)
 refine Jf [0] [] (Je (Je (Jc (Ja [0] [(3,Sl a_l l.length c_l)] (JaO 4 (Bo ((a_l).isNone)) (by intro w;cases a_l <;> kernel_rfl) (Jd (Jb (Jk ((a_l).isNone) (fun h1=>?_) (fun h1=>?_)))))))))
 refine Jf [0] [(2,Sl none 0 0)] (Jl (Jh (Zy (Ji 0 ?_))))
 have hf1:l=[]:=by
  exact RS.isNil h_l h1
 refine Jm [0] [Sl none 0 0] (Jy [[]] (Jp.le_refl _) ?_)
 rw [hf1]
 try dsimp only
 exact ⟨none,0,([]),rfl,(J0.none EI _),rfl⟩
 refine Jo (Jb (Je (Jc (Kq 5 0 #[] 3 (fun b1=>Ja [0] [(6,Sl a_l l.length c_l)] (V1 7 3 0 (J0.of_lit (E:=EI) (b:=b1) [] [] trivial (by simp)) h_l (fun a1 c1 r1 hr1=>Ja [0] [(2,Sl a1 l.length c1)] (Jd (Jb (Jl (Ji 0 ?_)))))))))))
 have hf2:l=l:=by
  rfl
 refine Jm [0] [Sl a1 l.length c1] (Jy [r1] (Jp.le_refl _) ?_)
 rw [hf2]
 try dsimp only
 exact ⟨a1,c1,r1,rfl,hr1,rfl⟩
theorem JnI (G:Jp) (a_l:Option Addr) (c_l:Nat) (l:List Int) (h_l:RS EI G a_l c_l l) (k_f:FuncId) (caps_f:Array Value) (p_f:Int→Bool) (hk_f:JaS Tryz.prog k_f) (h_f:∀ (x0:Int) (hx0:rI x0),Vi Tryz.prog k_f (#[I x0]++caps_f) G [] (fun u _ _=>u=Bo (p_f x0))) :Q2 160 #[Sl a_l l.length c_l,Fv k_f caps_f] G (I (QR p_f l)):=by
 refine JN Tryz.func160 19 [(0,Sl a_l l.length c_l),(1,Fv k_f caps_f)] rfl (fun w0 G0=>?_)
 refine Jf [0] [] (Je (Jf [0,0,0] [(7,I (l.length:Int)),(8,I 0)] (Jz ?_)))
 have hlm_h_l:l.length≤9223372036854775807:=Nat.le_trans (h_l).le (h_l).max
 refine Qh (σ:=Nat) (fun q_=>(q_≤l.length)∧((l.take q_).any p_f=false)) (fun q_=>[(0,Sl a_l l.length c_l),(1,Fv k_f caps_f),(7,I (l.length:Int)),(8,I (q_:Int))]) (fun q_=>G) (fun q_=>[]) (fun q_=>l.length-q_) 0 ⟨(by (try dsimp only);exact Nat.zero_le _),(by (try dsimp only);simp)⟩ (fun q_ hs=>?_)
 revert hs;revert q_;intro i hs
 obtain ⟨hi,hn⟩:=hs
 dsimp only
 refine Jf [0] [(9,Bo (decide ((i:Int)<(l.length:Int))))] (Je (Jk (decide ((i:Int)<(l.length:Int))) (fun h1=>?_) (fun h1=>?_)))
 refine Jo (Jb (Je (Jz (Jf [0,0] [(5,I (i:Int))] (Je (Jc (Ja [0,0,0] [(11,Fv k_f caps_f),(12,Sl a_l l.length c_l),(13,I (i:Int))] ?_)))))))
 obtain ⟨b1,o1,rfl⟩:=RS.addr h_l (k:=i) (by omega)
 obtain ⟨x1,hx1⟩:=We (l:=l) (k:=i) (by omega)
 obtain ⟨_,⟨rfl,w1⟩,hc1⟩:=RS.get h_l hx1
 refine J3 (b:=b1) (off:=o1) (len:=l.length) (cap:=c_l) (ik:=.i64) 14 3 1 i J7 (JW 15 3 (cs:=[I x1]) 0 (I x1) hc1 (ZQ (k:=k_f) (caps:=caps_f) (args:=#[I x1]) 16 (Bo (p_f x1)) hk_f (h_f x1 w1) (Jd (Jb (Jk (p_f x1) (fun h2=>?_) (fun h2=>?_))))))
 refine Jf [0,0] [(4,I (i:Int))] (Jl (Jt (Jh (QS (Jt (Jh (Jm [0] [I (i:Int)] (Jw (Jp.le_refl _) (congrArg I (?_:(QR p_f l)=(i:Int)).symm)))))))))
 exact Vw hx1 (by simpa using h2) hn
 exact Jo (JM (Jb (Jc (Ja [0,0] [(8,I (IntKind.i64.wrap ((i:Int)+1)))] (Kw 8 ((i:Int)+1) J7 (Jd (Qr (i+1) ⟨J7,(Jac hx1 (by simpa using h2) hn)⟩ (by (try dsimp only);omega))))))))
 refine KW (JZ (J8 (JR (Jb (Jf [0] [(4,I (-1))] (Jl (Jm [0] [I (-1)] (Jw (Jp.le_refl _) (congrArg I (?_:(QR p_f l)=(-1)).symm)))))))))
 exact Y8 (by rw [List.take_of_length_le (by omega)] at hn;exact hn)
theorem Jph (G:Jp) (a_l:Option Addr) (c_l:Nat) (l:List Int) (h_l:RS EI G a_l c_l l) (k_f:FuncId) (caps_f:Array Value) (p_f:Int→Bool) (hk_f:JaS Tryz.prog k_f) (h_f:∀ (x0:Int) (hx0:rI x0),Vi Tryz.prog k_f (#[I x0]++caps_f) G [] (fun u _ _=>u=Bo (p_f x0))) :Q2 106 #[Sl a_l l.length c_l,Fv k_f caps_f] G (Bo (l.any p_f)):=by
 refine JN Tryz.func106 9 [(0,Sl a_l l.length c_l),(1,Fv k_f caps_f)] rfl (fun w0 G0=>?_)
 refine Jf [0] [] (Je (Jc (Ja [0,0] [(5,Sl a_l l.length c_l),(6,Fv k_f caps_f)] (Jj 7 (I (QR p_f l)) (JnI G a_l c_l l h_l k_f caps_f p_f hk_f h_f) (Ja [0,0] [(4,Bo (decide (QR p_f l ≥ 0)))] (Jd (Jb (Jl (Jm [0] [Bo (decide (QR p_f l ≥ 0))] (Jw (Jp.le_refl _) (congrArg Bo (?_:(l.any p_f)=(decide (QR p_f l ≥ 0))).symm)))))))))))
 rw [Jad]
theorem Vm (G:Jp) (a_l:Option Addr) (c_l:Nat) (l:List JQ) (h_l:RS KA G a_l c_l l) :Yi 161 #[Sl a_l l.length c_l] G [] (fun u G' L'=>∃ (a1:Option Addr) (c2:Nat) (r3:List Kg),u=Sl a1 l.length c2∧(J0 KA G' a1 c2 l r3)∧L'=[r3]):=by
 refine JN Tryz.func161 8 [(0,Sl a_l l.length c_l)] rfl (fun w0 G0=>?_)
 refine Jf [0] [] (Je (Je (Jc (Ja [0] [(3,Sl a_l l.length c_l)] (JaO 4 (Bo ((a_l).isNone)) (by intro w;cases a_l <;> kernel_rfl) (Jd (Jb (Jk ((a_l).isNone) (fun h1=>?_) (fun h1=>?_)))))))))
 refine Jf [0] [(2,Sl none 0 0)] (Jl (Jh (Zy (Ji 0 ?_))))
 have hf1:l=[]:=by
  exact RS.isNil h_l h1
 refine Jm [0] [Sl none 0 0] (Jy [[]] (Jp.le_refl _) ?_)
 rw [hf1]
 try dsimp only
 exact ⟨none,0,([]),rfl,(J0.none KA _),rfl⟩
 refine Jo (Jb (Je (Jc (Kq 5 0 #[] 43 (fun b1=>Ja [0] [(6,Sl a_l l.length c_l)] (V1 7 43 0 (J0.of_lit (E:=KA) (b:=b1) [] [] trivial (by simp)) h_l (fun a1 c1 r1 hr1=>Ja [0] [(2,Sl a1 l.length c1)] (Jd (Jb (Jl (Ji 0 ?_)))))))))))
 have hf2:l=l:=by
  rfl
 refine Jm [0] [Sl a1 l.length c1] (Jy [r1] (Jp.le_refl _) ?_)
 rw [hf2]
 try dsimp only
 exact ⟨a1,c1,r1,rfl,hr1,rfl⟩
theorem Jit (G:Jp) (a_l:Option Addr) (c_l:Nat) (l:List JQ) (h_l:RS KA G a_l c_l l) (k_f:FuncId) (caps_f:Array Value) (p_f:JQ→Bool) (hk_f:JaS Tryz.prog k_f) (h_f:∀ (vs0:List Value) (x0:JQ) (hx0:KA.R G vs0 x0),Vi Tryz.prog k_f (#[.agg vs0.toArray]++caps_f) G [] (fun u _ _=>u=Bo (p_f x0))) :Q2 176 #[Sl a_l l.length c_l,Fv k_f caps_f] G (I (QR p_f l)):=by
 refine JN Tryz.func176 19 [(0,Sl a_l l.length c_l),(1,Fv k_f caps_f)] rfl (fun w0 G0=>?_)
 refine Jf [0] [] (Je (Jf [0,0,0] [(7,I (l.length:Int)),(8,I 0)] (Jz ?_)))
 have hlm_h_l:l.length≤9223372036854775807:=Nat.le_trans (h_l).le (h_l).max
 refine Qh (σ:=Nat) (fun q_=>(q_≤l.length)∧((l.take q_).any p_f=false)) (fun q_=>[(0,Sl a_l l.length c_l),(1,Fv k_f caps_f),(7,I (l.length:Int)),(8,I (q_:Int))]) (fun q_=>G) (fun q_=>[]) (fun q_=>l.length-q_) 0 ⟨(by (try dsimp only);exact Nat.zero_le _),(by (try dsimp only);simp)⟩ (fun q_ hs=>?_)
 revert hs;revert q_;intro i hs
 obtain ⟨hi,hn⟩:=hs
 dsimp only
 refine Jf [0] [(9,Bo (decide ((i:Int)<(l.length:Int))))] (Je (Jk (decide ((i:Int)<(l.length:Int))) (fun h1=>?_) (fun h1=>?_)))
 refine Jo (Jb (Je (Jz (Jf [0,0] [(5,I (i:Int))] (Je (Jc (Ja [0,0,0] [(11,Fv k_f caps_f),(12,Sl a_l l.length c_l),(13,I (i:Int))] ?_)))))))
 obtain ⟨b1,o1,rfl⟩:=RS.addr h_l (k:=i) (by omega)
 obtain ⟨x1,hx1⟩:=We (l:=l) (k:=i) (by omega)
 obtain ⟨_,⟨rfl,w1,w2,w3,w4⟩,hc1⟩:=RS.get h_l hx1
 refine J3 (b:=b1) (off:=o1) (len:=l.length) (cap:=c_l) (ik:=.i64) 14 43 4 i J7 (JW 15 43 (cs:=[I x1.epoch,U x1.root,U x1.prev,I x1.at_]) 0 (.agg #[I x1.epoch,U x1.root,U x1.prev,I x1.at_]) hc1 (ZQ (k:=k_f) (caps:=caps_f) (args:=#[.agg #[I x1.epoch,U x1.root,U x1.prev,I x1.at_]]) 16 (Bo (p_f x1)) hk_f (h_f [I x1.epoch,U x1.root,U x1.prev,I x1.at_] x1 (⟨rfl,w1,w2,w3,w4⟩)) (Jd (Jb (Jk (p_f x1) (fun h2=>?_) (fun h2=>?_))))))
 refine Jf [0,0] [(4,I (i:Int))] (Jl (Jt (Jh (QS (Jt (Jh (Jm [0] [I (i:Int)] (Jw (Jp.le_refl _) (congrArg I (?_:(QR p_f l)=(i:Int)).symm)))))))))
 exact Vw hx1 (by simpa using h2) hn
 exact Jo (JM (Jb (Jc (Ja [0,0] [(8,I (IntKind.i64.wrap ((i:Int)+1)))] (Kw 8 ((i:Int)+1) J7 (Jd (Qr (i+1) ⟨J7,(Jac hx1 (by simpa using h2) hn)⟩ (by (try dsimp only);omega))))))))
 refine KW (JZ (J8 (JR (Jb (Jf [0] [(4,I (-1))] (Jl (Jm [0] [I (-1)] (Jw (Jp.le_refl _) (congrArg I (?_:(QR p_f l)=(-1)).symm)))))))))
 exact Y8 (by rw [List.take_of_length_le (by omega)] at hn;exact hn)
theorem Jfk (G:Jp) (a_l:Option Addr) (c_l:Nat) (l:List JQ) (h_l:RS KA G a_l c_l l) (k_f:FuncId) (caps_f:Array Value) (p_f:JQ→Bool) (hk_f:JaS Tryz.prog k_f) (h_f:∀ (vs0:List Value) (x0:JQ) (hx0:KA.R G vs0 x0),Vi Tryz.prog k_f (#[.agg vs0.toArray]++caps_f) G [] (fun u _ _=>u=Bo (p_f x0))) :Q2 122 #[Sl a_l l.length c_l,Fv k_f caps_f] G (Bo (l.any p_f)):=by
 refine JN Tryz.func122 9 [(0,Sl a_l l.length c_l),(1,Fv k_f caps_f)] rfl (fun w0 G0=>?_)
 refine Jf [0] [] (Je (Jc (Ja [0,0] [(5,Sl a_l l.length c_l),(6,Fv k_f caps_f)] (Jj 7 (I (QR p_f l)) (Jit G a_l c_l l h_l k_f caps_f p_f hk_f h_f) (Ja [0,0] [(4,Bo (decide (QR p_f l ≥ 0)))] (Jd (Jb (Jl (Jm [0] [Bo (decide (QR p_f l ≥ 0))] (Jw (Jp.le_refl _) (congrArg Bo (?_:(l.any p_f)=(decide (QR p_f l ≥ 0))).symm)))))))))))
 rw [Jad]
theorem JdO (G:Jp) (a_l:Option Addr) (c_l:Nat) (l:List Int) (h_l:RS EU G a_l c_l l) :Yi 137 #[Sl a_l l.length c_l] G [] (fun u G' L'=>∃ (a1:Option Addr) (c2:Nat) (r3:List Kg),u=Sl a1 l.length c2∧(J0 EU G' a1 c2 l r3)∧L'=[r3]):=by
 refine JN Tryz.func137 8 [(0,Sl a_l l.length c_l)] rfl (fun w0 G0=>?_)
 refine Jf [0] [] (Je (Je (Jc (Ja [0] [(3,Sl a_l l.length c_l)] (JaO 4 (Bo ((a_l).isNone)) (by intro w;cases a_l <;> kernel_rfl) (Jd (Jb (Jk ((a_l).isNone) (fun h1=>?_) (fun h1=>?_)))))))))
 refine Jf [0] [(2,Sl none 0 0)] (Jl (Jh (Zy (Ji 0 ?_))))
 have hf1:l=[]:=by
  exact RS.isNil h_l h1
 refine Jm [0] [Sl none 0 0] (Jy [[]] (Jp.le_refl _) ?_)
 rw [hf1]
 try dsimp only
 exact ⟨none,0,([]),rfl,(J0.none EU _),rfl⟩
 refine Jo (Jb (Je (Jc (Kq 5 0 #[] 41 (fun b1=>Ja [0] [(6,Sl a_l l.length c_l)] (V1 7 41 0 (J0.of_lit (E:=EU) (b:=b1) [] [] trivial (by simp)) h_l (fun a1 c1 r1 hr1=>Ja [0] [(2,Sl a1 l.length c1)] (Jd (Jb (Jl (Ji 0 ?_)))))))))))
 have hf2:l=l:=by
  rfl
 refine Jm [0] [Sl a1 l.length c1] (Jy [r1] (Jp.le_refl _) ?_)
 rw [hf2]
 try dsimp only
 exact ⟨a1,c1,r1,rfl,hr1,rfl⟩
theorem JnJ (G:Jp) (a_l:Option Addr) (c_l:Nat) (l:List Int) (h_l:RS EU G a_l c_l l) (k_f:FuncId) (caps_f:Array Value) (p_f:Int→Bool) (hk_f:JaS Tryz.prog k_f) (h_f:∀ (x0:Int) (hx0:rU x0),Vi Tryz.prog k_f (#[U x0]++caps_f) G [] (fun u _ _=>u=Bo (p_f x0))) :Q2 220 #[Sl a_l l.length c_l,Fv k_f caps_f] G (I (QR p_f l)):=by
 refine JN Tryz.func220 19 [(0,Sl a_l l.length c_l),(1,Fv k_f caps_f)] rfl (fun w0 G0=>?_)
 refine Jf [0] [] (Je (Jf [0,0,0] [(7,I (l.length:Int)),(8,I 0)] (Jz ?_)))
 have hlm_h_l:l.length≤9223372036854775807:=Nat.le_trans (h_l).le (h_l).max
 refine Qh (σ:=Nat) (fun q_=>(q_≤l.length)∧((l.take q_).any p_f=false)) (fun q_=>[(0,Sl a_l l.length c_l),(1,Fv k_f caps_f),(7,I (l.length:Int)),(8,I (q_:Int))]) (fun q_=>G) (fun q_=>[]) (fun q_=>l.length-q_) 0 ⟨(by (try dsimp only);exact Nat.zero_le _),(by (try dsimp only);simp)⟩ (fun q_ hs=>?_)
 revert hs;revert q_;intro i hs
 obtain ⟨hi,hn⟩:=hs
 dsimp only
 refine Jf [0] [(9,Bo (decide ((i:Int)<(l.length:Int))))] (Je (Jk (decide ((i:Int)<(l.length:Int))) (fun h1=>?_) (fun h1=>?_)))
 refine Jo (Jb (Je (Jz (Jf [0,0] [(5,I (i:Int))] (Je (Jc (Ja [0,0,0] [(11,Fv k_f caps_f),(12,Sl a_l l.length c_l),(13,I (i:Int))] ?_)))))))
 obtain ⟨b1,o1,rfl⟩:=RS.addr h_l (k:=i) (by omega)
 obtain ⟨x1,hx1⟩:=We (l:=l) (k:=i) (by omega)
 obtain ⟨_,⟨rfl,w1⟩,hc1⟩:=RS.get h_l hx1
 refine J3 (b:=b1) (off:=o1) (len:=l.length) (cap:=c_l) (ik:=.i64) 14 41 1 i J7 (JW 15 41 (cs:=[U x1]) 0 (U x1) hc1 (ZQ (k:=k_f) (caps:=caps_f) (args:=#[U x1]) 16 (Bo (p_f x1)) hk_f (h_f x1 w1) (Jd (Jb (Jk (p_f x1) (fun h2=>?_) (fun h2=>?_))))))
 refine Jf [0,0] [(4,I (i:Int))] (Jl (Jt (Jh (QS (Jt (Jh (Jm [0] [I (i:Int)] (Jw (Jp.le_refl _) (congrArg I (?_:(QR p_f l)=(i:Int)).symm)))))))))
 exact Vw hx1 (by simpa using h2) hn
 exact Jo (JM (Jb (Jc (Ja [0,0] [(8,I (IntKind.i64.wrap ((i:Int)+1)))] (Kw 8 ((i:Int)+1) J7 (Jd (Qr (i+1) ⟨J7,(Jac hx1 (by simpa using h2) hn)⟩ (by (try dsimp only);omega))))))))
 refine KW (JZ (J8 (JR (Jb (Jf [0] [(4,I (-1))] (Jl (Jm [0] [I (-1)] (Jw (Jp.le_refl _) (congrArg I (?_:(QR p_f l)=(-1)).symm)))))))))
 exact Y8 (by rw [List.take_of_length_le (by omega)] at hn;exact hn)
theorem Jpi (G:Jp) (a_l:Option Addr) (c_l:Nat) (l:List Int) (h_l:RS EU G a_l c_l l) (k_f:FuncId) (caps_f:Array Value) (p_f:Int→Bool) (hk_f:JaS Tryz.prog k_f) (h_f:∀ (x0:Int) (hx0:rU x0),Vi Tryz.prog k_f (#[U x0]++caps_f) G [] (fun u _ _=>u=Bo (p_f x0))) :Q2 179 #[Sl a_l l.length c_l,Fv k_f caps_f] G (Bo (l.any p_f)):=by
 refine JN Tryz.func179 9 [(0,Sl a_l l.length c_l),(1,Fv k_f caps_f)] rfl (fun w0 G0=>?_)
 refine Jf [0] [] (Je (Jc (Ja [0,0] [(5,Sl a_l l.length c_l),(6,Fv k_f caps_f)] (Jj 7 (I (QR p_f l)) (JnJ G a_l c_l l h_l k_f caps_f p_f hk_f h_f) (Ja [0,0] [(4,Bo (decide (QR p_f l ≥ 0)))] (Jd (Jb (Jl (Jm [0] [Bo (decide (QR p_f l ≥ 0))] (Jw (Jp.le_refl _) (congrArg Bo (?_:(l.any p_f)=(decide (QR p_f l ≥ 0))).symm)))))))))))
 rw [Jad]
theorem Jf4 (G:Jp) (a_l:Option Addr) (c_l:Nat) (l:List JS) (h_l:RS Kh G a_l c_l l) (k_f:FuncId) (caps_f:Array Value) (p_f:JS→Bool) (hk_f:JaS Tryz.prog k_f) (h_f:∀ (vs0:List Value) (x0:JS) (hx0:Kh.R G vs0 x0),Vi Tryz.prog k_f (#[.agg vs0.toArray]++caps_f) G [] (fun u _ _=>u=Bo (p_f x0))) :Q2 211 #[Sl a_l l.length c_l,Fv k_f caps_f] G (I (QR p_f l)):=by
 refine JN Tryz.func211 19 [(0,Sl a_l l.length c_l),(1,Fv k_f caps_f)] rfl (fun w0 G0=>?_)
 refine Jf [0] [] (Je (Jf [0,0,0] [(7,I (l.length:Int)),(8,I 0)] (Jz ?_)))
 have hlm_h_l:l.length≤9223372036854775807:=Nat.le_trans (h_l).le (h_l).max
 refine Qh (σ:=Nat) (fun q_=>(q_≤l.length)∧((l.take q_).any p_f=false)) (fun q_=>[(0,Sl a_l l.length c_l),(1,Fv k_f caps_f),(7,I (l.length:Int)),(8,I (q_:Int))]) (fun q_=>G) (fun q_=>[]) (fun q_=>l.length-q_) 0 ⟨(by (try dsimp only);exact Nat.zero_le _),(by (try dsimp only);simp)⟩ (fun q_ hs=>?_)
 revert hs;revert q_;intro i hs
 obtain ⟨hi,hn⟩:=hs
 dsimp only
 refine Jf [0] [(9,Bo (decide ((i:Int)<(l.length:Int))))] (Je (Jk (decide ((i:Int)<(l.length:Int))) (fun h1=>?_) (fun h1=>?_)))
 refine Jo (Jb (Je (Jz (Jf [0,0] [(5,I (i:Int))] (Je (Jc (Ja [0,0,0] [(11,Fv k_f caps_f),(12,Sl a_l l.length c_l),(13,I (i:Int))] ?_)))))))
 obtain ⟨b1,o1,rfl⟩:=RS.addr h_l (k:=i) (by omega)
 obtain ⟨x1,hx1⟩:=We (l:=l) (k:=i) (by omega)
 obtain ⟨_,⟨a1,c1,a2,c2,a3,c3,rfl,w1,w2,w3,w4,hs1,w5,w6,w7,w8,w9,hs2,hs3⟩,hc1⟩:=RS.get h_l hx1
 refine J3 (b:=b1) (off:=o1) (len:=l.length) (cap:=c_l) (ik:=.i64) 14 51 12 i J7 (JW 15 51 (cs:=(Kp x1 a1 c1 a2 c2 a3 c3)) 0 (QZ x1 a1 c1 a2 c2 a3 c3) hc1 (ZQ (k:=k_f) (caps:=caps_f) (args:=#[(QZ x1 a1 c1 a2 c2 a3 c3)]) 16 (Bo (p_f x1)) hk_f (h_f (Kp x1 a1 c1 a2 c2 a3 c3) x1 (⟨a1,c1,a2,c2,a3,c3,rfl,w1,w2,w3,w4,hs1,w5,w6,w7,w8,w9,hs2,hs3⟩)) (Jd (Jb (Jk (p_f x1) (fun h2=>?_) (fun h2=>?_))))))
 refine Jf [0,0] [(4,I (i:Int))] (Jl (Jt (Jh (QS (Jt (Jh (Jm [0] [I (i:Int)] (Jw (Jp.le_refl _) (congrArg I (?_:(QR p_f l)=(i:Int)).symm)))))))))
 exact Vw hx1 (by simpa using h2) hn
 exact Jo (JM (Jb (Jc (Ja [0,0] [(8,I (IntKind.i64.wrap ((i:Int)+1)))] (Kw 8 ((i:Int)+1) J7 (Jd (Qr (i+1) ⟨J7,(Jac hx1 (by simpa using h2) hn)⟩ (by (try dsimp only);omega))))))))
 refine KW (JZ (J8 (JR (Jb (Jf [0] [(4,I (-1))] (Jl (Jm [0] [I (-1)] (Jw (Jp.le_refl _) (congrArg I (?_:(QR p_f l)=(-1)).symm)))))))))
 exact Y8 (by rw [List.take_of_length_le (by omega)] at hn;exact hn)
theorem Jhp (G:Jp) (a_l:Option Addr) (c_l:Nat) (l:List JS) (h_l:RS Kh G a_l c_l l) (k_f:FuncId) (caps_f:Array Value) (p_f:JS→Bool) (hk_f:JaS Tryz.prog k_f) (h_f:∀ (vs0:List Value) (x0:JS) (hx0:Kh.R G vs0 x0),Vi Tryz.prog k_f (#[.agg vs0.toArray]++caps_f) G [] (fun u _ _=>u=Bo (p_f x0))) :Q2 158 #[Sl a_l l.length c_l,Fv k_f caps_f] G (Bo (l.any p_f)):=by
 refine JN Tryz.func158 9 [(0,Sl a_l l.length c_l),(1,Fv k_f caps_f)] rfl (fun w0 G0=>?_)
 refine Jf [0] [] (Je (Jc (Ja [0,0] [(5,Sl a_l l.length c_l),(6,Fv k_f caps_f)] (Jj 7 (I (QR p_f l)) (Jf4 G a_l c_l l h_l k_f caps_f p_f hk_f h_f) (Ja [0,0] [(4,Bo (decide (QR p_f l ≥ 0)))] (Jd (Jb (Jl (Jm [0] [Bo (decide (QR p_f l ≥ 0))] (Jw (Jp.le_refl _) (congrArg Bo (?_:(l.any p_f)=(decide (QR p_f l ≥ 0))).symm)))))))))))
 rw [Jad]
theorem YA (G:Jp) (a_l:Option Addr) (c_l:Nat) (l:List J2) (h_l:RS QA G a_l c_l l) :Yi 162 #[Sl a_l l.length c_l] G [] (fun u G' L'=>∃ (a1:Option Addr) (c2:Nat) (r3:List Kg),u=Sl a1 l.length c2∧(J0 QA G' a1 c2 l r3)∧L'=[r3]):=by
 refine JN Tryz.func162 8 [(0,Sl a_l l.length c_l)] rfl (fun w0 G0=>?_)
 refine Jf [0] [] (Je (Je (Jc (Ja [0] [(3,Sl a_l l.length c_l)] (JaO 4 (Bo ((a_l).isNone)) (by intro w;cases a_l <;> kernel_rfl) (Jd (Jb (Jk ((a_l).isNone) (fun h1=>?_) (fun h1=>?_)))))))))
 refine Jf [0] [(2,Sl none 0 0)] (Jl (Jh (Zy (Ji 0 ?_))))
 have hf1:l=[]:=by
  exact RS.isNil h_l h1
 refine Jm [0] [Sl none 0 0] (Jy [[]] (Jp.le_refl _) ?_)
 rw [hf1]
 try dsimp only
 exact ⟨none,0,([]),rfl,(J0.none QA _),rfl⟩
 refine Jo (Jb (Je (Jc (Kq 5 0 #[] 111 (fun b1=>Ja [0] [(6,Sl a_l l.length c_l)] (V1 7 111 0 (J0.of_lit (E:=QA) (b:=b1) [] [] trivial (by simp)) h_l (fun a1 c1 r1 hr1=>Ja [0] [(2,Sl a1 l.length c1)] (Jd (Jb (Jl (Ji 0 ?_)))))))))))
 have hf2:l=l:=by
  rfl
 refine Jm [0] [Sl a1 l.length c1] (Jy [r1] (Jp.le_refl _) ?_)
 rw [hf2]
 try dsimp only
 exact ⟨a1,c1,r1,rfl,hr1,rfl⟩
theorem Jfl (G:Jp) (a_l:Option Addr) (c_l:Nat) (l:List J2) (h_l:RS QA G a_l c_l l) (k_f:FuncId) (caps_f:Array Value) (p_f:J2→Bool) (hk_f:JaS Tryz.prog k_f) (h_f:∀ (vs0:List Value) (x0:J2) (hx0:QA.R G vs0 x0),Vi Tryz.prog k_f (#[.agg vs0.toArray]++caps_f) G [] (fun u _ _=>u=Bo (p_f x0))) :Q2 219 #[Sl a_l l.length c_l,Fv k_f caps_f] G (I (QR p_f l)):=by
 refine JN Tryz.func219 19 [(0,Sl a_l l.length c_l),(1,Fv k_f caps_f)] rfl (fun w0 G0=>?_)
 refine Jf [0] [] (Je (Jf [0,0,0] [(7,I (l.length:Int)),(8,I 0)] (Jz ?_)))
 have hlm_h_l:l.length≤9223372036854775807:=Nat.le_trans (h_l).le (h_l).max
 refine Qh (σ:=Nat) (fun q_=>(q_≤l.length)∧((l.take q_).any p_f=false)) (fun q_=>[(0,Sl a_l l.length c_l),(1,Fv k_f caps_f),(7,I (l.length:Int)),(8,I (q_:Int))]) (fun q_=>G) (fun q_=>[]) (fun q_=>l.length-q_) 0 ⟨(by (try dsimp only);exact Nat.zero_le _),(by (try dsimp only);simp)⟩ (fun q_ hs=>?_)
 revert hs;revert q_;intro i hs
 obtain ⟨hi,hn⟩:=hs
 dsimp only
 refine Jf [0] [(9,Bo (decide ((i:Int)<(l.length:Int))))] (Je (Jk (decide ((i:Int)<(l.length:Int))) (fun h1=>?_) (fun h1=>?_)))
 refine Jo (Jb (Je (Jz (Jf [0,0] [(5,I (i:Int))] (Je (Jc (Ja [0,0,0] [(11,Fv k_f caps_f),(12,Sl a_l l.length c_l),(13,I (i:Int))] ?_)))))))
 obtain ⟨b1,o1,rfl⟩:=RS.addr h_l (k:=i) (by omega)
 obtain ⟨x1,hx1⟩:=We (l:=l) (k:=i) (by omega)
 obtain ⟨_,⟨rfl,w1,w2⟩,hc1⟩:=RS.get h_l hx1
 refine J3 (b:=b1) (off:=o1) (len:=l.length) (cap:=c_l) (ik:=.i64) 14 111 2 i J7 (JW 15 111 (cs:=[Sr x1.name,Sr x1.value]) 0 (.agg #[Sr x1.name,Sr x1.value]) hc1 (ZQ (k:=k_f) (caps:=caps_f) (args:=#[.agg #[Sr x1.name,Sr x1.value]]) 16 (Bo (p_f x1)) hk_f (h_f [Sr x1.name,Sr x1.value] x1 (⟨rfl,w1,w2⟩)) (Jd (Jb (Jk (p_f x1) (fun h2=>?_) (fun h2=>?_))))))
 refine Jf [0,0] [(4,I (i:Int))] (Jl (Jt (Jh (QS (Jt (Jh (Jm [0] [I (i:Int)] (Jw (Jp.le_refl _) (congrArg I (?_:(QR p_f l)=(i:Int)).symm)))))))))
 exact Vw hx1 (by simpa using h2) hn
 exact Jo (JM (Jb (Jc (Ja [0,0] [(8,I (IntKind.i64.wrap ((i:Int)+1)))] (Kw 8 ((i:Int)+1) J7 (Jd (Qr (i+1) ⟨J7,(Jac hx1 (by simpa using h2) hn)⟩ (by (try dsimp only);omega))))))))
 refine KW (JZ (J8 (JR (Jb (Jf [0] [(4,I (-1))] (Jl (Jm [0] [I (-1)] (Jw (Jp.le_refl _) (congrArg I (?_:(QR p_f l)=(-1)).symm)))))))))
 exact Y8 (by rw [List.take_of_length_le (by omega)] at hn;exact hn)
theorem Jl9 (G:Jp) (a_l:Option Addr) (c_l:Nat) (l:List J2) (h_l:RS QA G a_l c_l l) (k_f:FuncId) (caps_f:Array Value) (p_f:J2→Bool) (hk_f:JaS Tryz.prog k_f) (h_f:∀ (vs0:List Value) (x0:J2) (hx0:QA.R G vs0 x0),Vi Tryz.prog k_f (#[.agg vs0.toArray]++caps_f) G [] (fun u _ _=>u=Bo (p_f x0))) :Q2 177 #[Sl a_l l.length c_l,Fv k_f caps_f] G (Bo (l.any p_f)):=by
 refine JN Tryz.func177 9 [(0,Sl a_l l.length c_l),(1,Fv k_f caps_f)] rfl (fun w0 G0=>?_)
 refine Jf [0] [] (Je (Jc (Ja [0,0] [(5,Sl a_l l.length c_l),(6,Fv k_f caps_f)] (Jj 7 (I (QR p_f l)) (Jfl G a_l c_l l h_l k_f caps_f p_f hk_f h_f) (Ja [0,0] [(4,Bo (decide (QR p_f l ≥ 0)))] (Jd (Jb (Jl (Jm [0] [Bo (decide (QR p_f l ≥ 0))] (Jw (Jp.le_refl _) (congrArg Bo (?_:(l.any p_f)=(decide (QR p_f l ≥ 0))).symm)))))))))))
 rw [Jad]
theorem YB (G:Jp) (a_l:Option Addr) (c_l:Nat) (l:List Zv) (h_l:RS Q3 G a_l c_l l) :Yi 208 #[Sl a_l l.length c_l] G [] (fun u G' L'=>∃ (a1:Option Addr) (c2:Nat) (r3:List Kg),u=Sl a1 l.length c2∧(J0 Q3 G' a1 c2 l r3)∧L'=[r3]):=by
 refine JN Tryz.func208 8 [(0,Sl a_l l.length c_l)] rfl (fun w0 G0=>?_)
 refine Jf [0] [] (Je (Je (Jc (Ja [0] [(3,Sl a_l l.length c_l)] (JaO 4 (Bo ((a_l).isNone)) (by intro w;cases a_l <;> kernel_rfl) (Jd (Jb (Jk ((a_l).isNone) (fun h1=>?_) (fun h1=>?_)))))))))
 refine Jf [0] [(2,Sl none 0 0)] (Jl (Jh (Zy (Ji 0 ?_))))
 have hf1:l=[]:=by
  exact RS.isNil h_l h1
 refine Jm [0] [Sl none 0 0] (Jy [[]] (Jp.le_refl _) ?_)
 rw [hf1]
 try dsimp only
 exact ⟨none,0,([]),rfl,(J0.none Q3 _),rfl⟩
 refine Jo (Jb (Je (Jc (Kq 5 0 #[] 182 (fun b1=>Ja [0] [(6,Sl a_l l.length c_l)] (V1 7 182 0 (J0.of_lit (E:=Q3) (b:=b1) [] [] trivial (by simp)) h_l (fun a1 c1 r1 hr1=>Ja [0] [(2,Sl a1 l.length c1)] (Jd (Jb (Jl (Ji 0 ?_)))))))))))
 have hf2:l=l:=by
  rfl
 refine Jm [0] [Sl a1 l.length c1] (Jy [r1] (Jp.le_refl _) ?_)
 rw [hf2]
 try dsimp only
 exact ⟨a1,c1,r1,rfl,hr1,rfl⟩
def Qw (name value:List UInt8):Int:=if KN name=false then 3 else if 20<value.length then 2 else 0
def Ky (a:Zv):Int:=Qw a.name a.value
theorem JeQ {a b:Int} (h:0≤a∧a≤30) (hb:1≤b∧b≤30):0≤a.tdiv b∧a.tdiv b≤30:=by
 rw [Int.tdiv_eq_ediv_of_nonneg h.1]
 exact ⟨Int.ediv_nonneg h.1 (by omega),Int.le_trans (Int.ediv_le_self _ h.1) h.2⟩
theorem Jk8 {a b:Int} (h:0≤a∧a≤31) (hb:1≤b∧b≤1000):0≤a*b∧a*b≤31000:=by
 refine ⟨Int.mul_nonneg h.1 (by omega),?_⟩
 have h1:a*b≤31*b:=Int.mul_le_mul_of_nonneg_right h.2 (by omega)
 omega
def ZE:List Zv→Int
 | []=>0
 | a::l=>if Ky a=0 then ZE l else Ky a
def Ki (q:Q0):Int:=if q.most<1∨30<q.most then 4 else if q.most<q.wait.length then 7 else ZE q.wait
def Vn:Q0:=⟨0,[]⟩
def Z1 (q:Q0) (a:Zv):Int:=if Ki q ≠ 0 then Ki q else if Ky a ≠ 0 then Ky a else if (q.wait.length:Int)=q.most then 7 else 0
def JP (q:Q0) (a:Zv):Q0×Int×Int:=if Z1 q a ≠ 0 then (Vn,0,Z1 q a) else (⟨q.most,q.wait++[a]⟩,q.wait.length,0)
def QY (n:Int) (l:List Zv):Nat:=if (l.length:Int)<n then l.length else n.toNat
def J5 (q:Q0) (n:Int):Q0×List Zv×Int:=if Ki q ≠ 0 then (Vn,[],Ki q) else if n<0 then (Vn,[],4) else (⟨q.most,q.wait.drop (QY n q.wait)⟩,q.wait.take (QY n q.wait),0)
def Qg (ahead batch every:Int):Int×Int:=if ahead<0∨30<ahead∨batch<1∨30<batch∨every<1∨1000<every then (0,4) else ((ahead.tdiv batch+1)*every,0)
theorem Jfm {l:List Zv} {i:Nat} {x:Zv} (h:l[i]? = some x) (h0:Ky x=0):ZE (l.drop i)=ZE (l.drop (i+1)):=by
 obtain ⟨hi,rfl⟩:=List.getElem?_eq_some_iff.1 h
 rw [List.drop_eq_getElem_cons hi]
 show (if Ky l[i]=0 then _ else _)=_
 rw [if_pos h0]
theorem Jhq {l:List Zv} {i:Nat} {x:Zv} (h:l[i]? = some x) (h0:¬ Ky x=0):ZE (l.drop i)=Ky x:=by
 obtain ⟨hi,rfl⟩:=List.getElem?_eq_some_iff.1 h
 rw [List.drop_eq_getElem_cons hi]
 show (if Ky l[i]=0 then _ else _)=_
 rw [if_neg h0]
theorem Jch:∀ {l:List Zv},ZE l=0 ↔ ∀ a∈l,Ky a=0
 | []=>by simp [ZE]
 | a::l=>by
  unfold ZE
  split
  · rename_i h;simp [Jch (l:=l),h]
  · rename_i h;simp [h]
theorem Qd {q:Q0}:Ki q=0 ↔ 1≤q.most∧q.most≤30∧(q.wait.length:Int)≤q.most∧∀ a∈q.wait,Ky a=0:=by
 unfold Ki
 rw [← Jch]
 (repeat' split) <;> omega
theorem Jei {q:Q0} {a:Zv} (h:(JP q a).2.2=0):Ki q=0∧Ky a=0∧(q.wait.length:Int)<q.most∧JP q a=((⟨q.most,q.wait++[a]⟩:Q0),(q.wait.length:Int),(0:Int)):=by
 unfold JP at h ⊢
 split at h
 · contradiction
 ·
  rename_i h1
  rw [if_neg h1]
  unfold Z1 at h1
  have:=@Qd q
  by_cases e1:Ki q=0
  ·
   rw [if_neg (by omega)] at h1
   by_cases e2:Ky a=0
   ·
    rw [if_neg (by omega)] at h1
    by_cases e3:(q.wait.length:Int)=q.most
    · rw [if_pos e3] at h1;omega
    · exact ⟨e1,e2,by have:=this.1 e1;omega,rfl⟩
   · rw [if_pos e2] at h1;omega
  · rw [if_pos e1] at h1;omega
theorem Jfn {q:Q0} {a:Zv} (h:(JP q a).2.2=0):Ki (JP q a).1=0:=by
 obtain ⟨h1,h2,h3,h4⟩:=Jei h
 rw [h4]
 rw [Qd] at h1 ⊢
 refine ⟨h1.1,h1.2.1,by simp;omega,fun b hb=>?_⟩
 rcases List.mem_append.1 hb with hb | hb
 · exact h1.2.2.2 b hb
 · rw [List.mem_singleton.1 hb];exact h2
theorem Jhr {q:Q0} {n:Int} (h:(J5 q n).2.2=0):Ki q=0∧0≤n∧J5 q n=((⟨q.most,q.wait.drop (QY n q.wait)⟩:Q0),q.wait.take (QY n q.wait),(0:Int)):=by
 unfold J5 at h ⊢
 split at h
 · contradiction
 split at h
 · cases h
 ·
  rename_i h1 h2
  rw [if_neg h1,if_neg h2]
  exact ⟨by omega,by omega,rfl⟩
theorem JeF {q:Q0} {n:Int} (h:(J5 q n).2.2=0):Ki (J5 q n).1=0:=by
 obtain ⟨h1,h2,h3⟩:=Jhr h
 rw [h3]
 rw [Qd] at h1 ⊢
 exact ⟨h1.1,h1.2.1,by simp;omega,fun b hb=>h1.2.2.2 b (List.mem_of_mem_drop hb)⟩
theorem Jma {n:Int} {l:List Zv} (h:0≤n):(if (((l.length:Nat):Int))<n then (((l.length:Nat):Int)) else n)=((QY n l:Nat):Int):=by unfold QY;split <;> omega
theorem JdP {n:Int} {l:List Zv}:QY n l≤l.length:=by unfold QY;split <;> omega
theorem JbD (G:Jp) (vs_a:List Value) (a:Zv) (h_a:Q3.R G vs_a a) :Q2 207 #[.agg vs_a.toArray] G (I (Ky a)):=by
 obtain ⟨rfl,_,_,_,_⟩:=h_a
 refine JN Tryz.func207 13 [(0,.agg #[Sr a.name,Sr a.value,U a.n,U a.tag])] rfl (fun w0 G0=>?_)
 refine Je (Jc (Jv 1 #[Sr a.name,Sr a.value,U a.n,U a.tag] 182 (fun b1=>Ja [0] [] (Jd (Jb (Je (Jz (Je (Jc (Ja [0,2] [(5,Sr a.name)] (Jj 6 (Bo (KN a.name)) (ZJ G a.name) (Ja [0,0] [(3,Bo (!(KN a.name)))] (Jd (Jb (Jk (!(KN a.name)) (fun h1=>?_) (fun h1=>?_))))))))))))))))
 refine Jf [0] [(2,I 3)] (Jl (Jt (Jh (Jm [0] [I 3] (Jw (Jp.le_refl _) (congrArg I (?_:(Ky a)=3).symm))))))
 unfold Ky Qw;simp_all;try omega
 refine Jf [0,2,0,0,0] [(8,Bo (decide (((a.value).length:Int) > 20)))] (Jk (decide (((a.value).length:Int) > 20)) (fun h2=>?_) (fun h2=>?_))
 refine Jf [0] [(2,I 2)] (Jl (Jt (Jh (Jm [0] [I 2] (Jw (Jp.le_refl _) (congrArg I (?_:(Ky a)=2).symm))))))
 unfold Ky Qw;simp_all;try omega
 refine Jo (JM (Jb (Jf [0] [(2,I 0)] (Jl (Jm [0] [I 0] (Jw (Jp.le_refl _) (congrArg I (?_:(Ky a)=0).symm)))))))
 unfold Ky Qw;simp_all;try omega
theorem Jah (G:Jp) (vs_q:List Value) (q:Q0) (h_q:JjS.R G vs_q q) :Q2 205 #[.agg vs_q.toArray] G (I (Ki q)):=by
 obtain ⟨a1,c1,rfl,_,hs1⟩:=h_q
 refine JN Tryz.func205 35 [(0,.agg #[I q.most,Sl a1 q.wait.length c1])] rfl (fun w0 G0=>?_)
 refine Je (Jc (Jv 1 #[I q.most,Sl a1 q.wait.length c1] 57 (fun b1=>Ja [0] [] (Jd (Jb (Je (Jz (Je (Jc (Ja [0,2,0,0] [(10,Bo (decide (q.most<1)))] (Kn (decide (q.most<1)) [10] [1,1,1,0] [0,2,0,0] (fun bb=>[(14,Bo (bb || (decide (q.most > 30))))]) (Ja [0] [(6,Bo ((decide (q.most<1)) || (decide (q.most > 30))))] (Jd (Jb (Jk ((decide (q.most<1)) || (decide (q.most > 30))) (fun h1=>?_) (fun h1=>?_))))))))))))))))
 refine Jf [0] [(2,I 4)] (Jl (Jt (Jh (Jm [0] [I 4] (Jw (Jp.le_refl _) (congrArg I (?_:(Ki q)=4).symm))))))
 · unfold Ki;(rw [if_pos (by omega)];done)
 refine Jf [0,2,0,0,2,0,0] [(15,Bo (decide ((q.wait.length:Int) > q.most)))] (Jk (decide ((q.wait.length:Int) > q.most)) (fun h2=>?_) (fun h2=>?_))
 refine Jf [0] [(2,I 7)] (Jl (Jt (Jh (Jm [0] [I 7] (Jw (Jp.le_refl _) (congrArg I (?_:(Ki q)=7).symm))))))
 · unfold Ki;(rw [if_neg (by omega),if_pos (by omega)];done)
 refine Jo (JM (Jb (Je (Jf [0,2,0,0] [(23,Sl a1 q.wait.length c1),(24,I (q.wait.length:Int)),(25,I 0)] (Jz ?_)))))
 have hlm_hs1:q.wait.length≤9223372036854775807:=Nat.le_trans (hs1).le (hs1).max
 refine Qh (σ:=Nat) (fun q_=>(q_≤q.wait.length)∧(ZE q.wait=ZE (q.wait.drop q_))) (fun q_=>[(23,Sl a1 q.wait.length c1),(24,I (q.wait.length:Int)),(25,I (q_:Int))]) (fun q_=>G) (fun q_=>[[Sg b1 0 [I q.most,Sl a1 q.wait.length c1]]]) (fun q_=>q.wait.length-q_) 0 ⟨(by (try dsimp only);exact Nat.zero_le _),rfl⟩ (fun q_ hs=>?_)
 revert hs;revert q_;intro i hs
 obtain ⟨hi,hn⟩:=hs
 dsimp only
 refine Jf [0] [(26,Bo (decide ((i:Int)<(q.wait.length:Int))))] (Je (Jk (decide ((i:Int)<(q.wait.length:Int))) (fun h3=>?_) (fun h3=>?_)))
 refine Jo (Jb (Je (Jz (Je (Jc ?_)))))
 obtain ⟨b2,o1,rfl⟩:=RS.addr hs1 (k:=i) (by omega)
 obtain ⟨x1,hx1⟩:=We (l:=q.wait) (k:=i) (by omega)
 obtain ⟨_,⟨rfl,w2,w3,w4,w5⟩,hc1⟩:=RS.get hs1 hx1
 refine J3 (b:=b2) (off:=o1) (len:=q.wait.length) (cap:=c1) (ik:=.i64) 27 182 4 i J7 (JW 28 182 (cs:=[Sr x1.name,Sr x1.value,U x1.n,U x1.tag]) 0 (.agg #[Sr x1.name,Sr x1.value,U x1.n,U x1.tag]) hc1 (Jv 4 #[Sr ([]),Sr ([]),U 0,U 0] 182 (fun b3=>JV [3] [] [[Sg b3 0 [Sr x1.name,Sr x1.value,U x1.n,U x1.tag]],[Sg b1 0 [I q.most,Sl (At b2 o1) q.wait.length c1]]] (Jd (Jb (Je (Jc (Ja [2] [(29,.agg #[Sr x1.name,Sr x1.value,U x1.n,U x1.tag])] (Jj 30 (I (Ky x1)) (JbD G [Sr x1.name,Sr x1.value,U x1.n,U x1.tag] x1 (⟨rfl,w2,w3,w4,w5⟩)) (Ja [0] [(5,I (Ky x1))] (Jd (Jb (Jf [0,0] [(32,Bo (!decide (Ky x1=0)))] (Jk (!decide (Ky x1=0)) (fun h4=>?_) (fun h4=>?_)))))))))))))))
 refine Jf [0,0] [(2,I (Ky x1))] (Jl (Jt (Jh (QS (Jt (Jh (Jm [0] [I (Ky x1)] (Jw (Jp.le_refl _) (congrArg I (?_:(Ki q)=(Ky x1)).symm)))))))))
 unfold Ki;(rw [if_neg (by omega),if_neg (by omega),hn];exact Jhq hx1 h4)
 exact Jo (JM (Jb (Jc (Ja [0,0] [(25,I (IntKind.i64.wrap ((i:Int)+1)))] (Kw 25 ((i:Int)+1) J7 (Jd (QT [[Sg b1 0 [I q.most,Sl (At b2 o1) q.wait.length c1]]] (Qr (i+1) ⟨J7,(by rw [hn];exact Jfm hx1 h4)⟩ (by (try dsimp only);omega)))))))))
 refine KW (JZ (J8 (JR (Jb (Jf [0] [(2,I 0)] (Jl (Jm [0] [I 0] (Jw (Jp.le_refl _) (congrArg I (?_:(Ki q)=0).symm)))))))))
 unfold Ki;(rw [if_neg (by omega),if_neg (by omega),hn];(rw [List.drop_eq_nil_of_le (by omega)];rfl))
set_option maxRecDepth 20000 in
theorem Jhs (G:Jp) (vs_q:List Value) (q:Q0) (h_q:JjS.R G vs_q q) (vs_a:List Value) (a:Zv) (h_a:Q3.R G vs_a a) :Yi 153 #[.agg vs_q.toArray,.agg vs_a.toArray] G [] (fun u G' L'=>∃ (a1:Option Addr) (c2:Nat),u=.tuple #[.agg #[I (((JP q a).1).most),Sl a1 ((((JP q a).1).wait).length) c2],I ((JP q a).2.1),I ((JP q a).2.2)]∧(rI (((JP q a).1).most))∧(RS Q3 G' a1 c2 (((JP q a).1).wait))∧L'=[]):=by
 obtain ⟨a1,c1,rfl,w1,hs1⟩:=h_q
 obtain ⟨rfl,w2,w3,w4,w5⟩:=h_a
 refine JN Tryz.func153 42 [(0,.agg #[I q.most,Sl a1 q.wait.length c1]),(1,.agg #[Sr a.name,Sr a.value,U a.n,U a.tag])] rfl (fun w0 G0=>?_)
 refine Je (Jc (Jv 2 #[I q.most,Sl a1 q.wait.length c1] 57 (fun b1=>Jv 3 #[Sr a.name,Sr a.value,U a.n,U a.tag] 182 (fun b2=>Jv 4 #[I 0,Sl none 0 0] 57 (fun b3=>Ja [0,0] [] (Jd (Jb (Je (Jc (Ja [6] [(9,.agg #[I q.most,Sl a1 q.wait.length c1])] (Jj 10 (I (Ki q)) (Jah G [I q.most,Sl a1 q.wait.length c1] q (⟨a1,c1,rfl,w1,hs1⟩)) (Ja [0] [(7,I (Ki q))] (Jd (Jb (Je (Jf [0,0] [(12,Bo (decide (Ki q=0)))] (Jk (decide (Ki q=0)) (fun h1=>?_) (fun h1=>?_))))))))))))))))))
 refine Jc (Ja [4] [(13,.agg #[Sr a.name,Sr a.value,U a.n,U a.tag])] (Jj 14 (I (Ky a)) (JbD G [Sr a.name,Sr a.value,U a.n,U a.tag] a (⟨rfl,w2,w3,w4,w5⟩)) (Ja [0] [(7,I (Ky a))] (Jd (Jb (Je (Je (Jc (Ja [0,0,0] [(17,Bo (decide (Ky a=0)))] (Kn (decide (Ky a=0)) [17] [0,6,0,0,6,0,0] [1,1,1,1,1,1,0] (fun bb=>[(24,Bo (bb && (decide ((q.wait.length:Int)=q.most))))]) (Jd (Jb (Jk ((decide (Ky a=0)) && (decide ((q.wait.length:Int)=q.most))) (fun h2=>?_) (fun h2=>?_))))))))))))))
 refine Jc (Ja [0] [(7,I 7)] (Jd (Jb (Je (Jf [0,0] [(26,Bo true)] (JU (Jf [0,0,3,0,0] [(5,I 0),(6,I 7)] (Jl (Jh ?_)))))))))
 have hf1:JP q a=((⟨0,[]⟩:Q0),0,7):=by
  unfold JP Z1 Vn;simp_all;try omega
 refine Jm [0,0,0] [.agg #[I 0,Sl none 0 0],I 0,I 7] (Jy [] (Jp.le_refl _) ?_)
 rw [hf1]
 try dsimp only
 exact ⟨none,0,rfl,J7,(RS.nil' Q3 G),rfl⟩
 refine Jo (Jb (Je (Jf [0,0] [(26,Bo (!decide (Ky a=0)))] (Jk (!decide (Ky a=0)) (fun h3=>?_) (fun h3=>?_)))))
 refine Jf [0,0,3,0,0] [(5,I 0),(6,I (Ky a))] (Jl (Jh ?_))
 have hf2:JP q a=((⟨0,[]⟩:Q0),0,Ky a):=by
  unfold JP Z1 Vn;simp_all;try omega
 refine Jm [0,0,0] [.agg #[I 0,Sl none 0 0],I 0,I (Ky a)] (Jy [] (Jp.le_refl _) ?_)
 rw [hf2]
 try dsimp only
 exact ⟨none,0,rfl,J7,(RS.nil' Q3 G),rfl⟩
 refine Jo (Jb (Jf [0,6,0,0] [(8,I (q.wait.length:Int))] (Je (Ko [4,6,7,10] (Wm [(0,Pt b1 0),(1,I q.most),(2,Pt b1 1),(3,Sl a1 q.wait.length c1),(5,.agg #[Sr a.name,Sr a.value,U a.n,U a.tag]),(9,I (q.wait.length:Int))] (JK [] [(0,0),(1,6),(2,0),(3,6),(5,4),(9,0)] [] [4,6] (List.forall_mem_nil _) (Ke ?_ (Ke ?_ K4))))))))
 refine JD 4 [(35,Sl a1 q.wait.length c1)] (fun X=>?_)
 refine JF 36 (YB G a1 c1 q.wait hs1) (fun v G1 L1 hl1 hp=>?_)
 obtain ⟨a2,c2,_,rfl,hr1,rfl⟩:=hp
 refine JC [(4,Sl a2 q.wait.length c2)] (JK [2,3] [(0,0),(1,8),(5,6),(9,0)] [] [6] (List.forall_mem_nil _) (Ke ?_ K4))
 refine JD 6 [(37,.agg #[Sr a.name,Sr a.value,U a.n,U a.tag])] (fun X=>?_)
 refine Kq 38 1 #[Sr a.name,Sr a.value,U a.n,U a.tag] 182 (fun b4=>JC [(6,Sl (At b4 0) 1 1)] (JK [2,3,5] [(0,0),(1,10),(9,0)] [] [7] (List.forall_mem_nil _) (Ke ?_ K4)))
 refine JD 7 [(36,Sl a2 q.wait.length c2),(38,Sl (At b4 0) 1 1)] (fun X=>?_)
 refine Qv (b:=b4) (cs:=[Sr a.name,Sr a.value,U a.n,U a.tag]) 39 182 1 0 (E:=Q3) a hr1 ⟨rfl,w2,w3,w4,w5⟩ (by have hq_:=Qd.1 ‹_›;(try simp only [Q3,List.length_append,List.length_cons,List.length_nil]);omega) (by have hq_:=Qd.1 ‹_›;(try simp only [Q3,List.length_append,List.length_cons,List.length_nil]);omega) (fun a3 c3 r2 hr2=>JC [(7,Sl a3 ((q.wait++[a]).length) c3),(8,.agg #[I q.most,Sl a3 ((q.wait++[a]).length) c3])] (JK [2,3,5] [(0,0),(1,10),(8,0),(9,0)] [] [10] (List.forall_mem_nil _) (Ke ?_ K4)))
 refine JD 10 [(4,Pt b3 0),(40,.agg #[I q.most,Sl a3 ((q.wait++[a]).length) c3])] (fun X=>?_)
 refine KL 2 [[Sg b4 0 [Sr a.name,Sr a.value,U a.n,U a.tag]],r2,[Sg b3 0 [I q.most,Sl a3 ((q.wait++[a]).length) c3]],[Sg b2 0 [Sr a.name,Sr a.value,U a.n,U a.tag]],[Sg b1 0 [I q.most,Sl a1 q.wait.length c1]]] (Kc [(11,I (q.wait.length:Int)),(12,I 0)] (Km [0,1,2,3,5,8] [(9,0),(11,0),(12,0)] [] [(4,Pt b3 0),(5,I (q.wait.length:Int)),(6,I 0)] (List.forall_mem_nil _) (Jb (Jl (WA (E:=Q3) 1 hr2 (by have hq_:=Qd.1 ‹_›;(try simp only [Q3,List.length_append,List.length_cons,List.length_nil]);omega) (fun G2 hl2 hs2=>?_))))))
 have hf3:JP q a=((⟨q.most,q.wait++[a]⟩:Q0),(q.wait.length:Int),0):=by
  unfold JP Z1 Vn;simp_all;try omega
 refine Jm [2,0,0] [.agg #[I q.most,Sl a3 ((q.wait++[a]).length) c3],I (q.wait.length:Int),I 0] (Jy [] (Jp.le_trans hl1 hl2) ?_)
 rw [hf3]
 try dsimp only
 exact ⟨a3,c3,rfl,w1,hs2,rfl⟩
 refine JD 6 [(37,.agg #[Sr a.name,Sr a.value,U a.n,U a.tag])] (fun X=>?_)
 refine Kq 38 1 #[Sr a.name,Sr a.value,U a.n,U a.tag] 182 (fun b5=>JC [(6,Sl (At b5 0) 1 1)] (JK [5] [(0,0),(1,8),(2,0),(3,8),(9,0)] [] [4] (List.forall_mem_nil _) (Ke ?_ K4)))
 refine JD 4 [(35,Sl a1 q.wait.length c1)] (fun X=>?_)
 refine JF 36 (YB G a1 c1 q.wait hs1) (fun v G3 L1 hl3 hp=>?_)
 obtain ⟨a4,c4,_,rfl,hr3,rfl⟩:=hp
 refine JC [(4,Sl a4 q.wait.length c4)] (JK [2,3,5] [(0,0),(1,10),(9,0)] [] [7] (List.forall_mem_nil _) (Ke ?_ K4))
 refine JD 7 [(36,Sl a4 q.wait.length c4),(38,Sl (At b5 0) 1 1)] (fun X=>?_)
 refine Qv (b:=b5) (cs:=[Sr a.name,Sr a.value,U a.n,U a.tag]) 39 182 0 1 (E:=Q3) a hr3 ⟨rfl,w2,w3,w4,w5⟩ (by have hq_:=Qd.1 ‹_›;(try simp only [Q3,List.length_append,List.length_cons,List.length_nil]);omega) (by have hq_:=Qd.1 ‹_›;(try simp only [Q3,List.length_append,List.length_cons,List.length_nil]);omega) (fun a5 c5 r4 hr4=>JC [(7,Sl a5 ((q.wait++[a]).length) c5),(8,.agg #[I q.most,Sl a5 ((q.wait++[a]).length) c5])] (JK [2,3,5] [(0,0),(1,10),(8,0),(9,0)] [] [10] (List.forall_mem_nil _) (Ke ?_ K4)))
 refine JD 10 [(4,Pt b3 0),(40,.agg #[I q.most,Sl a5 ((q.wait++[a]).length) c5])] (fun X=>?_)
 refine KL 2 [r4,[Sg b5 0 [Sr a.name,Sr a.value,U a.n,U a.tag]],[Sg b3 0 [I q.most,Sl a5 ((q.wait++[a]).length) c5]],[Sg b2 0 [Sr a.name,Sr a.value,U a.n,U a.tag]],[Sg b1 0 [I q.most,Sl a1 q.wait.length c1]]] (Kc [(11,I (q.wait.length:Int)),(12,I 0)] (Km [0,1,2,3,5,8] [(9,0),(11,0),(12,0)] [] [(4,Pt b3 0),(5,I (q.wait.length:Int)),(6,I 0)] (List.forall_mem_nil _) (Jb (Jl (WA (E:=Q3) 0 hr4 (by have hq_:=Qd.1 ‹_›;(try simp only [Q3,List.length_append,List.length_cons,List.length_nil]);omega) (fun G4 hl4 hs3=>?_))))))
 have hf4:JP q a=((⟨q.most,q.wait++[a]⟩:Q0),(q.wait.length:Int),0):=by
  unfold JP Z1 Vn;simp_all;try omega
 refine Jm [2,0,0] [.agg #[I q.most,Sl a5 ((q.wait++[a]).length) c5],I (q.wait.length:Int),I 0] (Jy [] (Jp.le_trans hl3 hl4) ?_)
 rw [hf4]
 try dsimp only
 exact ⟨a5,c5,rfl,w1,hs3,rfl⟩
 refine Jo (Jb (Je (Je (Jc (Ja [0,0,0] [(17,Bo (decide (Ki q=0)))] (Kn (decide (Ki q=0)) [17] [0,6,0,0,6,0,0] [1,1,1,1,1,1,0] (fun bb=>[(24,Bo (bb && (decide ((q.wait.length:Int)=q.most))))]) (Jd (Jb (Jk ((decide (Ki q=0)) && (decide ((q.wait.length:Int)=q.most))) (fun h4=>?_) (fun h4=>?_))))))))))
 refine Jc (Ja [0] [(7,I 7)] (Jd (Jb (Je (Jf [0,0] [(26,Bo true)] (JU (Jf [0,0,3,0,0] [(5,I 0),(6,I 7)] (Jl (Jh ?_)))))))))
 have hf5:JP q a=((⟨0,[]⟩:Q0),0,7):=by
  unfold JP Z1 Vn;simp_all;try omega
 refine Jm [0,0,0] [.agg #[I 0,Sl none 0 0],I 0,I 7] (Jy [] (Jp.le_refl _) ?_)
 rw [hf5]
 try dsimp only
 exact ⟨none,0,rfl,J7,(RS.nil' Q3 G),rfl⟩
 refine Jo (Jb (Je (Jf [0,0] [(26,Bo (!decide (Ki q=0)))] (Jk (!decide (Ki q=0)) (fun h5=>?_) (fun h5=>?_)))))
 refine Jf [0,0,3,0,0] [(5,I 0),(6,I (Ki q))] (Jl (Jh ?_))
 have hf6:JP q a=((⟨0,[]⟩:Q0),0,Ki q):=by
  unfold JP Z1 Vn;simp_all;try omega
 refine Jm [0,0,0] [.agg #[I 0,Sl none 0 0],I 0,I (Ki q)] (Jy [] (Jp.le_refl _) ?_)
 rw [hf6]
 try dsimp only
 exact ⟨none,0,rfl,J7,(RS.nil' Q3 G),rfl⟩
 refine Jo (Jb (Jf [0,6,0,0] [(8,I (q.wait.length:Int))] (Je (Ko [4,6,7,10] (Wm [(0,Pt b1 0),(1,I q.most),(2,Pt b1 1),(3,Sl a1 q.wait.length c1),(5,.agg #[Sr a.name,Sr a.value,U a.n,U a.tag]),(9,I (q.wait.length:Int))] (JK [] [(0,0),(1,6),(2,0),(3,6),(5,4),(9,0)] [] [4,6] (List.forall_mem_nil _) (Ke ?_ (Ke ?_ K4))))))))
 refine JD 4 [(35,Sl a1 q.wait.length c1)] (fun X=>?_)
 refine JF 36 (YB G a1 c1 q.wait hs1) (fun v G5 L1 hl5 hp=>?_)
 obtain ⟨a6,c6,_,rfl,hr5,rfl⟩:=hp
 refine JC [(4,Sl a6 q.wait.length c6)] (JK [2,3] [(0,0),(1,8),(5,6),(9,0)] [] [6] (List.forall_mem_nil _) (Ke ?_ K4))
 refine JD 6 [(37,.agg #[Sr a.name,Sr a.value,U a.n,U a.tag])] (fun X=>?_)
 refine Kq 38 1 #[Sr a.name,Sr a.value,U a.n,U a.tag] 182 (fun b6=>JC [(6,Sl (At b6 0) 1 1)] (JK [2,3,5] [(0,0),(1,10),(9,0)] [] [7] (List.forall_mem_nil _) (Ke ?_ K4)))
 refine JD 7 [(36,Sl a6 q.wait.length c6),(38,Sl (At b6 0) 1 1)] (fun X=>?_)
 refine Qv (b:=b6) (cs:=[Sr a.name,Sr a.value,U a.n,U a.tag]) 39 182 1 0 (E:=Q3) a hr5 ⟨rfl,w2,w3,w4,w5⟩ (by have hq_:=Qd.1 ‹_›;(try simp only [Q3,List.length_append,List.length_cons,List.length_nil]);omega) (by have hq_:=Qd.1 ‹_›;(try simp only [Q3,List.length_append,List.length_cons,List.length_nil]);omega) (fun a7 c7 r6 hr6=>JC [(7,Sl a7 ((q.wait++[a]).length) c7),(8,.agg #[I q.most,Sl a7 ((q.wait++[a]).length) c7])] (JK [2,3,5] [(0,0),(1,10),(8,0),(9,0)] [] [10] (List.forall_mem_nil _) (Ke ?_ K4)))
 refine JD 10 [(4,Pt b3 0),(40,.agg #[I q.most,Sl a7 ((q.wait++[a]).length) c7])] (fun X=>?_)
 refine KL 2 [[Sg b6 0 [Sr a.name,Sr a.value,U a.n,U a.tag]],r6,[Sg b3 0 [I q.most,Sl a7 ((q.wait++[a]).length) c7]],[Sg b2 0 [Sr a.name,Sr a.value,U a.n,U a.tag]],[Sg b1 0 [I q.most,Sl a1 q.wait.length c1]]] (Kc [(11,I (q.wait.length:Int)),(12,I 0)] (Km [0,1,2,3,5,8] [(9,0),(11,0),(12,0)] [] [(4,Pt b3 0),(5,I (q.wait.length:Int)),(6,I 0)] (List.forall_mem_nil _) (Jb (Jl (WA (E:=Q3) 1 hr6 (by have hq_:=Qd.1 ‹_›;(try simp only [Q3,List.length_append,List.length_cons,List.length_nil]);omega) (fun G6 hl6 hs4=>?_))))))
 have hf7:JP q a=((⟨q.most,q.wait++[a]⟩:Q0),(q.wait.length:Int),0):=by
  unfold JP Z1 Vn;simp_all;try omega
 refine Jm [2,0,0] [.agg #[I q.most,Sl a7 ((q.wait++[a]).length) c7],I (q.wait.length:Int),I 0] (Jy [] (Jp.le_trans hl5 hl6) ?_)
 rw [hf7]
 try dsimp only
 exact ⟨a7,c7,rfl,w1,hs4,rfl⟩
 refine JD 6 [(37,.agg #[Sr a.name,Sr a.value,U a.n,U a.tag])] (fun X=>?_)
 refine Kq 38 1 #[Sr a.name,Sr a.value,U a.n,U a.tag] 182 (fun b7=>JC [(6,Sl (At b7 0) 1 1)] (JK [5] [(0,0),(1,8),(2,0),(3,8),(9,0)] [] [4] (List.forall_mem_nil _) (Ke ?_ K4)))
 refine JD 4 [(35,Sl a1 q.wait.length c1)] (fun X=>?_)
 refine JF 36 (YB G a1 c1 q.wait hs1) (fun v G7 L1 hl7 hp=>?_)
 obtain ⟨a8,c8,_,rfl,hr7,rfl⟩:=hp
 refine JC [(4,Sl a8 q.wait.length c8)] (JK [2,3,5] [(0,0),(1,10),(9,0)] [] [7] (List.forall_mem_nil _) (Ke ?_ K4))
 refine JD 7 [(36,Sl a8 q.wait.length c8),(38,Sl (At b7 0) 1 1)] (fun X=>?_)
 refine Qv (b:=b7) (cs:=[Sr a.name,Sr a.value,U a.n,U a.tag]) 39 182 0 1 (E:=Q3) a hr7 ⟨rfl,w2,w3,w4,w5⟩ (by have hq_:=Qd.1 ‹_›;(try simp only [Q3,List.length_append,List.length_cons,List.length_nil]);omega) (by have hq_:=Qd.1 ‹_›;(try simp only [Q3,List.length_append,List.length_cons,List.length_nil]);omega) (fun a9 c9 r8 hr8=>JC [(7,Sl a9 ((q.wait++[a]).length) c9),(8,.agg #[I q.most,Sl a9 ((q.wait++[a]).length) c9])] (JK [2,3,5] [(0,0),(1,10),(8,0),(9,0)] [] [10] (List.forall_mem_nil _) (Ke ?_ K4)))
 refine JD 10 [(4,Pt b3 0),(40,.agg #[I q.most,Sl a9 ((q.wait++[a]).length) c9])] (fun X=>?_)
 refine KL 2 [r8,[Sg b7 0 [Sr a.name,Sr a.value,U a.n,U a.tag]],[Sg b3 0 [I q.most,Sl a9 ((q.wait++[a]).length) c9]],[Sg b2 0 [Sr a.name,Sr a.value,U a.n,U a.tag]],[Sg b1 0 [I q.most,Sl a1 q.wait.length c1]]] (Kc [(11,I (q.wait.length:Int)),(12,I 0)] (Km [0,1,2,3,5,8] [(9,0),(11,0),(12,0)] [] [(4,Pt b3 0),(5,I (q.wait.length:Int)),(6,I 0)] (List.forall_mem_nil _) (Jb (Jl (WA (E:=Q3) 0 hr8 (by have hq_:=Qd.1 ‹_›;(try simp only [Q3,List.length_append,List.length_cons,List.length_nil]);omega) (fun G8 hl8 hs5=>?_))))))
 have hf8:JP q a=((⟨q.most,q.wait++[a]⟩:Q0),(q.wait.length:Int),0):=by
  unfold JP Z1 Vn;simp_all;try omega
 refine Jm [2,0,0] [.agg #[I q.most,Sl a9 ((q.wait++[a]).length) c9],I (q.wait.length:Int),I 0] (Jy [] (Jp.le_trans hl7 hl8) ?_)
 rw [hf8]
 try dsimp only
 exact ⟨a9,c9,rfl,w1,hs5,rfl⟩
theorem Jf5 (G:Jp) (vs_q:List Value) (q:Q0) (h_q:JjS.R G vs_q q) (n:Int) :Yi 163 #[.agg vs_q.toArray,I n] G [] (fun u G' L'=>∃ (a1:Option Addr) (c2:Nat) (a3:Option Addr) (c4:Nat),u=.tuple #[.agg #[I (((J5 q n).1).most),Sl a1 ((((J5 q n).1).wait).length) c2],Sl a3 (((J5 q n).2.1).length) c4,I ((J5 q n).2.2)]∧(rI (((J5 q n).1).most))∧(RS Q3 G' a1 c2 (((J5 q n).1).wait))∧(RS Q3 G' a3 c4 ((J5 q n).2.1))∧L'=[]):=by
 obtain ⟨a1,c1,rfl,w1,hs1⟩:=h_q
 refine JN Tryz.func163 35 [(0,.agg #[I q.most,Sl a1 q.wait.length c1]),(1,I n)] rfl (fun w0 G0=>?_)
 refine Je (Jc (Jv 2 #[I q.most,Sl a1 q.wait.length c1] 57 (fun b1=>Jv 4 #[I 0,Sl none 0 0] 57 (fun b2=>Ja [0,0] [] (Jd (Jb (Je (Je (Jc (Ja [4] [(8,.agg #[I q.most,Sl a1 q.wait.length c1])] (Jj 9 (I (Ki q)) (Jah G [I q.most,Sl a1 q.wait.length c1] q (⟨a1,c1,rfl,w1,hs1⟩)) (Ja [0] [(7,I (Ki q))] (Jd (Jb (Jf [0,0] [(11,Bo (!decide (Ki q=0)))] (Jk (!decide (Ki q=0)) (fun h1=>?_) (fun h1=>?_)))))))))))))))))
 refine Jf [0,0,3,0,0] [(5,Sl none 0 0),(6,I (Ki q))] (Jl (Jh ?_))
 have hf1:J5 q n=((⟨0,[]⟩:Q0),[],Ki q):=by
  unfold J5 Vn;simp_all;try omega
 refine Jm [0,0,0] [.agg #[I 0,Sl none 0 0],Sl none 0 0,I (Ki q)] (Jy [] (Jp.le_refl _) ?_)
 rw [hf1]
 try dsimp only
 exact ⟨none,0,none,0,rfl,J7,(RS.nil' Q3 G),(RS.nil' Q3 G),rfl⟩
 refine Jo (Jb (Je (Jf [0,0] [(15,Bo (decide (n<0)))] (Jk (decide (n<0)) (fun h2=>?_) (fun h2=>?_)))))
 refine Jf [0,3,0,0] [(5,Sl none 0 0),(6,I 4)] (Jl (Jh ?_))
 have hf2:J5 q n=((⟨0,[]⟩:Q0),[],4):=by
  unfold J5 Vn;simp_all;try omega
 refine Jm [0,0,0] [.agg #[I 0,Sl none 0 0],Sl none 0 0,I 4] (Jy [] (Jp.le_refl _) ?_)
 rw [hf2]
 try dsimp only
 exact ⟨none,0,none,0,rfl,J7,(RS.nil' Q3 G),(RS.nil' Q3 G),rfl⟩
 refine Jo (Jb (Jf [0,0,4,0,0,0] [(1,I (if (q.wait.length:Int)<n then (q.wait.length:Int) else n))] ?_))
 have e1:(if (q.wait.length:Int)<n then (q.wait.length:Int) else n)=((QY n q.wait:Nat):Int):=Jma (by omega)
 refine QX 1 (I ((QY n q.wait:Nat):Int)) (congrArg I e1) ?_
 clear e1
 refine Je ?_
 obtain ⟨a2,c2,ea1,ec1,en1,eh1,hs2⟩:=RS.reslXD hs1 (QY n q.wait) (by have:=@JdP n q.wait;omega)
 obtain ⟨a3,c3,ea2,ec2,en2,eh2,hs3⟩:=RS.reslXT hs1 (QY n q.wait) (by have:=@JdP n q.wait;omega)
 refine Ko [6,12,13] (Wm [(0,Pt b1 0),(1,I q.most),(2,Pt b1 1),(3,Sl a1 q.wait.length c1),(4,I ((QY n q.wait:Nat):Int)),(5,Sl a2 ((q.wait.drop (QY n q.wait)).length) c2),(8,Pt b1 1),(9,Sl a1 q.wait.length c1),(10,I ((QY n q.wait:Nat):Int)),(11,Sl a3 ((q.wait.take (QY n q.wait)).length) c3)] (JK [] [(0,0),(1,4),(2,0),(3,4),(4,0),(8,0),(9,4),(10,0)] [5,11] [6] (Ke ?_ (Ke ?_ K4)) (Ke ?_ K4)))
 refine Jr 5 27 (Sl a2 ((q.wait.drop (QY n q.wait)).length) c2) [(25,Sl a1 q.wait.length c1),(26,I ((QY n q.wait:Nat):Int))] (fun X=>?_)
 exact WD (a:=a1) (len:=q.wait.length) (cap:=c1) 27 4 (some (I ((QY n q.wait:Nat):Int))) none (QY n q.wait) q.wait.length (.inr ⟨_,rfl⟩) (.inl ⟨rfl,rfl⟩) (by have:=@JdP n q.wait;omega) ea1 ec1 en1 eh1 Jn
 refine Jr 11 33 (Sl a3 ((q.wait.take (QY n q.wait)).length) c3) [(31,Sl a1 q.wait.length c1),(32,I ((QY n q.wait:Nat):Int))] (fun X=>?_)
 exact WD (a:=a1) (len:=q.wait.length) (cap:=c1) 33 4 none (some (I ((QY n q.wait:Nat):Int))) 0 (QY n q.wait) (.inl ⟨rfl,rfl⟩) (.inr ⟨_,rfl⟩) (by exact Nat.zero_le _) ea2 ec2 en2 eh2 Jn
 refine JD 6 [(27,Sl a2 ((q.wait.drop (QY n q.wait)).length) c2)] (fun X=>?_)
 refine JF 28 (YB G a2 c2 (q.wait.drop (QY n q.wait)) hs2) (fun v G1 L1 hl1 hp=>?_)
 obtain ⟨a4,c4,r1,rfl,hr1,rfl⟩:=hp
 refine JC [(6,Sl a4 ((q.wait.drop (QY n q.wait)).length) c4),(7,.agg #[I q.most,Sl a4 ((q.wait.drop (QY n q.wait)).length) c4])] (JK [2,3,4,5] [(0,0),(1,6),(7,0),(8,0),(9,6),(10,0)] [11] [12] (Ke ?_ K4) (Ke ?_ K4))
 refine Jr 11 33 (Sl a3 ((q.wait.take (QY n q.wait)).length) c3) [(31,Sl a1 q.wait.length c1),(32,I ((QY n q.wait:Nat):Int))] (fun X=>?_)
 exact WD (a:=a1) (len:=q.wait.length) (cap:=c1) 33 4 none (some (I ((QY n q.wait:Nat):Int))) 0 (QY n q.wait) (.inl ⟨rfl,rfl⟩) (.inr ⟨_,rfl⟩) (by exact Nat.zero_le _) ea2 ec2 en2 eh2 Jn
 refine JD 12 [(33,Sl a3 ((q.wait.take (QY n q.wait)).length) c3)] (fun X=>?_)
 refine JF 34 (YB G1 a3 c3 (q.wait.take (QY n q.wait)) (hs3.mono hl1)) (fun v G2 L1 hl2 hp=>?_)
 obtain ⟨a6,c6,r2,rfl,hr2,rfl⟩:=hp
 refine JC [(12,Sl a6 ((q.wait.take (QY n q.wait)).length) c6)] (JK [2,3,4,5,8,9,10,11] [(0,0),(1,8),(7,0)] [] [13] (List.forall_mem_nil _) (Ke ?_ K4))
 refine JD 13 [(4,Pt b2 0),(29,.agg #[I q.most,Sl a4 ((q.wait.drop (QY n q.wait)).length) c4])] (fun X=>?_)
 refine KL 2 [r2,r1,[Sg b2 0 [I q.most,Sl a4 ((q.wait.drop (QY n q.wait)).length) c4]],[Sg b1 0 [I q.most,Sl a1 q.wait.length c1]]] (Kc [(14,Sl a6 ((q.wait.take (QY n q.wait)).length) c6),(15,I 0)] (Km [0,1,2,3,4,5,7,8,9,10,11] [(14,0),(15,0)] [] [(4,Pt b2 0),(5,Sl a6 ((q.wait.take (QY n q.wait)).length) c6),(6,I 0)] (List.forall_mem_nil _) (Jb (Jl (WA (E:=Q3) 1 (hr1.mono hl2) (by exact (hs2).fit) (fun G3 hl3 hs5=>WA (E:=Q3) 0 (hr2.mono hl3) (by exact (hs3.mono hl1).fit) (fun G4 hl4 hs6=>?_)))))))
 have hf3:J5 q n=((⟨q.most,q.wait.drop (QY n q.wait)⟩:Q0),q.wait.take (QY n q.wait),0):=by
  unfold J5 Vn;simp_all;try omega
 refine Jm [2,0,0] [.agg #[I q.most,Sl a4 ((q.wait.drop (QY n q.wait)).length) c4],Sl a6 ((q.wait.take (QY n q.wait)).length) c6,I 0] (Jy [] (Jp.le_trans (Jp.le_trans (Jp.le_trans hl1 hl2) hl3) hl4) ?_)
 rw [hf3]
 try dsimp only
 exact ⟨a4,c4,a6,c6,rfl,‹_›,(hs5.mono hl4),hs6,rfl⟩
theorem Jf6 (G:Jp) (a:Int) (b:Int) (e:Int) :Q2 157 #[I a,I b,I e] G (.tuple #[I ((Qg a b e).1),I ((Qg a b e).2)]):=by
 refine JN Tryz.func157 36 [(0,I a),(1,I b),(2,I e)] rfl (fun w0 G0=>?_)
 refine Jf [0,0] [] (Je (Je (Jc (Ja [0,0,0] [(10,Bo (decide (a<0)))] (Kn (decide (a<0)) [10] [1,1,0] [0,0,0] (fun bb=>[(13,Bo (bb || (decide (a > 30))))]) (Ja [0] [(14,Bo ((decide (a<0)) || (decide (a > 30))))] (Kn ((decide (a<0)) || (decide (a > 30))) [14] [1,1,0] [0,0,0] (fun bb=>[(17,Bo (bb || (decide (b<1))))]) (Ja [0] [(18,Bo (((decide (a<0)) || (decide (a > 30))) || (decide (b<1))))] (Kn (((decide (a<0)) || (decide (a > 30))) || (decide (b<1))) [18] [1,1,0] [0,0,0] (fun bb=>[(21,Bo (bb || (decide (b > 30))))]) (Ja [0] [(22,Bo ((((decide (a<0)) || (decide (a > 30))) || (decide (b<1))) || (decide (b > 30))))] (Kn ((((decide (a<0)) || (decide (a > 30))) || (decide (b<1))) || (decide (b > 30))) [22] [1,1,0] [0,0,0] (fun bb=>[(25,Bo (bb || (decide (e<1))))]) (Ja [0] [(26,Bo (((((decide (a<0)) || (decide (a > 30))) || (decide (b<1))) || (decide (b > 30))) || (decide (e<1))))] (Kn (((((decide (a<0)) || (decide (a > 30))) || (decide (b<1))) || (decide (b > 30))) || (decide (e<1))) [26] [1,1,0] [0,0,0] (fun bb=>[(29,Bo (bb || (decide (e > 1000))))]) ?_)))))))))))))
 refine Jd (Jb (Jk ((((((decide (a<0)) || (decide (a > 30))) || (decide (b<1))) || (decide (b > 30))) || (decide (e<1))) || (decide (e > 1000))) (fun h1=>?_) (fun h1=>?_)))
 refine Jf [0,0] [(6,I 0),(7,I 4)] (Jl (Jh (Jm [0,0] [I 0,I 4] (Jw (Jp.le_refl _) ?_))))
 have hf_:(Qg a b e)=(0,4):=by
  unfold Qg;(rw [if_pos (by omega)];done)
 · (try rw [hf_]);(simp only [Ql];done)
 refine Jo (Jb (Je (Jc (Ja [0,0] [(30,I a),(31,I b)] (JcX (k:=.i64) (x:=a) (y:=b) 32 true ((a).tdiv b) J7 (by simp only [cond_true];exact IntWalk.i64_in _ (by (have:=JeQ (a:=a) (b:=b) J7 (by omega);omega))) (Ja [0,0,0,0,0] [(6,I (IntKind.i64.wrap ((IntKind.i64.wrap (((a).tdiv b)+1))*e))),(7,I 0)] ?_))))))
 have e1:IntKind.i64.wrap (((a).tdiv b)+1)=((a).tdiv b)+1:=IntWalk.i64_in _ (by (have:=JeQ (a:=a) (b:=b) (by omega) (by omega);omega))
 have e2:IntKind.i64.wrap ((((a).tdiv b)+1)*e)=(((a).tdiv b)+1)*e:=IntWalk.i64_in _ (by (have:=JeQ (a:=a) (b:=b) (by omega) (by omega);(have:=Jk8 (a:=a.tdiv b+1) (b:=e) (by omega) (by omega);omega)))
 refine KI 6 (I ((((a).tdiv b)+1)*e)) (show (I (IntKind.i64.wrap ((IntKind.i64.wrap (((a).tdiv b)+1))*e)):Value)=I ((((a).tdiv b)+1)*e) by simp only [e1,e2]) ?_
 clear e2 e1
 refine Jd (Jb (Jl (Jm [0,0] [I ((((a).tdiv b)+1)*e),I 0] (Jw (Jp.le_refl _) ?_))))
 have hf_:(Qg a b e)=(((((a).tdiv b)+1)*e),0):=by
  unfold Qg;(rw [if_neg (by omega)];done)
 · (try rw [hf_]);(simp only [Ql];done)
theorem le48 {n:Nat} (h:n≤140737488351232):n≤140737488355328:=by omega
theorem Jht (h:JQ):(Q8 h).1.length≤33:=by
 unfold Q8;split
 · simp
 · rw [JeE];exact Nat.le_refl _
theorem Jc6 (n:Int):(KX n).length=8:=Jih n
def KV (h:JQ):Int×Int:=if (Q8 h).2 ≠ 0 then (0,(Q8 h).2) else (Jg (Q8 h).1,0)
def Yn (h:JQ) (root at_:Int):Int:=if JI h ≠ 0 then JI h else if h.epoch=1000000 then 7 else if at_<h.at_ then 4 else JI ⟨h.epoch+1,root,(KV h).1,at_⟩
def JA (h:JQ) (root at_:Int):JQ×Int:=if Yn h root at_ ≠ 0 then (Zq,Yn h root at_) else (⟨h.epoch+1,root,(KV h).1,at_⟩,0)
theorem Jhu (h:JQ):(Q8 h).2=JI h:=by unfold Q8;split <;> simp_all
theorem Ye (h:JQ):(KV h).2=JI h:=by unfold KV;rw [Jhu];split <;> simp_all
theorem Jej (h:JQ):0≤(KV h).1∧(KV h).1<2305843009213693951:=by
 unfold KV;split
 · simp
 · exact Qo _
theorem Jiu {h:JQ} (e:JI h=0):Q8 h=(VG h,0):=by unfold Q8;rw [if_neg (by omega)]
theorem Jiv {h:JQ} (e:JI h=0):KV h=(Jg (VG h),0):=by
 unfold KV;rw [Jiu e];simp
theorem Jax {h:JQ} {root at_:Int} (e:(JA h root at_).2=0):JI h=0∧h.epoch<1000000∧h.at_≤at_∧JA h root at_=(⟨h.epoch+1,root,Jg (VG h),at_⟩,0)∧JI ⟨h.epoch+1,root,Jg (VG h),at_⟩=0:=by
 unfold JA at e ⊢
 split at e
 · contradiction
 ·
  rename_i h1
  rw [if_neg h1]
  unfold Yn at h1
  by_cases e1:JI h=0
  ·
   rw [if_neg (by omega)] at h1
   have hb:=Zb e1
   have hm:=Jiv e1
   rw [hm] at h1 ⊢
   by_cases e2:h.epoch=1000000
   · rw [if_pos e2] at h1;simp at h1
   ·
    rw [if_neg e2] at h1
    by_cases e3:at_<h.at_
    · rw [if_pos e3] at h1;simp at h1
    ·
     rw [if_neg e3] at h1
     exact ⟨e1,by omega,by omega,rfl,by simpa using h1⟩
  · rw [if_pos e1] at h1;omega
def Jiw:Zv:=⟨[],[],0,0⟩
def Vo (key:Int) (s:List UInt8):Int:=Jg ((KX key++s)++KX key)
theorem JnK (k:Int) (s:List UInt8):0≤Vo k s∧Vo k s<18446744073709551616:=by have:=Qo ((KX k++s)++KX k);unfold Vo;omega
def Wu (name value:List UInt8) (n:Int):List UInt8:=KX n++(Vf [name,value]).1
def Yk (key:Int) (s:List UInt8) (t:Int):Bool:=decide (Vo key s=t)
def W7 (key:Int) (name value:List UInt8) (n:Int):Zv×Int:=if Qw name value ≠ 0 then (Jiw,Qw name value) else (⟨name,value,n,Vo key (Wu name value n)⟩,0)
def Z2 (key:Int) (a:Zv):Bool:=decide (Qw a.name a.value=0) && decide (Vo key (Wu a.name a.value a.n)=a.tag)
theorem Jb0 (l:List (List UInt8)):(Vf l).1.length≤600:=by
 unfold Vf
 split
 · simp
 ·
  split
  ·
   rename_i h
   have:∀ (l:List (List UInt8)) (n:Nat),n≤600→JbB n l=true→n+(Jbt l).length≤600:=by
    intro l
    induction l with
    | nil=>intro n h _;simp [Jbt];exact h
    | cons p l ih =>
     intro n _ h
     unfold JbB at h
     simp only [Bool.and_eq_true,decide_eq_true_eq] at h
     have:=ih _ h.1 h.2
     have e:(Jbt (p::l)).length=2+p.length+(Jbt l).length:=by simp [Jbt,Jc5];omega
     omega
   have:=this l 0 (by omega) h
   simp only;omega
  · simp
theorem Jek (a b:List UInt8) (n:Int):(Wu a b n).length≤608:=by
 unfold Wu;rw [List.length_append,Jc6];have:=Jb0 [a,b];omega
theorem Jhv (G:Jp) (vs_h:List Value) (h:JQ) (h_h:KA.R G vs_h h) :Q2 142 #[.agg vs_h.toArray] G (.tuple #[U ((KV h).1),I ((KV h).2)]):=by
 obtain ⟨rfl,_,_,_,_⟩:=h_h
 refine JN Tryz.func142 16 [(0,.agg #[I h.epoch,U h.root,U h.prev,I h.at_])] rfl (fun w0 G0=>?_)
 refine Je (Jc (Jv 1 #[I h.epoch,U h.root,U h.prev,I h.at_] 43 (fun b1=>Ja [0,0] [] (Jd (Jb (Je (Jc (Ja [2] [(7,.agg #[I h.epoch,U h.root,U h.prev,I h.at_])] (Jj 8 (.tuple #[Sr ((Q8 h).1),I ((Q8 h).2)]) (Jhj h G) (Ja [0,0,0,0,0] [(4,Sr ((Q8 h).1)),(5,I ((Q8 h).2))] (Jd (Jb (Je (Jf [0,0] [(12,Bo (!decide ((Q8 h).2=0)))] (Jk (!decide ((Q8 h).2=0)) (fun h1=>?_) (fun h1=>?_))))))))))))))))
 refine Jf [0,0,0] [(2,U 0),(3,I ((Q8 h).2))] (Jl (Jh (Jm [0,0] [U 0,I ((Q8 h).2)] (Jw (Jp.le_refl _) ?_))))
 have hf_:(KV h)=(0,((Q8 h).2)):=by
  unfold KV;simp_all
 · (try rw [hf_]);(simp only [Ql];done)
 refine Jo (Jb (Je (Jc (Ja [0] [(14,Sr ((Q8 h).1))] (Jj 15 (U (Jg ((Q8 h).1))) (WX ((Q8 h).1) (le48 (Nat.le_trans (Jht h) (by decide))) G) (Ja [0,0] [(2,U (Jg ((Q8 h).1))),(3,I 0)] (Jd (Jb (Jl (Jm [0,0] [U (Jg ((Q8 h).1)),I 0] (Jw (Jp.le_refl _) ?_)))))))))))
 have hf_:(KV h)=((Jg ((Q8 h).1)),0):=by
  unfold KV;simp_all
 · (try rw [hf_]);(simp only [Ql];done)
theorem Ja9 (G:Jp) (vs_h:List Value) (h:JQ) (h_h:KA.R G vs_h h) (root:Int) (hw_root:rU root) (a:Int) (hw_a:rI a) :Q2 213 #[.agg vs_h.toArray,U root,I a] G (.tuple #[.agg #[I (((JA h root a).1).epoch),U (((JA h root a).1).root),U (((JA h root a).1).prev),I (((JA h root a).1).at_)],I ((JA h root a).2)]):=by
 obtain ⟨rfl,w1,w2,w3,w4⟩:=h_h
 refine JN Tryz.func213 46 [(0,.agg #[I h.epoch,U h.root,U h.prev,I h.at_]),(1,U root),(2,I a)] rfl (fun w0 G0=>?_)
 refine Je (Jc (Jv 3 #[I h.epoch,U h.root,U h.prev,I h.at_] 43 (fun b1=>Jv 6 #[I 0,U 0,U 0,I 0] 43 (fun b2=>Ja [0] [] (Jd (Jb (Je (Jc (Ja [4] [(13,.agg #[I h.epoch,U h.root,U h.prev,I h.at_])] (Jj 14 (.tuple #[U ((KV h).1),I ((KV h).2)]) (Jhv G [I h.epoch,U h.root,U h.prev,I h.at_] h (⟨rfl,w1,w2,w3,w4⟩)) (Ja [0,0,0,0,0] [(8,U ((KV h).1)),(9,I ((KV h).2))] (Jd (Jb (Je (Jz (Jf [0,0,0] [(17,Bo (!decide ((KV h).2=0)))] (Jk (!decide ((KV h).2=0)) (fun h1=>?_) (fun h1=>?_))))))))))))))))))
 refine Jf [0,0,3,0] [(7,I ((KV h).2))] (Jl (Jt (Jh (Jm [0,0] [.agg #[I 0,U 0,U 0,I 0],I ((KV h).2)] (Jw (Jp.le_refl _) ?_)))))
 have hf_:(JA h root a)=((⟨0,0,0,0⟩:JQ),((KV h).2)):=by
  (try rw [Ye] at *);unfold JA Yn Zq;grind
 · (try rw [hf_]);(simp only [Ql];done)
 refine Jf [0,4,0,0] [(22,Bo (decide (h.epoch=1000000)))] (Jk (decide (h.epoch=1000000)) (fun h2=>?_) (fun h2=>?_))
 refine Jf [0,3,0] [(7,I 7)] (Jl (Jt (Jh (Jm [0,0] [.agg #[I 0,U 0,U 0,I 0],I 7] (Jw (Jp.le_refl _) ?_)))))
 have hf_:(JA h root a)=((⟨0,0,0,0⟩:JQ),7):=by
  (try rw [Ye] at *);unfold JA Yn Zq;grind
 · (try rw [hf_]);(simp only [Ql];done)
 refine Jo (JM (Jb (Je (Jc (Ja [0,4,0,0,0,0,0] [(33,.agg #[I (IntKind.i64.wrap (h.epoch+1)),U root,U ((KV h).1),I a])] ?_)))))
 have e1:IntKind.i64.wrap (h.epoch+1)=h.epoch+1:=IntWalk.i64_in _ (by have:=Zb (h:=h) (by rw [← Ye];assumption);omega)
 refine KI 33 (.agg #[I (h.epoch+1),U root,U ((KV h).1),I a]) (show (.agg #[I (IntKind.i64.wrap (h.epoch+1)),U root,U ((KV h).1),I a]:Value)=.agg #[I (h.epoch+1),U root,U ((KV h).1),I a] by simp only [e1]) ?_
 clear e1
 refine Jv 10 #[I 0,U 0,U 0,I 0] 43 (fun b3=>JV [3] [] [[Sg b3 0 [I (h.epoch+1),U root,U ((KV h).1),I a]],[Sg b2 0 [I 0,U 0,U 0,I 0]],[Sg b1 0 [I h.epoch,U h.root,U h.prev,I h.at_]]] (Jd (Jb (Je (Jf [0,0,6,0] [(37,Bo (decide (a<h.at_)))] (Jk (decide (a<h.at_)) (fun h3=>?_) (fun h3=>?_)))))))
 refine Jf [0,5,0] [(7,I 4)] (Jl (Jh (Jm [1,0] [.agg #[I 0,U 0,U 0,I 0],I 4] (Jw (Jp.le_refl _) ?_))))
 have hf_:(JA h root a)=((⟨0,0,0,0⟩:JQ),4):=by
  (try rw [Ye] at *);unfold JA Yn Zq;grind
 · (try rw [hf_]);(simp only [Ql];done)
 refine Jo (Jb (Je (Je (Jc (Ja [2] [(39,.agg #[I (h.epoch+1),U root,U ((KV h).1),I a])] (Jj 40 (I (JI (⟨h.epoch+1,root,(KV h).1,a⟩:JQ))) (ZS (⟨h.epoch+1,root,(KV h).1,a⟩:JQ) G) (Ja [0] [(11,I (JI (⟨h.epoch+1,root,(KV h).1,a⟩:JQ)))] (Jd (Jb (Jf [0,0] [(42,Bo (!decide (JI (⟨h.epoch+1,root,(KV h).1,a⟩:JQ)=0)))] (Jk (!decide (JI (⟨h.epoch+1,root,(KV h).1,a⟩:JQ)=0)) (fun h4=>?_) (fun h4=>?_))))))))))))
 refine Jf [0,0,5,0] [(7,I (JI (⟨h.epoch+1,root,(KV h).1,a⟩:JQ)))] (Jl (Jh (Jm [1,0] [.agg #[I 0,U 0,U 0,I 0],I (JI (⟨h.epoch+1,root,(KV h).1,a⟩:JQ))] (Jw (Jp.le_refl _) ?_))))
 have hf_:(JA h root a)=((⟨0,0,0,0⟩:JQ),(JI (⟨h.epoch+1,root,(KV h).1,a⟩:JQ))):=by
  (try rw [Ye] at *);unfold JA Yn Zq;grind
 · (try rw [hf_]);(simp only [Ql];done)
 refine Jo (Jb (Qx [2,5,0] [(7,I 0)] [[Sg b3 0 [I (h.epoch+1),U root,U ((KV h).1),I a]],[Sg b2 0 [I (h.epoch+1),U root,U ((KV h).1),I a]],[Sg b1 0 [I h.epoch,U h.root,U h.prev,I h.at_]]] (Jl (Jm [1,0] [.agg #[I (h.epoch+1),U root,U ((KV h).1),I a],I 0] (Jw (Jp.le_refl _) ?_)))))
 have hf_:(JA h root a)=((⟨h.epoch+1,root,(KV h).1,a⟩:JQ),0):=by
  (try rw [Ye] at *);unfold JA Yn Zq;grind
 · (try rw [hf_]);(simp only [Ql];done)
theorem Jba (G:Jp) (name:List UInt8) (value:List UInt8) :Q2 149 #[Sr name,Sr value] G (I (Qw name value)):=by
 refine JN Tryz.func149 13 [(0,Sr name),(1,Sr value)] rfl (fun w0 G0=>?_)
 refine Jf [0] [] (Je (Jz (Je (Jc (Ja [0] [(6,Sr name)] (Jj 7 (Bo (KN name)) (ZJ G name) (Ja [0,0] [(5,Bo (!(KN name)))] (Jd (Jb (Jk (!(KN name)) (fun h1=>?_) (fun h1=>?_)))))))))))
 refine Jf [0] [(4,I 3)] (Jl (Jt (Jh (Jm [0] [I 3] (Jw (Jp.le_refl _) (congrArg I (?_:(Qw name value)=3).symm))))))
 unfold Qw;simp_all;try omega
 refine Jf [0,0,0,0] [(9,Bo (decide (((value).length:Int) > 20)))] (Jk (decide (((value).length:Int) > 20)) (fun h2=>?_) (fun h2=>?_))
 refine Jf [0] [(4,I 2)] (Jl (Jt (Jh (Jm [0] [I 2] (Jw (Jp.le_refl _) (congrArg I (?_:(Qw name value)=2).symm))))))
 unfold Qw;simp_all;try omega
 refine Jo (JM (Jb (Jf [0] [(4,I 0)] (Jl (Jm [0] [I 0] (Jw (Jp.le_refl _) (congrArg I (?_:(Qw name value)=0).symm)))))))
 unfold Qw;simp_all;try omega
theorem JgN (G:Jp) (key:Int) (s:List UInt8) (hs:s.length≤1000000):Q2 203 #[U key,Sr s] G (U (Vo key s)):=by
 refine JN Tryz.func203 13 [(0,U key),(1,Sr s)] rfl (fun w0 G0=>?_)
 refine Jf [0] [] (Je (Jc (Ja [0] [(5,U key)] (Jj 6 (Sr (KX key)) (Yd key G) (Ja [0] [(7,Sr s)] (ZF 8 (KX key) s (by simp only [List.length_append,Jc6];omega) (Ja [0] [(9,U key)] (Jj 10 (Sr (KX key)) (Yd key G) (ZF 11 ((KX key)++s) (KX key) (by simp only [List.length_append,Jc6];omega) (Jj 12 (U (Jg (((KX key)++s)++(KX key)))) (WX (((KX key)++s)++(KX key)) (le48 (by (simp;omega))) G) (Ja [0] [(4,U (Jg (((KX key)++s)++(KX key))))] (Jd (Jb (Jl (Jm [0] [U (Jg (((KX key)++s)++(KX key)))] (Jw (Jp.le_refl _) (congrArg U (?_:(Vo key s)=(Jg (((KX key)++s)++(KX key)))).symm)))))))))))))))))
 rfl
theorem Jhw (G:Jp) (key:Int) (s:List UInt8) (t:Int) (hs:s.length≤1000000):Q2 150 #[U key,Sr s,U t] G (Bo (Yk key s t)):=by
 refine JN Tryz.func150 12 [(0,U key),(1,Sr s),(2,U t)] rfl (fun w0 G0=>?_)
 refine Jf [0] [] (Je (Jc (Ja [0,0] [(7,U key),(8,Sr s)] (Jj 9 (U (Vo key s)) (JgN G key s ‹_›) (Ja [0,0,0] [(6,Bo (decide (Vo key s=t)))] (Jd (Jb (Jl (Jm [0] [Bo (decide (Vo key s=t))] (Jw (Jp.le_refl _) (congrArg Bo (?_:(Yk key s t)=(decide (Vo key s=t))).symm)))))))))))
 rfl
theorem Jel (G:Jp) (name:List UInt8) (hw_name:(name).length≤140737488351232) (value:List UInt8) (hw_value:(value).length≤140737488351232) (n:Int) :Q2 151 #[Sr name,Sr value,U n] G (Sr (Wu name value n)):=by
 refine JN Tryz.func151 20 [(0,Sr name),(1,Sr value),(2,U n)] rfl (fun w0 G0=>?_)
 refine Jf [0] [] (Je (Jc (Ja [0,0] [(10,Sr name),(11,Sr value)] (Kq 12 2 #[Sr name,Sr value] 9 (fun b1=>QV (b:=b1) (o:=0) (cs:=[Sr name,Sr value]) 0 (fun G1 hl1 hz1=>?_))))))
 have hs1:RS ES G1 (At b1 0) 2 [name,value]:=RS.lit [[Sr name],[Sr value]] [name,value] ⟨⟨rfl,hw_name⟩,⟨⟨rfl,hw_value⟩,trivial⟩⟩ hz1 (Nat.le_of_ble_eq_true rfl) (Nat.le_of_ble_eq_true rfl)
 refine Jj 13 (.tuple #[Sr ((Vf ([name,value])).1),I ((Vf ([name,value])).2)]) (Jir G1 (At b1 0) 2 ([name,value]) hs1) (Ja [0,0,0,0,0] [(7,Sr ((Vf ([name,value])).1))] (Jd (Jb (Je (Jc (Ja [0] [(16,U n)] (Jj 17 (Sr (KX n)) (Yd n G1) (Ja [0] [(18,Sr ((Vf ([name,value])).1))] (ZF 19 (KX n) ((Vf ([name,value])).1) (by have:=Jb0 [name,value];simp only [Jc6];omega) (Ja [0] [(6,Sr ((KX n)++((Vf ([name,value])).1)))] (Jd (Jb (Jl (Jm [0] [Sr ((KX n)++((Vf ([name,value])).1))] (Jw hl1 (congrArg Sr (?_:(Wu name value n)=((KX n)++((Vf ([name,value])).1))).symm))))))))))))))))
 rfl
theorem Jj3 (G:Jp) (key:Int) (name:List UInt8) (hw_name:(name).length≤140737488351232) (value:List UInt8) (hw_value:(value).length≤140737488351232) (n:Int) (hw_n:rU n) :Yi 148 #[U key,Sr name,Sr value,U n] G [] (fun u G' L'=>u=.tuple #[.agg #[Sr (((W7 key name value n).1).name),Sr (((W7 key name value n).1).value),U (((W7 key name value n).1).n),U (((W7 key name value n).1).tag)],I ((W7 key name value n).2)]∧((((W7 key name value n).1).name).length≤140737488351232)∧((((W7 key name value n).1).value).length≤140737488351232)∧(rU (((W7 key name value n).1).n))∧(rU (((W7 key name value n).1).tag))∧L'=[]):=by
 refine JN Tryz.func148 28 [(0,U key),(1,Sr name),(2,Sr value),(3,U n)] rfl (fun w0 G0=>?_)
 refine Je (Jc (Jv 8 #[Sr ([]),Sr ([]),U 0,U 0] 182 (fun b1=>Ja [0] [] (Jd (Jb (Je (Je (Jc (Ja [0,0] [(11,Sr name),(12,Sr value)] (Jj 13 (I (Qw name value)) (Jba G name value) (Ja [0] [(10,I (Qw name value))] (Jd (Jb (Jf [0,0] [(15,Bo (!decide (Qw name value=0)))] (Jk (!decide (Qw name value=0)) (fun h1=>?_) (fun h1=>?_))))))))))))))))
 refine Jf [0,0,3,0] [(9,I (Qw name value))] (Jl (Jh ?_))
 have hf1:W7 key name value n=((⟨[],[],0,0⟩:Zv),Qw name value):=by
  unfold W7 Jiw;simp_all
 refine Jm [0,0] [.agg #[Sr ([]),Sr ([]),U 0,U 0],I (Qw name value)] (Jy [] (Jp.le_refl _) ?_)
 rw [hf1]
 try dsimp only
 exact ⟨rfl,(Nat.le_of_ble_eq_true rfl),(Nat.le_of_ble_eq_true rfl),J7,J7,rfl⟩
 refine Jo (Jb (Je (Jc (Ja [0,0,0,0,0,0,0] [(18,Sr name),(19,Sr value),(20,U n),(21,U key),(22,Sr name),(23,Sr value),(24,U n)] (Jj 25 (Sr (Wu name value n)) (Jel G name hw_name value hw_value n) (Jj 26 (U (Vo key (Wu name value n))) (JgN G key (Wu name value n) (Nat.le_trans (Jek name value n) (by decide))) (JV [0,3,0] [(9,I 0)] [[Sg b1 0 [Sr name,Sr value,U n,U (Vo key (Wu name value n))]]] (Jd (Jb (Jl ?_))))))))))
 have hf2:W7 key name value n=((⟨name,value,n,Vo key (Wu name value n)⟩:Zv),0):=by
  unfold W7 Jiw;simp_all
 refine Jm [0,0] [.agg #[Sr name,Sr value,U n,U (Vo key (Wu name value n))],I 0] (Jy [] (Jp.le_refl _) ?_)
 rw [hf2]
 try dsimp only
 exact ⟨rfl,hw_name,hw_value,hw_n,(JnK _ _),rfl⟩
theorem Jhx (G:Jp) (key:Int) (vs_a:List Value) (a:Zv) (h_a:Q3.R G vs_a a) :Q2 102 #[U key,.agg vs_a.toArray] G (Bo (Z2 key a)):=by
 obtain ⟨rfl,w1,w2,_,_⟩:=h_a
 refine JN Tryz.func102 24 [(0,U key),(1,.agg #[Sr a.name,Sr a.value,U a.n,U a.tag])] rfl (fun w0 G0=>?_)
 refine Je (Jc (Jv 3 #[Sr a.name,Sr a.value,U a.n,U a.tag] 182 (fun b1=>Ja [0] [] (Jd (Jb (Je ?_))))))
 rcases Bool.eq_false_or_eq_true (decide (Qw a.name a.value=0)) with h1 | h1
 have h1d:=h1
 try simp only [BB] at h1d
 refine Ko [] (Wm [(0,Pt b1 0),(1,Sr a.name),(2,Pt b1 1),(3,Sr a.value),(4,I (Qw a.name a.value)),(5,Bo true),(6,Bo true),(7,U key),(8,Pt b1 0),(9,Sr a.name),(10,Pt b1 1),(11,Sr a.value),(12,Pt b1 2),(13,U a.n),(14,Sr (Wu a.name a.value a.n)),(15,Pt b1 3),(16,U a.tag),(17,Bo (Yk key (Wu a.name a.value a.n) a.tag)),(18,Bo (Yk key (Wu a.name a.value a.n) a.tag)),(19,Bo (Yk key (Wu a.name a.value a.n) a.tag))] (Km [] [(0,0),(1,2),(2,0),(3,2),(6,0),(7,0),(8,0),(9,2),(10,0),(11,2),(12,0),(13,2),(15,0),(16,2),(18,0),(19,0)] [4,5,14,17] [(4,Bo (Yk key (Wu a.name a.value a.n) a.tag))] (Ke ?_ (Ke ?_ (Ke ?_ (Ke ?_ K4)))) ?_))
 refine Jr 4 9 (I (Qw a.name a.value)) [(6,Sr a.name),(8,Sr a.value)] (fun X=>?_)
 exact Jj 9 (I (Qw a.name a.value)) (Jba G a.name a.value) Jn
 refine Jr 5 10 (Bo true) [(9,I (Qw a.name a.value))] (fun X=>?_)
 exact K5 10 (Bo (decide (Qw a.name a.value=0))) (Bo true) (by rw [h1]) Jn
 refine Jr 14 19 (Sr (Wu a.name a.value a.n)) [(11,Bo true),(14,Sr a.name),(16,Sr a.value),(18,U a.n)] (fun X=>?_)
 exact Jj 19 (Sr (Wu a.name a.value a.n)) (Jel G a.name w1 a.value w2 a.n) Jn
 refine Jr 17 22 (Bo (Yk key (Wu a.name a.value a.n) a.tag)) [(11,Bo true),(12,U key),(19,Sr (Wu a.name a.value a.n)),(21,U a.tag)] (fun X=>?_)
 exact Jj 22 (Bo (Yk key (Wu a.name a.value a.n) a.tag)) (Jhw G key (Wu a.name a.value a.n) a.tag (Nat.le_trans (Jek a.name a.value a.n) (by decide))) Jn
 refine Jb (Jl (Jm [0] [Bo (Yk key (Wu a.name a.value a.n) a.tag)] (Jw (Jp.le_refl _) (congrArg Bo (?_:(Z2 key a)=(Yk key (Wu a.name a.value a.n) a.tag)).symm))))
 unfold Z2;simp_all [Yk]
 have h1d:=h1
 try simp only [BB] at h1d
 refine Ko [] (Wm [(0,Pt b1 0),(1,Sr a.name),(2,Pt b1 1),(3,Sr a.value),(4,I (Qw a.name a.value)),(5,Bo false),(6,Bo false),(7,undef),(8,undef),(9,undef),(10,undef),(11,undef),(12,undef),(13,undef),(14,undef),(15,undef),(16,undef),(17,undef),(18,Bo false),(19,Bo false)] (Km [] [(0,0),(1,2),(2,0),(3,2),(6,0),(7,1),(8,1),(9,1),(10,1),(11,1),(12,1),(13,1),(14,1),(15,1),(16,1),(17,1),(18,0),(19,0)] [4,5] [(4,Bo false)] (Ke ?_ (Ke ?_ K4)) ?_))
 refine Jr 4 9 (I (Qw a.name a.value)) [(6,Sr a.name),(8,Sr a.value)] (fun X=>?_)
 exact Jj 9 (I (Qw a.name a.value)) (Jba G a.name a.value) Jn
 refine Jr 5 10 (Bo false) [(9,I (Qw a.name a.value))] (fun X=>?_)
 exact K5 10 (Bo (decide (Qw a.name a.value=0))) (Bo false) (by rw [h1]) Jn
 refine Jb (Jl (Jm [0] [Bo false] (Jw (Jp.le_refl _) (congrArg Bo (?_:(Z2 key a)=false).symm))))
 unfold Z2;simp_all [Yk]
theorem Vx {n:Nat} (h:n≤140737488351232):n≤140737488355328:=by omega
def JE (m:Int) (k:Nat):Int:=48+m / 2 ^ k % 2
theorem and1 {x:Int} (h:0≤x∧x<18446744073709551616):IntKind.u64.wrap ((BitVec.ofInt 64 x &&& BitVec.ofInt 64 1).toNat:Int)=x % 2:=by
 obtain ⟨m,rfl⟩:=Int.eq_ofNat_of_zero_le h.1
 have e:(1:Int)=((1:Nat):Int):=rfl
 rw [e,BitVec.toNat_and,BitVec.ofInt_natCast,BitVec.ofInt_natCast,BitVec.toNat_ofNat,BitVec.toNat_ofNat,Nat.mod_eq_of_lt (by omega),Nat.mod_eq_of_lt (by omega),Nat.and_one_is_mod,Wh (by omega) (by omega)]
 omega
theorem ZX (m:Int) (k:Nat) (h:0≤m∧m<18446744073709551616):IntKind.u8.wrap (48+IntKind.u8.wrap (IntKind.u64.wrap ((BitVec.ofInt 64 (m.fdiv (2 ^ k)) &&& BitVec.ofInt 64 (1)).toNat:Int)))=JE m k:=by
 have hp:(0:Int)<2 ^ k:=Int.pow_pos (by decide)
 have h1:0≤m / 2 ^ k:=Int.ediv_nonneg h.1 (Int.le_of_lt hp)
 have h2:m / 2 ^ k≤m:=Int.ediv_le_self _ h.1
 rw [Int.fdiv_eq_ediv_of_nonneg _ (Int.le_of_lt hp),and1 (by omega),Ja5,Ja5]
 unfold JE
 omega
def YC (name:List UInt8):List UInt8:=([JE (Jg name) 15,JE (Jg name) 14,JE (Jg name) 13,JE (Jg name) 12,JE (Jg name) 11,JE (Jg name) 10,JE (Jg name) 9,JE (Jg name) 8,JE (Jg name) 7,JE (Jg name) 6,JE (Jg name) 5,JE (Jg name) 4,JE (Jg name) 3,JE (Jg name) 2,JE (Jg name) 1,JE (Jg name) 0]:List Int).map fun n=>UInt8.ofNat n.toNat
theorem VT (name:List UInt8):(YC name).length=16:=rfl
def KD (name:List UInt8):List UInt8×Int:=if KN name=false then ([],3) else (YC name,0)
theorem Jj4 (name:List UInt8):(KD name).1.length≤16:=by
 unfold KD;split
 · simp
 · rw [VT];exact Nat.le_refl _
def ZK (x y:List UInt8):Int:=if Go.Op.bytesLess x y=true then -1 else if x=y then 0 else 1
def orI:List Int→Int
 | []=>0
 | a::l=>if a=0 then orI l else a
theorem JnL {l:List Int} {i:Nat} {x:Int} (hx:l[i]? = some x) (h:x=0):orI (l.drop i)=orI (l.drop (i+1)):=by
 obtain ⟨h1,rfl⟩:=List.getElem?_eq_some_iff.1 hx
 rw [List.drop_eq_getElem_cons h1]
 show (if _ then _ else _)=_
 rw [if_pos h]
theorem orI_at {l:List Int} {i:Nat} {x:Int} (hx:l[i]? = some x) (h:¬ x=0):orI (l.drop i)=x:=by
 obtain ⟨h1,rfl⟩:=List.getElem?_eq_some_iff.1 hx
 rw [List.drop_eq_getElem_cons h1]
 show (if _ then _ else _)=_
 rw [if_neg h]
theorem JdQ:∀ x:List UInt8,Go.Op.bytesLess x x=false
 | []=>rfl
 | a::x=>by
  show (decide (a<a) || (a == a && Go.Op.bytesLess x x))=false
  rw [JdQ x];simp
theorem Jix:∀ x y:List UInt8,Go.Op.bytesLess x y=true∨x=y∨Go.Op.bytesLess y x=true
 | [],[]=>.inr (.inl rfl)
 | [],_::_=>.inl rfl
 | _::_,[]=>.inr (.inr rfl)
 | a::x,b::y=>by
  show (decide (a<b) || (a == b && Go.Op.bytesLess x y))=true∨_∨(decide (b<a) || (b == a && Go.Op.bytesLess y x))=true
  simp only [Bool.or_eq_true,Bool.and_eq_true,decide_eq_true_eq,beq_iff_eq]
  rcases UInt8.lt_or_lt_of_ne (a:=a) (b:=b) |> fun f=>(Classical.em (a=b)).imp id f with h | h | h
  ·
   subst h
   rcases Jix x y with h1 | h1 | h1
   · exact .inl (.inr ⟨rfl,h1⟩)
   · exact .inr (.inl (by rw [h1]))
   · exact .inr (.inr (.inr ⟨rfl,h1⟩))
  · exact .inl (.inl h)
  · exact .inr (.inr (.inl h))
theorem Jc7:∀ {x y z:List UInt8},Go.Op.bytesLess x y=true→Go.Op.bytesLess y z=true→Go.Op.bytesLess x z=true
 | _,_,[],_,h=>by simp [Go.Op.bytesLess] at h
 | _,[],_::_,h,_=>by simp [Go.Op.bytesLess] at h
 | [],_::_,_::_,_,_=>rfl
 | a::x,b::y,c::z,h1,h2=>by
  have k1:(decide (a<b) || (a == b && Go.Op.bytesLess x y))=true:=h1
  have k2:(decide (b<c) || (b == c && Go.Op.bytesLess y z))=true:=h2
  show (decide (a<c) || (a == c && Go.Op.bytesLess x z))=true
  simp only [Bool.or_eq_true,Bool.and_eq_true,decide_eq_true_eq,beq_iff_eq] at k1 k2 ⊢
  rcases k1 with k1 | ⟨e1,k1⟩ <;> rcases k2 with k2 | ⟨e2,k2⟩
  · exact .inl (UInt8.lt_trans k1 k2)
  · exact .inl (e2 ▸ k1)
  · exact .inl (e1 ▸ k2)
  · exact .inr ⟨e1.trans e2,Jc7 k1 k2⟩
theorem Jk9 {x y:List UInt8}:ZK x y<0 ↔ Go.Op.bytesLess x y=true:=by
 unfold ZK
 split
 · rename_i h;simp [h]
 · rename_i h;split <;> simp [h]
theorem V2 {x y:List UInt8}:ZK x y=0 ↔ x=y:=by
 unfold ZK
 split
 ·
  rename_i h
  constructor
  · intro hc;cases hc
  · rintro rfl;rw [JdQ] at h;cases h
 · split <;> simp_all
theorem Jla {x y:List UInt8}:0<ZK x y ↔ Go.Op.bytesLess y x=true:=by
 unfold ZK
 split
 ·
  rename_i h
  constructor
  · intro hc;omega
  · intro hc;have:=Jc7 h hc;rw [JdQ] at this;cases this
 ·
  rename_i h
  split
  · rename_i h2;subst h2;rw [JdQ];simp
  ·
   rename_i h2
   constructor
   ·
    intro _;rcases Jix x y with h3 | h3 | h3
    · exact absurd h3 h
    · exact absurd h3 h2
    · exact h3
   · intro _;decide
def way (name:List UInt8):List UInt8:=(KD name).1
theorem Jpj (name:List UInt8):(way name).length≤16:=Jj4 name
def Z7 (a b:List UInt8):Int:=orI [ZK (way a) (way b),ZK a b]
theorem Jhy (a b:List UInt8):Z7 a b=if ZK (way a) (way b)=0 then ZK a b else ZK (way a) (way b):=by
 by_cases h:ZK (way a) (way b)=0 <;> by_cases h2:ZK a b=0 <;> simp [Z7,orI,h,h2]
theorem Yo {a b:List UInt8}:Z7 a b=0 ↔ a=b:=by
 rw [Jhy]
 split
 · exact V2
 ·
  rename_i h
  constructor
  · intro hc;exact absurd hc h
  · rintro rfl;exact absurd (V2.2 rfl) h
theorem Jlb {a b:List UInt8}:Z7 a b<0 ↔ Go.Op.bytesLess (way a) (way b)=true∨(way a=way b∧Go.Op.bytesLess a b=true):=by
 rw [Jhy]
 split
 ·
  rename_i h
  rw [Jk9]
  have e:=V2.1 h
  rw [e,JdQ];simp
 ·
  rename_i h
  rw [Jk9]
  constructor
  · exact .inl
  ·
   rintro (h1 | ⟨h1,_⟩)
   · exact h1
   · exact absurd (V2.2 h1) h
theorem Jpk {a b:List UInt8}:0<Z7 a b ↔ Z7 b a<0:=by
 rw [Jhy,Jlb]
 split
 ·
  rename_i h
  rw [Jla]
  have e:=V2.1 h
  rw [e,JdQ];simp
 ·
  rename_i h
  rw [Jla]
  constructor
  · exact .inl
  ·
   rintro (h1 | ⟨h1,_⟩)
   · exact h1
   · exact absurd (V2.2 h1.symm) h
theorem JcD {a b c:List UInt8} (h1:Z7 a b<0) (h2:Z7 b c<0):Z7 a c<0:=by
 rw [Jlb] at *
 rcases h1 with h1 | ⟨e1,h1⟩ <;> rcases h2 with h2 | ⟨e2,h2⟩
 · exact .inl (Jc7 h1 h2)
 · exact .inl (e2 ▸ h1)
 · exact .inl (e1 ▸ h2)
 · exact .inr ⟨e1.trans e2,Jc7 h1 h2⟩
set_option maxRecDepth 20000 in
theorem Jhz (G:Jp) (name:List UInt8) (hw_name:(name).length≤140737488351232) :Q2 218 #[Sr name] G (Sr (YC name)):=by
 refine JN Tryz.func218 23 [(0,Sr name)] rfl (fun w0 G0=>?_)
 refine Jf [0] [] (Je (Jc (Ja [0] [(6,Sr name)] (Jj 7 (U (Jg name)) (WX name (Vx hw_name) G) (Ja [0] [(3,U (Jg name))] (Jd (Jb (Je (Jc (Jv 4 #[Y 0,Y 0,Y 0,Y 0,Y 0,Y 0,Y 0,Y 0,Y 0,Y 0,Y 0,Y 0,Y 0,Y 0,Y 0,Y 0] 328 (fun b1=>Jd (Jb (Je (Jf [0] [(8,I 0)] (Jz (JdC 17 (Wq (Jf [0] [(9,Bo true)] (Je (JU ?_))))))))))))))))))))
 refine Jo (Jb (Je (Jz (Jf [0,0] [(5,I 0)] (Jc (JV [0,0,0,0,0,0,0,0,0,3] [] [[Sg b1 0 [Y (IntKind.u8.wrap (48+(IntKind.u8.wrap (IntKind.u64.wrap ((BitVec.ofInt 64 ((Jg name).fdiv (2 ^ 15)) &&& BitVec.ofInt 64 1).toNat:Int))))),Y 0,Y 0,Y 0,Y 0,Y 0,Y 0,Y 0,Y 0,Y 0,Y 0,Y 0,Y 0,Y 0,Y 0,Y 0]]] ?_))))))
 have e1:IntKind.u8.wrap (48+(IntKind.u8.wrap (IntKind.u64.wrap ((BitVec.ofInt 64 ((Jg name).fdiv (2 ^ 15)) &&& BitVec.ofInt 64 1).toNat:Int))))=JE (Jg name) 15:=ZX (Jg name) 15 (by have:=Qo name;omega)
 refine Zo (L':=[[Sg b1 0 [Y (JE (Jg name) 15),Y 0,Y 0,Y 0,Y 0,Y 0,Y 0,Y 0,Y 0,Y 0,Y 0,Y 0,Y 0,Y 0,Y 0,Y 0]]]) (by simp only [e1]) ?_
 clear e1
 refine Jd (JM (Jb (Jc (Ja [0,0] [(8,I 1)] (Jd (WG (Wq (Jf [0] [(9,Bo true)] (Je (JU (Jo (Jb (Je (Jz (Jf [0,0] [(5,I 1)] (Jc (JV [0,0,0,0,0,0,0,0,0,3] [] [[Sg b1 0 [Y (JE (Jg name) 15),Y (IntKind.u8.wrap (48+(IntKind.u8.wrap (IntKind.u64.wrap ((BitVec.ofInt 64 ((Jg name).fdiv (2 ^ 14)) &&& BitVec.ofInt 64 1).toNat:Int))))),Y 0,Y 0,Y 0,Y 0,Y 0,Y 0,Y 0,Y 0,Y 0,Y 0,Y 0,Y 0,Y 0,Y 0]]] ?_)))))))))))))))))
 have e2:IntKind.u8.wrap (48+(IntKind.u8.wrap (IntKind.u64.wrap ((BitVec.ofInt 64 ((Jg name).fdiv (2 ^ 14)) &&& BitVec.ofInt 64 1).toNat:Int))))=JE (Jg name) 14:=ZX (Jg name) 14 (by have:=Qo name;omega)
 refine Zo (L':=[[Sg b1 0 [Y (JE (Jg name) 15),Y (JE (Jg name) 14),Y 0,Y 0,Y 0,Y 0,Y 0,Y 0,Y 0,Y 0,Y 0,Y 0,Y 0,Y 0,Y 0,Y 0]]]) (by simp only [e2]) ?_
 clear e2
 refine Jd (JM (Jb (Jc (Ja [0,0] [(8,I 2)] (Jd (WG (Wq (Jf [0] [(9,Bo true)] (Je (JU (Jo (Jb (Je (Jz (Jf [0,0] [(5,I 2)] (Jc (JV [0,0,0,0,0,0,0,0,0,3] [] [[Sg b1 0 [Y (JE (Jg name) 15),Y (JE (Jg name) 14),Y (IntKind.u8.wrap (48+(IntKind.u8.wrap (IntKind.u64.wrap ((BitVec.ofInt 64 ((Jg name).fdiv (2 ^ 13)) &&& BitVec.ofInt 64 1).toNat:Int))))),Y 0,Y 0,Y 0,Y 0,Y 0,Y 0,Y 0,Y 0,Y 0,Y 0,Y 0,Y 0,Y 0]]] ?_)))))))))))))))))
 have e3:IntKind.u8.wrap (48+(IntKind.u8.wrap (IntKind.u64.wrap ((BitVec.ofInt 64 ((Jg name).fdiv (2 ^ 13)) &&& BitVec.ofInt 64 1).toNat:Int))))=JE (Jg name) 13:=ZX (Jg name) 13 (by have:=Qo name;omega)
 refine Zo (L':=[[Sg b1 0 [Y (JE (Jg name) 15),Y (JE (Jg name) 14),Y (JE (Jg name) 13),Y 0,Y 0,Y 0,Y 0,Y 0,Y 0,Y 0,Y 0,Y 0,Y 0,Y 0,Y 0,Y 0]]]) (by simp only [e3]) ?_
 clear e3
 refine Jd (JM (Jb (Jc (Ja [0,0] [(8,I 3)] (Jd (WG (Wq (Jf [0] [(9,Bo true)] (Je (JU (Jo (Jb (Je (Jz (Jf [0,0] [(5,I 3)] (Jc (JV [0,0,0,0,0,0,0,0,0,3] [] [[Sg b1 0 [Y (JE (Jg name) 15),Y (JE (Jg name) 14),Y (JE (Jg name) 13),Y (IntKind.u8.wrap (48+(IntKind.u8.wrap (IntKind.u64.wrap ((BitVec.ofInt 64 ((Jg name).fdiv (2 ^ 12)) &&& BitVec.ofInt 64 1).toNat:Int))))),Y 0,Y 0,Y 0,Y 0,Y 0,Y 0,Y 0,Y 0,Y 0,Y 0,Y 0,Y 0]]] ?_)))))))))))))))))
 have e4:IntKind.u8.wrap (48+(IntKind.u8.wrap (IntKind.u64.wrap ((BitVec.ofInt 64 ((Jg name).fdiv (2 ^ 12)) &&& BitVec.ofInt 64 1).toNat:Int))))=JE (Jg name) 12:=ZX (Jg name) 12 (by have:=Qo name;omega)
 refine Zo (L':=[[Sg b1 0 [Y (JE (Jg name) 15),Y (JE (Jg name) 14),Y (JE (Jg name) 13),Y (JE (Jg name) 12),Y 0,Y 0,Y 0,Y 0,Y 0,Y 0,Y 0,Y 0,Y 0,Y 0,Y 0,Y 0]]]) (by simp only [e4]) ?_
 clear e4
 refine Jd (JM (Jb (Jc (Ja [0,0] [(8,I 4)] (Jd (WG (Wq (Jf [0] [(9,Bo true)] (Je (JU (Jo (Jb (Je (Jz (Jf [0,0] [(5,I 4)] (Jc (JV [0,0,0,0,0,0,0,0,0,3] [] [[Sg b1 0 [Y (JE (Jg name) 15),Y (JE (Jg name) 14),Y (JE (Jg name) 13),Y (JE (Jg name) 12),Y (IntKind.u8.wrap (48+(IntKind.u8.wrap (IntKind.u64.wrap ((BitVec.ofInt 64 ((Jg name).fdiv (2 ^ 11)) &&& BitVec.ofInt 64 1).toNat:Int))))),Y 0,Y 0,Y 0,Y 0,Y 0,Y 0,Y 0,Y 0,Y 0,Y 0,Y 0]]] ?_)))))))))))))))))
 have e5:IntKind.u8.wrap (48+(IntKind.u8.wrap (IntKind.u64.wrap ((BitVec.ofInt 64 ((Jg name).fdiv (2 ^ 11)) &&& BitVec.ofInt 64 1).toNat:Int))))=JE (Jg name) 11:=ZX (Jg name) 11 (by have:=Qo name;omega)
 refine Zo (L':=[[Sg b1 0 [Y (JE (Jg name) 15),Y (JE (Jg name) 14),Y (JE (Jg name) 13),Y (JE (Jg name) 12),Y (JE (Jg name) 11),Y 0,Y 0,Y 0,Y 0,Y 0,Y 0,Y 0,Y 0,Y 0,Y 0,Y 0]]]) (by simp only [e5]) ?_
 clear e5
 refine Jd (JM (Jb (Jc (Ja [0,0] [(8,I 5)] (Jd (WG (Wq (Jf [0] [(9,Bo true)] (Je (JU (Jo (Jb (Je (Jz (Jf [0,0] [(5,I 5)] (Jc (JV [0,0,0,0,0,0,0,0,0,3] [] [[Sg b1 0 [Y (JE (Jg name) 15),Y (JE (Jg name) 14),Y (JE (Jg name) 13),Y (JE (Jg name) 12),Y (JE (Jg name) 11),Y (IntKind.u8.wrap (48+(IntKind.u8.wrap (IntKind.u64.wrap ((BitVec.ofInt 64 ((Jg name).fdiv (2 ^ 10)) &&& BitVec.ofInt 64 1).toNat:Int))))),Y 0,Y 0,Y 0,Y 0,Y 0,Y 0,Y 0,Y 0,Y 0,Y 0]]] ?_)))))))))))))))))
 have e6:IntKind.u8.wrap (48+(IntKind.u8.wrap (IntKind.u64.wrap ((BitVec.ofInt 64 ((Jg name).fdiv (2 ^ 10)) &&& BitVec.ofInt 64 1).toNat:Int))))=JE (Jg name) 10:=ZX (Jg name) 10 (by have:=Qo name;omega)
 refine Zo (L':=[[Sg b1 0 [Y (JE (Jg name) 15),Y (JE (Jg name) 14),Y (JE (Jg name) 13),Y (JE (Jg name) 12),Y (JE (Jg name) 11),Y (JE (Jg name) 10),Y 0,Y 0,Y 0,Y 0,Y 0,Y 0,Y 0,Y 0,Y 0,Y 0]]]) (by simp only [e6]) ?_
 clear e6
 refine Jd (JM (Jb (Jc (Ja [0,0] [(8,I 6)] (Jd (WG (Wq (Jf [0] [(9,Bo true)] (Je (JU (Jo (Jb (Je (Jz (Jf [0,0] [(5,I 6)] (Jc (JV [0,0,0,0,0,0,0,0,0,3] [] [[Sg b1 0 [Y (JE (Jg name) 15),Y (JE (Jg name) 14),Y (JE (Jg name) 13),Y (JE (Jg name) 12),Y (JE (Jg name) 11),Y (JE (Jg name) 10),Y (IntKind.u8.wrap (48+(IntKind.u8.wrap (IntKind.u64.wrap ((BitVec.ofInt 64 ((Jg name).fdiv (2 ^ 9)) &&& BitVec.ofInt 64 1).toNat:Int))))),Y 0,Y 0,Y 0,Y 0,Y 0,Y 0,Y 0,Y 0,Y 0]]] ?_)))))))))))))))))
 have e7:IntKind.u8.wrap (48+(IntKind.u8.wrap (IntKind.u64.wrap ((BitVec.ofInt 64 ((Jg name).fdiv (2 ^ 9)) &&& BitVec.ofInt 64 1).toNat:Int))))=JE (Jg name) 9:=ZX (Jg name) 9 (by have:=Qo name;omega)
 refine Zo (L':=[[Sg b1 0 [Y (JE (Jg name) 15),Y (JE (Jg name) 14),Y (JE (Jg name) 13),Y (JE (Jg name) 12),Y (JE (Jg name) 11),Y (JE (Jg name) 10),Y (JE (Jg name) 9),Y 0,Y 0,Y 0,Y 0,Y 0,Y 0,Y 0,Y 0,Y 0]]]) (by simp only [e7]) ?_
 clear e7
 refine Jd (JM (Jb (Jc (Ja [0,0] [(8,I 7)] (Jd (WG (Wq (Jf [0] [(9,Bo true)] (Je (JU (Jo (Jb (Je (Jz (Jf [0,0] [(5,I 7)] (Jc (JV [0,0,0,0,0,0,0,0,0,3] [] [[Sg b1 0 [Y (JE (Jg name) 15),Y (JE (Jg name) 14),Y (JE (Jg name) 13),Y (JE (Jg name) 12),Y (JE (Jg name) 11),Y (JE (Jg name) 10),Y (JE (Jg name) 9),Y (IntKind.u8.wrap (48+(IntKind.u8.wrap (IntKind.u64.wrap ((BitVec.ofInt 64 ((Jg name).fdiv (2 ^ 8)) &&& BitVec.ofInt 64 1).toNat:Int))))),Y 0,Y 0,Y 0,Y 0,Y 0,Y 0,Y 0,Y 0]]] ?_)))))))))))))))))
 have e8:IntKind.u8.wrap (48+(IntKind.u8.wrap (IntKind.u64.wrap ((BitVec.ofInt 64 ((Jg name).fdiv (2 ^ 8)) &&& BitVec.ofInt 64 1).toNat:Int))))=JE (Jg name) 8:=ZX (Jg name) 8 (by have:=Qo name;omega)
 refine Zo (L':=[[Sg b1 0 [Y (JE (Jg name) 15),Y (JE (Jg name) 14),Y (JE (Jg name) 13),Y (JE (Jg name) 12),Y (JE (Jg name) 11),Y (JE (Jg name) 10),Y (JE (Jg name) 9),Y (JE (Jg name) 8),Y 0,Y 0,Y 0,Y 0,Y 0,Y 0,Y 0,Y 0]]]) (by simp only [e8]) ?_
 clear e8
 refine Jd (JM (Jb (Jc (Ja [0,0] [(8,I 8)] (Jd (WG (Wq (Jf [0] [(9,Bo true)] (Je (JU (Jo (Jb (Je (Jz (Jf [0,0] [(5,I 8)] (Jc (JV [0,0,0,0,0,0,0,0,0,3] [] [[Sg b1 0 [Y (JE (Jg name) 15),Y (JE (Jg name) 14),Y (JE (Jg name) 13),Y (JE (Jg name) 12),Y (JE (Jg name) 11),Y (JE (Jg name) 10),Y (JE (Jg name) 9),Y (JE (Jg name) 8),Y (IntKind.u8.wrap (48+(IntKind.u8.wrap (IntKind.u64.wrap ((BitVec.ofInt 64 ((Jg name).fdiv (2 ^ 7)) &&& BitVec.ofInt 64 1).toNat:Int))))),Y 0,Y 0,Y 0,Y 0,Y 0,Y 0,Y 0]]] ?_)))))))))))))))))
 have e9:IntKind.u8.wrap (48+(IntKind.u8.wrap (IntKind.u64.wrap ((BitVec.ofInt 64 ((Jg name).fdiv (2 ^ 7)) &&& BitVec.ofInt 64 1).toNat:Int))))=JE (Jg name) 7:=ZX (Jg name) 7 (by have:=Qo name;omega)
 refine Zo (L':=[[Sg b1 0 [Y (JE (Jg name) 15),Y (JE (Jg name) 14),Y (JE (Jg name) 13),Y (JE (Jg name) 12),Y (JE (Jg name) 11),Y (JE (Jg name) 10),Y (JE (Jg name) 9),Y (JE (Jg name) 8),Y (JE (Jg name) 7),Y 0,Y 0,Y 0,Y 0,Y 0,Y 0,Y 0]]]) (by simp only [e9]) ?_
 clear e9
 refine Jd (JM (Jb (Jc (Ja [0,0] [(8,I 9)] (Jd (WG (Wq (Jf [0] [(9,Bo true)] (Je (JU (Jo (Jb (Je (Jz (Jf [0,0] [(5,I 9)] (Jc (JV [0,0,0,0,0,0,0,0,0,3] [] [[Sg b1 0 [Y (JE (Jg name) 15),Y (JE (Jg name) 14),Y (JE (Jg name) 13),Y (JE (Jg name) 12),Y (JE (Jg name) 11),Y (JE (Jg name) 10),Y (JE (Jg name) 9),Y (JE (Jg name) 8),Y (JE (Jg name) 7),Y (IntKind.u8.wrap (48+(IntKind.u8.wrap (IntKind.u64.wrap ((BitVec.ofInt 64 ((Jg name).fdiv (2 ^ 6)) &&& BitVec.ofInt 64 1).toNat:Int))))),Y 0,Y 0,Y 0,Y 0,Y 0,Y 0]]] ?_)))))))))))))))))
 have e10:IntKind.u8.wrap (48+(IntKind.u8.wrap (IntKind.u64.wrap ((BitVec.ofInt 64 ((Jg name).fdiv (2 ^ 6)) &&& BitVec.ofInt 64 1).toNat:Int))))=JE (Jg name) 6:=ZX (Jg name) 6 (by have:=Qo name;omega)
 refine Zo (L':=[[Sg b1 0 [Y (JE (Jg name) 15),Y (JE (Jg name) 14),Y (JE (Jg name) 13),Y (JE (Jg name) 12),Y (JE (Jg name) 11),Y (JE (Jg name) 10),Y (JE (Jg name) 9),Y (JE (Jg name) 8),Y (JE (Jg name) 7),Y (JE (Jg name) 6),Y 0,Y 0,Y 0,Y 0,Y 0,Y 0]]]) (by simp only [e10]) ?_
 clear e10
 refine Jd (JM (Jb (Jc (Ja [0,0] [(8,I 10)] (Jd (WG (Wq (Jf [0] [(9,Bo true)] (Je (JU (Jo (Jb (Je (Jz (Jf [0,0] [(5,I 10)] (Jc (JV [0,0,0,0,0,0,0,0,0,3] [] [[Sg b1 0 [Y (JE (Jg name) 15),Y (JE (Jg name) 14),Y (JE (Jg name) 13),Y (JE (Jg name) 12),Y (JE (Jg name) 11),Y (JE (Jg name) 10),Y (JE (Jg name) 9),Y (JE (Jg name) 8),Y (JE (Jg name) 7),Y (JE (Jg name) 6),Y (IntKind.u8.wrap (48+(IntKind.u8.wrap (IntKind.u64.wrap ((BitVec.ofInt 64 ((Jg name).fdiv (2 ^ 5)) &&& BitVec.ofInt 64 1).toNat:Int))))),Y 0,Y 0,Y 0,Y 0,Y 0]]] ?_)))))))))))))))))
 have e11:IntKind.u8.wrap (48+(IntKind.u8.wrap (IntKind.u64.wrap ((BitVec.ofInt 64 ((Jg name).fdiv (2 ^ 5)) &&& BitVec.ofInt 64 1).toNat:Int))))=JE (Jg name) 5:=ZX (Jg name) 5 (by have:=Qo name;omega)
 refine Zo (L':=[[Sg b1 0 [Y (JE (Jg name) 15),Y (JE (Jg name) 14),Y (JE (Jg name) 13),Y (JE (Jg name) 12),Y (JE (Jg name) 11),Y (JE (Jg name) 10),Y (JE (Jg name) 9),Y (JE (Jg name) 8),Y (JE (Jg name) 7),Y (JE (Jg name) 6),Y (JE (Jg name) 5),Y 0,Y 0,Y 0,Y 0,Y 0]]]) (by simp only [e11]) ?_
 clear e11
 refine Jd (JM (Jb (Jc (Ja [0,0] [(8,I 11)] (Jd (WG (Wq (Jf [0] [(9,Bo true)] (Je (JU (Jo (Jb (Je (Jz (Jf [0,0] [(5,I 11)] (Jc (JV [0,0,0,0,0,0,0,0,0,3] [] [[Sg b1 0 [Y (JE (Jg name) 15),Y (JE (Jg name) 14),Y (JE (Jg name) 13),Y (JE (Jg name) 12),Y (JE (Jg name) 11),Y (JE (Jg name) 10),Y (JE (Jg name) 9),Y (JE (Jg name) 8),Y (JE (Jg name) 7),Y (JE (Jg name) 6),Y (JE (Jg name) 5),Y (IntKind.u8.wrap (48+(IntKind.u8.wrap (IntKind.u64.wrap ((BitVec.ofInt 64 ((Jg name).fdiv (2 ^ 4)) &&& BitVec.ofInt 64 1).toNat:Int))))),Y 0,Y 0,Y 0,Y 0]]] ?_)))))))))))))))))
 have e12:IntKind.u8.wrap (48+(IntKind.u8.wrap (IntKind.u64.wrap ((BitVec.ofInt 64 ((Jg name).fdiv (2 ^ 4)) &&& BitVec.ofInt 64 1).toNat:Int))))=JE (Jg name) 4:=ZX (Jg name) 4 (by have:=Qo name;omega)
 refine Zo (L':=[[Sg b1 0 [Y (JE (Jg name) 15),Y (JE (Jg name) 14),Y (JE (Jg name) 13),Y (JE (Jg name) 12),Y (JE (Jg name) 11),Y (JE (Jg name) 10),Y (JE (Jg name) 9),Y (JE (Jg name) 8),Y (JE (Jg name) 7),Y (JE (Jg name) 6),Y (JE (Jg name) 5),Y (JE (Jg name) 4),Y 0,Y 0,Y 0,Y 0]]]) (by simp only [e12]) ?_
 clear e12
 refine Jd (JM (Jb (Jc (Ja [0,0] [(8,I 12)] (Jd (WG (Wq (Jf [0] [(9,Bo true)] (Je (JU (Jo (Jb (Je (Jz (Jf [0,0] [(5,I 12)] (Jc (JV [0,0,0,0,0,0,0,0,0,3] [] [[Sg b1 0 [Y (JE (Jg name) 15),Y (JE (Jg name) 14),Y (JE (Jg name) 13),Y (JE (Jg name) 12),Y (JE (Jg name) 11),Y (JE (Jg name) 10),Y (JE (Jg name) 9),Y (JE (Jg name) 8),Y (JE (Jg name) 7),Y (JE (Jg name) 6),Y (JE (Jg name) 5),Y (JE (Jg name) 4),Y (IntKind.u8.wrap (48+(IntKind.u8.wrap (IntKind.u64.wrap ((BitVec.ofInt 64 ((Jg name).fdiv (2 ^ 3)) &&& BitVec.ofInt 64 1).toNat:Int))))),Y 0,Y 0,Y 0]]] ?_)))))))))))))))))
 have e13:IntKind.u8.wrap (48+(IntKind.u8.wrap (IntKind.u64.wrap ((BitVec.ofInt 64 ((Jg name).fdiv (2 ^ 3)) &&& BitVec.ofInt 64 1).toNat:Int))))=JE (Jg name) 3:=ZX (Jg name) 3 (by have:=Qo name;omega)
 refine Zo (L':=[[Sg b1 0 [Y (JE (Jg name) 15),Y (JE (Jg name) 14),Y (JE (Jg name) 13),Y (JE (Jg name) 12),Y (JE (Jg name) 11),Y (JE (Jg name) 10),Y (JE (Jg name) 9),Y (JE (Jg name) 8),Y (JE (Jg name) 7),Y (JE (Jg name) 6),Y (JE (Jg name) 5),Y (JE (Jg name) 4),Y (JE (Jg name) 3),Y 0,Y 0,Y 0]]]) (by simp only [e13]) ?_
 clear e13
 refine Jd (JM (Jb (Jc (Ja [0,0] [(8,I 13)] (Jd (WG (Wq (Jf [0] [(9,Bo true)] (Je (JU (Jo (Jb (Je (Jz (Jf [0,0] [(5,I 13)] (Jc (JV [0,0,0,0,0,0,0,0,0,3] [] [[Sg b1 0 [Y (JE (Jg name) 15),Y (JE (Jg name) 14),Y (JE (Jg name) 13),Y (JE (Jg name) 12),Y (JE (Jg name) 11),Y (JE (Jg name) 10),Y (JE (Jg name) 9),Y (JE (Jg name) 8),Y (JE (Jg name) 7),Y (JE (Jg name) 6),Y (JE (Jg name) 5),Y (JE (Jg name) 4),Y (JE (Jg name) 3),Y (IntKind.u8.wrap (48+(IntKind.u8.wrap (IntKind.u64.wrap ((BitVec.ofInt 64 ((Jg name).fdiv (2 ^ 2)) &&& BitVec.ofInt 64 1).toNat:Int))))),Y 0,Y 0]]] ?_)))))))))))))))))
 have e14:IntKind.u8.wrap (48+(IntKind.u8.wrap (IntKind.u64.wrap ((BitVec.ofInt 64 ((Jg name).fdiv (2 ^ 2)) &&& BitVec.ofInt 64 1).toNat:Int))))=JE (Jg name) 2:=ZX (Jg name) 2 (by have:=Qo name;omega)
 refine Zo (L':=[[Sg b1 0 [Y (JE (Jg name) 15),Y (JE (Jg name) 14),Y (JE (Jg name) 13),Y (JE (Jg name) 12),Y (JE (Jg name) 11),Y (JE (Jg name) 10),Y (JE (Jg name) 9),Y (JE (Jg name) 8),Y (JE (Jg name) 7),Y (JE (Jg name) 6),Y (JE (Jg name) 5),Y (JE (Jg name) 4),Y (JE (Jg name) 3),Y (JE (Jg name) 2),Y 0,Y 0]]]) (by simp only [e14]) ?_
 clear e14
 refine Jd (JM (Jb (Jc (Ja [0,0] [(8,I 14)] (Jd (WG (Wq (Jf [0] [(9,Bo true)] (Je (JU (Jo (Jb (Je (Jz (Jf [0,0] [(5,I 14)] (Jc (JV [0,0,0,0,0,0,0,0,0,3] [] [[Sg b1 0 [Y (JE (Jg name) 15),Y (JE (Jg name) 14),Y (JE (Jg name) 13),Y (JE (Jg name) 12),Y (JE (Jg name) 11),Y (JE (Jg name) 10),Y (JE (Jg name) 9),Y (JE (Jg name) 8),Y (JE (Jg name) 7),Y (JE (Jg name) 6),Y (JE (Jg name) 5),Y (JE (Jg name) 4),Y (JE (Jg name) 3),Y (JE (Jg name) 2),Y (IntKind.u8.wrap (48+(IntKind.u8.wrap (IntKind.u64.wrap ((BitVec.ofInt 64 ((Jg name).fdiv (2 ^ 1)) &&& BitVec.ofInt 64 1).toNat:Int))))),Y 0]]] ?_)))))))))))))))))
 have e15:IntKind.u8.wrap (48+(IntKind.u8.wrap (IntKind.u64.wrap ((BitVec.ofInt 64 ((Jg name).fdiv (2 ^ 1)) &&& BitVec.ofInt 64 1).toNat:Int))))=JE (Jg name) 1:=ZX (Jg name) 1 (by have:=Qo name;omega)
 refine Zo (L':=[[Sg b1 0 [Y (JE (Jg name) 15),Y (JE (Jg name) 14),Y (JE (Jg name) 13),Y (JE (Jg name) 12),Y (JE (Jg name) 11),Y (JE (Jg name) 10),Y (JE (Jg name) 9),Y (JE (Jg name) 8),Y (JE (Jg name) 7),Y (JE (Jg name) 6),Y (JE (Jg name) 5),Y (JE (Jg name) 4),Y (JE (Jg name) 3),Y (JE (Jg name) 2),Y (JE (Jg name) 1),Y 0]]]) (by simp only [e15]) ?_
 clear e15
 refine Jd (JM (Jb (Jc (Ja [0,0] [(8,I 15)] (Jd (WG (Wq (Jf [0] [(9,Bo true)] (Je (JU (Jo (Jb (Je (Jz (Jf [0,0] [(5,I 15)] (Jc (JV [0,0,0,0,0,0,0,0,0,3] [] [[Sg b1 0 [Y (JE (Jg name) 15),Y (JE (Jg name) 14),Y (JE (Jg name) 13),Y (JE (Jg name) 12),Y (JE (Jg name) 11),Y (JE (Jg name) 10),Y (JE (Jg name) 9),Y (JE (Jg name) 8),Y (JE (Jg name) 7),Y (JE (Jg name) 6),Y (JE (Jg name) 5),Y (JE (Jg name) 4),Y (JE (Jg name) 3),Y (JE (Jg name) 2),Y (JE (Jg name) 1),Y (IntKind.u8.wrap (48+(IntKind.u8.wrap (IntKind.u64.wrap ((BitVec.ofInt 64 ((Jg name).fdiv (2 ^ 0)) &&& BitVec.ofInt 64 1).toNat:Int)))))]]] ?_)))))))))))))))))
 have e16:IntKind.u8.wrap (48+(IntKind.u8.wrap (IntKind.u64.wrap ((BitVec.ofInt 64 ((Jg name).fdiv (2 ^ 0)) &&& BitVec.ofInt 64 1).toNat:Int))))=JE (Jg name) 0:=ZX (Jg name) 0 (by have:=Qo name;omega)
 refine Zo (L':=[[Sg b1 0 [Y (JE (Jg name) 15),Y (JE (Jg name) 14),Y (JE (Jg name) 13),Y (JE (Jg name) 12),Y (JE (Jg name) 11),Y (JE (Jg name) 10),Y (JE (Jg name) 9),Y (JE (Jg name) 8),Y (JE (Jg name) 7),Y (JE (Jg name) 6),Y (JE (Jg name) 5),Y (JE (Jg name) 4),Y (JE (Jg name) 3),Y (JE (Jg name) 2),Y (JE (Jg name) 1),Y (JE (Jg name) 0)]]]) (by simp only [e16]) ?_
 clear e16
 refine Jd (JM (Jb (Jc (Ja [0,0] [(8,I 16)] (Jd (WG (Wq (Jf [0] [(9,Bo false)] (Je (Qq (KW (JZ (JZ (JR (Jb (Je (Jc (Ja [0] [(21,Sl (At b1 0) 16 16)] (JaQ (b:=b1) (off:=0) (len:=16) (cap:=16) (cs:=List.map (Value.int .u8) [JE (Jg name) 15,JE (Jg name) 14,JE (Jg name) 13,JE (Jg name) 12,JE (Jg name) 11,JE (Jg name) 10,JE (Jg name) 9,JE (Jg name) 8,JE (Jg name) 7,JE (Jg name) 6,JE (Jg name) 5,JE (Jg name) 4,JE (Jg name) 3,JE (Jg name) 2,JE (Jg name) 1,JE (Jg name) 0]) 22 0 [JE (Jg name) 15,JE (Jg name) 14,JE (Jg name) 13,JE (Jg name) 12,JE (Jg name) 11,JE (Jg name) 10,JE (Jg name) 9,JE (Jg name) 8,JE (Jg name) 7,JE (Jg name) 6,JE (Jg name) 5,JE (Jg name) 4,JE (Jg name) 3,JE (Jg name) 2,JE (Jg name) 1,JE (Jg name) 0] rfl (V0 (ns:=[JE (Jg name) 15,JE (Jg name) 14,JE (Jg name) 13,JE (Jg name) 12,JE (Jg name) 11,JE (Jg name) 10,JE (Jg name) 9,JE (Jg name) 8,JE (Jg name) 7,JE (Jg name) 6,JE (Jg name) 5,JE (Jg name) 4,JE (Jg name) 3,JE (Jg name) 2,JE (Jg name) 1,JE (Jg name) 0]) rfl) (Ja [0] [(2,Sr (([JE (Jg name) 15,JE (Jg name) 14,JE (Jg name) 13,JE (Jg name) 12,JE (Jg name) 11,JE (Jg name) 10,JE (Jg name) 9,JE (Jg name) 8,JE (Jg name) 7,JE (Jg name) 6,JE (Jg name) 5,JE (Jg name) 4,JE (Jg name) 3,JE (Jg name) 2,JE (Jg name) 1,JE (Jg name) 0]:List Int).map fun n=>UInt8.ofNat n.toNat))] (Jd (Jb (Jl (Jm [0] [Sr (([JE (Jg name) 15,JE (Jg name) 14,JE (Jg name) 13,JE (Jg name) 12,JE (Jg name) 11,JE (Jg name) 10,JE (Jg name) 9,JE (Jg name) 8,JE (Jg name) 7,JE (Jg name) 6,JE (Jg name) 5,JE (Jg name) 4,JE (Jg name) 3,JE (Jg name) 2,JE (Jg name) 1,JE (Jg name) 0]:List Int).map fun n=>UInt8.ofNat n.toNat)] (Jw (Jp.le_refl _) (congrArg Sr (?_:(YC name)=(([JE (Jg name) 15,JE (Jg name) 14,JE (Jg name) 13,JE (Jg name) 12,JE (Jg name) 11,JE (Jg name) 10,JE (Jg name) 9,JE (Jg name) 8,JE (Jg name) 7,JE (Jg name) 6,JE (Jg name) 5,JE (Jg name) 4,JE (Jg name) 3,JE (Jg name) 2,JE (Jg name) 1,JE (Jg name) 0]:List Int).map fun n=>UInt8.ofNat n.toNat)).symm))))))))))))))))))))))))))
 rfl
theorem JcE (G:Jp) (name:List UInt8) (hw_name:(name).length≤140737488351232) :Q2 173 #[Sr name] G (.tuple #[Sr ((KD name).1),I ((KD name).2)]):=by
 refine JN Tryz.func173 9 [(0,Sr name)] rfl (fun w0 G0=>?_)
 refine Jf [0,0] [] (Je (Je (Jc (Ja [0] [(4,Sr name)] (Jj 5 (Bo (KN name)) (ZJ G name) (Ja [0] [(6,Bo (!(KN name)))] (Jd (Jb (Jk (!(KN name)) (fun h1=>?_) (fun h1=>?_))))))))))
 refine Jf [0,0] [(2,Sr ([])),(3,I 3)] (Jl (Jh (Jm [0,0] [Sr ([]),I 3] (Jw (Jp.le_refl _) ?_))))
 have hf_:(KD name)=([],3):=by
  unfold KD;simp_all
 · (try rw [hf_]);(simp only [Ql];done)
 refine Jo (Jb (Je (Jc (Ja [0] [(7,Sr name)] (Jj 8 (Sr (YC name)) (Jhz G name hw_name) (Ja [0,0] [(2,Sr (YC name)),(3,I 0)] (Jd (Jb (Jl (Jm [0,0] [Sr (YC name),I 0] (Jw (Jp.le_refl _) ?_)))))))))))
 have hf_:(KD name)=(YC name,0):=by
  unfold KD;simp_all
 · (try rw [hf_]);(simp only [Ql];done)
theorem JgO (G:Jp) (x:List UInt8) :Q2 172 #[Sr x] G (Bo false):=by
 refine JN Tryz.func172 6 [(0,Sr x)] rfl (fun w0 G0=>?_)
 refine Jf [0] [] (Jf [0,0,0,0] [(2,Bo (!((B x).toList == (B x).toList)))] (QX 2 (Bo (!(x == x))) (show (Bo (!((B x).toList == (B x).toList)):Value)=Bo (!(x == x)) by simp only [Qj]) (Jl (Jm [0] [Bo (!(x == x))] (Jw (Jp.le_refl _) (congrArg Bo (?_:false=(!(x == x))).symm))))))
 simp
theorem Jiy (G:Jp) (x:List UInt8) (y:List UInt8) :Q2 117 #[Sr x,Sr y] G (I (ZK x y)):=by
 refine JN Tryz.func117 20 [(0,Sr x),(1,Sr y)] rfl (fun w0 G0=>?_)
 refine Jf [0] [] (Je (Jc (Ja [0] [(7,Sr x)] (Jj 8 (Bo false) (JgO G x) (Ja [0] [(5,Bo false)] (Jd (Jb (Je (Jc (Ja [0] [(9,Sr y)] (Jj 10 (Bo false) (JgO G y) (Ja [0] [(6,Bo false)] (Jd (Jb (Je (Jf [0] [(11,Bo false)] (Qq (Jo (Jb (Je (Jf [0] [(13,Bo false)] ?_)))))))))))))))))))))
 refine Qq (Jo (Jb (Je (Jf [0,0,0] [(16,Bo (Go.Op.bytesLess (B x).toList (B y).toList))] (QX 16 (Bo (Go.Op.bytesLess x y)) (show (Bo (Go.Op.bytesLess (B x).toList (B y).toList):Value)=Bo (Go.Op.bytesLess x y) by simp only [Qj]) (Jk (Go.Op.bytesLess x y) (fun h1=>?_) (fun h1=>?_)))))))
 refine Jf [0] [(4,I (-1))] (Jl (Jh (Jm [0] [I (-1)] (Jw (Jp.le_refl _) (congrArg I (?_:(ZK x y)=(-1)).symm)))))
 · unfold ZK;(rw [if_pos ‹_›];done)
 refine Jo (Jb (Je (Jf [0,0,0] [(19,Bo (!(Go.Op.bytesLess (B x).toList (B y).toList || ((B x).toList == (B y).toList))))] (QX 19 (Bo (!(Go.Op.bytesLess x y || (x == y)))) (show (Bo (!(Go.Op.bytesLess (B x).toList (B y).toList || ((B x).toList == (B y).toList))):Value)=Bo (!(Go.Op.bytesLess x y || (x == y))) by simp only [Qj]) (Jk (!(Go.Op.bytesLess x y || (x == y))) (fun h2=>?_) (fun h2=>?_))))))
 refine Jf [0] [(4,I 1)] (Jl (Jh (Jm [0] [I 1] (Jw (Jp.le_refl _) (congrArg I (?_:(ZK x y)=1).symm)))))
 · unfold ZK;(rw [if_neg (by simp_all)];(rw [if_neg (by simp_all)];done))
 refine Jo (Jb (Jf [0] [(4,I 0)] (Jl (Jm [0] [I 0] (Jw (Jp.le_refl _) (congrArg I (?_:(ZK x y)=0).symm))))))
 · unfold ZK;(rw [if_neg (by simp_all)];(rw [if_pos (by simp_all)];done))
theorem Jpl (G:Jp) (a_l:Option Addr) (c_l:Nat) (l:List Int) (h_l:RS EI G a_l c_l l) :Q2 116 #[Sl a_l l.length c_l] G (I (orI l)):=by
 refine JN Tryz.func116 18 [(0,Sl a_l l.length c_l)] rfl (fun w0 G0=>?_)
 refine Jf [0] [] (Jf [0] [(3,I 0)] (Je (Jf [0,0,0] [(6,Sl a_l l.length c_l),(7,I (l.length:Int)),(8,I 0)] (Jz ?_))))
 have hlm_h_l:l.length≤9223372036854775807:=Nat.le_trans (h_l).le (h_l).max
 refine Qh (σ:=Nat) (fun q_=>(q_≤l.length)∧(orI l=orI (l.drop q_))) (fun q_=>[(3,I 0),(6,Sl a_l l.length c_l),(7,I (l.length:Int)),(8,I (q_:Int))]) (fun q_=>G) (fun q_=>[]) (fun q_=>l.length-q_) 0 ⟨(by (try dsimp only);exact Nat.zero_le _),rfl⟩ (fun q_ hs=>?_)
 revert hs;revert q_;intro i hs
 obtain ⟨hi,hn⟩:=hs
 dsimp only
 refine Jf [0] [(9,Bo (decide ((i:Int)<(l.length:Int))))] (Je (Jk (decide ((i:Int)<(l.length:Int))) (fun h1=>?_) (fun h1=>?_)))
 refine Jo (Jb (Je (Jz (Je (Jc ?_)))))
 obtain ⟨b1,o1,rfl⟩:=RS.addr h_l (k:=i) (by omega)
 obtain ⟨x1,hx1⟩:=We (l:=l) (k:=i) (by omega)
 obtain ⟨_,⟨rfl,_⟩,hc1⟩:=RS.get h_l hx1
 refine J3 (b:=b1) (off:=o1) (len:=l.length) (cap:=c_l) (ik:=.i64) 10 3 1 i J7 (JW 11 3 (cs:=[I x1]) 0 (I x1) hc1 (Ja [0] [(5,I x1)] (Jd (Jb (Jf [0,0,0] [(14,Bo (!decide (x1=0)))] (Jk (!decide (x1=0)) (fun h2=>?_) (fun h2=>?_)))))))
 refine Jf [0,0] [(2,I x1)] (Jl (Jt (Jh (QS (Jt (Jh (Jm [0] [I x1] (Jw (Jp.le_refl _) (congrArg I (?_:(orI l)=x1).symm)))))))))
 rw [hn];exact orI_at hx1 (by simp_all)
 exact Jo (JM (Jb (Jc (Ja [0,0] [(8,I (IntKind.i64.wrap ((i:Int)+1)))] (Kw 8 ((i:Int)+1) J7 (Jd (Qr (i+1) ⟨J7,(by rw [hn];exact JnL hx1 (by simp_all))⟩ (by (try dsimp only);omega))))))))
 refine KW (JZ (J8 (JR (Jb (Jf [0,0] [(2,I 0)] (Jl (Jm [0] [I 0] (Jw (Jp.le_refl _) (congrArg I (?_:(orI l)=0).symm)))))))))
 rw [hn];(rw [List.drop_eq_nil_of_le (by omega)];rfl)
theorem Jc8 (G:Jp) (name:List UInt8) (hw_name:(name).length≤140737488351232) :Q2 118 #[Sr name] G (Sr (way name)):=by
 refine JN Tryz.func118 11 [(0,Sr name)] rfl (fun w0 G0=>?_)
 refine Jf [0] [] (Je (Jc (Ja [0] [(6,Sr name)] (Jj 7 (.tuple #[Sr ((KD name).1),I ((KD name).2)]) (JcE G name hw_name) (Ja [0,0,0,0,0] [(3,Sr ((KD name).1))] (Jd (Jb (Jf [0,0] [(2,Sr ((KD name).1))] (Jl (Jm [0] [Sr ((KD name).1)] (Jw (Jp.le_refl _) (congrArg Sr (?_:(way name)=((KD name).1)).symm))))))))))))
 rfl
theorem Jiz (G:Jp) (a:List UInt8) (hw_a:(a).length≤140737488351232) (b:List UInt8) (hw_b:(b).length≤140737488351232) :Q2 68 #[Sr a,Sr b] G (I (Z7 a b)):=by
 refine JN Tryz.func68 15 [(0,Sr a),(1,Sr b)] rfl (fun w0 G0=>?_)
 refine Jf [0] [] (Je (Jc (Ja [0] [(5,Sr a)] (Jj 6 (Sr (way a)) (Jc8 G a hw_a) (Ja [0] [(7,Sr b)] (Jj 8 (Sr (way b)) (Jc8 G b hw_b) (Jj 9 (I (ZK (way a) (way b))) (Jiy G (way a) (way b)) (Ja [0,0] [(10,Sr a),(11,Sr b)] (Jj 12 (I (ZK a b)) (Jiy G a b) (Kq 13 2 #[I (ZK (way a) (way b)),I (ZK a b)] 3 (fun b1=>QV (b:=b1) (o:=0) (cs:=[I (ZK (way a) (way b)),I (ZK a b)]) 0 (fun G1 hl1 hz1=>?_))))))))))))
 have hs1:RS EI G1 (At b1 0) 2 [ZK (way a) (way b),ZK a b]:=RS.lit [[I (ZK (way a) (way b))],[I (ZK a b)]] [ZK (way a) (way b),ZK a b] ⟨⟨rfl,(by (unfold ZK;repeat' split <;> omega))⟩,⟨⟨rfl,(by (unfold ZK;repeat' split <;> omega))⟩,trivial⟩⟩ hz1 (Nat.le_of_ble_eq_true rfl) (Nat.le_of_ble_eq_true rfl)
 refine Jj 14 (I (orI ([ZK (way a) (way b),ZK a b]))) (Jpl G1 (At b1 0) 2 ([ZK (way a) (way b),ZK a b]) hs1) (Ja [0] [(4,I (orI ([ZK (way a) (way b),ZK a b])))] (Jd (Jb (Jl (Jm [0] [I (orI ([ZK (way a) (way b),ZK a b]))] (Jw hl1 (congrArg I (?_:(Z7 a b)=(orI ([ZK (way a) (way b),ZK a b]))).symm)))))))
 rfl
end Go.Proofs.YteaampgpgokjmaaGreatDoor
