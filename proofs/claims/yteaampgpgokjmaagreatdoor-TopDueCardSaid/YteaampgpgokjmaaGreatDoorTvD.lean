import Derived.Test.YteaampgpgokjmaaGreatDoorTvC
import Derived.Maps.Own
import Derived.CallsIn
import Derived.Shelf.SlIter.Collect
set_option linter.unusedVariables false
set_option linter.unusedSimpArgs false
namespace Go.Tx
open Go.RowKit Go.Proofs Go.Shelf
open _root_.List renaming getElem?_eq_some_iff → Ha, getElem?_eq_getElem → Hb, mem_singleton → Hc, eq_nil_of_length_eq_zero → Hd, replicate → He, getElem_mem → Hg, mem_flatten → Hh, length_replicate → Hi, getElem?_append_right → Hj, getElem?_append_left → Hk, all_eq_true → Hl, getElem?_replicate → Hm, drop_eq_nil_of_le → Hn
open _root_.Array renaming getElem?_eq_some_iff → Hf
open _root_.Nat renaming le_of_ble_eq_true → Ho, zero_add → Hp
open _root_.Option renaming some → Hq
def JdS (P:Program) (k e:TypeId) (o:Obj) (n:Nat) (D:DataW Unit):Prop :=
 Jdq o=true∧∀ (w:World) (b:Nat),w.heap[b]? = some o→w.ownsMap P k (plainElem P e) b n D
theorem JdS.of {P:Program} {k e:TypeId} {w:World} {b n:Nat} {D:DataW Unit} (h:w.ownsMap P k (plainElem P e) b n D):∃ o,w.heap[b]? = some o∧JdS P k e o n D:=by
 obtain ⟨es,clock,hb,F,hs,hD⟩:=h
 exact ⟨_,hb,rfl,fun w' b' h'=>⟨es,clock,h',F,hs,hD⟩⟩
theorem JdS.empty (P:Program) (k e:TypeId):JdS P k e (.map #[] 0) 0 (.map []) :=
 ⟨rfl,fun w b h=>by
  obtain ⟨es,clock,hb,F,hs,hD⟩:=World.ownsMap_made (H:=Unit) default P k (plainElem P e)
  have:es=#[]∧clock=0:=by
   rw [World.alloc_heap_new] at hb;cases hb;exact ⟨rfl,rfl⟩
  obtain ⟨rfl,rfl⟩:=this
  exact ⟨_,_,h,F,hs,hD⟩⟩
def Jk6 (a:List (List UInt8)) (s:List UInt8):List (List UInt8):=if s∈a then a else a++[s]
def dd (l:List (List UInt8)):List (List UInt8):=l.foldl Jk6 []
def nn (l:List (List UInt8)):Nat:=(dd l).length
theorem Jk7 {α:Type} {P:List α→Prop} (h0:P []) (hs:∀ l x,P l→P (l++[x])) (l:List α):P l:=by
 rw [← List.reverse_reverse l]
 induction l.reverse with
 | nil=>exact h0
 | cons x t ih=>rw [List.reverse_cons];exact hs _ _ ih
theorem Jk8 (l:List (List UInt8)) (s:List UInt8):dd (l++[s])=Jk6 (dd l) s:=by simp [dd,List.foldl_append]
theorem YG (l:List (List UInt8)):(∀ s,s∈dd l ↔ s∈l)∧(dd l).Nodup:=by
 induction l using Jk7 with
 | h0=>simp [dd]
 | hs l x ih =>
  rw [Jk8];unfold Jk6
  split
  ·
   rename_i h
   refine ⟨fun s=>?_,ih.2⟩
   rw [ih.1 s];simp only [List.mem_append,Hc]
   exact ⟨.inl,fun h'=>h'.elim id (fun e=>e ▸ (ih.1 x).1 h)⟩
  ·
   rename_i h
   refine ⟨fun s=>by simp [ih.1 s],List.nodup_append.2 ⟨ih.2,by simp,fun a ha b hb=>by simp at hb;subst hb;exact fun e=>h (by rw [← e];exact ha)⟩⟩
theorem V1:∀ (a b:List (List UInt8)),a.Nodup→(∀ x∈a,x∈b)→a.length≤b.length
 | [],b,_,_=>Nat.zero_le _
 | x::a,b,h,hm=>by
  have hx:=hm x (by simp)
  have h1:=List.nodup_cons.1 h
  have:=V1 a (b.erase x) h1.2 (fun y hy=>(List.mem_erase_of_ne (fun e=>h1.1 (by subst e;exact hy))).2 (hm y (by simp [hy])))
  rw [List.length_erase_of_mem hx] at this
  have:0<b.length:=List.length_pos_of_mem hx
  simp only [List.length_cons];omega
theorem JaC {a b:List (List UInt8)} (h:∀ x∈a,x∈b):nn a≤nn b :=
 V1 _ _ (YG a).2 (fun x hx=>((YG b).1 x).2 (h x (((YG a).1 x).1 hx)))
theorem nn_le (a:List (List UInt8)):nn a≤a.length:=V1 _ _ (YG a).2 (fun x hx=>((YG a).1 x).1 hx)
theorem JiN {a:List (List UInt8)} (h:a.Nodup):nn a=a.length :=
 Nat.le_antisymm (nn_le a) (V1 _ _ h (fun x hx=>((YG a).1 x).2 hx))
def Dn (l:List (List UInt8)):DataW Unit:=l.foldl (fun D s=>D.put (.string s) (.lit (.bool true))) (.map [])
theorem JeR (l:List (List UInt8)) (s:List UInt8):Dn (l++[s])=(Dn l).put (.string s) (.lit (.bool true)):=by simp [Dn,List.foldl_append]
theorem Jk9 (l:List (List UInt8)):Maps.Tidy (Dn l)∧(∀ s,Maps.has (Dn l) (.string s)=decide (s∈l))∧Maps.size (Dn l)=nn l:=by
 induction l using Jk7 with
 | h0=>exact ⟨Maps.tidy_empty,fun s=>by simp [Dn,Maps.has],rfl⟩
 | hs l x ih =>
  obtain ⟨h1,h2,h3⟩:=ih
  have hk:WideAt.IsKeyLit (.string x):=by trivial
  rw [JeR]
  refine ⟨h1.put hk _,fun s=>?_,?_⟩
  ·
   by_cases e:s=x
   · subst e;rw [Maps.has_put_same h1.isMap hk];simp
   · rw [Maps.has_put_other (by simpa using e),h2 s];simp [e]
  ·
   rw [Maps.size_put h1,h2 x,h3]
   unfold nn;rw [Jk8];unfold Jk6
   by_cases e:x∈l
   · rw [if_pos (by simpa using e),if_pos (((YG l).1 x).2 e)]
   · rw [if_neg (by simpa using e),if_neg (fun h=>e (((YG l).1 x).1 h))];simp
theorem Jo6 (l:List (List UInt8)):(strKeys (Dn l)).length=nn l:=by
 obtain ⟨⟨es,he,_⟩,_,h3⟩:=Jk9 l
 rw [← h3,he];simp [strKeys,Maps.size]
theorem St.grewO {w0 w w':World} {G0 G:J4} {L:List (List Kh)} {i b:Nat} {x y:Obj} (h:St w0 G0 w G L) (hi:L[i]? = some [Ob b x]) (hg:w.grownBy w' (some b)) (hyb:w'.heap[b]? = some y) (hy:Jdq y=true) :
  St w0 G0 w' G (L.set i [Ob b y]):=by
 obtain ⟨A,B,rfl,hset⟩:=YS hi
 rw [hset]
 have hm:(Ob b x)∈(A++[Ob b x]::B).flatten:=by simp
 obtain ⟨hB,_,hob,_⟩:=h.own _ hm
 obtain ⟨p1,p2,_,_⟩:=hob x rfl
 simp only at hB p2
 have hlt:=(Hf.1 p2).1
 have hne:∀ b' o v,w.cell? ⟨b',o,none⟩=some v→b ≠ b':=fun b' o v hv e=>by
  have:=Jby hv (e ▸ p2)
  rw [p1] at this;cases this
 have hget:∀ k,k<w.heap.size→k ≠ b→w'.heap[k]? = w.heap[k]?:=fun k hl hk=>hg.block k hl (fun e=>hk (Hq.inj e))
 refine St.upd h ((Below.refl w0.heap.size w).grown hg h.below.size (fun k e=>by cases e;exact hB)) ?_ ?_ ?_ ?_ ?_ (by simp)
 ·
  intro b' o v hv _
  have hn:=hne b' o v hv
  have hl:=Wx hv
  unfold World.cell? World.frozen? at *
  simp only at *
  rw [hget b' hl (fun e=>hn e.symm)]
  exact ⟨hv,rfl⟩
 ·
  intro b' z hz
  obtain ⟨c,hh,_⟩:=Yo.1 hz
  have hn:b' ≠ b:=fun e=>by
   subst e
   rw [p2] at hh
   cases x <;> simp [Jdq] at p1 hh
  unfold shp at hz ⊢
  rw [hget b' (Hf.1 hh).1 hn];exact hz
 ·
  intro b' z hz _ hno
  have:b' ≠ b:=fun e=>hno _ (Hc.2 rfl) ⟨e.symm,Nat.le_refl _,by simp [Kh.len]⟩
  rw [hget b' (Hf.1 hz).1 this];exact hz
 ·
  intro s hs
  obtain rfl:s=_:=by simpa using hs
  refine ⟨hB,by simp,fun z hz=>?_,by simp⟩
  cases hz
  exact ⟨hy,hyb,rfl,rfl⟩
 ·
  intro s hs b' o hh
  obtain rfl:s=_:=by simpa using hs
  exact .inl ⟨_,Hc.2 rfl,hh⟩
theorem St.below_ {w0 w w':World} {G0 G:J4} {L:List (List Kh)} (h:St w0 G0 w G L) (hb:Below w.heap.size w w'):St w0 G0 w' G L:=by
 have hS':St w G w' G []:=⟨hb,fun b o v hv=>by
  have hc:=h.mem b o v hv
  have hl:=Wx hc
  unfold World.cell? at *
  simp only at *
  rw [hb.block b hl];exact hc,Jh _,fun b o v hv=>.inl hv,by simp,by simp⟩
 exact h.call hS'
section
variable {C:Cx} {Q:Exit→Act→World→Prop} {fr:List (Nat×Value)} {G:J4} {L:List (List Kh)} {ops:Array Oper} {rest:List Oper} {o:Oper}
theorem JeS {e:Exit} (i:Nat) {b o:Nat} {cs:List Value} (h:∀ G',J4.le G G'→(∀ j v,cs[j]? = some v→G' b (o+j)=some v)→TQ C Q e fr G' (L.set i []))
  (hi:L[i]? = some [Sg b o cs]:=by rfl):TQ C Q e fr G L :=
 JmQ i (by simp) hi (fun G' h1 h2=>h G' h1 (fun j v hv=>h2 _ (Hc.2 rfl) j v hv))
theorem Jka (d:Nat) (k e:TypeId) (h:∀ b ob,JdS C.P k e ob 0 (.map [])→Kx C ops Q rest ((d,.map (some b))::fr) G ([Ob b ob]::L))
  (hb:base C.n ops fr o d=true:=by as_aux_lemma=>kernel_rfl)
  (hc:∀ w,(execOp (WX fr) o).run C.P w=.ok (.value (.map (some w.heap.size))) (w.alloc (.map #[] 0)):=by intro _;as_aux_lemma=>kernel_rfl):Kx C ops Q (o::rest) fr G L :=
 QI d hb (fun w hw=>⟨_,w.alloc (.map #[] 0),G,_,hc w,hw.allocO _ rfl,h w.heap.size _ (JdS.empty _ _ _)⟩)
def Jla (fr:List (Nat×Value)) (o:Oper):Option (TypeId×Value×Value×Value):=match o.op with
 | .mapUpdate t m x v=>some (t,WX fr m,WX fr x,WX fr v)
 | _=>none
theorem Jmm (hb:JgB C.n ops fr o=true)
  (hx:∀ w,St C.w0 C.G0 w G L→∃ w' G' L',(execOp (WX fr) o).run C.P w=.ok .skip w'∧St C.w0 C.G0 w' G' L'∧Kx C ops Q rest fr G' L') :
  Kx C ops Q (o::rest) fr G L:=by
 intro a w ha hw
 unfold JgB at hb
 simp only [Bool.and_eq_true,Option.isNone_iff_eq_none] at hb
 obtain ⟨⟨⟨hd,hwt⟩,hsel⟩,hcov⟩:=hb
 have hE:execOp a.eval o=execOp (WX fr) o:=Wj _ _ _ (fun cs b e=>by rw [e] at hsel;simp [Zd] at hsel)
  (fun x hx=>ha.eval x (Hl.1 hcov x (by simpa using hx)))
 have hwant:Qs ops fr o=some true:=by
  cases hx:Qs ops fr o with
  | none=>rw [hx] at hwt;simp [Yu] at hwt
  | some b=>rw [hx] at hwt;simp [Yu] at hwt;rw [← hwt]
 obtain ⟨w',G',L',hr,hS,hk⟩:=hx w hw
 unfold wpList
 rw [if_pos (Wk ha hwant)]
 refine .inl ?_
 unfold Oper.wp
 rw [hE,hr]
 show wpList C.P ops Q rest (a.put o.dst _) _
 rw [hd]
 exact hk _ _ ha hS
theorem JdT (i:Nat) (t k e:TypeId) {b n:Nat} {ob:Obj} {D:DataW Unit} {s:List UInt8} (x:Bool) (hm:JdS C.P k e ob n D) (K:Maps.Keyed C.P k) (ht:C.P.underlying t=some (.map k e)) (hks:C.P.underlying k=some .string) (he:C.P.underlying e=some .bool)
  (hs:s.length≤maxLen) (hn:n<maxLen)
  (h:∀ ob',JdS C.P k e ob' (n+1) (D.put (.string s) (.lit (.bool x)))→Kx C ops Q rest fr G (L.set i [Ob b ob']))
  (hL:L[i]? = some [Ob b ob]:=by rfl)
  (hb:JgB C.n ops fr o=true:=by as_aux_lemma=>kernel_rfl)
  (hc:Jla fr o=some (t,.map (some b),Sr s,Bo x):=by as_aux_lemma=>kernel_rfl):Kx C ops Q (o::rest) fr G L:=by
 refine Jmm hb (fun w hw=>?_)
 unfold Jla at hc
 split at hc
 case h_2=>cases hc
 rename_i t' m' x' v' hop
 simp only [Hq.injEq,Prod.mk.injEq] at hc
 obtain ⟨rfl,c1,c2,c3⟩:=hc
 have hmem:(Ob b ob)∈L.flatten:=by
  obtain ⟨hl,he⟩:=Ha.1 hL
  exact Hh.2 ⟨_,Hg hl,by rw [he];simp⟩
 obtain ⟨_,_,hob,_⟩:=hw.own _ hmem
 obtain ⟨p1,p2,_,_⟩:=hob ob rfl
 have hown:=hm.2 w b p2
 have hkey:keyOf C.P k (Sr s)=some (.string s):=by
  have:=WideMaps.keyOf_string_mk (P:=C.P) hks (s:=B s) (by show s.toArray.size≤maxLen;simpa using hs)
  simpa using this
 obtain ⟨w',hrun,hown',hg⟩:=hown.update K ht hn hkey (plainElem_bool (H:=Unit) he x)
 obtain ⟨ob',q1,q2⟩:=JdS.of hown'
 refine ⟨w',G,_,?_,hw.grewO hL hg q1 q2.1,h ob' q2⟩
 unfold execOp
 simp only [hop,c1,c2,c3,Sem.run_bind,Bo,hrun,Result.andThen_ok,Sem.run_pure]
theorem Jmn (d:Nat) {ρ:Ren} (L7:SlLaysZ.n7 C.P ρ) {b:Nat} (h:∀ bk,Kx C ops Q rest ((d,.func (.func (ρ.f 10)) #[] #[Pt bk 0])::fr) G ([Sg bk 0 [.map (some b)]]::L))
  (hw:Qs ops fr o=some true:=by rfl) (hd:o.dst=some d:=by rfl) (hn:Nat.blt d C.n=true:=by rfl) (hsel:Zd o.op=false:=by rfl)
  (hcov:o.op.operands.toList.all (cov fr)=true:=by as_aux_lemma=>kernel_rfl) (hrun:∀ w,(execOp (WX fr) o).run C.P w=.ok (.enter (ρ.f 7) #[.map (some b)]) w:=by intro _;as_aux_lemma=>kernel_rfl) :
  Kx C ops Q (o::rest) fr G L:=by
 intro a w ha hwS
 have hE:execOp a.eval o=execOp (WX fr) o:=Wj _ _ _ (fun cs b e=>by rw [e] at hsel;simp [Zd] at hsel)
  (fun x hx=>ha.eval x (Hl.1 hcov x (by simpa using hx)))
 unfold wpList
 rw [if_pos (Wk ha hw)]
 refine .inl ?_
 unfold Oper.wp
 rw [hE,hrun]
 refine (callsIn_wide.1 (AnyZ.keys_in L7 Fence.wide 0 trivial rfl (some b) w)).mono ?_
 rintro e w' ⟨rfl,rfl⟩
 show wpList C.P ops Q rest (a.put o.dst _) _
 rw [hd]
 exact h _ _ _ (ha.put d _ (Ho hn)) (hwS.alloc _ _)
theorem JhA (d i j:Nat) {ρ:Ren} (L8:SlLaysZ.n8 C.P ρ) (L10:SlLaysZ.n10 C.P ρ) {b bk n:Nat} {e:TypeId} {ob:Obj} {D:DataW Unit} (hm:JdS C.P (ρ.t 26) e ob n D) (hsz:Maps.size D≤1000000)
  (h:∀ a c,Kx C ops Q rest ((d,Sl a (strKeys D).length c)::fr) G L)
  (hi:L[i]? = some [Ob b ob]:=by rfl) (hj:L[j]? = some [Sg bk 0 [.map (some b)]]:=by rfl)
  (hw:Qs ops fr o=some true:=by rfl) (hd:o.dst=some d:=by rfl) (hn:Nat.blt d C.n=true:=by rfl) (hsel:Zd o.op=false:=by rfl)
  (hcov:o.op.operands.toList.all (cov fr)=true:=by as_aux_lemma=>kernel_rfl) (hrun:∀ w,(execOp (WX fr) o).run C.P w=.ok (.enter (ρ.f 8) #[.func (.func (ρ.f 10)) #[] #[Pt bk 0]]) w:=by intro _;as_aux_lemma=>kernel_rfl) :
  Kx C ops Q (o::rest) fr G L:=by
 intro a w ha hwS
 have hE:execOp a.eval o=execOp (WX fr) o:=Wj _ _ _ (fun cs b e=>by rw [e] at hsel;simp [Zd] at hsel)
  (fun x hx=>ha.eval x (Hl.1 hcov x (by simpa using hx)))
 unfold wpList
 rw [if_pos (Wk ha hw)]
 refine .inl ?_
 unfold Oper.wp
 rw [hE,hrun]
 have m1:(Ob b ob)∈L.flatten:=by
  obtain ⟨hl,he⟩:=Ha.1 hi
  exact Hh.2 ⟨_,Hg hl,by rw [he];simp⟩
 have m2:(Sg bk 0 [.map (some b)])∈L.flatten:=by
  obtain ⟨hl,he⟩:=Ha.1 hj
  exact Hh.2 ⟨_,Hg hl,by rw [he];simp⟩
 obtain ⟨_,_,hob,_⟩:=hwS.own _ m1
 obtain ⟨_,p2,_,_⟩:=hob ob rfl
 have hown:=hm.2 w b p2
 have hcell:=((hwS.own _ m2).2.1 0 _ rfl).1
 simp only [Nat.add_zero] at hcell
 have hseq:SeqGives Fence.wide (3-1-1) C.P (ρ.f 10) #[.pointer (some ⟨bk,0,none⟩)] encStr (fun ss=>ss.Perm (strKeys D)) (Maps.size D) w :=
  AnyZ.keys_gives L10 Fence.wide (3-1-1) trivial rfl (by decide) bk b n D w (Wx hcell) hcell hown
 refine (callsIn_wide.1 (AnyZ.collect_in L8 Fence.wide 3 trivial trivial rfl (by decide) (ρ.f 10) #[.pointer (some ⟨bk,0,none⟩)] trivial (L10.f10.enters rfl) _ (Maps.size D) (Nat.le_trans hsz (by decide)) (by omega) w hseq)).mono ?_
 rintro e w' ⟨v,ss,rfl,hS,hrow,hnil,hb⟩
 have hlen:ss.length=(strKeys D).length:=hS.length_eq
 obtain ⟨aa,c,rfl⟩:∃ aa c,v=Sl aa (strKeys D).length c:=by
  rw [← hlen]
  rcases hrow.2 with ⟨rfl,h0⟩ | ⟨g,cap,cur,rfl,_⟩
  · exact ⟨none,0,by rw [h0]⟩
  · exact ⟨_,_,rfl⟩
 show wpList C.P ops Q rest (a.put o.dst _) w'
 rw [hd]
 exact h _ _ _ _ (ha.put d _ (Ho hn)) (hwS.below_ hb)
theorem Jkb {α:Type} {E:YK α} (d t e n:Nat) {z:Value} {lo co:Operand} {bytes:Nat} (x0:α) (hE:E.sz=1∧z.cells=#[z]∧(∀ G,E.R G [z] x0)) (h63:n≤9223372036854775807) (hby:n*bytes≤281474976710656)
  (hi:(C.P.info? e).map (fun i=>(i.zero,i.size,i.bytes))=some (some z,1,bytes))
  (h:∀ a r,J1 E G a n (He n x0) r→Kx C ops Q rest ((d,Sl a (He n x0).length n)::fr) G (r::L))
  (hb:base C.n ops fr o d=true:=by as_aux_lemma=>kernel_rfl)
  (hop:o.op=.makeSlice t lo co:=by rfl) (ht:C.P.underlying t=some (.slice e):=by as_aux_lemma=>kernel_rfl)
  (hlo:WX fr lo=I (n:Int):=by as_aux_lemma=>kernel_rfl) (hco:WX fr co=I (n:Int):=by as_aux_lemma=>kernel_rfl):Kx C ops Q (o::rest) fr G L:=by
 simp only [Hi] at h
 refine QI d hb (fun w hw=>?_)
 obtain ⟨inf,hinf,hz,hsz,hbs⟩:=info_parts hi
 have hbn:(inf.bytes:Int)*(n:Int)≤281474976710656:=by
  have h2:(inf.bytes:Int)*n=((n*bytes:Nat):Int):=by rw [Int.natCast_mul,Int.mul_comm,hbs]
  omega
 have hm:=run_make (P:=C.P) w t e inf z ht hinf hz .i64 .i64 n n (by omega) (Int.le_refl _) hbn (by omega)
 simp only [Int.toNat_natCast,hsz,Nat.mul_one] at hm
 have hmc:(madeCells z.cells n).toList=He n z:=by
  apply List.ext_getElem
  · simp [size_madeCells]
  ·
   intro k h1 h2
   simp only [madeCells,Array.toList_map,List.getElem_map,List.getElem_replicate,hE.2.1]
   simp [Nat.mod_one]
 refine ⟨_,_,G,_,?_,hw.alloc (madeCells z.cells n) e,h (At w.heap.size 0) _ ⟨⟨He n [z],by simp,fun k x hx=>?_,?_⟩⟩⟩
 ·
  unfold execOp
  simp only [hop,hlo,hco,Sem.run_bind,hm,Result.andThen_ok,Sem.run_pure]
 ·
  have hk:=(Ha.1 hx).1
  simp only [Hi] at hk
  rw [Hm,if_pos hk] at hx
  rw [← Hq.inj hx]
  exact ⟨[z],by rw [Hm,if_pos hk],hE.2.2 G⟩
 ·
  have hf:(He n [z]).flatten=He n z:=by simp [List.flatten_replicate_singleton]
  rw [hf,hmc,Hi,hE.1]
  exact Row.lit (by simp) h63
theorem RS.cellsR {α:Type} {E:YK α} {G:J4} {ax:Option Addr} {capx:Nat} {ys:List α} (hy:RS E G ax capx ys):∃ dss:List (List Value),dss.length=ys.length∧(∀ (k:Nat) y,ys[k]? = some y→∃ cs,dss[k]? = some cs∧E.R G cs y) ∧
  ∀ w:World,(∀ b o v,G b o=some v→w.cell? ⟨b,o,none⟩=some v)→JkG E.sz w ax ys.length dss.flatten:=by
 have hcell:∃ dss:List (List Value),dss.length=ys.length∧(∀ (k:Nat) y,ys[k]? = some y→∃ cs,dss[k]? = some cs∧E.R G cs y) ∧
   (∀ ad,ax=some ad→∀ (k:Nat) cs (j:Nat) v,dss[k]? = some cs→cs[j]? = some v→G ad.block (ad.off+k*E.sz+j)=some v):=by
  cases ax with
  | none =>
   have:ys=[]:=Hd (by have:=hy.nil rfl;have:=hy.le;omega)
   subst this
   exact ⟨[],rfl,by simp,by simp⟩
  | some ad =>
   have hch:∀ k:Nat,∃ cs,∀ y,ys[k]? = some y→E.R G cs y∧∀ j v,cs[j]? = some v→G ad.block (ad.off+k*E.sz+j)=some v:=by
    intro k
    cases hk:ys[k]? with
    | none=>exact ⟨[],by simp⟩
    | some y=>obtain ⟨cs,p1,p2⟩:=hy.elem ad rfl k y hk;exact ⟨cs,fun y' hy'=>by cases hy';exact ⟨p1,p2⟩⟩
   let f:Nat→List Value:=fun k=>Classical.choose (hch k)
   have hf:∀ (k:Nat) y,ys[k]? = some y→E.R G (f k) y∧∀ j v,(f k)[j]? = some v→G ad.block (ad.off+k*E.sz+j)=some v:=fun k=>Classical.choose_spec (hch k)
   refine ⟨(List.range ys.length).map f,by simp,?_,?_⟩
   ·
    intro k y hk
    have hlt:=(Ha.1 hk).1
    exact ⟨f k,by simp [hlt],(hf k y hk).1⟩
   ·
    intro ad' had k cs j v hk hv
    cases had
    have hlt:k<ys.length:=by have:=(Ha.1 hk).1;simpa using this
    have hcs:f k=cs:=by simpa [hlt] using hk
    rw [← hcs] at hv
    exact (hf k _ (Hb hlt)).2 j v hv
 obtain ⟨dss,d1,d2,d3⟩:=hcell
 have dsz:=Jab d1 d2
 refine ⟨dss,d1,d2,fun w hmem=>⟨by rw [QO dsz,d1],fun ha=>by have:=hy.nil ha;have:=hy.le;omega,fun ad ha j v hv=>?_⟩⟩
 have hsp:=hy.spot ad ha (by
  have hj:=(Ha.1 hv).1
  rw [QO dsz] at hj
  have h0:0<ys.length:=by
   rcases Nat.eq_zero_or_pos ys.length with h0 | h0
   · rw [d1,h0] at hj;omega
   · exact h0
  have:=hy.le;omega)
 obtain ⟨ab,ao,asp⟩:=ad
 simp only at hsp
 subst hsp
 rw [WN]
 refine hmem _ _ _ ?_
 have hj:=(Ha.1 hv).1
 rw [QO dsz] at hj
 have hpos:0<E.sz:=by
  rcases Nat.eq_zero_or_pos E.sz with h0 | h0
  · rw [h0] at hj;omega
  · exact h0
 have hk:j / E.sz<dss.length:=(Nat.div_lt_iff_lt_mul hpos).2 hj
 have hmod:=Nat.mod_lt j hpos
 have hcs:=dsz _ (Hg hk)
 have hget:(dss[j / E.sz])[j % E.sz]? = some v:=by
  have:=Jay dsz (j / E.sz) _ (j % E.sz) ((dss[j / E.sz])[j % E.sz]'(by omega)) (Hb hk) (Hb (by omega))
  rw [Nat.div_add_mod' j E.sz,hv] at this
  rw [Hb (by omega)];exact this.symm
 have:=d3 _ ha (j / E.sz) _ (j % E.sz) v (Hb hk) hget
 simp only at this
 rwa [Nat.add_assoc,Nat.div_add_mod' j E.sz] at this
theorem Jkc {α:Type} {E:YK α} {a:Option Addr} {l:List α} (d e j:Nat) {b:Nat} {cs:List Value} (x:α) (hr:RS E G a l.length l) (hx:E.R G cs x)
  (h63:l.length+1≤9223372036854775807) (hby:(l.length+1)*E.bytes≤140737488355328)
  (h:∀ a' cap' r',J1 E G a' cap' (l++[x]) r'→Kx C ops Q rest ((d,Sl a' (l++[x]).length cap')::fr) G (r'::L))
  (hj:L[j]? = some [Sg b 0 cs]:=by rfl)
  (hb:base C.n ops fr o d=true:=by as_aux_lemma=>kernel_rfl)
  (hc:Ja7 C.P fr o e E.sz E.bytes=some (Sl a l.length l.length,Sl (At b 0) 1 1):=by as_aux_lemma=>kernel_rfl):Kx C ops Q (o::rest) fr G L:=by
 obtain ⟨t,ty,inf,z,hu,hi,hz,hzs,hsz,hbs,hrun⟩:=Jg4 hc
 obtain ⟨dss,d1,d2,d3⟩:=hr.cellsR
 refine QI d hb (fun w hw=>?_)
 have hms:(Sg b 0 cs)∈L.flatten:=by
  obtain ⟨hi',he⟩:=Ha.1 hj
  exact Hh.2 ⟨_,he ▸ Hg hi',by simp⟩
 have hown:=(hw.own _ hms).2.1
 simp only [Hp] at hown
 have hnl:cs.length=1*inf.size:=by rw [E.len hx,hsz];simp
 have hnews:∀ k v,cs[k]? = some v→w.cell? ((⟨b,0,none⟩:Addr).add k)=some v:=fun k v hv=>by
  rw [WN,Hp];exact (hown k v hv).1
 obtain ⟨r1,r2,r3⟩:=d3 w hw.mem
 rw [← hsz] at r1
 have hby2:(l.length+1)*inf.bytes≤140737488355328:=by rw [hbs];exact hby
 have hnx:Builtin.nextslicecap (l.length+1) l.length*inf.bytes≤281474976710656:=growslice_fits (by omega) hby2
 have fin:∀ (old:Nat) (res:Result Value),res=.ok (.slice (some ⟨w.heap.size,0,none⟩) (l.length+1) (grownCap w (l.length+1) old e)) (w.drew.alloc (.cells (dss.flatten.toArray++cs.toArray++Builtin.zeroCells z.cells (grownCap w (l.length+1) old e-(l.length+1))) e)) →
   (Builtin.append_ #[t,t] ty #[.slice a l.length l.length,.slice (At b 0) 1 1]).run C.P w=res →
   ∃ v w' G' L',(execOp (WX fr) o).run C.P w=.ok (.value v) w'∧St C.w0 C.G0 w' G' L'∧Kx C ops Q rest ((d,v)::fr) G' L':=by
  intro old res hres hap
  have hlen:(l++[x]).length=l.length+1:=by simp
  refine ⟨_,_,G,_,by rw [hrun,hap,hres];rfl,(hw.drew).alloc _ e,?_⟩
  rw [← hlen]
  refine h _ _ _ ⟨⟨dss++[cs],by simp [d1],?_,?_⟩⟩
  ·
   intro k y hy
   by_cases hlt:k<l.length
   ·
    rw [Hk hlt] at hy
    obtain ⟨cs',p1,p2⟩:=d2 k y hy
    exact ⟨cs',by rw [Hk (by omega)];exact p1,p2⟩
   ·
    rw [Hj (by omega)] at hy
    have hk:k-l.length=0:=by
     have:=(Ha.1 hy).1;simp at this;omega
    rw [hk] at hy
    obtain rfl:x=y:=by simpa using hy
    exact ⟨cs,by rw [Hj (by omega),d1,hk];rfl,hx⟩
  ·
   rw [List.flatten_append,hlen,← hsz]
   refine ⟨by rw [List.length_append,r1];simp [hnl,Nat.add_mul],grownCap_ge w _ old e,?_,.inr ⟨w.heap.size,0,(Builtin.zeroCells z.cells (grownCap w (l.length+1) old e-(l.length+1))).toList,rfl,by simp,?_⟩⟩
   ·
    have:=grownCap_le_maxLen w (l.length+1) old e (by simp only [maxLen];omega)
    simp only [maxLen] at this;omega
   · rw [Array.length_toList,Z3,hzs]
 cases a with
 | none =>
  have h0:l.length=0:=hr.nil rfl
  have hl:l=[]:=Hd h0
  subst hl
  have hd0:dss=[]:=Hd (by simpa using d1)
  subst hd0
  have hap:=run_append_nil (P:=C.P) w t ty e inf z hu hi hz ⟨b,0,none⟩ 1 1 cs hnl hnews (by omega) (by omega) (by have h9:=hby2;simp only [List.length_nil,Hp] at h9;omega)
  exact fin 0 _ (by simp) hap
 | some ad =>
  have hap:=run_append_grow (P:=C.P) w t ty e inf z hu hi hz ad l.length l.length dss.flatten r1 (r3 ad rfl) ⟨b,0,none⟩ 1 1 cs hnl hnews (by omega) (by omega) hnx
  exact fin l.length _ rfl hap
def Shr (r r':List Kh):Prop:=r'=r∨∃ b off F m,r=[Sg b off F]∧(r'=[Sg b (off+m) (F.drop m)]∨r'=[Sg b off []])
theorem St.shr {w0 w:World} {G0 G:J4} {L:List (List Kh)} {i:Nat} {r r':List Kh} (h:St w0 G0 w G L) (hi:L[i]? = some r) (hs:Shr r r'):St w0 G0 w G (L.set i r'):=by
 rcases hs with rfl | ⟨b,off,F,m,rfl,hr⟩
 ·
  have:L.set i r'=L:=by
   obtain ⟨hi',he⟩:=Ha.1 hi
   rw [← he];exact List.set_getElem_self hi'
  rw [this];exact h
 ·
  obtain ⟨A,B,rfl,hset⟩:=YS hi
  rw [hset]
  have hm:(Sg b off F)∈(A++[Sg b off F]::B).flatten:=by simp
  obtain ⟨hB,hc,_,_⟩:=h.own _ hm
  simp only at hB hc
  refine St.upd h (Below.refl _ _) (fun _ _ _ hv _=>⟨hv,rfl⟩) (fun _ _ hx=>hx) (fun _ _ hx _ _=>hx) ?_ ?_ ?_
  ·
   intro s hs
   rcases hr with rfl | rfl
   ·
    obtain rfl:s=_:=by simpa using hs
    refine ⟨hB,fun j v hv=>?_,by simp,by simp⟩
    simp only [List.getElem?_drop] at hv
    have:=hc _ _ hv
    rw [show off+(m+j)=off+m+j by omega] at this
    exact this
   ·
    obtain rfl:s=_:=by simpa using hs
    exact ⟨hB,by simp,by simp,by simp⟩
  ·
   intro s hs b' o hh
   rcases hr with rfl | rfl
   ·
    obtain rfl:s=_:=by simpa using hs
    obtain ⟨e,h1,h2⟩:=hh
    simp only [Kh.len,List.length_drop] at e h1 h2
    exact .inl ⟨_,Hc.2 rfl,e,by simp only;omega,by simp only [Kh.len];omega⟩
   ·
    obtain rfl:s=_:=by simpa using hs
    obtain ⟨e,h1,h2⟩:=hh
    simp [Kh.len] at h2;simp only at h1;omega
  · rcases hr with rfl | rfl <;> simp
theorem J1.dropX {α:Type} {E:YK α} {G:J4} {a:Option Addr} {cap:Nat} {l:List α} {r:List Kh} (h:J1 E G a cap l r) (k:Nat) (hk:k≤l.length) :
  ∃ r',J1 E G (if cap=k then a else a.map (·.add (k*E.sz))) (cap-k) (l.drop k) r'∧Shr r r':=by
 obtain ⟨css,c1,c2,c3⟩:=h.ex
 have hsz:=Jab c1 c2
 have hd:(css.drop k).flatten=css.flatten.drop (k*E.sz):=by
  have h1:css.flatten=(css.take k).flatten++(css.drop k).flatten:=by rw [← List.flatten_append,List.take_append_drop]
  have h2:(css.take k).flatten.length=k*E.sz:=by
   rw [QO (fun cs hc=>hsz cs (List.mem_of_mem_take hc)),List.length_take];congr 1;omega
  rw [h1,← h2,List.drop_left]
 have hA:(css.drop k).length=(l.drop k).length∧∀ (i:Nat) x,(l.drop k)[i]? = some x→∃ cs,(css.drop k)[i]? = some cs∧E.R G cs x:=by
  refine ⟨by simp [c1],fun i x hx=>?_⟩
  rw [List.getElem?_drop] at hx ⊢
  exact c2 _ x hx
 have hlen:(css.drop k).flatten.length=(l.drop k).length*E.sz:=by
  rw [QO (fun cs hc=>hsz cs (List.mem_of_mem_drop hc)),hA.1]
 have hle:=c3.le;have hmx:=c3.max
 rcases c3.shape with ⟨rfl,rfl,rfl⟩ | ⟨b,off,spare,rfl,rfl,hsp⟩
 ·
  have hk0:k=0:=by omega
  subst hk0
  exact ⟨[],by simpa using h,.inl rfl⟩
 ·
  by_cases e:cap=k
  ·
   rw [if_pos e]
   have hl0:l.drop k=[]:=Hn (by omega)
   have hc0:css.drop k=[]:=Hn (by omega)
   refine ⟨[Sg b off []],⟨⟨css.drop k,hA.1,hA.2,⟨hlen,by rw [hl0];simp,by omega,.inr ⟨b,off,[],rfl,?_,?_⟩⟩⟩⟩,.inr ⟨b,off,_,0,rfl,.inr rfl⟩⟩
   · rw [hc0];simp
   · rw [hl0,e];simp
  ·
   rw [if_neg e]
   refine ⟨[Sg b (off+k*E.sz) ((css.flatten++spare).drop (k*E.sz))],⟨⟨css.drop k,hA.1,hA.2,⟨hlen,by simp;omega,by omega,.inr ⟨b,off+k*E.sz,spare,?_,?_,?_⟩⟩⟩⟩,.inr ⟨b,off,_,k*E.sz,rfl,.inl rfl⟩⟩
   · simp [WN]
   ·
    rw [hd,List.drop_append_of_le_length]
    rw [QO hsz,c1];exact Nat.mul_le_mul_right _ hk
   · rw [hsp,List.length_drop];congr 1;omega
theorem tq_shr {e:Exit} (i:Nat) {r r':List Kh} (hs:Shr r r') (h:TQ C Q e fr G (L.set i r')) (hi:L[i]? = some r:=by rfl):TQ C Q e fr G L:=fun a w ha hw=>h a w ha (hw.shr hi hs)
end
end Go.Tx
namespace Go.Proofs.YteaampgpgokjmaaGreatDoor
open Go.Tx
open Go.Proofs
open _root_.List renaming forall_mem_nil → Ha, length_append → Hc, length_cons → He, mem_append → Hf, length_nil → Hi, take_add_one → Hj, take_of_length_le → Hk, length_map → Hl, length_take → Hm, length → Hn, getElem?_eq_getElem → Hp, getElem?_eq_some_iff → Hq, mem_of_getElem? → Hr, mem_cons → Ht, any_eq_true → Hv, getElem?_append_left → Hw, length_set → Hx, append_assoc → Hz, foldl_append → HA, length_filter_le → HB, mem_of_mem_take → HD, replicate → HE, getElem?_drop → HF, getElem?_append_right → HH, map_cons → HI, getElem?_cons_zero → HK, getElem?_set_self → HL, nodup_cons → HM, mem_filter → HN
open IntKind renaming i64 → Hb
open _root_.Decidable renaming not_not → Hd
open _root_.Nat renaming le_trans → Hg, le_of_ble_eq_true → Hh, zero_le → Hs, beq → Hu, lt_of_lt_of_le → HG
open IntWalk renaming i64_in → Ho
open _root_.Bool renaming not_eq_false → Hy, or_eq_false_iff → HC, eq_false_or_eq_true → HJ
open _root_.Int renaming emod_add_mul_ediv → HO
open _root_.Option renaming some → HP
def Ws (l:List (List J2)):List J2:=l[l.length-1]?.getD []
theorem Jmo {l:List (List J2)} {k:Nat} {x:List J2} (hk:k=l.length-1) (h:l[k]? = some x):x=Ws l:=by unfold Ws;rw [← hk,h];rfl
def KR (l:List J2):List (List UInt8):=l.map fun x=>x.name
def Qv (l:List W8):List (List UInt8):=l.map fun x=>x.name
def V2 (c:Kz) (m:List (List UInt8)):List (List UInt8):=KR (Ws c.books)++Qv c.queue.wait++m
def WY (c:Kz) (m:List (List UInt8)):Int:=(nn (V2 c m):Int)
theorem Jga {l:List J2} {i:Nat} {x:J2} (h:l[i]? = some x):KR (l.take (i+1))=KR (l.take i)++[x.name]:=by unfold KR;rw [Hj,h];simp
theorem Jgb {l:List W8} {i:Nat} {x:W8} (h:l[i]? = some x):Qv (l.take (i+1))=Qv (l.take i)++[x.name]:=by unfold Qv;rw [Hj,h];simp
theorem JnN {l:List (List UInt8)} {i:Nat} {x:List UInt8} (h:l[i]? = some x):l.take (i+1)=l.take i++[x]:=by rw [Hj,h];rfl
def Z8 (n most:Int):Bool:=decide (n ≥ 1) && decide (n≤most)
theorem Vy {n most:Int}:Z8 n most=true ↔ 1≤n∧n≤most:=by unfold Z8;simp
def K0 (root a:Int):JU×Int:=if ¬ JL ⟨0,root,0,a⟩=0 then (Zr,JL ⟨0,root,0,a⟩) else (⟨0,root,0,a⟩,0)
theorem V3 {r a:Int} (hr:0≤r∧r<18446744073709551616) (ha:-9223372036854775808≤a∧a<9223372036854775808):(-9223372036854775808≤(K0 r a).1.epoch∧(K0 r a).1.epoch<9223372036854775808)∧(0≤(K0 r a).1.root∧(K0 r a).1.root<18446744073709551616)∧(0≤(K0 r a).1.prev∧(K0 r a).1.prev<18446744073709551616)∧(-9223372036854775808≤(K0 r a).1.at_∧(K0 r a).1.at_<9223372036854775808):=by
 unfold K0 Zr;split <;> simp <;> omega
theorem JhB (l:List J2):(KR l).length=l.length:=by simp [KR]
theorem JhC (l:List W8):(Qv l).length=l.length:=by simp [Qv]
def ZY:Kz:=⟨⟨0,[]⟩,0,0,0,[],[]⟩
def J3 (most batch every:Int):Kz×Int:=if Z8 most 30=false∨Z8 batch 30=false∨Z8 every 1000=false then (ZY,4) else (⟨⟨most,[]⟩,batch,every,0,[(K0 (JX [] []).1 0).1],[[]]⟩,0)
def Ys:List JU→List (List J2)→Int
 | _,[]=>0
 | hs,l::bs=>if ¬ (JX l []).2=0 then (JX l []).2 else if ¬ (JX l []).1=(WS hs).root then 8 else Ys (hs.drop 1) bs
def QF (c:Kz):Int:=if (¬ (WS c.heads).epoch=0∨¬ (c.books.length:Int)=c.heads.length)∨(WW c.heads).at_ > c.now then 3 else Ys c.heads c.books
theorem JbJ {hs:List JU} {bs:List (List J2)} {i:Nat} {x:List J2} (hx:bs[i]? = some x):Ys (hs.drop i) (bs.drop i)=if ¬ (JX x []).2=0 then (JX x []).2 else if ¬ (JX x []).1=(hs[i]?.getD Zr).root then 8 else Ys (hs.drop (i+1)) (bs.drop (i+1)):=by
 obtain ⟨hl,he⟩:=Hq.1 hx
 rw [List.drop_eq_getElem_cons hl,he]
 show (if _ then _ else if _ then _ else _)=_
 have:WS (hs.drop i)=hs[i]?.getD Zr:=by unfold WS;rw [HF];simp
 rw [this,List.drop_drop]
theorem JiO {hs:List JU} {bs:List (List J2)} {i:Nat} {x:List J2} {h:JU} (hx:bs[i]? = some x) (hh:hs[i]? = some h) (h0:(JX x []).2=0) (h1:(JX x []).1=h.root):Ys (hs.drop i) (bs.drop i)=Ys (hs.drop (i+1)) (bs.drop (i+1)):=by
 rw [JbJ hx,if_neg (by omega),hh,if_neg (by simpa using h1)]
theorem Jkd {hs:List JU} {bs:List (List J2)} {i:Nat} {x:List J2} (hx:bs[i]? = some x) (h0:¬ (JX x []).2=0):Ys (hs.drop i) (bs.drop i)=(JX x []).2:=by
 rw [JbJ hx,if_pos h0]
theorem Jke {hs:List JU} {bs:List (List J2)} {i:Nat} {x:List J2} {h:JU} (hx:bs[i]? = some x) (hh:hs[i]? = some h) (h0:(JX x []).2=0) (h1:¬ (JX x []).1=h.root):Ys (hs.drop i) (bs.drop i)=8:=by
 rw [JbJ hx,if_neg (by omega),hh,if_pos (by simpa using h1)]
theorem Jfw:∀ (bs:List (List J2)) (hs:List JU),Ys hs bs=0 ↔ ∀ (k:Nat) x,bs[k]? = some x→(JX x []).2=0∧(JX x []).1=(hs[k]?.getD Zr).root
 | [],hs=>by simp [Ys]
 | l::bs,hs=>by
  have ih:=Jfw bs (hs.drop 1)
  have e:WS hs=hs[0]?.getD Zr:=rfl
  unfold Ys
  constructor
  ·
   intro h
   split at h
   · contradiction
   split at h
   · cases h
   ·
    rename_i h1 h2
    intro k x hx
    cases k with
    | zero=>simp only [HK,HP.injEq] at hx;subst hx;exact ⟨Hd.1 h1,by rw [← e];exact Hd.1 h2⟩
    | succ k =>
     have:=ih.1 h k x (by simpa using hx)
     rw [HF,Nat.add_comm] at this;exact this
  ·
   intro h
   obtain ⟨h1,h2⟩:=h 0 l rfl
   rw [if_neg (by omega),if_neg (by rw [e];omega)]
   refine ih.2 fun k x hx=>?_
   rw [HF,Nat.add_comm]
   exact h (k+1) x (by simpa using hx)
def Kc (c:Kz):Int:=if ¬ Kj c.queue=0 then Kj c.queue else if (Z8 c.batch 30=false∨Z8 c.every 1000=false)∨c.now<0∨c.now > 1000000000 then 4 else if ¬ (Kd c.heads).1=0 then (Kd c.heads).1 else if ¬ QF c=0 then QF c else if WY c [] > 24 then 7 else 0
structure W6 (c:Kz):Prop where
 queue:Kj c.queue=0
 batch:1≤c.batch∧c.batch≤30
 every:1≤c.every∧c.every≤1000
 now:0≤c.now∧c.now≤1000000000
 chain:Zf c.heads
 first:(WS c.heads).epoch=0
 len:c.books.length=c.heads.length
 at_:(WW c.heads).at_≤c.now
 root:∀ (k:Nat) x,c.books[k]? = some x→(JX x []).2=0∧(JX x []).1=(c.heads[k]?.getD Zr).root
 names:nn (V2 c [])≤24
theorem Jau {c:Kz}:QF c=0 ↔ (WS c.heads).epoch=0∧c.books.length=c.heads.length∧(WW c.heads).at_≤c.now∧∀ (k:Nat) x,c.books[k]? = some x→(JX x []).2=0∧(JX x []).1=(c.heads[k]?.getD Zr).root:=by
 unfold QF
 rw [← Jfw]
 split
 ·
  rename_i h
  refine ⟨fun e=>(by cases e),fun ⟨a,b,d,_⟩=>?_⟩
  rcases h with (h | h) | h
  · exact absurd a h
  · omega
  · omega
 ·
  rename_i h
  simp only [not_or,Hd] at h
  refine ⟨fun e=>⟨h.1.1,by have:=h.1.2;omega,by omega,e⟩,fun e=>e.2.2.2⟩
theorem Zj {c:Kz}:Kc c=0 ↔ W6 c:=by
 unfold Kc
 constructor
 ·
  intro h
  split at h
  · contradiction
  split at h
  · cases h
  split at h
  · contradiction
  split at h
  · contradiction
  split at h
  · cases h
  ·
   rename_i h1 h2 h3 h4 h5
   simp only [not_or,Hy] at h2
   obtain ⟨⟨a1,a2⟩,a3,a4⟩:=h2
   obtain ⟨b1,b2,b3,b4⟩:=Jau.1 (Hd.1 h4)
   unfold WY at h5
   exact ⟨Hd.1 h1,Vy.1 a1,Vy.1 a2,⟨by omega,by omega⟩,Qe.1 (Hd.1 h3),b1,b2,b3,b4,by omega⟩
 ·
  intro h
  have e1:=Vy.2 h.batch
  have e2:=Vy.2 h.every
  have e3:=Jau.2 ⟨h.first,h.len,h.at_,h.root⟩
  have e4:=Qe.2 h.chain
  have e5:=h.names
  have e6:=h.now
  rw [if_neg (by rw [h.queue];simp),if_neg (by rw [e1,e2];simp;omega),if_neg (by rw [e4];simp),if_neg (by rw [e3];simp),if_neg (by unfold WY;omega)]
theorem Jkf {c:Kz} {x:JU} (h:(c.heads[0]? = some x∧¬ x.epoch=0)∨¬ (c.books.length:Int)=c.heads.length∨(∃ y,c.heads[c.heads.length-1]? = some y∧y.at_ > c.now)):QF c=3:=by
 unfold QF
 rw [if_pos]
 rcases h with ⟨h,h2⟩ | h | ⟨y,h,h2⟩
 · rw [WT h] at h2;exact .inl (.inl h2)
 · exact .inl (.inr h)
 · rw [WD rfl h] at h2;exact .inr h2
theorem JnO {c:Kz} {x y:JU} (hx:c.heads[0]? = some x) (h1:x.epoch=0) (h2:(c.books.length:Int)=c.heads.length) (hy:c.heads[c.heads.length-1]? = some y) (h3:¬ y.at_ > c.now):QF c=Ys c.heads c.books:=by
 unfold QF
 rw [WT hx] at h1;rw [WD rfl hy] at h3
 rw [if_neg]
 rintro ((h | h) | h)
 · exact h h1
 · exact h h2
 · exact h3 h
theorem JeT {c:Kz} (hq:Kj c.queue=0) (hc:(Kd c.heads).1=0) (hb:QF c=0):0<c.books.length∧c.books.length≤1000∧(Ws c.books).length≤1000∧c.queue.wait.length≤1000:=by
 have h1:=K2.1 hq
 have h2:=Qe.1 hc
 obtain ⟨_,b2,_,b4⟩:=Jau.1 hb
 have l1:=h2.len1;have l2:=h2.len
 have hl:c.books.length-1<c.books.length:=by omega
 have e:c.books[c.books.length-1]? = some (Ws c.books):=by unfold Ws;rw [Hp hl];rfl
 have:=(Jcy (b4 _ _ e).1).1.len
 omega
def KC (c:Kz) (epoch:Int):List J2×Int:=if ¬ Kc c=0 then ([],Kc c) else if epoch<0∨epoch ≥ c.books.length then ([],4) else (c.books[epoch.toNat]?.getD [],0)
theorem Jde {c:Kz} {e:Int} (h:(KC c e).2=0):W6 c∧0≤e∧e<c.books.length∧c.books[e.toNat]? = some (KC c e).1:=by
 unfold KC at h ⊢
 split at h
 · contradiction
 split at h
 · cases h
 ·
  rename_i h1 h2
  rw [if_neg h1,if_neg h2]
  have hl:e.toNat<c.books.length:=by omega
  refine ⟨Zj.1 (Hd.1 h1),by omega,by omega,?_⟩
  simp only
  rw [Hp hl];rfl
theorem JnP (c:Kz) (e:Int):(KC c e).1.length≤24:=by
 by_cases h:(KC c e).2=0
 ·
  obtain ⟨ok,_,_,hx⟩:=Jde h
  exact (Jcy (ok.root _ _ hx).1).1.len
 ·
  unfold KC at h ⊢
  split
  · simp
  split
  · simp
  · rename_i h1 h2;rw [if_neg h1,if_neg h2] at h;exact absurd rfl h
def Jfx:Go.Shelf.Ren:=⟨fun x=>if Hu x 7 then 210 else if Hu x 8 then 209 else if Hu x 10 then 248 else if Hu x 11 then 247 else 0,fun x=>if Hu x 0 then 0 else if Hu x 4 then 4 else if Hu x 23 then 292 else if Hu x 24 then 22 else if Hu x 26 then 9 else if Hu x 27 then 294 else if Hu x 28 then 295 else if Hu x 33 then 139 else if Hu x 3 then 4 else 0,fun x=>x⟩
theorem lay_n7:SlLaysZ.n7 Tryz.prog Jfx:={
 mixed:=rfl,
 f7:=⟨Tryz.f210.name,by decide,Tryz.func210.trans (by kernel_rfl)⟩,
 f10:=⟨Tryz.f248.name,by decide,Tryz.func248.trans (by kernel_rfl)⟩,
 t0:=by kernel_rfl,
 a0:=by intro w;kernel_rfl,
 z0:=by intro w;kernel_rfl,
 v0:=by intro w;kernel_rfl,
 t4:=by kernel_rfl,
 a4:=by intro w;kernel_rfl,
 z4:=by intro w;kernel_rfl,
 v4:=by intro w;kernel_rfl,
 t23:=by kernel_rfl,
 a23:=by intro w;kernel_rfl,
 z23:=by intro w;kernel_rfl,
 v23:=by intro w;kernel_rfl,
 t26:=by kernel_rfl,
 a26:=by intro w;kernel_rfl,
 z26:=by intro w;kernel_rfl,
 v26:=by intro w;kernel_rfl,
 t27:=by kernel_rfl,
 a27:=by intro w;kernel_rfl,
 z27:=by intro w;kernel_rfl,
 v27:=by intro w;kernel_rfl,
 t28:=by kernel_rfl,
 a28:=by intro w;kernel_rfl,
 z28:=by intro w;kernel_rfl,
 v28:=by intro w;kernel_rfl,
 t33:=by kernel_rfl,
 a33:=by intro w;kernel_rfl,
 z33:=by intro w;kernel_rfl,
 v33:=by intro w;kernel_rfl }
theorem lay_n8:SlLaysZ.n8 Tryz.prog Jfx:={
 mixed:=rfl,
 f8:=⟨Tryz.f209.name,by decide,Tryz.func209.trans (by kernel_rfl)⟩,
 f11:=⟨Tryz.f247.name,by decide,Tryz.func247.trans (by kernel_rfl)⟩,
 t0:=by kernel_rfl,
 a0:=by intro w;kernel_rfl,
 z0:=by intro w;kernel_rfl,
 v0:=by intro w;kernel_rfl,
 t24:=by kernel_rfl,
 a24:=by intro w;kernel_rfl,
 z24:=by intro w;kernel_rfl,
 v24:=by intro w;kernel_rfl,
 t26:=by kernel_rfl,
 a26:=by intro w;kernel_rfl,
 z26:=by intro w;kernel_rfl,
 v26:=by intro w;kernel_rfl,
 t28:=by kernel_rfl,
 a28:=by intro w;kernel_rfl,
 z28:=by intro w;kernel_rfl,
 v28:=by intro w;kernel_rfl,
 i26:=by kernel_rfl }
theorem Jo7:SlLaysZ.n10 Tryz.prog Jfx:={
 mixed:=rfl,
 f10:=⟨Tryz.f248.name,by decide,Tryz.func248.trans (by kernel_rfl)⟩,
 t0:=by kernel_rfl,
 a0:=by intro w;kernel_rfl,
 z0:=by intro w;kernel_rfl,
 v0:=by intro w;kernel_rfl,
 t4:=by kernel_rfl,
 a4:=by intro w;kernel_rfl,
 z4:=by intro w;kernel_rfl,
 v4:=by intro w;kernel_rfl,
 t23:=by kernel_rfl,
 a23:=by intro w;kernel_rfl,
 z23:=by intro w;kernel_rfl,
 v23:=by intro w;kernel_rfl,
 t26:=by kernel_rfl,
 a26:=by intro w;kernel_rfl,
 z26:=by intro w;kernel_rfl,
 v26:=by intro w;kernel_rfl,
 t33:=by kernel_rfl,
 a33:=by intro w;kernel_rfl,
 z33:=by intro w;kernel_rfl,
 v33:=by intro w;kernel_rfl }
theorem Jgc (G:J4) (root:Int) (hw_root:rU root) (a:Int) (hw_a:rI a) :Q4 96 #[U root,I a] G (.tuple #[.agg #[I (((K0 root a).1).epoch),U (((K0 root a).1).root),U (((K0 root a).1).prev),I (((K0 root a).1).at_)],I ((K0 root a).2)]):=by
 refine JR Tryz.func96 18 [(0,U root),(1,I a)] rfl (fun w0 G0=>?_)
 refine Jf (Jd (Jv 4 #[I 0,U 0,U 0,I 0] 43 (fun b1=>Jc [0] [] (Je (Jb (Jf (Jd (Jc [0,0,0] [(10,.agg #[I 0,U root,U 0,I a])] (Jv 6 #[I 0,U 0,U 0,I 0] 43 (fun b2=>JV [3] [] [[Sg b2 0 [I 0,U root,U 0,I a]],[Sg b1 0 [I 0,U 0,U 0,I 0]]] (Je (Jb (Jf (Jf (Jd (Jc [2] [(11,.agg #[I 0,U root,U 0,I a])] (Jm 12 (I (JL (⟨0,root,0,a⟩:JU))) (ZV (⟨0,root,0,a⟩:JU) G) (Jc [0] [(7,I (JL (⟨0,root,0,a⟩:JU)))] (Je (Jb (Jg [0,0] [(14,Bo (!decide (JL (⟨0,root,0,a⟩:JU)=0)))] (Jl (!decide (JL (⟨0,root,0,a⟩:JU)=0)) (fun h1=>?_) (fun h1=>?_)))))))))))))))))))))))
 refine Jg [0,0,5,0] [(5,I (JL (⟨0,root,0,a⟩:JU)))] (Jn (Jj (Jo [1,0] [.agg #[I 0,U 0,U 0,I 0],I (JL (⟨0,root,0,a⟩:JU))] (Jx (Jh _) ?_))))
 have hf_:(K0 root a)=((⟨0,0,0,0⟩:JU),(JL (⟨0,root,0,a⟩:JU))):=by
  unfold K0 Zr;(rw [if_pos ‹_›];done)
 · (try rw [hf_]);(simp only [Qx];done)
 refine Jq (Jb (QA [2,5,0] [(5,I 0)] [[Sg b2 0 [I 0,U root,U 0,I a]],[Sg b1 0 [I 0,U root,U 0,I a]]] (Jn (Jo [1,0] [.agg #[I 0,U root,U 0,I a],I 0] (Jx (Jh _) ?_)))))
 have hf_:(K0 root a)=((⟨0,root,0,a⟩:JU),0):=by
  unfold K0 Zr;(rw [if_neg (by omega)];done)
 · (try rw [hf_]);(simp only [Qx];done)
theorem Ja3 (G:J4) (n:Int) (most:Int) :Q4 94 #[I n,I most] G (Bo (Z8 n most)):=by
 refine JR Tryz.func94 12 [(0,I n),(1,I most)] rfl (fun w0 G0=>?_)
 refine Jg [0] [] (Jf (Jd (Jc [0,0,0] [(7,Bo (decide (n ≥ 1)))] (Ks (decide (n ≥ 1)) [7] [0,0,0,0] [1,1,1,0] (fun bb=>[(11,Bo (bb && (decide (n≤most))))]) (Jc [0] [(4,Bo ((decide (n ≥ 1)) && (decide (n≤most))))] (Je (Jb (Jn (Jo [0] [Bo ((decide (n ≥ 1)) && (decide (n≤most)))] (Jx (Jh _) (congrArg Bo (?_:(Z8 n most)=((decide (n ≥ 1)) && (decide (n≤most)))).symm)))))))))))
 rfl
theorem Jfy (G:J4) (vs_c:List Value) (c:Kz) (h_c:Jal.R G vs_c c) (hb:0<c.books.length) (hb2:c.books.length≤1000):Yw 164 #[.agg vs_c.toArray] G [] (fun u G' L'=>∃ (a1:Option Addr) (c2:Nat),u=Sl a1 ((Ws c.books).length) c2∧(RS QD G' a1 c2 (Ws c.books))∧L'=[]):=by
 obtain ⟨a1,c1,a2,c2,a3,c3,rfl,_,_,_,_,_,_,hs3⟩:=h_c
 refine JR Tryz.func164 11 [(0,(Qt c a1 c1 a2 c2 a3 c3))] rfl (fun w0 G0=>?_)
 refine Jf (Jd (Jv 1 #[I c.queue.most,Sl a1 c.queue.wait.length c1,I c.batch,I c.every,I c.now,Sl a2 c.heads.length c2,Sl a3 c.books.length c3] 60 (fun b1=>Jc [0] [] (Je (Jb (Jf (Jd (Jc [0,2,0,2,0,0] [(4,Sl a3 c.books.length c3),(8,I (Hb.wrap ((c.books.length:Int)-1)))] ?_))))))))
 have e1:Hb.wrap ((c.books.length:Int)-1)=((c.books.length-1:Nat):Int):=(Ho _ (by omega)).trans (show (c.books.length:Int)-1=((c.books.length-1:Nat):Int) by omega)
 refine KU 8 (I ((c.books.length-1:Nat):Int)) (congrArg I e1) ?_
 clear e1
 obtain ⟨b2,o1,rfl⟩:=RS.addr hs3 (k:=c.books.length-1) (by omega)
 obtain ⟨x1,hx1⟩:=Wf (l:=c.books) (k:=c.books.length-1) (by omega)
 obtain ⟨_,⟨a4,c4,rfl,hs4⟩,hc1⟩:=RS.get hs3 hx1
 refine J5 (b:=b2) (off:=o1) (len:=c.books.length) (cap:=c3) (ik:=.i64) 9 44 1 (c.books.length-1) J8 (JZ 10 44 (cs:=[Sl a4 x1.length c4]) 0 (Sl a4 x1.length c4) hc1 (Jc [0] [(2,Sl a4 x1.length c4)] (Je (Jb (Jn ?_)))))
 have hf1:Ws c.books=x1:=by
  exact (Jmo rfl hx1).symm
 refine Jo [0] [Sl a4 x1.length c4] (JA [] (Jh _) ?_)
 rw [hf1]
 try dsimp only
 exact ⟨a4,c4,rfl,hs4,rfl⟩
theorem JbK (G:J4) (vs_c:List Value) (c:Kz) (h_c:Jal.R G vs_c c) (a_more:Option Addr) (c_more:Nat) (more:List (List UInt8)) (h_more:RS ES G a_more c_more more) (hb:0<c.books.length) (hb2:c.books.length≤1000) (hn1:(Ws c.books).length≤1000) (hn2:c.queue.wait.length≤1000) (hn3:more.length≤1000):Q4 155 #[.agg vs_c.toArray,Sl a_more more.length c_more] G (I (WY c more)):=by
 obtain ⟨a1,c1,a2,c2,a3,c3,rfl,w1,hs1,w2,w3,w4,hs2,hs3⟩:=h_c
 refine JR Tryz.func155 49 [(0,(Qt c a1 c1 a2 c2 a3 c3)),(1,Sl a_more more.length c_more)] rfl (fun w0 G0=>?_)
 refine Jf (Jd (Jv 2 #[I c.queue.most,Sl a1 c.queue.wait.length c1,I c.batch,I c.every,I c.now,Sl a2 c.heads.length c2,Sl a3 c.books.length c3] 60 (fun b1=>Jc [0] [] (Je (Jb (Jf (Jd (Jka 12 9 4 (fun b2 ob1 hm1=>Jc [0] [(5,.map (some b2))] (Je (Jb (Jf (Jf (Jd (Jc [4] [(13,(Qt c a1 c1 a2 c2 a3 c3))] (JI 14 (Jfy G (KB c a1 c1 a2 c2 a3 c3) c (⟨a1,c1,a2,c2,a3,c3,rfl,w1,hs1,w2,w3,w4,hs2,hs3⟩) ‹_› ‹_›) (fun v G1 L1 hl1 hp=>?_)))))))))))))))))
 obtain ⟨a4,c4,rfl,hs4,rfl⟩:=hp
 refine Jc [0,0] [(15,I ((Ws c.books).length:Int)),(16,I 0)] (Je (Jb (Jy ?_)))
 have hlm_h_more:more.length≤9223372036854775807:=Hg (h_more).le (h_more).max
 have hlm_hs4:(Ws c.books).length≤9223372036854775807:=Hg (hs4).le (hs4).max
 refine Qh (σ:=Nat×Obj) (fun q_=>(q_.1≤(Ws c.books).length)∧(JdS Tryz.prog 9 4 q_.2 q_.1 (Dn (KR ((Ws c.books).take q_.1))))) (fun q_=>[(1,Sl a_more more.length c_more),(2,Pt b1 0),(5,.map (some b2)),(14,Sl a4 ((Ws c.books).length) c4),(15,I ((Ws c.books).length:Int)),(16,I (q_.1:Int))]) (fun q_=>G1) (fun q_=>[[Ob b2 q_.2],[Sg b1 0 (KB c a1 c1 a2 c2 a3 c3)]]) (fun q_=>(Ws c.books).length-q_.1) (0,ob1) ⟨(by (try dsimp only);exact Hs _),(by (try dsimp only);exact hm1)⟩ (fun q_ hs=>?_)
 obtain ⟨i,ob1⟩:=q_
 obtain ⟨hi,hm1⟩:=hs
 dsimp only at hi hm1
 dsimp only
 refine Jg [0] [(17,Bo (decide ((i:Int)<((Ws c.books).length:Int))))] (Jf (Jl (decide ((i:Int)<((Ws c.books).length:Int))) (fun h1=>?_) (fun h1=>?_)))
 refine Jq (Jb (Jf (Jy (Jf (Jd ?_)))))
 obtain ⟨b3,o1,rfl⟩:=RS.addr hs4 (k:=i) (by omega)
 obtain ⟨x1,hx1⟩:=Wf (l:=Ws c.books) (k:=i) (by omega)
 obtain ⟨_,⟨rfl,w5,_⟩,hc1⟩:=RS.get hs4 hx1
 refine J5 (b:=b3) (off:=o1) (len:=(Ws c.books).length) (cap:=c4) (ik:=.i64) 18 111 2 i J8 (JZ 19 111 (cs:=[Sr x1.name,Sr x1.value]) 0 (.agg #[Sr x1.name,Sr x1.value]) hc1 (Jv 7 #[Sr ([]),Sr ([])] 111 (fun b4=>JV [3] [] [[Sg b4 0 [Sr x1.name,Sr x1.value]],[Ob b2 ob1],[Sg b1 0 (KB c a1 c1 a2 c2 a3 c3)]] (Je (Jb (Jd (Jc [0,0,2] [(20,.map (some b2)),(22,Sr x1.name)] (JdT (n:=i) (D:=Dn (KR ((Ws c.books).take i))) (s:=x1.name) 1 292 9 4 true hm1 (Go.Maps.string_keyed (by kernel_rfl)) (by kernel_rfl) (by kernel_rfl) (by kernel_rfl) (Hg w5 (by decide)) (HG (m:=1000000) J8 (by decide)) (fun ob2 hm2=>?_)))))))))
 rw [← JeR] at hm2
 exact Je (JN (Jb (Jd (Jc [0,0] [(16,I (Hb.wrap ((i:Int)+1)))] (Kr 16 ((i:Int)+1) J8 (Je (Qr [[Ob b2 ob2],[Sg b1 0 (KB c a1 c1 a2 c2 a3 c3)]] (Qi (i+1,ob2) ⟨J8,(by rw [Jga hx1];exact hm2)⟩ (by (try dsimp only);omega)))))))))
 refine KW (JY (J9 (JT (Jb (Jf (Jg [0,0,4,0,0] [(26,Sl a1 c.queue.wait.length c1),(27,I (c.queue.wait.length:Int)),(28,I 0)] (Jy ?_)))))))
 have hlm_h_more:more.length≤9223372036854775807:=Hg (h_more).le (h_more).max
 have hlm_hs1:c.queue.wait.length≤9223372036854775807:=Hg (hs1).le (hs1).max
 refine Qh (σ:=Nat×Obj) (fun q_=>(q_.1≤c.queue.wait.length)∧(JdS Tryz.prog 9 4 q_.2 ((Ws c.books).length+q_.1) (Dn (KR (Ws c.books)++Qv (c.queue.wait.take q_.1))))) (fun q_=>[(1,Sl a_more more.length c_more),(5,.map (some b2)),(26,Sl a1 c.queue.wait.length c1),(27,I (c.queue.wait.length:Int)),(28,I (q_.1:Int))]) (fun q_=>G1) (fun q_=>[[Ob b2 q_.2],[Sg b1 0 (KB c a1 c1 a2 c2 a3 c3)]]) (fun q_=>c.queue.wait.length-q_.1) (0,ob1) ⟨(by (try dsimp only);exact Hs _),(by (try dsimp only);have e_:=Hk (i:=i) (l:=Ws c.books) (by omega);have e2_:i=(Ws c.books).length:=(by omega);have q_:=hm1;rw [e_] at q_;rw [e2_] at q_;simpa [Qv] using q_)⟩ (fun q_ hs=>?_)
 obtain ⟨j,ob2⟩:=q_
 obtain ⟨hi,hm2⟩:=hs
 dsimp only at hi hm2
 dsimp only
 refine Jg [0] [(29,Bo (decide ((j:Int)<(c.queue.wait.length:Int))))] (Jf (Jl (decide ((j:Int)<(c.queue.wait.length:Int))) (fun h2=>?_) (fun h2=>?_)))
 refine Jq (Jb (Jf (Jy (Jf (Jd ?_)))))
 obtain ⟨b5,o2,rfl⟩:=RS.addr (hs1.mono hl1) (k:=j) (by omega)
 obtain ⟨x2,hx2⟩:=Wf (l:=c.queue.wait) (k:=j) (by omega)
 obtain ⟨_,⟨rfl,w7,_,_,_⟩,hc2⟩:=RS.get (hs1.mono hl1) hx2
 refine J5 (b:=b5) (off:=o2) (len:=c.queue.wait.length) (cap:=c1) (ik:=.i64) 30 182 4 j J8 (JZ 31 182 (cs:=[Sr x2.name,Sr x2.value,U x2.n,U x2.tag]) 0 (.agg #[Sr x2.name,Sr x2.value,U x2.n,U x2.tag]) hc2 (Jv 9 #[Sr ([]),Sr ([]),U 0,U 0] 182 (fun b6=>JV [3] [] [[Sg b6 0 [Sr x2.name,Sr x2.value,U x2.n,U x2.tag]],[Ob b2 ob2],[Sg b1 0 (KB c (At b5 o2) c1 a2 c2 a3 c3)]] (Je (Jb (Jd (Jc [0,0,2] [(32,.map (some b2)),(34,Sr x2.name)] (JdT (n:=(Ws c.books).length+j) (D:=Dn (KR (Ws c.books)++Qv (c.queue.wait.take j))) (s:=x2.name) 1 292 9 4 true hm2 (Go.Maps.string_keyed (by kernel_rfl)) (by kernel_rfl) (by kernel_rfl) (by kernel_rfl) (Hg w7 (by decide)) (HG (m:=1000000) J8 (by decide)) (fun ob3 hm3=>?_)))))))))
 rw [← JeR] at hm3
 exact Je (JN (Jb (Jd (Jc [0,0] [(28,I (Hb.wrap ((j:Int)+1)))] (Kr 28 ((j:Int)+1) J8 (Je (Qr [[Ob b2 ob3],[Sg b1 0 (KB c (At b5 o2) c1 a2 c2 a3 c3)]] (Qi (j+1,ob3) ⟨J8,(by rw [Jgb hx2,← Hz];exact hm3)⟩ (by (try dsimp only);omega)))))))))
 refine KW (JY (J9 (JT (Jb (Jf (Jg [0,0,0] [(36,Sl a_more more.length c_more),(37,I (more.length:Int)),(38,I 0)] (Jy ?_)))))))
 have hlm_h_more:more.length≤9223372036854775807:=Hg (h_more).le (h_more).max
 refine Qh (σ:=Nat×Obj) (fun q_=>(q_.1≤more.length)∧(JdS Tryz.prog 9 4 q_.2 ((Ws c.books).length+c.queue.wait.length+q_.1) (Dn (KR (Ws c.books)++Qv c.queue.wait++more.take q_.1)))) (fun q_=>[(5,.map (some b2)),(36,Sl a_more more.length c_more),(37,I (more.length:Int)),(38,I (q_.1:Int))]) (fun q_=>G1) (fun q_=>[[Ob b2 q_.2],[Sg b1 0 (KB c a1 c1 a2 c2 a3 c3)]]) (fun q_=>more.length-q_.1) (0,ob2) ⟨(by (try dsimp only);exact Hs _),(by (try dsimp only);have e_:=Hk (i:=j) (l:=c.queue.wait) (by omega);have e2_:j=c.queue.wait.length:=(by omega);have q_:=hm2;rw [e_] at q_;rw [e2_] at q_;simpa using q_)⟩ (fun q_ hs=>?_)
 obtain ⟨k,ob3⟩:=q_
 obtain ⟨hi,hm3⟩:=hs
 dsimp only at hi hm3
 dsimp only
 refine Jg [0] [(39,Bo (decide ((k:Int)<(more.length:Int))))] (Jf (Jl (decide ((k:Int)<(more.length:Int))) (fun h3=>?_) (fun h3=>?_)))
 refine Jq (Jb (Jf (Jy (Jf (Jd ?_)))))
 obtain ⟨b7,o3,rfl⟩:=RS.addr (h_more.mono hl1) (k:=k) (by omega)
 obtain ⟨x3,hx3⟩:=Wf (l:=more) (k:=k) (by omega)
 obtain ⟨_,⟨rfl,w11⟩,hc3⟩:=RS.get (h_more.mono hl1) hx3
 refine J5 (b:=b7) (off:=o3) (len:=more.length) (cap:=c_more) (ik:=.i64) 40 9 1 k J8 (JZ 41 9 (cs:=[Sr x3]) 0 (Sr x3) hc3 (Jc [0] [(11,Sr x3)] (Je (Jb (Jd (Jc [0,0] [(42,.map (some b2)),(43,Sr x3)] (JdT (n:=(Ws c.books).length+c.queue.wait.length+k) (D:=Dn (KR (Ws c.books)++Qv c.queue.wait++more.take k)) (s:=x3) 0 292 9 4 true hm3 (Go.Maps.string_keyed (by kernel_rfl)) (by kernel_rfl) (by kernel_rfl) (by kernel_rfl) (Hg w11 (by decide)) (HG (m:=1000000) J8 (by decide)) (fun ob4 hm4=>?_))))))))
 rw [← JeR] at hm4
 exact Je (JN (Jb (Jd (Jc [0,0] [(38,I (Hb.wrap ((k:Int)+1)))] (Kr 38 ((k:Int)+1) J8 (Je (Qi (k+1,ob4) ⟨J8,(by rw [JnN hx3,← Hz];exact hm4)⟩ (by (try dsimp only);omega))))))))
 refine KW (JY (J9 (JT (Jb (Jf (Jd (Jc [0] [(45,.map (some b2))] (Jmn (ρ:=Jfx) (b:=b2) 46 lay_n7 (fun bk1=>JhA (ρ:=Jfx) (b:=b2) (bk:=bk1) (D:=Dn (KR (Ws c.books)++Qv c.queue.wait++more.take k)) 47 1 0 lay_n8 Jo7 hm3 (by rw [(Jk9 _).2.2];refine Hg (nn_le _) ?_;simp only [Hc,JhB,JhC,Hm];omega) (fun a5 c5=>?_))))))))))
 refine Jc [0,0] [(4,I (((strKeys (Dn (KR (Ws c.books)++Qv c.queue.wait++more.take k))).length:Nat):Int))] (Je (Jb (Jn (Jo [0] [I (((strKeys (Dn (KR (Ws c.books)++Qv c.queue.wait++more.take k))).length:Nat):Int)] (Jx hl1 (congrArg I (?_:(WY c more)=(((strKeys (Dn (KR (Ws c.books)++Qv c.queue.wait++more.take k))).length:Nat):Int)).symm))))))
 rw [Jo6];unfold WY V2;rw [Hk (i:=k) (l:=more) (by omega)]
theorem JhD (G:J4) (most:Int) (hw_most:rI most) (batch:Int) (hw_batch:rI batch) (every:Int) (hw_every:rI every) :Yw 55 #[I most,I batch,I every] G [] (fun u G' L'=>∃ (a1:Option Addr) (c2:Nat) (a3:Option Addr) (c4:Nat) (a5:Option Addr) (c6:Nat),u=.tuple #[.agg #[I (((J3 most batch every).1).queue.most),Sl a1 ((((J3 most batch every).1).queue.wait).length) c2,I (((J3 most batch every).1).batch),I (((J3 most batch every).1).every),I (((J3 most batch every).1).now),Sl a3 ((((J3 most batch every).1).heads).length) c4,Sl a5 ((((J3 most batch every).1).books).length) c6],I ((J3 most batch every).2)]∧(rI (((J3 most batch every).1).queue.most))∧(RS QW G' a1 c2 (((J3 most batch every).1).queue.wait))∧(rI (((J3 most batch every).1).batch))∧(rI (((J3 most batch every).1).every))∧(rI (((J3 most batch every).1).now))∧(RS KA G' a3 c4 (((J3 most batch every).1).heads))∧(RS Qk G' a5 c6 (((J3 most batch every).1).books))∧L'=[]):=by
 refine JR Tryz.func55 43 [(0,I most),(1,I batch),(2,I every)] rfl (fun w0 G0=>?_)
 refine Jf (Jd (Jv 6 #[I 0,Sl none 0 0,I 0,I 0,I 0,Sl none 0 0,Sl none 0 0] 60 (fun b1=>Jc [0] [] (Je (Jb (Jf (Jf (Jd (Jc [0] [(12,I most)] (Jm 13 (Bo (Z8 most 30)) (Ja3 G most 30) (Jc [0,0] [(15,Bo (!(Z8 most 30)))] (QY [15] (!(Z8 most 30)) (fun h1=>?_) (fun h1=>?_)))))))))))))
 refine Jc [1,1,1,0,0,1,1,1,0] [(24,Bo true)] (Je (Jb (JW (Jg [0,3,0] [(7,I 4)] (Jn (Jj ?_))))))
 have hf1:J3 most batch every=((⟨(⟨0,[]⟩:QR),0,0,0,[],[]⟩:Kz),4):=by
  unfold J3 ZY;simp_all
 refine Jo [0,0] [.agg #[I 0,Sl none 0 0,I 0,I 0,I 0,Sl none 0 0,Sl none 0 0],I 4] (JA [] (Jh _) ?_)
 rw [hf1]
 try dsimp only
 exact ⟨none,0,none,0,none,0,rfl,J8,(JP QW G),J8,J8,J8,(JP KA G),(JP Qk G),rfl⟩
 refine Jc [0] [(16,I batch)] (Jm 17 (Bo (Z8 batch 30)) (Ja3 G batch 30) (Jc [0,0,0] [(20,Bo (!(Z8 batch 30)))] (QY [20] (!(Z8 batch 30)) (fun h2=>?_) (fun h2=>?_))))
 refine Jc [1,1,1,0] [(24,Bo true)] (Je (Jb (JW (Jg [0,3,0] [(7,I 4)] (Jn (Jj ?_))))))
 have hf2:J3 most batch every=((⟨(⟨0,[]⟩:QR),0,0,0,[],[]⟩:Kz),4):=by
  unfold J3 ZY;simp_all
 refine Jo [0,0] [.agg #[I 0,Sl none 0 0,I 0,I 0,I 0,Sl none 0 0,Sl none 0 0],I 4] (JA [] (Jh _) ?_)
 rw [hf2]
 try dsimp only
 exact ⟨none,0,none,0,none,0,rfl,J8,(JP QW G),J8,J8,J8,(JP KA G),(JP Qk G),rfl⟩
 refine Jc [0] [(21,I every)] (Jm 22 (Bo (Z8 every 1000)) (Ja3 G every 1000) (Jc [0,0] [(24,Bo (!(Z8 every 1000)))] (Je (Jb (Jl (!(Z8 every 1000)) (fun h3=>?_) (fun h3=>?_))))))
 refine Jg [0,3,0] [(7,I 4)] (Jn (Jj ?_))
 have hf3:J3 most batch every=((⟨(⟨0,[]⟩:QR),0,0,0,[],[]⟩:Kz),4):=by
  unfold J3 ZY;simp_all
 refine Jo [0,0] [.agg #[I 0,Sl none 0 0,I 0,I 0,I 0,Sl none 0 0,Sl none 0 0],I 4] (JA [] (Jh _) ?_)
 rw [hf3]
 try dsimp only
 exact ⟨none,0,none,0,none,0,rfl,J8,(JP QW G),J8,J8,J8,(JP KA G),(JP Qk G),rfl⟩
 refine Jq (Jb (Jf (Jd (Jm 27 (.tuple #[U ((JX ([]) []).1),I ((JX ([]) []).2)]) (Jbi G none 0 ([]) (JP QD G)) (Jc [0,0,0,0,0] [(8,U ((JX ([]) []).1))] (Je (Jb (Jf (Jd (Jc [0] [(31,U ((JX ([]) []).1))] (Jm 32 (.tuple #[(Vs (K0 ((JX ([]) []).1) 0).1),I ((K0 ((JX ([]) []).1) 0).2)]) (Jgc G ((JX ([]) []).1) (Y3 _ _) 0 J8) (Jc [0,0,0] [(33,(Vs (K0 ((JX ([]) []).1) 0).1)),(34,I ((K0 ((JX ([]) []).1) 0).2))] (Jv 10 #[I 0,U 0,U 0,I 0] 43 (fun b2=>JV [3,0] [] [[Sg b2 0 (JcW (K0 ((JX ([]) []).1) 0).1)],[Sg b1 0 [I 0,Sl none 0 0,I 0,I 0,I 0,Sl none 0 0,Sl none 0 0]]] (Je (Jb (Jf (Jd (Jc [0,0,0,0,2] [(36,.agg #[I most,Sl none 0 0]),(37,I batch),(38,I every),(39,(Vs (K0 ((JX ([]) []).1) 0).1))] (Kt 40 1 #[I (((K0 ((JX ([]) []).1) 0).1).epoch),U (((K0 ((JX ([]) []).1) 0).1).root),U (((K0 ((JX ([]) []).1) 0).1).prev),I (((K0 ((JX ([]) []).1) 0).1).at_)] 43 (fun b3=>Kt 41 1 #[Sl none 0 0] 44 (fun b4=>?_))))))))))))))))))))))
 refine JV [0,9,0] [(7,I 0)] [[Sg b4 0 [Sl none 0 0]],[Sg b3 0 (JcW (K0 ((JX ([]) []).1) 0).1)],[Sg b2 0 (JcW (K0 ((JX ([]) []).1) 0).1)],[Sg b1 0 [I most,Sl none 0 0,I batch,I every,I 0,Sl (At b3 0) 1 1,Sl (At b4 0) 1 1]]] (Je (Jb (Jn (JeS (b:=b3) (o:=0) (cs:=(JcW (K0 ((JX ([]) []).1) 0).1)) 1 (fun G1 hl1 hz1=>?_)))))
 have hs1:RS KA G1 (At b3 0) 1 [((K0 ((JX ([]) []).1) 0).1)]:=RS.lit [(JcW (K0 ((JX ([]) []).1) 0).1)] [((K0 ((JX ([]) []).1) 0).1)] ⟨⟨rfl,(by have q_:=V3 (r:=(JX [] []).1) (a:=0) (Y3 _ _) (by omega);omega),(by have q_:=V3 (r:=(JX [] []).1) (a:=0) (Y3 _ _) (by omega);omega),(by have q_:=V3 (r:=(JX [] []).1) (a:=0) (Y3 _ _) (by omega);omega),(by have q_:=V3 (r:=(JX [] []).1) (a:=0) (Y3 _ _) (by omega);omega)⟩,trivial⟩ hz1 (Hh rfl) (Hh rfl)
 refine JeS (b:=b4) (o:=0) (cs:=[Sl none 0 0]) 0 (fun G2 hl2 hz2=>?_)
 have hs2:RS Qk G2 (At b4 0) 1 [[]]:=RS.lit [[Sl none 0 0]] [[]] ⟨⟨none,0,rfl,(JP QD G2)⟩,trivial⟩ hz2 (Hh rfl) (Hh rfl)
 have hf4:J3 most batch every=((⟨(⟨most,[]⟩:QR),batch,every,0,[((K0 ((JX ([]) []).1) 0).1)],[[]]⟩:Kz),0):=by
  unfold J3 ZY;simp_all
 refine Jo [3,0] [.agg #[I most,Sl none 0 0,I batch,I every,I 0,Sl (At b3 0) 1 1,Sl (At b4 0) 1 1],I 0] (JA [] (Ja hl1 hl2) ?_)
 rw [hf4]
 try dsimp only
 exact ⟨none,0,(At b3 0),1,(At b4 0),1,rfl,hw_most,(JP QW G2),hw_batch,hw_every,J8,(hs1.mono hl2),hs2,rfl⟩
set_option maxRecDepth 20000 in
theorem Jfz (G:J4) (vs_c:List Value) (c:Kz) (h_c:Jal.R G vs_c c) (h0:1≤c.heads.length) (h9:c.heads.length≤40):Q4 206 #[.agg vs_c.toArray] G (I (QF c)):=by
 obtain ⟨a1,c1,a2,c2,a3,c3,rfl,_,_,_,_,_,hs2,hs3⟩:=h_c
 refine JR Tryz.func206 63 [(0,(Qt c a1 c1 a2 c2 a3 c3))] rfl (fun w0 G0=>?_)
 refine Jf (Jd (Jv 1 #[I c.queue.most,Sl a1 c.queue.wait.length c1,I c.batch,I c.every,I c.now,Sl a2 c.heads.length c2,Sl a3 c.books.length c3] 60 (fun b1=>Jc [0] [] (Je (Jb (Jg [0,2,0,0] [(3,I (c.heads.length:Int))] (Jf (Jf ?_))))))))
 obtain ⟨b2,o1,rfl⟩:=RS.addr hs2 (k:=0) (by omega)
 obtain ⟨x1,hx1⟩:=Wf (l:=c.heads) (k:=0) (by omega)
 obtain ⟨_,⟨rfl,_,_,_,_⟩,hc1⟩:=RS.get hs2 hx1
 rcases HJ (!decide (x1.epoch=0)) with h1 | h1
 have h1d:=h1
 try simp only [BB] at h1d
 refine Kp [] (Wl [(0,Pt b1 5),(1,Sl (At b2 o1) c.heads.length c2),(2,Pt b2 (o1+0*4)),(3,Pt b2 (o1+0*4)),(4,I x1.epoch),(5,Bo true),(6,Bo true),(7,undef),(8,undef),(9,undef),(10,undef),(11,undef),(12,Bo true),(13,Bo true),(14,undef),(15,undef),(16,undef),(17,undef),(18,undef),(19,undef),(20,undef),(21,undef),(22,undef),(23,undef),(24,Bo true)] (Km [] [(0,0),(1,2),(3,0),(6,0),(7,1),(8,1),(9,1),(10,1),(11,1),(12,0),(13,0),(14,1),(15,1),(16,1),(17,1),(18,1),(19,1),(20,1),(21,1),(22,1),(23,1),(24,0)] [2,4,5] [(1,Pt b1 0),(35,Bo true)] (Ki ?_ (Ki ?_ (Ki ?_ K8))) ?_))
 refine Jt 2 13 (Pt b2 (o1+0*4)) [(12,Sl (At b2 o1) c.heads.length c2)] (fun X=>?_)
 exact J5 (b:=b2) (off:=o1) (len:=c.heads.length) (cap:=c2) (ik:=.i64) 13 43 4 0 J8 Jp
 refine Jt 4 15 (I x1.epoch) [(14,Pt b2 (o1+0*4))] (fun X=>?_)
 exact JZ 15 2 (cs:=[I x1.epoch,U x1.root,U x1.prev,I x1.at_]) 0 (I x1.epoch) hc1 Jp
 refine Jt 5 16 (Bo true) [(15,I x1.epoch)] (fun X=>?_)
 exact KV 16 (Bo (!decide (x1.epoch=0))) (Bo true) (by rw [h1]) Jp
 refine Jb (JW (Jg [0] [(2,I 3)] (Jn (Jj (Jo [0] [I 3] (Jx (Jh _) (congrArg I (?_:(QF c)=3).symm)))))))
 exact Jkf (.inl ⟨hx1,by assumption⟩)
 have h1d:=h1
 try simp only [BB] at h1d
 rcases HJ (!decide ((c.books.length:Int)=(c.heads.length:Int))) with h2 | h2
 have h2d:=h2
 try simp only [BB] at h2d
 refine Kp [] (Wl [(0,Pt b1 5),(1,Sl (At b2 o1) c.heads.length c2),(2,Pt b2 (o1+0*4)),(3,Pt b2 (o1+0*4)),(4,I x1.epoch),(5,Bo false),(6,Bo false),(7,Pt b1 6),(8,Sl a3 c.books.length c3),(9,I (c.books.length:Int)),(10,I (c.heads.length:Int)),(11,Bo true),(12,Bo true),(13,Bo true),(14,undef),(15,undef),(16,undef),(17,undef),(18,undef),(19,undef),(20,undef),(21,undef),(22,undef),(23,undef),(24,Bo true)] (Km [] [(0,0),(1,2),(3,0),(6,0),(7,0),(8,2),(9,0),(10,0),(12,0),(13,0),(14,1),(15,1),(16,1),(17,1),(18,1),(19,1),(20,1),(21,1),(22,1),(23,1),(24,0)] [2,4,5,11] [(1,Pt b1 0),(35,Bo true)] (Ki ?_ (Ki ?_ (Ki ?_ (Ki ?_ K8)))) ?_))
 refine Jt 2 13 (Pt b2 (o1+0*4)) [(12,Sl (At b2 o1) c.heads.length c2)] (fun X=>?_)
 exact J5 (b:=b2) (off:=o1) (len:=c.heads.length) (cap:=c2) (ik:=.i64) 13 43 4 0 J8 Jp
 refine Jt 4 15 (I x1.epoch) [(14,Pt b2 (o1+0*4))] (fun X=>?_)
 exact JZ 15 2 (cs:=[I x1.epoch,U x1.root,U x1.prev,I x1.at_]) 0 (I x1.epoch) hc1 Jp
 refine Jt 5 16 (Bo false) [(15,I x1.epoch)] (fun X=>?_)
 exact KV 16 (Bo (!decide (x1.epoch=0))) (Bo false) (by rw [h1]) Jp
 refine Jt 11 22 (Bo true) [(17,Bo false),(20,I (c.books.length:Int)),(21,I (c.heads.length:Int))] (fun X=>?_)
 exact KV 22 (Bo (!decide ((c.books.length:Int)=(c.heads.length:Int)))) (Bo true) (by rw [h2]) Jp
 refine Jb (JW (Jg [0] [(2,I 3)] (Jn (Jj (Jo [0] [I 3] (Jx (Jh _) (congrArg I (?_:(QF c)=3).symm)))))))
 exact Jkf (x:=Zr) (.inr (.inl ‹_›))
 have h2d:=h2
 try simp only [BB] at h2d
 have e1:Hb.wrap ((c.heads.length:Int)-1)=((c.heads.length-1:Nat):Int):=(Ho _ (by omega)).trans (show (c.heads.length:Int)-1=((c.heads.length-1:Nat):Int) by omega)
 obtain ⟨x2,hx2⟩:=Wf (l:=c.heads) (k:=c.heads.length-1) (by omega)
 obtain ⟨_,⟨rfl,_,_,_,_⟩,hc2⟩:=RS.get hs2 hx2
 refine Kp [] (Wl [(0,Pt b1 5),(1,Sl (At b2 o1) c.heads.length c2),(2,Pt b2 (o1+0*4)),(3,Pt b2 (o1+0*4)),(4,I x1.epoch),(5,Bo false),(6,Bo false),(7,Pt b1 6),(8,Sl a3 c.books.length c3),(9,I (c.books.length:Int)),(10,I (c.heads.length:Int)),(11,Bo false),(12,Bo false),(13,Bo false),(14,Pt b1 5),(15,Sl (At b2 o1) c.heads.length c2),(16,I (c.heads.length:Int)),(17,I ((c.heads.length-1:Nat):Int)),(18,Pt b2 (o1+(c.heads.length-1)*4)),(19,Pt b2 (o1+(c.heads.length-1)*4+3)),(20,I x2.at_),(21,Pt b1 4),(22,I c.now),(23,Bo (decide (x2.at_ > c.now))),(24,Bo (decide (x2.at_ > c.now)))] (Km [] [(0,0),(1,2),(3,0),(6,0),(7,0),(8,2),(9,0),(10,0),(12,0),(13,0),(14,0),(15,2),(16,0),(19,0),(21,0),(22,2),(23,0),(24,0)] [2,4,5,11,17,18,20] [(1,Pt b1 0),(35,Bo (decide (x2.at_ > c.now)))] (Ki ?_ (Ki ?_ (Ki ?_ (Ki ?_ (Ki ?_ (Ki ?_ (Ki ?_ K8))))))) ?_))
 refine Jt 2 13 (Pt b2 (o1+0*4)) [(12,Sl (At b2 o1) c.heads.length c2)] (fun X=>?_)
 exact J5 (b:=b2) (off:=o1) (len:=c.heads.length) (cap:=c2) (ik:=.i64) 13 43 4 0 J8 Jp
 refine Jt 4 15 (I x1.epoch) [(14,Pt b2 (o1+0*4))] (fun X=>?_)
 exact JZ 15 2 (cs:=[I x1.epoch,U x1.root,U x1.prev,I x1.at_]) 0 (I x1.epoch) hc1 Jp
 refine Jt 5 16 (Bo false) [(15,I x1.epoch)] (fun X=>?_)
 exact KV 16 (Bo (!decide (x1.epoch=0))) (Bo false) (by rw [h1]) Jp
 refine Jt 11 22 (Bo false) [(17,Bo false),(20,I (c.books.length:Int)),(21,I (c.heads.length:Int))] (fun X=>?_)
 exact KV 22 (Bo (!decide ((c.books.length:Int)=(c.heads.length:Int)))) (Bo false) (by rw [h2]) Jp
 refine Jt 17 28 (I ((c.heads.length-1:Nat):Int)) [(24,Bo false),(27,I (c.heads.length:Int))] (fun X=>?_)
 exact KV 28 (I (Hb.wrap ((c.heads.length:Int)-1))) (I ((c.heads.length-1:Nat):Int)) (by simp only [e1]) Jp
 refine Jt 18 29 (Pt b2 (o1+(c.heads.length-1)*4)) [(24,Bo false),(26,Sl (At b2 o1) c.heads.length c2),(28,I ((c.heads.length-1:Nat):Int))] (fun X=>?_)
 exact J5 (b:=b2) (off:=o1) (len:=c.heads.length) (cap:=c2) (ik:=.i64) 29 43 4 (c.heads.length-1) J8 Jp
 refine Jt 20 31 (I x2.at_) [(24,Bo false),(30,Pt b2 (o1+(c.heads.length-1)*4+3))] (fun X=>?_)
 exact JZ 31 2 (cs:=[I x2.epoch,U x2.root,U x2.prev,I x2.at_]) 3 (I x2.at_) hc2 Jp
 refine Jb (Jl (decide (x2.at_ > c.now)) (fun h3=>?_) (fun h3=>?_))
 refine Jg [0] [(2,I 3)] (Jn (Jj (Jo [0] [I 3] (Jx (Jh _) (congrArg I (?_:(QF c)=3).symm)))))
 exact Jkf (x:=Zr) (.inr (.inr ⟨_,hx2,by omega⟩))
 refine Jq (Jb (Jf (Jg [0,2,0,0] [(37,Sl a3 c.books.length c3),(38,I (c.books.length:Int)),(39,I 0)] (Jy ?_))))
 have hlm_hs3:c.books.length≤9223372036854775807:=Hg (hs3).le (hs3).max
 refine Qh (σ:=Nat) (fun q_=>(q_≤c.books.length)∧(Ys c.heads c.books=Ys (c.heads.drop q_) (c.books.drop q_))) (fun q_=>[(1,Pt b1 0),(37,Sl a3 c.books.length c3),(38,I (c.books.length:Int)),(39,I (q_:Int))]) (fun q_=>G) (fun q_=>[[Sg b1 0 (KB c a1 c1 (At b2 o1) c2 a3 c3)]]) (fun q_=>c.books.length-q_) 0 ⟨(by (try dsimp only);exact Hs _),rfl⟩ (fun q_ hs=>?_)
 revert hs;revert q_;intro i hs
 obtain ⟨hi,hn⟩:=hs
 dsimp only
 refine Jg [0] [(40,Bo (decide ((i:Int)<(c.books.length:Int))))] (Jf (Jl (decide ((i:Int)<(c.books.length:Int))) (fun h4=>?_) (fun h4=>?_)))
 refine Jq (Jb (Jf (Jy (Jf (Jd (Jc [0] [(41,I (i:Int))] ?_))))))
 obtain ⟨b3,o2,rfl⟩:=RS.addr hs3 (k:=i) (by omega)
 obtain ⟨x3,hx3⟩:=Wf (l:=c.books) (k:=i) (by omega)
 obtain ⟨_,⟨a4,c4,rfl,hs4⟩,hc3⟩:=RS.get hs3 hx3
 refine J5 (b:=b3) (off:=o2) (len:=c.books.length) (cap:=c3) (ik:=.i64) 42 44 1 i J8 (JZ 43 44 (cs:=[Sl a4 x3.length c4]) 0 (Sl a4 x3.length c4) hc3 (Jc [0,0] [(4,I (i:Int)),(5,Sl a4 x3.length c4)] (Je (Jb (Jf (Jd (Jc [0] [(45,Sl a4 x3.length c4)] (Jm 46 (.tuple #[U ((JX x3 []).1),I ((JX x3 []).2)]) (Jbi G a4 c4 x3 hs4) (Jc [0,0,0,0,0] [(6,U ((JX x3 []).1)),(7,I ((JX x3 []).2))] (Je (Jb (Jy (Jg [0,0,0] [(49,Bo (!decide ((JX x3 []).2=0)))] (Jl (!decide ((JX x3 []).2=0)) (fun h5=>?_) (fun h5=>?_)))))))))))))))
 refine Jg [0,0] [(2,I ((JX x3 []).2))] (Jn (Js (Js (Jj (Qj (Js (Jj (Jo [0] [I ((JX x3 []).2)] (Jx (Jh _) (congrArg I (?_:(QF c)=((JX x3 []).2)).symm))))))))))
 (rw [JnO hx1 ‹_› ‹_› hx2 (by omega),hn];exact Jkd hx3 ‹_›)
 refine Jf (Jd (Jc [0,0,2,0] [(54,U ((JX x3 []).1)),(56,Sl (At b2 o1) c.heads.length c2),(57,I (i:Int))] ?_))
 obtain ⟨x4,hx4⟩:=Wf (l:=c.heads) (k:=i) (by omega)
 obtain ⟨_,⟨rfl,_,_,_,_⟩,hc4⟩:=RS.get hs2 hx4
 refine J5 (b:=b2) (off:=o1) (len:=c.heads.length) (cap:=c2) (ik:=.i64) 58 43 4 i J8 (Jc [0] [(59,Pt b2 (o1+i*4+1))] (JZ 60 41 (cs:=[I x4.epoch,U x4.root,U x4.prev,I x4.at_]) 1 (U x4.root) hc4 (Jc [0,0] [(53,Bo (!decide ((JX x3 []).1=x4.root)))] (Je (Jb (Jl (!decide ((JX x3 []).1=x4.root)) (fun h6=>?_) (fun h6=>?_)))))))
 refine Jg [0] [(2,I 8)] (Jn (Js (Js (Jj (Qj (Js (Jj (Jo [0] [I 8] (Jx (Jh _) (congrArg I (?_:(QF c)=8).symm))))))))))
 (rw [JnO hx1 ‹_› ‹_› hx2 (by omega),hn];exact Jke hx3 hx4 ‹_› ‹_›)
 exact Jq (JN (JN (Jb (Jd (Jc [0,0] [(39,I (Hb.wrap ((i:Int)+1)))] (Kr 39 ((i:Int)+1) J8 (Je (Qi (i+1) ⟨J8,(by rw [hn];exact JiO hx3 hx4 ‹_› ‹_›)⟩ (by (try dsimp only);omega)))))))))
 refine KW (JY (J9 (JT (Jb (Jg [0] [(2,I 0)] (Jn (Jo [0] [I 0] (Jx (Jh _) (congrArg I (?_:(QF c)=0).symm)))))))))
 (rw [JnO hx1 ‹_› ‹_› hx2 (by omega),hn];(have e_:c.books.drop i=[]:=List.drop_eq_nil_of_le (by omega);rw [e_];simp [Ys]))
theorem Vm (G:J4) (vs_c:List Value) (c:Kz) (h_c:Jal.R G vs_c c) :Q4 152 #[.agg vs_c.toArray] G (I (Kc c)):=by
 obtain ⟨a1,c1,a2,c2,a3,c3,rfl,w1,hs1,w2,w3,w4,hs2,hs3⟩:=h_c
 refine JR Tryz.func152 50 [(0,(Qt c a1 c1 a2 c2 a3 c3))] rfl (fun w0 G0=>?_)
 refine Jf (Jd (Jv 1 #[I c.queue.most,Sl a1 c.queue.wait.length c1,I c.batch,I c.every,I c.now,Sl a2 c.heads.length c2,Sl a3 c.books.length c3] 60 (fun b1=>Jc [0] [] (Je (Jb (Jf (Jf (Jd (Jc [0,2] [(8,.agg #[I c.queue.most,Sl a1 c.queue.wait.length c1])] (Jm 9 (I (Kj c.queue)) (Jam G [I c.queue.most,Sl a1 c.queue.wait.length c1] c.queue (⟨a1,c1,rfl,w1,hs1⟩)) (Jc [0] [(3,I (Kj c.queue))] (Je (Jb (Jg [0,0] [(11,Bo (!decide (Kj c.queue=0)))] (Jl (!decide (Kj c.queue=0)) (fun h1=>?_) (fun h1=>?_))))))))))))))))
 refine Jg [0,0] [(2,I (Kj c.queue))] (Jn (Jj (Jo [0] [I (Kj c.queue)] (Jx (Jh _) (congrArg I (?_:(Kc c)=(Kj c.queue)).symm)))))
 · unfold Kc;(rw [if_pos ‹_›];done)
 refine Jq (Jb (Jf (Jf (Jd (Jc [0,2] [(14,I c.batch)] (Jm 15 (Bo (Z8 c.batch 30)) (Ja3 G c.batch 30) (Jc [0,0] [(17,Bo (!(Z8 c.batch 30)))] (QY [17] (!(Z8 c.batch 30)) (fun h2=>?_) (fun h2=>?_)))))))))
 refine Jc [1,1,1,1,0,0,1,1,1,0,0,1,1,1,0] [(32,Bo true)] (Je (Jb (JW (Jg [0] [(2,I 4)] (Jn (Jj (Jo [0] [I 4] (Jx (Jh _) (congrArg I (?_:(Kc c)=4).symm)))))))))
 · unfold Kc;(rw [if_neg (by simp_all)];(rw [if_pos (by (simp_all;done))];done))
 refine Jc [0,2] [(19,I c.every)] (Jm 20 (Bo (Z8 c.every 1000)) (Ja3 G c.every 1000) (Jc [0,0,0] [(23,Bo (!(Z8 c.every 1000)))] (Ks (!(Z8 c.every 1000)) [23] [1,1,1,0] [0,2,0,0] (fun bb=>[(27,Bo (bb || (decide (c.now<0))))]) (Jc [0] [(28,Bo ((!(Z8 c.every 1000)) || (decide (c.now<0))))] (Ks ((!(Z8 c.every 1000)) || (decide (c.now<0))) [28] [1,1,1,0] [0,2,0,0] (fun bb=>[(32,Bo (bb || (decide (c.now > 1000000000))))]) (Je (Jb (Jl (((!(Z8 c.every 1000)) || (decide (c.now<0))) || (decide (c.now > 1000000000))) (fun h3=>?_) (fun h3=>?_)))))))))
 refine Jg [0] [(2,I 4)] (Jn (Jj (Jo [0] [I 4] (Jx (Jh _) (congrArg I (?_:(Kc c)=4).symm)))))
 · unfold Kc;(rw [if_neg (by simp_all)];(rw [if_pos (by (simp_all;grind))];done))
 refine Jq (Jb (Jf (Jf (Jd (Jc [0,2] [(35,Sl a2 c.heads.length c2)] (Jm 36 (.tuple #[I ((Kd c.heads).1),I ((Kd c.heads).2)]) (Jar G a2 c2 c.heads hs2) (Jc [0,0,0,0,0] [(4,I ((Kd c.heads).1))] (Je (Jb (Jg [0,0] [(40,Bo (!decide ((Kd c.heads).1=0)))] (Jl (!decide ((Kd c.heads).1=0)) (fun h4=>?_) (fun h4=>?_))))))))))))
 refine Jg [0,0] [(2,I ((Kd c.heads).1))] (Jn (Jj (Jo [0] [I ((Kd c.heads).1)] (Jx (Jh _) (congrArg I (?_:(Kc c)=((Kd c.heads).1)).symm)))))
 · unfold Kc;(rw [if_neg (by simp_all)];(rw [if_neg (by simp_all)];(rw [if_pos (by (simp_all;done))];done)))
 refine Jq (Jb (Jf (Jf (Jd (Jc [2] [(42,(Qt c a1 c1 a2 c2 a3 c3))] (Jm 43 (I (QF c)) (Jfz G (KB c a1 c1 a2 c2 a3 c3) c (⟨a1,c1,a2,c2,a3,c3,rfl,w1,hs1,w2,w3,w4,hs2,hs3⟩) (by (have q_:=Qe.1 ‹_›;have q1_:=q_.len1;have q2_:=q_.len;omega)) (by (have q_:=Qe.1 ‹_›;have q1_:=q_.len1;have q2_:=q_.len;omega))) (Jc [0] [(6,I (QF c))] (Je (Jb (Jg [0,0] [(45,Bo (!decide (QF c=0)))] (Jl (!decide (QF c=0)) (fun h5=>?_) (fun h5=>?_))))))))))))
 refine Jg [0,0] [(2,I (QF c))] (Jn (Jj (Jo [0] [I (QF c)] (Jx (Jh _) (congrArg I (?_:(Kc c)=(QF c)).symm)))))
 · unfold Kc;(rw [if_neg (by simp_all)];(rw [if_neg (by simp_all)];(rw [if_neg (by simp_all)];(rw [if_pos (by (simp_all;done))];done))))
 refine Jq (Jb (Jf (Jf (Jd (Jc [2] [(47,(Qt c a1 c1 a2 c2 a3 c3))] (Jm 48 (I (WY c ([]))) (JbK G (KB c a1 c1 a2 c2 a3 c3) c (⟨a1,c1,a2,c2,a3,c3,rfl,w1,hs1,w2,w3,w4,hs2,hs3⟩) none 0 ([]) (JP ES G) (by (obtain ⟨q1_,q2_,q3_,q4_⟩:=JeT (c:=c) ‹_› ‹_› ‹_›;assumption)) (by (obtain ⟨q1_,q2_,q3_,q4_⟩:=JeT (c:=c) ‹_› ‹_› ‹_›;assumption)) (by (obtain ⟨q1_,q2_,q3_,q4_⟩:=JeT (c:=c) ‹_› ‹_› ‹_›;assumption)) (by (obtain ⟨q1_,q2_,q3_,q4_⟩:=JeT (c:=c) ‹_› ‹_› ‹_›;assumption)) (by (simp;done))) (Jc [0] [(49,Bo (decide (WY c ([]) > 24)))] (Je (Jb (Jl (decide (WY c ([]) > 24)) (fun h6=>?_) (fun h6=>?_)))))))))))
 refine Jg [0] [(2,I 7)] (Jn (Jj (Jo [0] [I 7] (Jx (Jh _) (congrArg I (?_:(Kc c)=7).symm)))))
 · unfold Kc;(rw [if_neg (by simp_all)];(rw [if_neg (by simp_all)];(rw [if_neg (by simp_all)];(rw [if_neg (by simp_all)];(rw [if_pos (by (simp_all;done))];done)))))
 refine Jq (Jb (Jg [0] [(2,I 0)] (Jn (Jo [0] [I 0] (Jx (Jh _) (congrArg I (?_:(Kc c)=0).symm))))))
 · unfold Kc;(rw [if_neg (by simp_all)];(rw [if_neg (by simp_all)];(rw [if_neg (by simp_all)];(rw [if_neg (by simp_all)];(rw [if_neg (by simp_all)];done)))))
theorem Jgd (G:J4) (vs_c:List Value) (c:Kz) (h_c:Jal.R G vs_c c) (epoch:Int) (hw_epoch:rI epoch) :Yw 193 #[.agg vs_c.toArray,I epoch] G [] (fun u G' L'=>∃ (a1:Option Addr) (c2:Nat) (r3:List Kh),u=.tuple #[Sl a1 (((KC c epoch).1).length) c2,I ((KC c epoch).2)]∧(J1 QD G' a1 c2 ((KC c epoch).1) r3)∧L'=[r3]):=by
 obtain ⟨a1,c1,a2,c2,a3,c3,rfl,w1,hs1,w2,w3,w4,hs2,hs3⟩:=h_c
 refine JR Tryz.func193 27 [(0,(Qt c a1 c1 a2 c2 a3 c3)),(1,I epoch)] rfl (fun w0 G0=>?_)
 refine Jf (Jd (Jv 2 #[I c.queue.most,Sl a1 c.queue.wait.length c1,I c.batch,I c.every,I c.now,Sl a2 c.heads.length c2,Sl a3 c.books.length c3] 60 (fun b1=>Jc [0,0] [] (Je (Jb (Jf (Jf (Jd (Jc [2] [(7,(Qt c a1 c1 a2 c2 a3 c3))] (Jm 8 (I (Kc c)) (Vm G (KB c a1 c1 a2 c2 a3 c3) c (⟨a1,c1,a2,c2,a3,c3,rfl,w1,hs1,w2,w3,w4,hs2,hs3⟩)) (Jc [0] [(6,I (Kc c))] (Je (Jb (Jg [0,0] [(10,Bo (!decide (Kc c=0)))] (Jl (!decide (Kc c=0)) (fun h1=>?_) (fun h1=>?_))))))))))))))))
 refine Jg [0,0,0] [(4,Sl none 0 0),(5,I (Kc c))] (Jn (Jj (Zy (Jk 0 ?_))))
 have hf1:KC c epoch=([],Kc c):=by
  unfold KC;simp_all
 refine Jo [0,0] [Sl none 0 0,I (Kc c)] (JA [[]] (Jh _) ?_)
 rw [hf1]
 try dsimp only
 exact ⟨none,0,([]),rfl,(J1.none QD _),rfl⟩
 refine Jq (Jb (Jf (Jf (Jd (Jc [0,0,0] [(14,Bo (decide (epoch<0)))] (Ks (decide (epoch<0)) [14] [1,1,1,1,1,0] [0,0,2,0,0,0] (fun bb=>[(20,Bo (bb || (decide (epoch ≥ (c.books.length:Int)))))]) (Je (Jb (Jl ((decide (epoch<0)) || (decide (epoch ≥ (c.books.length:Int)))) (fun h2=>?_) (fun h2=>?_))))))))))
 refine Jg [0,0] [(4,Sl none 0 0),(5,I 4)] (Jn (Jj (Zy (Jk 0 ?_))))
 have hf2:KC c epoch=([],4):=by
  unfold KC;simp_all
 refine Jo [0,0] [Sl none 0 0,I 4] (JA [[]] (Jh _) ?_)
 rw [hf2]
 try dsimp only
 exact ⟨none,0,([]),rfl,(J1.none QD _),rfl⟩
 refine Jq (Jb (Jf (Jd (Jc [0,2,0] [(22,Sl a3 c.books.length c3),(23,I epoch)] ?_))))
 obtain ⟨kn1,hkn1⟩:∃ k_:Nat,epoch=(k_:Int):=⟨(epoch).toNat,by omega⟩
 have e1:epoch=(kn1:Int):=hkn1
 refine KU 23 (I (kn1:Int)) (congrArg I e1) ?_
 obtain ⟨b2,o1,rfl⟩:=RS.addr hs3 (k:=kn1) (by omega)
 obtain ⟨x1,hx1⟩:=Wf (l:=c.books) (k:=kn1) (by omega)
 obtain ⟨_,⟨a4,c4,rfl,hs4⟩,hc1⟩:=RS.get hs3 hx1
 refine J5 (b:=b2) (off:=o1) (len:=c.books.length) (cap:=c3) (ik:=.i64) 24 44 1 kn1 J8 (JZ 25 44 (cs:=[Sl a4 x1.length c4]) 0 (Sl a4 x1.length c4) hc1 (JI 26 (YA G a4 c4 x1 hs4) (fun v G1 L1 hl1 hp=>?_)))
 obtain ⟨a5,c5,r1,rfl,hr1,rfl⟩:=hp
 refine Jc [0,0] [(4,Sl a5 x1.length c5),(5,I 0)] (Je (Jb (Jn (Jk 0 ?_))))
 have hf3:KC c epoch=(x1,0):=by
  unfold KC;simp_all
 refine Jo [0,0] [Sl a5 x1.length c5,I 0] (JA [r1] hl1 ?_)
 rw [hf3]
 try dsimp only
 exact ⟨a5,c5,r1,rfl,hr1,rfl⟩
theorem JnQ {α:Type} {x b:List α} {i:Nat} {v:α} (h:x.take i=b.take i) (hi:i<x.length) (hv:b[i]? = some v):(x.set i v).take (i+1)=b.take (i+1):=by
 rw [Hj,List.take_set_of_le (Nat.le_refl _),h,Hj,hv,HL hi]
theorem Jkg {α:Type} {x b:List α} {i:Nat} (hl:x.length=b.length) (h:x.take i=b.take i) (hi:b.length≤i):x=b:=by
 rw [Hk (by omega),Hk hi] at h;exact h
def Zg (c:Kz):Bool:=decide ((c.heads.length:Int)=40) || decide (c.now=1000000000)
def Ko (c:Kz) (a:W8):Kz×Int×Int:=if ¬ Kc c=0 then (ZY,0,Kc c) else if ¬ (JS c.queue a).2.2=0∧¬ (JS c.queue a).2.2=7 then (ZY,0,(JS c.queue a).2.2) else if Zg c=true then (ZY,0,9) else if (JS c.queue a).2.2=7∨WY c [a.name] > 24 then (ZY,0,7) else (⟨(JS c.queue a).1,c.batch,c.every,c.now,c.heads,c.books⟩,c.now-c.now.tmod c.every+(KZ (JS c.queue a).2.1 c.batch c.every).1,0)
def Jav (b:List J2) (l:List W8):List J2:=l.foldl (fun b a=>(Ql b a.name a.value).1) b
theorem JiP {b:List J2} {l:List W8} {i:Nat} {a:W8} (h:l[i]? = some a):(Ql (Jav b (l.take i)) a.name a.value).1=Jav b (l.take (i+1)):=by
 unfold Jav;rw [Hj,h];simp [HA]
def ZA (c:Kz):List J2:=Jav (Ws c.books) (J6 c.queue c.batch).2.1
def KD (c:Kz):Kz×Bool×Int:=if ¬ Kc c=0 then (ZY,false,Kc c) else if Zg c=true then (c,false,0) else if ¬ (c.now+1).tmod c.every=0 then (⟨c.queue,c.batch,c.every,c.now+1,c.heads,c.books⟩,false,0) else (⟨(J6 c.queue c.batch).1,c.batch,c.every,c.now+1,(Qu c.heads (JX (ZA c) []).1 (c.now+1)).1,c.books++[ZA c]⟩,true,0)
theorem Jej {b:List J2} (h:W3 b):(KR b).Nodup:=by
 unfold KR
 refine List.pairwise_map.2 (h.pair.imp fun {x y} hxy e=>?_)
 rw [ZI.2 e] at hxy;omega
theorem Jbk {b:List J2} {s:List UInt8}:s∈KR b ↔ ∃ x∈b,x.name=s:=by unfold KR;simp
theorem WQ {b:List W8} {s:List UInt8}:s∈Qv b ↔ ∃ x∈b,x.name=s:=by unfold Qv;simp
theorem Jek {b:List J2} {name value:List UInt8} (h:W3 b) (hr:KE name value=0) (hf:name∈KR b∨b.length<24):(Ql b name value).2=0:=by
 have hp:=(JiM hr).2.2
 have e1:JF b name=((bsF b name QV).1,(bsF b name QV).2,0):=by
  unfold JF;rw [if_neg (by rw [K3.2 h];simp),if_neg (by rw [hp];simp)]
 have e2:Zh b name value=0:=by
  unfold Zh
  rw [e1,if_neg (by simp),if_neg (by rw [hr];simp),if_neg]
  rintro ⟨q1,q2⟩
  rcases hf with hf | hf
  ·
   have:=(Jhx h name).2 (Jbk.1 hf)
   rw [this] at q1;cases q1
  · omega
 unfold Ql
 rw [if_neg (by omega)]
theorem JdU {b:List J2} {name value:List UInt8} (h:(Ql b name value).2=0) {s:List UInt8}:s∈KR (Ql b name value).1 ↔ s=name∨s∈KR b:=by
 obtain ⟨_,_,_,q⟩:=Y2 h
 rw [Jbk,Jbk]
 constructor
 ·
  rintro ⟨x,hx,rfl⟩
  rcases (q x).1 hx with e | ⟨e,_⟩
  · exact .inl (by rw [e])
  · exact .inr ⟨x,e,rfl⟩
 ·
  rintro (rfl | ⟨x,hx,rfl⟩)
  · exact ⟨_,(q _).2 (.inl rfl),rfl⟩
  ·
   by_cases e:x.name=name
   · exact ⟨_,(q _).2 (.inl rfl),e.symm⟩
   · exact ⟨x,(q x).2 (.inr ⟨hx,e⟩),rfl⟩
theorem JdV {a:W8} (h:Kw a=0):KE a.name a.value=0:=h
theorem JgN:∀ (l:List W8) (b:List J2),W3 b→(∀ a∈l,Kw a=0)→nn (KR b++Qv l)≤24 →
  W3 (Jav b l)∧(∀ s,s∈KR (Jav b l) ↔ s∈KR b∨s∈Qv l)
 | [],b,h,_,_=>⟨h,fun s=>by simp [Jav,Qv]⟩
 | a::l,b,h,hr,hn=>by
  have ha:=JdV (hr a (by simp))
  have hf:a.name∈KR b∨b.length<24:=by
   by_cases e:a.name∈KR b
   · exact .inl e
   ·
    right
    have h1:(a.name::KR b).Nodup:=HM.2 ⟨e,Jej h⟩
    have h2:=JiN h1
    have h3:nn (a.name::KR b)≤nn (KR b++Qv (a::l)):=JaC fun x hx=>by
     rcases Ht.1 hx with rfl | hx
     · exact Hf.2 (.inr (WQ.2 ⟨a,by simp,rfl⟩))
     · exact Hf.2 (.inl hx)
    simp only [He] at h2
    have:(KR b).length=b.length:=by simp [KR]
    omega
  have hs:=Jek h ha hf
  have hok:=(Y2 hs).2.2.1
  have hmem:∀ s,s∈KR (Ql b a.name a.value).1++Qv l→s∈KR b++Qv (a::l):=fun s hs'=>by
   rcases Hf.1 hs' with q | q
   ·
    rcases (JdU hs).1 q with rfl | q
    · exact Hf.2 (.inr (WQ.2 ⟨a,by simp,rfl⟩))
    · exact Hf.2 (.inl q)
   · exact Hf.2 (.inr (by simp only [Qv,HI,Ht];exact .inr q))
  obtain ⟨q1,q2⟩:=JgN l _ hok (fun x hx=>hr x (by simp [hx])) (Hg (JaC hmem) hn)
  refine ⟨q1,fun s=>?_⟩
  show s∈KR (Jav (Ql b a.name a.value).1 l) ↔ _
  rw [q2 s,JdU hs]
  simp only [Qv,HI,Ht]
  constructor
  ·
   rintro ((h | h) | h)
   · exact .inr (.inl h)
   · exact .inl h
   · exact .inr (.inr h)
  ·
   rintro (h | h | h)
   · exact .inl (.inr h)
   · exact .inl (.inl h)
   · exact .inr h
theorem W6.last {c:Kz} (h:W6 c):c.books[c.books.length-1]? = some (Ws c.books):=by
 have:=h.len;have:=h.chain.len1
 have hl:c.books.length-1<c.books.length:=by omega
 unfold Ws;rw [Hp hl];rfl
theorem W6.book {c:Kz} (h:W6 c) {k:Nat} {x:List J2} (hx:c.books[k]? = some x):W3 x:=(Jcy (h.root k x hx).1).1
theorem W6.bds {c:Kz} (h:W6 c):0<c.books.length∧c.books.length≤1000∧(Ws c.books).length≤1000∧c.queue.wait.length≤1000∧1≤c.heads.length∧c.heads.length≤40:=by
 have h1:=K2.1 h.queue
 have:=h.len;have:=h.chain.len1;have:=h.chain.len
 have:=(h.book h.last).len
 omega
theorem Yf {c:Kz} (h:Kc c=0):(0<c.books.length∧c.books.length≤1000∧(Ws c.books).length≤1000∧c.queue.wait.length≤1000∧1≤c.heads.length∧c.heads.length≤40)∧(0≤c.now∧c.now≤1000000000)∧(1≤c.batch∧c.batch≤30)∧1≤c.every∧c.every≤1000 :=
 let q:=Zj.1 h
 ⟨q.bds,q.now,q.batch,q.every⟩
theorem JaD {c:Kz} {a:W8} (h:(Ko c a).2.2=0):W6 c∧(JS c.queue a).2.2=0∧Zg c=false∧nn (V2 c [a.name])≤24∧Ko c a=(⟨(JS c.queue a).1,c.batch,c.every,c.now,c.heads,c.books⟩,c.now-c.now.tmod c.every+(KZ (JS c.queue a).2.1 c.batch c.every).1,0):=by
 unfold Ko at h ⊢
 split at h
 · contradiction
 split at h
 · rename_i h1 h2;exact absurd h h2.1
 split at h
 · cases h
 split at h
 · cases h
 ·
  rename_i h1 h2 h3 h4
  rw [if_neg h1,if_neg h2,if_neg h3,if_neg h4]
  simp only [not_or] at h4
  have h5:=h4.2;unfold WY at h5
  exact ⟨Zj.1 (Hd.1 h1),by apply Decidable.byContradiction;intro hc;exact h2 ⟨hc,h4.1⟩,by simpa using h3,by omega,rfl⟩
theorem JfA {c:Kz} {a:W8} (h:(Ko c a).2.2=0):W6 (Ko c a).1:=by
 obtain ⟨ok,hq,_,hn,e⟩:=JaD h
 rw [e]
 obtain ⟨_,_,_,e2⟩:=Jaz hq
 refine ⟨Jfk hq,ok.batch,ok.every,ok.now,ok.chain,ok.first,ok.len,ok.at_,ok.root,?_⟩
 refine Hg (JaC fun x hx=>?_) hn
 unfold V2 at hx ⊢
 rw [e2] at hx
 simp only [Qv,List.map_append,HI,List.map_nil,Hf,List.mem_singleton,List.not_mem_nil,or_false] at hx ⊢
 rcases hx with h | h | h
 · exact .inl (.inl h)
 · exact .inl (.inr h)
 · exact .inr h
theorem JiQ {c:Kz} (h:W6 c) (hc:Zg c=false) {r:Int} (hr:r<2305843009213693951):(Qu c.heads r (c.now+1)).2=0∧Qu c.heads r (c.now+1)=(c.heads++[(Jz (WW c.heads) r (c.now+1)).1],0)∧(Jz (WW c.heads) r (c.now+1)).2=0:=by
 unfold Zg at hc
 simp only [HC,decide_eq_false_iff_not] at hc
 have hn:=h.now
 have he:(Jz (WW c.heads) r (c.now+1)).2=0:=by
  have hk:JL (WW c.heads)=0:=h.chain.ok _ (Hr h.chain.last)
  have hl:=h.chain.lastE
  have hf:=h.first
  have hlen:=h.chain.len
  have ha:=h.at_
  have hb:=Jec (WW c.heads)
  have hb2:=Ze hk
  unfold Jz
  have:Yp (WW c.heads) r (c.now+1)=0:=by
   unfold Yp
   rw [if_neg (by omega),if_neg (by omega),if_neg (by omega)]
   unfold JL
   simp only
   rw [if_neg (by omega),if_neg (by omega)]
  rw [if_neg (by omega)]
 have hg:ZX c.heads r (c.now+1)=0:=by
  unfold ZX
  rw [if_neg (by rw [QE.2 h.chain];simp),if_neg (by exact_mod_cast hc.1),he]
 refine ⟨?_,?_,he⟩ <;> (unfold Qu;rw [if_neg (by omega)])
theorem Jge (l:List JU) (r t:Int):(Qu l r t).1.length≤40:=by
 by_cases h:(Qu l r t).2=0
 ·
  obtain ⟨_,h2,_,h4⟩:=Jc8 h
  rw [h4];simp;omega
 · rw [Jf4 h];simp
theorem JaM {c:Kz} (h:W6 c):(J6 c.queue c.batch).2.2=0∧J6 c.queue c.batch=((⟨c.queue.most,c.queue.wait.drop (QC c.batch c.queue.wait)⟩:QR),c.queue.wait.take (QC c.batch c.queue.wait),(0:Int)):=by
 have hq:=h.queue;have hb:=h.batch
 constructor <;> (unfold J6;rw [if_neg (by omega),if_neg (by omega)])
theorem Jel {c:Kz} (h:W6 c):W3 (ZA c)∧(∀ s,s∈KR (ZA c) ↔ s∈KR (Ws c.books)∨s∈Qv (c.queue.wait.take (QC c.batch c.queue.wait))):=by
 unfold ZA
 rw [(JaM h).2]
 refine JgN _ _ (h.book h.last) (fun a ha=>(K2.1 h.queue).2.2.2 a (HD ha)) (Hg (JaC fun x hx=>?_) h.names)
 unfold V2
 rcases Hf.1 hx with q | q
 · simp [q]
 ·
  obtain ⟨a,ha,rfl⟩:=WQ.1 q
  have:a.name∈Qv c.queue.wait:=WQ.2 ⟨a,HD ha,rfl⟩
  simp [this]
theorem Jkh (l:List (List J2)) (x:List J2):Ws (l++[x])=x:=by unfold Ws;simp
theorem Jki {l:List JU} (h:1≤l.length) (m:List JU):WS (l++m)=WS l:=by
 unfold WS;rw [Hw (by omega)]
theorem Jkj (l:List JU) (x:JU):WW (l++[x])=x:=by unfold WW;simp
structure Ticked (c d:Kz):Prop where
 ok:W6 d
 batch:d.batch=c.batch
 every:d.every=c.every
 heads:∃ m,d.heads=c.heads++m
 books:∃ m,d.books=c.books++m
theorem Jbl {c:Kz} (h:W6 c):(KD c).2.2=0∧Ticked c (KD c).1:=by
 have h0:=Zj.2 h
 unfold KD
 rw [if_neg (by omega)]
 by_cases h1:Zg c=true
 · rw [if_pos h1];exact ⟨rfl,h,rfl,rfl,⟨[],by simp⟩,⟨[],by simp⟩⟩
 rw [if_neg h1]
 have h1':Zg c=false:=by simpa using h1
 have hnow:c.now+1≤1000000000:=by
  have:=h.now;unfold Zg at h1';simp only [HC,decide_eq_false_iff_not] at h1';omega
 by_cases h2:(c.now+1).tmod c.every=0
 ·
  rw [if_neg (by omega)]
  obtain ⟨t1,t2⟩:=Jel h
  have hroot:=Jcz (q:=[]) t1 (by simp) (by simp)
  have hb:=JbI (KF (ZA c) []) []
  have hr:(JX (ZA c) []).1<2305843009213693951:=by rw [hroot];exact hb.2
  obtain ⟨g1,g2,g3⟩:=JiQ h h1' hr
  obtain ⟨k1,k2⟩:=Jj9 g3
  obtain ⟨u1,u2⟩:=JaM h
  have hlen1:=h.chain.len1
  have hlt:c.heads.length<40:=(Jc8 g1).2.1
  rw [g2]
  have hbk:=h.len
  have hnx:=(VL g3).2.2.2.1
  refine ⟨rfl,⟨JeB u1,h.batch,h.every,⟨by have:=h.now;show 0≤c.now+1;omega,hnow⟩,h.chain.snoc hlt k2 k1,?_,?_,?_,?_,?_⟩,rfl,rfl,⟨_,rfl⟩,⟨_,rfl⟩⟩
  · show (WS (c.heads++_)).epoch=0;rw [Jki hlen1];exact h.first
  · simp only [Hc,He,Hi];omega
  · show (WW (c.heads++_)).at_≤c.now+1;rw [Jkj,hnx];exact Int.le_refl _
  ·
   intro k x hx
   simp only at hx ⊢
   by_cases hk:k<c.books.length
   ·
    rw [Hw hk] at hx
    rw [Hw (by omega)]
    exact h.root k x hx
   ·
    rw [HH (by omega)] at hx
    have hk2:k-c.books.length=0:=by
     have:=(Hq.1 hx).1;simp at this;omega
    rw [hk2] at hx
    simp only [HK,HP.injEq] at hx
    subst hx
    rw [HH (by omega),show k-c.heads.length=0 by omega]
    refine ⟨by rw [hroot],?_⟩
    show _=(Jz _ _ _).1.root
    rw [hnx]
  ·
   refine Hg (JaC fun x hx=>?_) h.names
   unfold V2 at hx ⊢
   simp only [Jkh,List.append_nil] at hx ⊢
   rw [u2] at hx
   rcases Hf.1 hx with q | q
   ·
    rcases (t2 x).1 q with q | q
    · exact Hf.2 (.inl q)
    ·
     obtain ⟨a,ha,rfl⟩:=WQ.1 q
     exact Hf.2 (.inr (WQ.2 ⟨a,HD ha,rfl⟩))
   ·
    obtain ⟨a,ha,rfl⟩:=WQ.1 q
    exact Hf.2 (.inr (WQ.2 ⟨a,List.mem_of_mem_drop ha,rfl⟩))
 ·
  rw [if_pos h2]
  refine ⟨rfl,⟨h.queue,h.batch,h.every,⟨by have:=h.now;show 0≤c.now+1;omega,hnow⟩,h.chain,h.first,h.len,?_,h.root,h.names⟩,rfl,rfl,⟨[],by simp⟩,⟨[],by simp⟩⟩
  have:=h.at_;show (WW c.heads).at_≤c.now+1;omega
theorem JaN {c:Kz} (h:W6 c):((KD c).1.now=c.now∧Zg c=true)∨(Zg c=false∧(KD c).1.now=c.now+1):=by
 have h0:=Zj.2 h
 unfold KD
 rw [if_neg (by omega)]
 by_cases h1:Zg c=true
 · rw [if_pos h1];exact .inl ⟨rfl,h1⟩
 ·
  rw [if_neg h1]
  refine .inr ⟨by simpa using h1,?_⟩
  split <;> rfl
theorem JeU {n e:Int} (h:0≤n):n.tmod e=n % e:=Int.tmod_eq_emod_of_nonneg h
theorem V4 {n e:Int} (h:0≤n) (he:1≤e):0≤n.tmod e∧n.tmod e≤n∧n.tmod e<e:=by
 rw [JeU h]
 have h2:=Int.emod_nonneg n (show e ≠ 0 by omega)
 have h3:=Int.emod_lt_of_pos n (show 0<e by omega)
 have h1:=HO n e
 have h4:0≤e*(n / e):=Int.mul_nonneg (by omega) (Int.ediv_nonneg h (by omega))
 omega
theorem JfB (a b e:Int):0≤(KZ a b e).1∧(KZ a b e).1≤31000:=by
 unfold KZ
 split
 · simp
 ·
  have h1:=JeL (a:=a) (b:=b) (by omega) (by omega)
  have h2:=JkY (a:=a.tdiv b+1) (b:=e) (by omega) (by omega)
  simp only;omega
theorem Jem (G:J4) (vs_c:List Value) (c:Kz) (h_c:Jal.R G vs_c c) :Q4 154 #[.agg vs_c.toArray] G (Bo (Zg c)):=by
 obtain ⟨a1,c1,a2,c2,a3,c3,rfl,_,_,_,_,_,_,_⟩:=h_c
 refine JR Tryz.func154 12 [(0,(Qt c a1 c1 a2 c2 a3 c3))] rfl (fun w0 G0=>?_)
 refine Jf (Jd (Jv 1 #[I c.queue.most,Sl a1 c.queue.wait.length c1,I c.batch,I c.every,I c.now,Sl a2 c.heads.length c2,Sl a3 c.books.length c3] 60 (fun b1=>Jc [0] [] (Je (Jb (Jf (Jd (Jc [0,2,0,0,0] [(7,Bo (decide ((c.heads.length:Int)=40)))] (Ks (decide ((c.heads.length:Int)=40)) [7] [1,1,1,0] [0,2,0,0] (fun bb=>[(11,Bo (bb || (decide (c.now=1000000000))))]) (Jc [0] [(2,Bo ((decide ((c.heads.length:Int)=40)) || (decide (c.now=1000000000))))] (Je (Jb (Jn (Jo [0] [Bo ((decide ((c.heads.length:Int)=40)) || (decide (c.now=1000000000)))] (Jx (Jh _) (congrArg Bo (?_:(Zg c)=((decide ((c.heads.length:Int)=40)) || (decide (c.now=1000000000)))).symm))))))))))))))))
 rfl
theorem Jen (G:J4) (vs_c:List Value) (c:Kz) (h_c:Jal.R G vs_c c) (hb:c.books.length≤1000):Yw 156 #[.agg vs_c.toArray] G [] (fun u G' L'=>∃ (a1:Option Addr) (c2:Nat) (a3:Option Addr) (c4:Nat) (a5:Option Addr),u=.agg #[I c.queue.most,Sl a1 c.queue.wait.length c2,I c.batch,I c.every,I c.now,Sl a3 c.heads.length c4,Sl a5 c.books.length c.books.length]∧(rI c.queue.most)∧(RS QW G' a1 c2 c.queue.wait)∧(rI c.batch)∧(rI c.every)∧(rI c.now)∧(RS KA G' a3 c4 c.heads)∧(RS Qk G' a5 c.books.length c.books)∧L'=[]):=by
 obtain ⟨a1,c1,a2,c2,a3,c3,rfl,w1,hs1,w2,w3,w4,hs2,hs3⟩:=h_c
 refine JR Tryz.func156 37 [(0,(Qt c a1 c1 a2 c2 a3 c3))] rfl (fun w0 G0=>?_)
 refine Jf (Jd (Jv 1 #[I c.queue.most,Sl a1 c.queue.wait.length c1,I c.batch,I c.every,I c.now,Sl a2 c.heads.length c2,Sl a3 c.books.length c3] 60 (fun b1=>Jv 2 #[I 0,Sl none 0 0,I 0,I 0,I 0,Sl none 0 0,Sl none 0 0] 60 (fun b2=>Je (Jb (Jf (Jd (Jc [0,0,4] [(8,Sl a1 c.queue.wait.length c1)] (JI 9 (YB G a1 c1 c.queue.wait hs1) (fun v G1 L1 hl1 hp=>?_))))))))))
 obtain ⟨a4,c4,r1,rfl,hr1,rfl⟩:=hp
 refine JV [0,0,7] [] [r1,[Sg b2 0 [I 0,Sl none 0 0,I 0,I 0,I 0,Sl none 0 0,Sl none 0 0]],[Sg b1 0 (KB c a4 c4 a2 c2 a3 c3)]] (Je (Jb (Jf (Jd (Jc [0,6] [(13,Sl a2 c.heads.length c2)] (JI 14 (Vj G1 a2 c2 c.heads (hs2.mono hl1)) (fun v G2 L1 hl2 hp=>?_)))))))
 obtain ⟨a5,c5,r2,rfl,hr2,rfl⟩:=hp
 refine JV [0,9] [] [r2,r1,[Sg b2 0 [I 0,Sl none 0 0,I 0,I 0,I 0,Sl none 0 0,Sl none 0 0]],[Sg b1 0 (KB c a4 c4 a5 c5 a3 c3)]] (Je (Jb (Jf (Jd (Jc [0,8,0] [(18,I (c.books.length:Int))] (Jkb (E:=Qk) (bytes:=24) 19 58 44 c.books.length ([]:List J2) ⟨rfl,rfl,fun G=>⟨_,_,rfl,JP QD G⟩⟩ J8 J8 (by kernel_rfl) (fun a6 r3 hr3=>Jc [0] [(3,Sl a6 ((HE c.books.length ([]:List J2)).length) c.books.length)] (Je (Jb (Jf (Jg [0,10,0,0] [(21,Sl a3 c.books.length c3),(22,I (c.books.length:Int)),(23,I 0)] (Jy ?_))))))))))))
 have hlm_hs3:c.books.length≤9223372036854775807:=Hg (hs3).le (hs3).max
 refine Qh (σ:=Nat×Option Addr×Nat×List Kh×List (List J2)×J4) (fun q_=>(J4.le G2 q_.2.2.2.2.2)∧(q_.1≤c.books.length)∧(J1 Qk q_.2.2.2.2.2 q_.2.1 q_.2.2.1 q_.2.2.2.2.1 q_.2.2.2.1)∧(q_.2.2.2.2.1.length=c.books.length∧q_.2.2.2.2.1.take q_.1=c.books.take q_.1)∧(q_.2.2.1=q_.2.2.2.2.1.length)) (fun q_=>[(1,Pt b1 0),(2,Pt b2 0),(3,Sl q_.2.1 q_.2.2.2.2.1.length q_.2.2.1),(21,Sl a3 c.books.length c3),(22,I (c.books.length:Int)),(23,I (q_.1:Int))]) (fun q_=>q_.2.2.2.2.2) (fun q_=>[q_.2.2.2.1,r2,r1,[Sg b2 0 [I 0,Sl none 0 0,I 0,I 0,I 0,Sl none 0 0,Sl none 0 0]],[Sg b1 0 (KB c a4 c4 a5 c5 a3 c3)]]) (fun q_=>c.books.length-q_.1) (0,a6,c.books.length,r3,(HE c.books.length ([]:List J2)),G2) ⟨(Jh _),(by (try dsimp only);exact Hs _),hr3,⟨by simp,rfl⟩,(by (try dsimp only);simp)⟩ (fun q_ hs=>?_)
 obtain ⟨i,aw,cw,rw,xw,g⟩:=q_
 obtain ⟨hle,hi,hrw,hxw,hcw⟩:=hs
 dsimp only at hle hi hrw hxw hcw
 dsimp only
 refine Jg [0] [(24,Bo (decide ((i:Int)<(c.books.length:Int))))] (Jf (Jl (decide ((i:Int)<(c.books.length:Int))) (fun h1=>?_) (fun h1=>?_)))
 refine Jq (Jb (Jf (Jy (Jf (Jd (Jc [0] [(25,I (i:Int))] ?_))))))
 obtain ⟨b3,o1,rfl⟩:=RS.addr (hs3.mono (Ja (Ja hl1 hl2) hle)) (k:=i) (by omega)
 obtain ⟨x1,hx1⟩:=Wf (l:=c.books) (k:=i) (by omega)
 obtain ⟨_,⟨a7,c6,rfl,hs4⟩,hc1⟩:=RS.get (hs3.mono (Ja (Ja hl1 hl2) hle)) hx1
 refine J5 (b:=b3) (off:=o1) (len:=c.books.length) (cap:=c3) (ik:=.i64) 26 44 1 i J8 (JZ 27 44 (cs:=[Sl a7 x1.length c6]) 0 (Sl a7 x1.length c6) hc1 (Jc [0,0] [(4,I (i:Int)),(5,Sl a7 x1.length c6)] (Je (Jb (Jd (Jc [0,0,0] [(28,Sl aw xw.length cw),(29,I (i:Int)),(30,Sl a7 x1.length c6)] (JI 31 (YA g a7 c6 x1 hs4) (fun v G3 L1 hl3 hp=>?_))))))))
 obtain ⟨a8,c7,_,rfl,hr4,rfl⟩:=hp
 obtain ⟨_,hx2⟩:=Wf (l:=xw) (k:=i) (by omega)
 obtain ⟨b4,o2,_,_,⟨_,_,rfl,_⟩,ha1,_,_⟩:=J1.ix (hrw.mono hl3) hx2
 refine QK (b:=b4) (off:=o2) (len:=xw.length) (cap:=cw) (ik:=.i64) 32 44 1 i ha1 J8 (WL (E:=QD) 0 hr4 (by exact (hs4).fit) (fun G4 hl4 hs6=>YT (b:=b4) (off:=o2) 1 (hrw.mono (Ja hl3 hl4)) i x1 ha1 J8 (Sl a8 x1.length c7) [Sl a8 x1.length c7] ⟨a8,c7,rfl,hs6⟩ (fun r5 hr5=>?_)))
 have e1:xw.length=(xw.set i x1).length:=(Hx ..).symm
 exact KU 3 (Sl aw ((xw.set i x1).length) cw) (congrArg (Sl aw · cw) e1) (KU 28 (Sl aw ((xw.set i x1).length) cw) (congrArg (Sl aw · cw) e1) (Je (JN (Jb (Jd (Jc [0,0] [(23,I (Hb.wrap ((i:Int)+1)))] (Kr 23 ((i:Int)+1) J8 (Je (Qr [r5,r2,r1,[Sg b2 0 [I 0,Sl none 0 0,I 0,I 0,I 0,Sl none 0 0,Sl none 0 0]],[Sg b1 0 (KB c a4 c4 a5 c5 (At b3 o1) c3)]] (Qi (i+1,aw,cw,r5,xw.set i x1,G4) ⟨(Ja hle (Ja hl3 hl4)),J8,hr5,⟨by simp only [Hx];exact hxw.1,JnQ hxw.2 J8 hx1⟩,(by simp only [Hx];exact hcw)⟩ (by (try dsimp only);omega)))))))))))
 refine KW (JY (J9 (JT (Jb (QA [0,0,11] [] [rw,r2,r1,[Sg b2 0 [I 0,Sl none 0 0,I 0,I 0,I 0,Sl none 0 0,Sl none 0 0]],[Sg b1 0 [I c.queue.most,Sl a4 c.queue.wait.length c4,I c.batch,I c.every,I c.now,Sl a5 c.heads.length c5,Sl aw xw.length cw]]] (QA [10,9] [] [rw,r2,r1,[Sg b2 0 [I c.queue.most,Sl a4 c.queue.wait.length c4,I c.batch,I c.every,I c.now,Sl a5 c.heads.length c5,Sl aw xw.length cw]],[Sg b1 0 [I c.queue.most,Sl a4 c.queue.wait.length c4,I c.batch,I c.every,I c.now,Sl a5 c.heads.length c5,Sl aw xw.length cw]]] (Jn ?_)))))))
 subst hcw
 refine Wp (E:=QW) 2 (hr1.mono (Ja hl2 hle)) (by exact (hs1).fit) (fun G5 hl5 hs7=>Wp (E:=KA) 1 (hr2.mono (Ja hle hl5)) (by exact (hs2.mono hl1).fit) (fun G6 hl6 hs8=>Wp (E:=Qk) 0 (hrw.mono (Ja hl5 hl6)) (by simp only [Qk];omega) (fun G7 hl7 hs9=>?_)))
 have hf1:c=(⟨c.queue,c.batch,c.every,c.now,c.heads,xw⟩:Kz):=by
  have e_:xw=c.books:=Jkg hxw.1 hxw.2 (by omega);subst e_;rfl
 refine Jo [3] [.agg #[I c.queue.most,Sl a4 c.queue.wait.length c4,I c.batch,I c.every,I c.now,Sl a5 c.heads.length c5,Sl aw xw.length xw.length]] (JA [] (Ja (Ja (Ja (Ja (Ja hl1 hl2) hle) hl5) hl6) hl7) ?_)
 rw [hf1]
 try dsimp only
 exact ⟨a4,c4,a5,c5,aw,rfl,w1,(hs7.mono (Ja hl6 hl7)),w2,w3,w4,(hs8.mono hl7),hs9,rfl⟩
theorem Jdf (G:J4) (vs_c:List Value) (c:Kz) (h_c:Jal.R G vs_c c) (vs_a:List Value) (a:W8) (h_a:QW.R G vs_a a) :Yw 103 #[.agg vs_c.toArray,.agg vs_a.toArray] G [] (fun u G' L'=>∃ (a1:Option Addr) (c2:Nat) (a3:Option Addr) (c4:Nat) (a5:Option Addr) (c6:Nat),u=.tuple #[.agg #[I (((Ko c a).1).queue.most),Sl a1 ((((Ko c a).1).queue.wait).length) c2,I (((Ko c a).1).batch),I (((Ko c a).1).every),I (((Ko c a).1).now),Sl a3 ((((Ko c a).1).heads).length) c4,Sl a5 ((((Ko c a).1).books).length) c6],I ((Ko c a).2.1),I ((Ko c a).2.2)]∧(rI (((Ko c a).1).queue.most))∧(RS QW G' a1 c2 (((Ko c a).1).queue.wait))∧(rI (((Ko c a).1).batch))∧(rI (((Ko c a).1).every))∧(rI (((Ko c a).1).now))∧(RS KA G' a3 c4 (((Ko c a).1).heads))∧(RS Qk G' a5 c6 (((Ko c a).1).books))∧(rI ((Ko c a).2.1))∧L'=[]):=by
 obtain ⟨a1,c1,a2,c2,a3,c3,rfl,w1,hs1,w2,w3,w4,hs2,hs3⟩:=h_c
 obtain ⟨rfl,w5,w6,w7,w8⟩:=h_a
 refine JR Tryz.func103 76 [(0,(Qt c a1 c1 a2 c2 a3 c3)),(1,.agg #[Sr a.name,Sr a.value,U a.n,U a.tag])] rfl (fun w0 G0=>?_)
 refine Jf (Jd (Jv 2 #[I c.queue.most,Sl a1 c.queue.wait.length c1,I c.batch,I c.every,I c.now,Sl a2 c.heads.length c2,Sl a3 c.books.length c3] 60 (fun b1=>Jv 3 #[Sr a.name,Sr a.value,U a.n,U a.tag] 182 (fun b2=>Jv 4 #[I 0,Sl none 0 0,I 0,I 0,I 0,Sl none 0 0,Sl none 0 0] 60 (fun b3=>Jc [0,0] [] (Je (Jb (Jf (Jf (Jd (Jc [6] [(13,(Qt c a1 c1 a2 c2 a3 c3))] (Jm 14 (I (Kc c)) (Vm G (KB c a1 c1 a2 c2 a3 c3) c (⟨a1,c1,a2,c2,a3,c3,rfl,w1,hs1,w2,w3,w4,hs2,hs3⟩)) (Jc [0] [(7,I (Kc c))] (Je (Jb (Jg [0,0] [(16,Bo (!decide (Kc c=0)))] (Jl (!decide (Kc c=0)) (fun h1=>?_) (fun h1=>?_))))))))))))))))))
 refine Jg [0,0,3,0,0] [(5,I 0),(6,I (Kc c))] (Jn (Jj ?_))
 have hf1:Ko c a=((⟨(⟨0,[]⟩:QR),0,0,0,[],[]⟩:Kz),0,Kc c):=by
  unfold Ko ZY;(rw [if_pos ‹_›];done)
 refine Jo [0,0,0] [.agg #[I 0,Sl none 0 0,I 0,I 0,I 0,Sl none 0 0,Sl none 0 0],I 0,I (Kc c)] (JA [] (Jh _) ?_)
 rw [hf1]
 try dsimp only
 exact ⟨none,0,none,0,none,0,rfl,J8,(JP QW G),J8,J8,J8,(JP KA G),(JP Qk G),J8,rfl⟩
 refine Jq (Jb (Jf (Jd (Jc [0,6,4] [(21,.agg #[I c.queue.most,Sl a1 c.queue.wait.length c1]),(22,.agg #[Sr a.name,Sr a.value,U a.n,U a.tag])] (JI 23 (Jhp G [I c.queue.most,Sl a1 c.queue.wait.length c1] c.queue (⟨a1,c1,rfl,w1,hs1⟩) [Sr a.name,Sr a.value,U a.n,U a.tag] a (⟨rfl,w5,w6,w7,w8⟩)) (fun v G1 L1 hl1 hp=>?_))))))
 obtain ⟨a4,c4,rfl,w9,hs4,rfl⟩:=hp
 refine Jc [0,0,0,0] [(24,.agg #[I (((JS c.queue a).1).most),Sl a4 ((((JS c.queue a).1).wait).length) c4]),(25,I ((JS c.queue a).2.1)),(26,I ((JS c.queue a).2.2))] (Jv 8 #[I 0,Sl none 0 0] 57 (fun b4=>JV [3,0,0] [(9,I ((JS c.queue a).2.1)),(10,I ((JS c.queue a).2.2))] [[Sg b4 0 [I (((JS c.queue a).1).most),Sl a4 ((((JS c.queue a).1).wait).length) c4]],[Sg b3 0 [I 0,Sl none 0 0,I 0,I 0,I 0,Sl none 0 0,Sl none 0 0]],[Sg b2 0 [Sr a.name,Sr a.value,U a.n,U a.tag]],[Sg b1 0 (KB c a1 c1 a2 c2 a3 c3)]] (Je (Jb (Jf (Jy (Jf (Jd (Jc [0,0,0] [(30,Bo (!decide ((JS c.queue a).2.2=0)))] (Ks (!decide ((JS c.queue a).2.2=0)) [30] [0,0,0] [1,1,0] (fun bb=>[(33,Bo (bb && (!decide ((JS c.queue a).2.2=7))))]) (Jc [0] [(27,Bo ((!decide ((JS c.queue a).2.2=0)) && (!decide ((JS c.queue a).2.2=7))))] (Je (Jb (Jl ((!decide ((JS c.queue a).2.2=0)) && (!decide ((JS c.queue a).2.2=7))) (fun h2=>?_) (fun h2=>?_)))))))))))))))
 refine Jg [0,0,5,0,0] [(5,I 0),(6,I ((JS c.queue a).2.2))] (Jn (Js (Jj ?_)))
 have hf2:Ko c a=((⟨(⟨0,[]⟩:QR),0,0,0,[],[]⟩:Kz),0,(JS c.queue a).2.2):=by
  unfold Ko ZY;(rw [if_neg (by simp_all)];simp_all;done)
 refine Jo [1,0,0] [.agg #[I 0,Sl none 0 0,I 0,I 0,I 0,Sl none 0 0,Sl none 0 0],I 0,I ((JS c.queue a).2.2)] (JA [] hl1 ?_)
 rw [hf2]
 try dsimp only
 exact ⟨none,0,none,0,none,0,rfl,J8,(JP QW G1),J8,J8,J8,(JP KA G1),(JP Qk G1),J8,rfl⟩
 refine Jf (Jd (Jc [8] [(37,(Qt c a1 c1 a2 c2 a3 c3))] (Jm 38 (Bo (Zg c)) (Jem G1 (KB c a1 c1 a2 c2 a3 c3) c (⟨a1,c1,a2,c2,a3,c3,rfl,w1,(hs1.mono hl1),w2,w3,w4,(hs2.mono hl1),(hs3.mono hl1)⟩)) (Jc [0] [(36,Bo (Zg c))] (Je (Jb (Jl (Zg c) (fun h3=>?_) (fun h3=>?_))))))))
 refine Jg [0,5,0,0] [(5,I 0),(6,I 9)] (Jn (Js (Jj ?_)))
 have hf3:Ko c a=((⟨(⟨0,[]⟩:QR),0,0,0,[],[]⟩:Kz),0,9):=by
  unfold Ko ZY;(rw [if_neg (by simp_all)];simp_all;done)
 refine Jo [1,0,0] [.agg #[I 0,Sl none 0 0,I 0,I 0,I 0,Sl none 0 0,Sl none 0 0],I 0,I 9] (JA [] hl1 ?_)
 rw [hf3]
 try dsimp only
 exact ⟨none,0,none,0,none,0,rfl,J8,(JP QW G1),J8,J8,J8,(JP KA G1),(JP Qk G1),J8,rfl⟩
 refine Jf (Jd (Jc [0,0,0] [(43,Bo (decide ((JS c.queue a).2.2=7)))] (QY [43] (decide ((JS c.queue a).2.2=7)) (fun h4=>?_) (fun h4=>?_))))
 refine Jc [1,1,1,1,1,1,0,0] [(40,Bo true)] (Je (Jb (JW (Jg [0,5,0,0] [(5,I 0),(6,I 7)] (Jn (Js (Jj ?_)))))))
 have hf4:Ko c a=((⟨(⟨0,[]⟩:QR),0,0,0,[],[]⟩:Kz),0,7):=by
  unfold Ko ZY;(rw [if_neg (by simp_all)];simp_all;done)
 refine Jo [1,0,0] [.agg #[I 0,Sl none 0 0,I 0,I 0,I 0,Sl none 0 0,Sl none 0 0],I 0,I 7] (JA [] hl1 ?_)
 rw [hf4]
 try dsimp only
 exact ⟨none,0,none,0,none,0,rfl,J8,(JP QW G1),J8,J8,J8,(JP KA G1),(JP Qk G1),J8,rfl⟩
 refine Jc [8,0,6] [(44,(Qt c a1 c1 a2 c2 a3 c3)),(46,Sr a.name)] (Kt 47 1 #[Sr a.name] 9 (fun b5=>QZ (b:=b5) (o:=0) (cs:=[Sr a.name]) 0 (fun G2 hl2 hz1=>?_)))
 have hs5:RS ES G2 (At b5 0) 1 [a.name]:=RS.lit [[Sr a.name]] [a.name] ⟨⟨rfl,w5⟩,trivial⟩ hz1 (Hh rfl) (Hh rfl)
 refine Jm 48 (I (WY c ([a.name]))) (JbK G2 (KB c a1 c1 a2 c2 a3 c3) c (⟨a1,c1,a2,c2,a3,c3,rfl,w1,(hs1.mono (Ja hl1 hl2)),w2,w3,w4,(hs2.mono (Ja hl1 hl2)),(hs3.mono (Ja hl1 hl2))⟩) (At b5 0) 1 ([a.name]) hs5 (by (have q_:=Yf ‹_›;(try dsimp only);omega)) (by (have q_:=Yf ‹_›;(try dsimp only);omega)) (by (have q_:=Yf ‹_›;(try dsimp only);omega)) (by (have q_:=Yf ‹_›;(try dsimp only);omega)) (by (simp;done))) (Jc [0,0,0] [(40,Bo (decide (WY c ([a.name]) > 24)))] (Je (Jb (Jl (decide (WY c ([a.name]) > 24)) (fun h5=>?_) (fun h5=>?_)))))
 refine Jg [0,7,0,0] [(5,I 0),(6,I 7)] (Jn (Js (Jj ?_)))
 have hf5:Ko c a=((⟨(⟨0,[]⟩:QR),0,0,0,[],[]⟩:Kz),0,7):=by
  unfold Ko ZY;(rw [if_neg (by simp_all)];simp_all;done)
 refine Jo [2,0,0] [.agg #[I 0,Sl none 0 0,I 0,I 0,I 0,Sl none 0 0,Sl none 0 0],I 0,I 7] (JA [] (Ja hl1 hl2) ?_)
 rw [hf5]
 try dsimp only
 exact ⟨none,0,none,0,none,0,rfl,J8,(JP QW G2),J8,J8,J8,(JP KA G2),(JP Qk G2),J8,rfl⟩
 refine Jq (JN (Jb (Jf (Jd (Jc [10] [(52,(Qt c a1 c1 a2 c2 a3 c3))] (JI 53 (Jen G2 (KB c a1 c1 a2 c2 a3 c3) c (⟨a1,c1,a2,c2,a3,c3,rfl,w1,(hs1.mono (Ja hl1 hl2)),w2,w3,w4,(hs2.mono (Ja hl1 hl2)),(hs3.mono (Ja hl1 hl2))⟩) (by (have q_:=Yf ‹_›;(try dsimp only);omega))) (fun v G3 L1 hl3 hp=>?_)))))))
 obtain ⟨a5,c5,a6,c6,a7,rfl,_,_,w11,w12,w13,hs7,hs8,rfl⟩:=hp
 refine JV [11] [] [[],[Sg b4 0 [I (((JS c.queue a).1).most),Sl a4 ((((JS c.queue a).1).wait).length) c4]],[Sg b3 0 [I 0,Sl none 0 0,I 0,I 0,I 0,Sl none 0 0,Sl none 0 0]],[Sg b2 0 [Sr a.name,Sr a.value,U a.n,U a.tag]],[Sg b1 0 (KB c a5 c5 a6 c6 a7 c.books.length)]] (Je (Jb (QA [4,0,11] [] [[],[Sg b4 0 [I (((JS c.queue a).1).most),Sl a4 ((((JS c.queue a).1).wait).length) c4]],[Sg b3 0 [I 0,Sl none 0 0,I 0,I 0,I 0,Sl none 0 0,Sl none 0 0]],[Sg b2 0 [Sr a.name,Sr a.value,U a.n,U a.tag]],[Sg b1 0 [I (((JS c.queue a).1).most),Sl a4 ((((JS c.queue a).1).wait).length) c4,I c.batch,I c.every,I c.now,Sl a6 c.heads.length c6,Sl a7 c.books.length c.books.length]]] (Jf (Jd (Jc [0,0,10,0,10] [(57,I ((JS c.queue a).2.1)),(59,I c.batch),(61,I c.every)] (Jm 62 (.tuple #[I ((KZ ((JS c.queue a).2.1) c.batch c.every).1),I ((KZ ((JS c.queue a).2.1) c.batch c.every).2)]) (JfZ G3 ((JS c.queue a).2.1) c.batch c.every) (Jc [0,0,0,0,0] [(11,I ((KZ ((JS c.queue a).2.1) c.batch c.every).1))] (Je (Jb (Jf ?_)))))))))))
 have e1:Hb.wrap (c.now-((c.now).tmod c.every))=c.now-((c.now).tmod c.every):=Ho _ (by (have q_:=Yf ‹_›;have q10_:=V4 (n:=c.now) (e:=c.every) (by omega) (by omega);have q11_:=JfB (JS c.queue a).2.1 c.batch c.every;omega))
 have e2:Hb.wrap ((c.now-((c.now).tmod c.every))+((KZ ((JS c.queue a).2.1) c.batch c.every).1))=(c.now-((c.now).tmod c.every))+((KZ ((JS c.queue a).2.1) c.batch c.every).1):=Ho _ (by (have q_:=Yf ‹_›;have q10_:=V4 (n:=c.now) (e:=c.every) (by omega) (by omega);have q11_:=JfB (JS c.queue a).2.1 c.batch c.every;omega))
 refine Kp [11] (Wl [(0,.agg #[I (((JS c.queue a).1).most),Sl a4 ((((JS c.queue a).1).wait).length) c4,I c.batch,I c.every,I c.now,Sl a6 c.heads.length c6,Sl a7 c.books.length c.books.length]),(1,Pt b1 4),(2,I c.now),(3,Pt b1 4),(4,I c.now),(5,Pt b1 3),(6,I c.every),(7,I ((c.now).tmod c.every)),(8,I (c.now-((c.now).tmod c.every))),(9,I ((KZ ((JS c.queue a).2.1) c.batch c.every).1)),(10,I ((c.now-((c.now).tmod c.every))+((KZ ((JS c.queue a).2.1) c.batch c.every).1)))] (JK [] [(0,10),(1,0),(2,10),(3,0),(4,10),(5,0),(6,10),(9,0)] [7,8,10] [11] (Ki ?_ (Ki ?_ (Ki ?_ K8))) (Ki ?_ K8)))
 refine Jt 7 72 (I ((c.now).tmod c.every)) [(69,I c.now),(71,I c.every)] (fun X=>?_)
 exact JcQ (k:=.i64) (x:=c.now) (y:=c.every) 72 false ((c.now).tmod c.every) (by (have q_:=Yf ‹_›;have q10_:=V4 (n:=c.now) (e:=c.every) J8 (by omega);have q11_:=JfB (JS c.queue a).2.1 c.batch c.every;omega)) rfl Jp
 refine Jt 8 73 (I (c.now-((c.now).tmod c.every))) [(67,I c.now),(72,I ((c.now).tmod c.every))] (fun X=>?_)
 exact KV 73 (I (Hb.wrap (c.now-((c.now).tmod c.every)))) (I (c.now-((c.now).tmod c.every))) (by simp only [e1]) Jp
 refine Jt 10 75 (I ((c.now-((c.now).tmod c.every))+((KZ ((JS c.queue a).2.1) c.batch c.every).1))) [(73,I (c.now-((c.now).tmod c.every))),(74,I ((KZ ((JS c.queue a).2.1) c.batch c.every).1))] (fun X=>?_)
 exact KV 75 (I (Hb.wrap ((c.now-((c.now).tmod c.every))+((KZ ((JS c.queue a).2.1) c.batch c.every).1)))) (I ((c.now-((c.now).tmod c.every))+((KZ ((JS c.queue a).2.1) c.batch c.every).1))) (by simp only [e2]) Jp
 refine JC 11 [(4,Pt b3 0),(65,.agg #[I (((JS c.queue a).1).most),Sl a4 ((((JS c.queue a).1).wait).length) c4,I c.batch,I c.every,I c.now,Sl a6 c.heads.length c6,Sl a7 c.books.length c.books.length])] (fun X=>?_)
 refine KN 2 [[],[Sg b4 0 [I (((JS c.queue a).1).most),Sl a4 ((((JS c.queue a).1).wait).length) c4]],[Sg b3 0 [I (((JS c.queue a).1).most),Sl a4 ((((JS c.queue a).1).wait).length) c4,I c.batch,I c.every,I c.now,Sl a6 c.heads.length c6,Sl a7 c.books.length c.books.length]],[Sg b2 0 [Sr a.name,Sr a.value,U a.n,U a.tag]],[Sg b1 0 [I (((JS c.queue a).1).most),Sl a4 ((((JS c.queue a).1).wait).length) c4,I c.batch,I c.every,I c.now,Sl a6 c.heads.length c6,Sl a7 c.books.length c.books.length]]] ?_
 have e3:Hb.wrap (c.now-((c.now).tmod c.every))=c.now-((c.now).tmod c.every):=Ho _ (by (have q_:=Yf ‹_›;have q10_:=V4 (n:=c.now) (e:=c.every) (by omega) (by omega);have q11_:=JfB (JS c.queue a).2.1 c.batch c.every;omega))
 have e4:Hb.wrap ((c.now-((c.now).tmod c.every))+((KZ ((JS c.queue a).2.1) c.batch c.every).1))=(c.now-((c.now).tmod c.every))+((KZ ((JS c.queue a).2.1) c.batch c.every).1):=Ho _ (by (have q_:=Yf ‹_›;have q10_:=V4 (n:=c.now) (e:=c.every) (by omega) (by omega);have q11_:=JfB (JS c.queue a).2.1 c.batch c.every;omega))
 refine Ka [(12,I ((c.now-((c.now).tmod c.every))+((KZ ((JS c.queue a).2.1) c.batch c.every).1))),(13,I 0)] (Km [0] [(1,0),(2,10),(3,0),(4,10),(5,0),(6,10),(9,0),(12,0),(13,0)] [7,8,10] [(4,Pt b3 0),(5,I ((c.now-((c.now).tmod c.every))+((KZ ((JS c.queue a).2.1) c.batch c.every).1))),(6,I 0)] (Ki ?_ (Ki ?_ (Ki ?_ K8))) ?_)
 refine Jt 7 72 (I ((c.now).tmod c.every)) [(69,I c.now),(71,I c.every)] (fun X=>?_)
 exact JcQ (k:=.i64) (x:=c.now) (y:=c.every) 72 false ((c.now).tmod c.every) (by (have q_:=Yf ‹_›;have q10_:=V4 (n:=c.now) (e:=c.every) J8 (by omega);have q11_:=JfB (JS c.queue a).2.1 c.batch c.every;omega)) rfl Jp
 refine Jt 8 73 (I (c.now-((c.now).tmod c.every))) [(67,I c.now),(72,I ((c.now).tmod c.every))] (fun X=>?_)
 exact KV 73 (I (Hb.wrap (c.now-((c.now).tmod c.every)))) (I (c.now-((c.now).tmod c.every))) (by simp only [e3]) Jp
 refine Jt 10 75 (I ((c.now-((c.now).tmod c.every))+((KZ ((JS c.queue a).2.1) c.batch c.every).1))) [(73,I (c.now-((c.now).tmod c.every))),(74,I ((KZ ((JS c.queue a).2.1) c.batch c.every).1))] (fun X=>?_)
 exact KV 75 (I (Hb.wrap ((c.now-((c.now).tmod c.every))+((KZ ((JS c.queue a).2.1) c.batch c.every).1)))) (I ((c.now-((c.now).tmod c.every))+((KZ ((JS c.queue a).2.1) c.batch c.every).1))) (by simp only [e4]) Jp
 refine Jb (Jn ?_)
 have hf6:Ko c a=((⟨((JS c.queue a).1),c.batch,c.every,c.now,c.heads,c.books⟩:Kz),(c.now-((c.now).tmod c.every))+((KZ ((JS c.queue a).2.1) c.batch c.every).1),0):=by
  unfold Ko ZY;(rw [if_neg (by simp_all)];simp_all;done)
 refine Jo [2,0,0] [.agg #[I (((JS c.queue a).1).most),Sl a4 ((((JS c.queue a).1).wait).length) c4,I c.batch,I c.every,I c.now,Sl a6 c.heads.length c6,Sl a7 c.books.length c.books.length],I ((c.now-((c.now).tmod c.every))+((KZ ((JS c.queue a).2.1) c.batch c.every).1)),I 0] (JA [] (Ja (Ja hl1 hl2) hl3) ?_)
 rw [hf6]
 try dsimp only
 exact ⟨a4,c4,a6,c6,a7,c.books.length,rfl,w9,(hs4.mono (Ja hl2 hl3)),w11,w12,w13,hs7,hs8,(by (have q_:=Yf ‹_›;have q10_:=V4 (n:=c.now) (e:=c.every) J8 (by omega);have q11_:=JfB (JS c.queue a).2.1 c.batch c.every;omega)),rfl⟩
set_option maxRecDepth 20000 in
theorem Jgf (G:J4) (vs_c:List Value) (c:Kz) (h_c:Jal.R G vs_c c) :Yw 110 #[.agg vs_c.toArray] G [] (fun u G' L'=>∃ (a1:Option Addr) (c2:Nat) (a3:Option Addr) (c4:Nat) (a5:Option Addr) (c6:Nat),u=.tuple #[.agg #[I (((KD c).1).queue.most),Sl a1 ((((KD c).1).queue.wait).length) c2,I (((KD c).1).batch),I (((KD c).1).every),I (((KD c).1).now),Sl a3 ((((KD c).1).heads).length) c4,Sl a5 ((((KD c).1).books).length) c6],Bo ((KD c).2.1),I ((KD c).2.2)]∧(rI (((KD c).1).queue.most))∧(RS QW G' a1 c2 (((KD c).1).queue.wait))∧(rI (((KD c).1).batch))∧(rI (((KD c).1).every))∧(rI (((KD c).1).now))∧(RS KA G' a3 c4 (((KD c).1).heads))∧(RS Qk G' a5 c6 (((KD c).1).books))∧L'=[]):=by
 obtain ⟨a1,c1,a2,c2,a3,c3,rfl,w1,hs1,w2,w3,w4,hs2,hs3⟩:=h_c
 refine JR Tryz.func110 88 [(0,(Qt c a1 c1 a2 c2 a3 c3))] rfl (fun w0 G0=>?_)
 refine Jf (Jd (Jv 1 #[I c.queue.most,Sl a1 c.queue.wait.length c1,I c.batch,I c.every,I c.now,Sl a2 c.heads.length c2,Sl a3 c.books.length c3] 60 (fun b1=>Jv 2 #[I 0,Sl none 0 0,I 0,I 0,I 0,Sl none 0 0,Sl none 0 0] 60 (fun b2=>Jc [0,0] [] (Je (Jb (Jf (Jf (Jd (Jc [4] [(14,(Qt c a1 c1 a2 c2 a3 c3))] (Jm 15 (I (Kc c)) (Vm G (KB c a1 c1 a2 c2 a3 c3) c (⟨a1,c1,a2,c2,a3,c3,rfl,w1,hs1,w2,w3,w4,hs2,hs3⟩)) (Jc [0] [(5,I (Kc c))] (Je (Jb (Jg [0,0] [(17,Bo (!decide (Kc c=0)))] (Jl (!decide (Kc c=0)) (fun h1=>?_) (fun h1=>?_)))))))))))))))))
 refine Jg [0,0,3,0,0] [(3,Bo false),(4,I (Kc c))] (Jn (Jj ?_))
 have hf1:KD c=((⟨(⟨0,[]⟩:QR),0,0,0,[],[]⟩:Kz),false,Kc c):=by
  unfold KD ZY;(rw [if_pos ‹_›];done)
 refine Jo [0,0,0] [.agg #[I 0,Sl none 0 0,I 0,I 0,I 0,Sl none 0 0,Sl none 0 0],Bo false,I (Kc c)] (JA [] (Jh _) ?_)
 rw [hf1]
 try dsimp only
 exact ⟨none,0,none,0,none,0,rfl,J8,(JP QW G),J8,J8,J8,(JP KA G),(JP Qk G),rfl⟩
 refine Jq (Jb (Jf (Jd (Jc [4] [(20,(Qt c a1 c1 a2 c2 a3 c3))] (JI 21 (Jen G (KB c a1 c1 a2 c2 a3 c3) c (⟨a1,c1,a2,c2,a3,c3,rfl,w1,hs1,w2,w3,w4,hs2,hs3⟩) (by (have q_:=Yf ‹_›;(try dsimp only);omega))) (fun v G1 L1 hl1 hp=>?_))))))
 obtain ⟨a4,c4,a5,c5,a6,rfl,w5,hs4,w6,w7,w8,hs5,hs6,rfl⟩:=hp
 refine JV [5] [] [[Sg b2 0 [I 0,Sl none 0 0,I 0,I 0,I 0,Sl none 0 0,Sl none 0 0]],[Sg b1 0 (KB c a4 c4 a5 c5 a6 c.books.length)]] (Je (Jb (Jf (Jf (Jd (Jc [4] [(22,(Qt c a4 c4 a5 c5 a6 c.books.length))] (Jm 23 (Bo (Zg c)) (Jem G1 (KB c a4 c4 a5 c5 a6 c.books.length) c (⟨a4,c4,a5,c5,a6,c.books.length,rfl,w5,hs4,w6,w7,w8,hs5,hs6⟩)) (Je (Jb (Jl (Zg c) (fun h2=>?_) (fun h2=>?_)))))))))))
 refine QA [4,3,0,0] [(3,Bo false),(4,I 0)] [[Sg b2 0 (KB c a4 c4 a5 c5 a6 c.books.length)],[Sg b1 0 (KB c a4 c4 a5 c5 a6 c.books.length)]] (Jn (Jj ?_))
 have hf2:KD c=(c,false,0):=by
  unfold KD ZY;(rw [if_neg (by simp_all)];(rw [if_pos ‹_›];done))
 refine Jo [0,0,0] [(Qt c a4 c4 a5 c5 a6 c.books.length),Bo false,I 0] (JA [] hl1 ?_)
 rw [hf2]
 try dsimp only
 exact ⟨a4,c4,a5,c5,a6,c.books.length,rfl,w5,hs4,w6,w7,w8,hs5,hs6,rfl⟩
 refine Jq (Jb (QA [0,4,0,0,5] [] [[Sg b2 0 [I 0,Sl none 0 0,I 0,I 0,I 0,Sl none 0 0,Sl none 0 0]],[Sg b1 0 [I c.queue.most,Sl a4 c.queue.wait.length c4,I c.batch,I c.every,I (Hb.wrap (c.now+1)),Sl a5 c.heads.length c5,Sl a6 c.books.length c.books.length]]] ?_))
 have e1:Hb.wrap (c.now+1)=c.now+1:=Ho _ (by (have q_:=Yf ‹_›;have q10_:=V4 (n:=c.now+1) (e:=c.every) (by omega) (by omega);omega))
 refine Ja5 (L':=[[Sg b2 0 [I 0,Sl none 0 0,I 0,I 0,I 0,Sl none 0 0,Sl none 0 0]],[Sg b1 0 [I c.queue.most,Sl a4 c.queue.wait.length c4,I c.batch,I c.every,I (c.now+1),Sl a5 c.heads.length c5,Sl a6 c.books.length c.books.length]]]) (by simp only [KB,Qt,e1];first | done | rfl) ?_
 clear e1
 refine Jf (Jf (Jd (Jc [0,4,0,4] [(30,I (c.now+1)),(32,I c.every)] (JcQ (k:=.i64) (x:=c.now+1) (y:=c.every) 33 false ((c.now+1).tmod c.every) (by (have q_:=Yf ‹_›;have q10_:=V4 (n:=c.now+1) (e:=c.every) J8 (by omega);omega)) rfl (Jc [0] [(34,Bo (!decide ((c.now+1).tmod c.every=0)))] (Je (Jb (Jl (!decide ((c.now+1).tmod c.every=0)) (fun h3=>?_) (fun h3=>?_)))))))))
 refine QA [4,3,0,0] [(3,Bo false),(4,I 0)] [[Sg b2 0 [I c.queue.most,Sl a4 c.queue.wait.length c4,I c.batch,I c.every,I (c.now+1),Sl a5 c.heads.length c5,Sl a6 c.books.length c.books.length]],[Sg b1 0 [I c.queue.most,Sl a4 c.queue.wait.length c4,I c.batch,I c.every,I (c.now+1),Sl a5 c.heads.length c5,Sl a6 c.books.length c.books.length]]] (Jn (Jj ?_))
 have hf3:KD c=((⟨c.queue,c.batch,c.every,c.now+1,c.heads,c.books⟩:Kz),false,0):=by
  unfold KD ZY;(rw [if_neg (by simp_all)];(rw [if_neg (by simp_all)];(rw [if_pos ‹_›];done)))
 refine Jo [0,0,0] [.agg #[I c.queue.most,Sl a4 c.queue.wait.length c4,I c.batch,I c.every,I (c.now+1),Sl a5 c.heads.length c5,Sl a6 c.books.length c.books.length],Bo false,I 0] (JA [] hl1 ?_)
 rw [hf3]
 try dsimp only
 exact ⟨a4,c4,a5,c5,a6,c.books.length,rfl,‹_›,hs4,‹_›,‹_›,(by have q_:=Yf ‹_›;(try dsimp only);omega),hs5,hs6,rfl⟩
 refine Jq (Jb (Jf (Jd (Jc [0,4,0,4] [(38,.agg #[I c.queue.most,Sl a4 c.queue.wait.length c4]),(40,I c.batch)] (JI 41 (JfY G1 [I c.queue.most,Sl a4 c.queue.wait.length c4] c.queue (⟨a4,c4,rfl,‹_›,hs4⟩) c.batch) (fun v G2 L1 hl2 hp=>?_))))))
 obtain ⟨a7,c6,a8,c7,rfl,w9,hs7,hs8,rfl⟩:=hp
 refine Jc [0,0,0,0] [(42,.agg #[I (((J6 c.queue c.batch).1).most),Sl a7 ((((J6 c.queue c.batch).1).wait).length) c6]),(43,Sl a8 (((J6 c.queue c.batch).2.1).length) c7),(44,I ((J6 c.queue c.batch).2.2))] (Jv 6 #[I 0,Sl none 0 0] 57 (fun b3=>JV [3,0,0] [(7,Sl a8 (((J6 c.queue c.batch).2.1).length) c7)] [[Sg b3 0 [I (((J6 c.queue c.batch).1).most),Sl a7 ((((J6 c.queue c.batch).1).wait).length) c6]],[Sg b2 0 [I 0,Sl none 0 0,I 0,I 0,I 0,Sl none 0 0,Sl none 0 0]],[Sg b1 0 [I c.queue.most,Sl a4 c.queue.wait.length c4,I c.batch,I c.every,I (c.now+1),Sl a5 c.heads.length c5,Sl a6 c.books.length c.books.length]]] (Je (Jb (Jf (Jd (Jc [6] [(45,.agg #[I c.queue.most,Sl a4 c.queue.wait.length c4,I c.batch,I c.every,I (c.now+1),Sl a5 c.heads.length c5,Sl a6 c.books.length c.books.length])] (JI 46 (Jfy G2 [I c.queue.most,Sl a4 c.queue.wait.length c4,I c.batch,I c.every,I (c.now+1),Sl a5 c.heads.length c5,Sl a6 c.books.length c.books.length] (⟨c.queue,c.batch,c.every,c.now+1,c.heads,c.books⟩:Kz) (⟨a4,c4,a5,c5,a6,c.books.length,rfl,‹_›,(hs4.mono hl2),‹_›,‹_›,(by have q_:=Yf ‹_›;(try dsimp only);omega),(hs5.mono hl2),(hs6.mono hl2)⟩) (by (have q_:=Yf ‹_›;(try dsimp only);omega)) (by (have q_:=Yf ‹_›;(try dsimp only);omega))) (fun v G3 L1 hl3 hp=>?_)))))))))
 obtain ⟨a9,c8,rfl,hs9,rfl⟩:=hp
 refine JI 47 (YA G3 a9 c8 (Ws (⟨c.queue,c.batch,c.every,c.now+1,c.heads,c.books⟩:Kz).books) hs9) (fun v G4 L1 hl4 hp=>?_)
 obtain ⟨a10,c9,r1,rfl,hr1,rfl⟩:=hp
 refine Jc [0] [(9,Sl a10 ((Ws (⟨c.queue,c.batch,c.every,c.now+1,c.heads,c.books⟩:Kz).books).length) c9)] (Je (Jb (Jf (Jg [0,0,0] [(48,Sl a8 (((J6 c.queue c.batch).2.1).length) c7),(49,I (((J6 c.queue c.batch).2.1).length:Int)),(50,I 0)] (Jy ?_)))))
 have hlm_hs8:((J6 c.queue c.batch).2.1).length≤9223372036854775807:=Hg (hs8).le (hs8).max
 refine Qh (σ:=Nat×Option Addr×Nat×List Kh×List J2×J4) (fun q_=>(J4.le G4 q_.2.2.2.2.2)∧(q_.1≤((J6 c.queue c.batch).2.1).length)∧(J1 QD q_.2.2.2.2.2 q_.2.1 q_.2.2.1 q_.2.2.2.2.1 q_.2.2.2.1)∧(q_.2.2.2.2.1=Jav (Ws c.books) ((J6 c.queue c.batch).2.1.take q_.1)∧q_.2.2.2.2.1.length≤1000)) (fun q_=>[(1,Pt b1 0),(2,Pt b2 0),(6,Pt b3 0),(9,Sl q_.2.1 q_.2.2.2.2.1.length q_.2.2.1),(48,Sl a8 (((J6 c.queue c.batch).2.1).length) c7),(49,I (((J6 c.queue c.batch).2.1).length:Int)),(50,I (q_.1:Int))]) (fun q_=>q_.2.2.2.2.2) (fun q_=>[q_.2.2.2.1,[Sg b3 0 [I (((J6 c.queue c.batch).1).most),Sl a7 ((((J6 c.queue c.batch).1).wait).length) c6]],[Sg b2 0 [I 0,Sl none 0 0,I 0,I 0,I 0,Sl none 0 0,Sl none 0 0]],[Sg b1 0 [I c.queue.most,Sl a4 c.queue.wait.length c4,I c.batch,I c.every,I (c.now+1),Sl a5 c.heads.length c5,Sl a6 c.books.length c.books.length]]]) (fun q_=>((J6 c.queue c.batch).2.1).length-q_.1) (0,a10,c9,r1,Ws (⟨c.queue,c.batch,c.every,c.now+1,c.heads,c.books⟩:Kz).books,G4) ⟨(Jh _),(by (try dsimp only);exact Hs _),hr1,⟨rfl,by have q_:=Yf ‹_›;(try dsimp only);omega⟩⟩ (fun q_ hs=>?_)
 obtain ⟨i,aw,cw,rw,xw,g⟩:=q_
 obtain ⟨hle,hi,hrw,hxw⟩:=hs
 dsimp only at hle hi hrw hxw
 dsimp only
 refine Jg [0] [(51,Bo (decide ((i:Int)<(((J6 c.queue c.batch).2.1).length:Int))))] (Jf (Jl (decide ((i:Int)<(((J6 c.queue c.batch).2.1).length:Int))) (fun h4=>?_) (fun h4=>?_)))
 refine Jq (Jb (Jf (Jy (Jf (Jd ?_)))))
 obtain ⟨b4,o1,rfl⟩:=RS.addr (hs8.mono (Ja (Ja hl3 hl4) hle)) (k:=i) (by omega)
 obtain ⟨x1,hx1⟩:=Wf (l:=(J6 c.queue c.batch).2.1) (k:=i) (by omega)
 obtain ⟨_,⟨rfl,w10,w11,_,_⟩,hc1⟩:=RS.get (hs8.mono (Ja (Ja hl3 hl4) hle)) hx1
 refine J5 (b:=b4) (off:=o1) (len:=((J6 c.queue c.batch).2.1).length) (cap:=c7) (ik:=.i64) 52 182 4 i J8 (JZ 53 182 (cs:=[Sr x1.name,Sr x1.value,U x1.n,U x1.tag]) 0 (.agg #[Sr x1.name,Sr x1.value,U x1.n,U x1.tag]) hc1 (Jv 11 #[Sr ([]),Sr ([]),U 0,U 0] 182 (fun b5=>JV [3] [] [[Sg b5 0 [Sr x1.name,Sr x1.value,U x1.n,U x1.tag]],rw,[Sg b3 0 [I (((J6 c.queue c.batch).1).most),Sl a7 ((((J6 c.queue c.batch).1).wait).length) c6]],[Sg b2 0 [I 0,Sl none 0 0,I 0,I 0,I 0,Sl none 0 0,Sl none 0 0]],[Sg b1 0 [I c.queue.most,Sl a4 c.queue.wait.length c4,I c.batch,I c.every,I (c.now+1),Sl a5 c.heads.length c5,Sl a6 c.books.length c.books.length]]] (Je (Jb (Jd (Jc [0,0,2,0,2] [(55,Sl aw xw.length cw),(57,Sr x1.name),(59,Sr x1.value)] (WL (E:=QD) 1 hrw (by (have q0_:=hxw.2;simp only [QD];omega)) (fun G5 hl5 hs10=>JI 60 (Jix G5 aw cw xw hs10 x1.name w10 x1.value w11) (fun v G6 L1 hl6 hp=>?_))))))))))
 obtain ⟨a11,c10,r2,rfl,hr2,rfl⟩:=hp
 refine Jc [0,0,0,0] [(9,Sl a11 (((Ql xw x1.name x1.value).1).length) c10)] (Je (JN (Jb (Jd (Jc [0,0] [(50,I (Hb.wrap ((i:Int)+1)))] (Kr 50 ((i:Int)+1) J8 (Je (Jk 0 (Jk 1 (Jk 2 ?_))))))))))
 exact Qr [r2,[Sg b3 0 [I (((J6 c.queue c.batch).1).most),Sl a7 ((((J6 c.queue c.batch).1).wait).length) c6]],[Sg b2 0 [I 0,Sl none 0 0,I 0,I 0,I 0,Sl none 0 0,Sl none 0 0]],[Sg b1 0 [I c.queue.most,Sl a4 c.queue.wait.length c4,I c.batch,I c.every,I (c.now+1),Sl a5 c.heads.length c5,Sl a6 c.books.length c.books.length]]] (Qi (i+1,a11,c10,r2,(Ql xw x1.name x1.value).1,G6) ⟨(Ja hle (Ja hl5 hl6)),J8,hr2,⟨by rw [hxw.1];exact JiP hx1,Hg (Jiw _ _ _) (by decide)⟩⟩ (by (try dsimp only);omega))
 refine KW (JY (J9 (JT (Jb (Jf (Jd (Jc [0] [(65,Sl aw xw.length cw)] (WL (E:=QD) 0 hrw (by (have q0_:=hxw.2;simp only [QD];omega)) (fun G7 hl7 hs11=>Jm 66 (.tuple #[U ((JX xw []).1),I ((JX xw []).2)]) (Jbi G7 aw cw xw hs11) (Jc [0,0,0,0,0] [(12,U ((JX xw []).1))] (Je (Jb (Jf (Kp [4,5,7,9] (Wl [(0,.agg #[I (((J6 c.queue c.batch).1).most),Sl a7 ((((J6 c.queue c.batch).1).wait).length) c6]),(1,Pt b1 6),(2,Sl a6 c.books.length c.books.length),(3,Sl aw xw.length cw),(6,Pt b1 0)] (JK [] [(0,4),(1,0),(2,8),(3,0),(6,0)] [] [4] (Ha _) (Ki ?_ K8)))))))))))))))))
 refine JC 4 [(72,Sl aw xw.length cw)] (fun X=>?_)
 refine Kt 73 1 #[Sl aw xw.length cw] 44 (fun b6=>JD [(4,Sl (At b6 0) 1 1)] (JK [3] [(0,6),(1,0),(2,10),(6,0)] [] [5] (Ha _) (Ki ?_ K8)))
 refine JC 5 [(71,Sl a6 c.books.length c.books.length),(73,Sl (At b6 0) 1 1)] (fun X=>?_)
 refine Jkc (E:=Qk) (b:=b6) (cs:=[Sl aw xw.length cw]) 74 44 0 xw (hs6.mono (Ja (Ja (Ja (Ja hl2 hl3) hl4) hle) hl7)) (⟨aw,cw,rfl,hs11⟩) (by (have q_:=Yf ‹_›;(try simp only [Hc,He,Hi]);omega)) (by (have q_:=Yf ‹_›;simp only [Qk,Hc,He,Hi];omega)) (fun a12 c11 r3 hr3=>JD [(5,Sl a12 ((c.books++[xw]).length) c11)] (JK [1,2,3] [(0,8),(6,0)] [] [7] (Ha _) (Ki ?_ K8)))
 refine JC 7 [(69,.agg #[I (((J6 c.queue c.batch).1).most),Sl a7 ((((J6 c.queue c.batch).1).wait).length) c6]),(75,Pt b1 0)] (fun X=>?_)
 refine KN 5 [r3,[Sg b6 0 [Sl aw xw.length cw]],[],[Sg b3 0 [I (((J6 c.queue c.batch).1).most),Sl a7 ((((J6 c.queue c.batch).1).wait).length) c6]],[Sg b2 0 [I 0,Sl none 0 0,I 0,I 0,I 0,Sl none 0 0,Sl none 0 0]],[Sg b1 0 [I (((J6 c.queue c.batch).1).most),Sl a7 ((((J6 c.queue c.batch).1).wait).length) c6,I c.batch,I c.every,I (c.now+1),Sl a5 c.heads.length c5,Sl a6 c.books.length c.books.length]]] (Ka [(8,Pt b1 6)] (JK [0,1,2,3,6] [(8,0)] [] [9] (Ha _) (Ki ?_ K8)))
 refine JC 9 [(74,Sl a12 ((c.books++[xw]).length) c11),(76,Pt b1 6)] (fun X=>?_)
 refine KN 5 [r3,[Sg b6 0 [Sl aw xw.length cw]],[],[Sg b3 0 [I (((J6 c.queue c.batch).1).most),Sl a7 ((((J6 c.queue c.batch).1).wait).length) c6]],[Sg b2 0 [I 0,Sl none 0 0,I 0,I 0,I 0,Sl none 0 0,Sl none 0 0]],[Sg b1 0 [I (((J6 c.queue c.batch).1).most),Sl a7 ((((J6 c.queue c.batch).1).wait).length) c6,I c.batch,I c.every,I (c.now+1),Sl a5 c.heads.length c5,Sl a12 ((c.books++[xw]).length) c11]]] (Ka [] (Km [0,1,2,3,6,8] [] [] [(1,Pt b1 0),(2,Pt b2 0),(12,U ((JX xw []).1))] (Ha _) (Jb (Jf (Jd (Jc [0,12,0,0,12] [(79,Sl a5 c.heads.length c5),(80,U ((JX xw []).1)),(82,I (c.now+1))] (JI 83 (Jf5 G7 a5 c5 c.heads (hs5.mono (Ja (Ja (Ja (Ja hl2 hl3) hl4) hle) hl7)) ((JX xw []).1) (Y3 _ _) (c.now+1) (by have q_:=Yf ‹_›;(try dsimp only);omega)) (fun v G8 L1 hl8 hp=>?_))))))))
 obtain ⟨a13,c12,r4,rfl,hr4,rfl⟩:=hp
 refine JV [0,0,0,0,15] [] [r4,r3,[Sg b6 0 [Sl aw xw.length cw]],[],[Sg b3 0 [I (((J6 c.queue c.batch).1).most),Sl a7 ((((J6 c.queue c.batch).1).wait).length) c6]],[Sg b2 0 [I 0,Sl none 0 0,I 0,I 0,I 0,Sl none 0 0,Sl none 0 0]],[Sg b1 0 [I (((J6 c.queue c.batch).1).most),Sl a7 ((((J6 c.queue c.batch).1).wait).length) c6,I c.batch,I c.every,I (c.now+1),Sl a13 (((Qu c.heads ((JX xw []).1) (c.now+1)).1).length) c12,Sl a12 ((c.books++[xw]).length) c11]]] (Je (Jb (QA [14,13,0,0] [(3,Bo true),(4,I 0)] [r4,r3,[Sg b6 0 [Sl aw xw.length cw]],[],[Sg b3 0 [I (((J6 c.queue c.batch).1).most),Sl a7 ((((J6 c.queue c.batch).1).wait).length) c6]],[Sg b2 0 [I (((J6 c.queue c.batch).1).most),Sl a7 ((((J6 c.queue c.batch).1).wait).length) c6,I c.batch,I c.every,I (c.now+1),Sl a13 (((Qu c.heads ((JX xw []).1) (c.now+1)).1).length) c12,Sl a12 ((c.books++[xw]).length) c11]],[Sg b1 0 [I (((J6 c.queue c.batch).1).most),Sl a7 ((((J6 c.queue c.batch).1).wait).length) c6,I c.batch,I c.every,I (c.now+1),Sl a13 (((Qu c.heads ((JX xw []).1) (c.now+1)).1).length) c12,Sl a12 ((c.books++[xw]).length) c11]]] (Jn (Wp (E:=KA) 0 hr4 (by (have q_:=Jge c.heads ((JX xw []).1) (c.now+1);simp only [KA];omega)) (fun G9 hl9 hs12=>Wp (E:=Qk) 1 (hr3.mono (Ja hl8 hl9)) (by (have q_:=Yf ‹_›;simp only [Qk,Hc,He,Hi];omega)) (fun G10 hl10 hs13=>?_)))))))
 have hf4:KD c=((⟨((J6 c.queue c.batch).1),c.batch,c.every,c.now+1,(Qu c.heads ((JX xw []).1) (c.now+1)).1,(c.books++[xw])⟩:Kz),true,0):=by
  unfold KD ZY;(rw [if_neg (by simp_all)];(rw [if_neg (by simp_all)];(rw [if_neg (by simp_all)];have e_:xw=ZA c:=(by rw [hxw.1,Hk (by omega)];rfl);rw [← e_])))
 refine Jo [5,0,0] [.agg #[I (((J6 c.queue c.batch).1).most),Sl a7 ((((J6 c.queue c.batch).1).wait).length) c6,I c.batch,I c.every,I (c.now+1),Sl a13 (((Qu c.heads ((JX xw []).1) (c.now+1)).1).length) c12,Sl a12 ((c.books++[xw]).length) c11],Bo true,I 0] (JA [] (Ja (Ja (Ja (Ja (Ja (Ja (Ja (Ja hl1 hl2) hl3) hl4) hle) hl7) hl8) hl9) hl10) ?_)
 rw [hf4]
 try dsimp only
 exact ⟨a7,c6,a13,c12,a12,c11,rfl,w9,(hs7.mono (Ja (Ja (Ja (Ja (Ja (Ja hl3 hl4) hle) hl7) hl8) hl9) hl10)),‹_›,‹_›,(by have q_:=Yf ‹_›;(try dsimp only);omega),(hs12.mono hl10),hs13,rfl⟩
theorem JiR {a:W8} {l:List W8} {b:List J2} (h:W3 b) (hr:∀ x∈a::l,Kw x=0) (hn:nn (KR b++Qv (a::l))≤24) :
  (Ql b a.name a.value).2=0∧W3 (Ql b a.name a.value).1∧(∀ x∈l,Kw x=0)∧nn (KR (Ql b a.name a.value).1++Qv l)≤24:=by
 have ha:=JdV (hr a (by simp))
 have hf:a.name∈KR b∨b.length<24:=by
  by_cases e:a.name∈KR b
  · exact .inl e
  ·
   right
   have h1:(a.name::KR b).Nodup:=HM.2 ⟨e,Jej h⟩
   have h2:=JiN h1
   have h3:nn (a.name::KR b)≤nn (KR b++Qv (a::l)):=JaC fun x hx=>by
    rcases Ht.1 hx with rfl | hx
    · exact Hf.2 (.inr (WQ.2 ⟨a,by simp,rfl⟩))
    · exact Hf.2 (.inl hx)
   simp only [He] at h2
   have:(KR b).length=b.length:=by simp [KR]
   omega
 have hs:=Jek h ha hf
 refine ⟨hs,(Y2 hs).2.2.1,fun x hx=>hr x (by simp [hx]),Hg (JaC fun s hs'=>?_) hn⟩
 rcases Hf.1 hs' with q | q
 ·
  rcases (JdU hs).1 q with rfl | q
  · exact Hf.2 (.inr (WQ.2 ⟨a,by simp,rfl⟩))
  · exact Hf.2 (.inl q)
 · exact Hf.2 (.inr (by simp only [Qv,HI,Ht];exact .inr q))
theorem JnR {n e:Int} (he:1≤e):(n+1) % e=if n % e+1=e then 0 else n % e+1:=by
 have h1:=HO n e
 have h2:=Int.emod_nonneg n (show e ≠ 0 by omega)
 have h3:=Int.emod_lt_of_pos n (show 0<e by omega)
 generalize n % e=r at *
 generalize n / e=q at *
 subst h1
 rw [show r+e*q+1=(r+1)+e*q by omega,Int.add_mul_emod_self_left]
 split
 · rename_i h;rw [h];exact Int.emod_self
 · rename_i h;exact Int.emod_eq_of_lt (by omega) (by omega)
def JdW:Wa:=⟨Zr,JdO⟩
def JM (c:Kz) (name:List UInt8) (epoch:Int):Wa×Int:=if ¬ (KC c epoch).2=0 then (JdW,(KC c epoch).2) else if ¬ (Qf (KC c epoch).1 name).2=0 then (JdW,(Qf (KC c epoch).1 name).2) else (⟨c.heads[epoch.toNat]?.getD Zr,(Qf (KC c epoch).1 name).1⟩,0)
theorem VF (G:J4) (vs_c:List Value) (c:Kz) (h_c:Jal.R G vs_c c) (name:List UInt8) (hw_name:(name).length≤140737488351232) (epoch:Int) (hw_epoch:rI epoch) :Yw 141 #[.agg vs_c.toArray,Sr name,I epoch] G [] (fun u G' L'=>∃ (a1:Option Addr) (c2:Nat) (a3:Option Addr) (c4:Nat),u=.tuple #[.agg #[I (((JM c name epoch).1).head.epoch),U (((JM c name epoch).1).head.root),U (((JM c name epoch).1).head.prev),I (((JM c name epoch).1).head.at_),Sr (((JM c name epoch).1).proof.name),Sl a1 ((((JM c name epoch).1).proof.entries).length) c2,Sl a3 ((((JM c name epoch).1).proof.sides).length) c4],I ((JM c name epoch).2)]∧(rI (((JM c name epoch).1).head.epoch))∧(rU (((JM c name epoch).1).head.root))∧(rU (((JM c name epoch).1).head.prev))∧(rI (((JM c name epoch).1).head.at_))∧((((JM c name epoch).1).proof.name).length≤140737488351232)∧(RS QD G' a1 c2 (((JM c name epoch).1).proof.entries))∧(RS EU G' a3 c4 (((JM c name epoch).1).proof.sides))∧L'=[]):=by
 obtain ⟨a1,c1,a2,c2,a3,c3,rfl,w1,hs1,w2,w3,w4,hs2,hs3⟩:=h_c
 refine JR Tryz.func141 38 [(0,(Qt c a1 c1 a2 c2 a3 c3)),(1,Sr name),(2,I epoch)] rfl (fun w0 G0=>?_)
 refine Jf (Jd (Jv 3 #[I c.queue.most,Sl a1 c.queue.wait.length c1,I c.batch,I c.every,I c.now,Sl a2 c.heads.length c2,Sl a3 c.books.length c3] 60 (fun b1=>Jv 6 #[I 0,U 0,U 0,I 0,Sr ([]),Sl none 0 0,Sl none 0 0] 49 (fun b2=>Jc [0] [] (Je (Jb (Jf (Jd (Jc [4,0] [(12,(Qt c a1 c1 a2 c2 a3 c3)),(13,I epoch)] (JI 14 (Jgd G (KB c a1 c1 a2 c2 a3 c3) c (⟨a1,c1,a2,c2,a3,c3,rfl,w1,hs1,w2,w3,w4,hs2,hs3⟩) epoch hw_epoch) (fun v G1 L1 hl1 hp=>?_)))))))))))
 obtain ⟨a4,c4,_,rfl,hr1,rfl⟩:=hp
 refine Jc [0,0,0,0,0] [(8,Sl a4 (((KC c epoch).1).length) c4),(9,I ((KC c epoch).2))] (Je (Jb (Jf (Jg [0,0] [(18,Bo (!decide ((KC c epoch).2=0)))] (Jl (!decide ((KC c epoch).2=0)) (fun h1=>?_) (fun h1=>?_))))))
 refine Jg [0,0,5,0] [(7,I ((KC c epoch).2))] (Jn (Jj ?_))
 have hf1:JM c name epoch=((⟨(⟨0,0,0,0⟩:JU),(⟨[],[],[]⟩:Q6)⟩:Wa),(KC c epoch).2):=by
  unfold JM JdW;(rw [if_pos ‹_›];rfl)
 refine Jo [1,0] [.agg #[I 0,U 0,U 0,I 0,Sr ([]),Sl none 0 0,Sl none 0 0],I ((KC c epoch).2)] (JA [] hl1 ?_)
 rw [hf1]
 try dsimp only
 exact ⟨none,0,none,0,rfl,J8,J8,J8,J8,(Hh rfl),(JP QD G1),(JP EU G1),rfl⟩
 refine Jq (Jb (Jf (Jd (Jc [0,0] [(22,Sl a4 (((KC c epoch).1).length) c4),(23,Sr name)] (WL (E:=QD) 0 hr1 (by have q_:=JnP c epoch;simp only [QD];omega) (fun G2 hl2 hs4=>JI 24 (Jf2 G2 a4 c4 ((KC c epoch).1) hs4 name hw_name) (fun v G3 L1 hl3 hp=>?_)))))))
 obtain ⟨a5,c5,a6,c6,rfl,w5,hs5,hs6,rfl⟩:=hp
 refine Jc [0,0,0] [(25,(VS (Qf ((KC c epoch).1) name).1 a5 c5 a6 c6)),(26,I ((Qf ((KC c epoch).1) name).2))] (Jv 10 #[Sr ([]),Sl none 0 0,Sl none 0 0] 47 (fun b3=>JV [3,0] [(9,I ((Qf ((KC c epoch).1) name).2))] [[Sg b3 0 (Vw (Qf ((KC c epoch).1) name).1 a5 c5 a6 c6)],[],[Sg b2 0 [I 0,U 0,U 0,I 0,Sr ([]),Sl none 0 0,Sl none 0 0]],[Sg b1 0 (KB c a1 c1 a2 c2 a3 c3)]] (Je (Jb (Jf (Jg [0,0] [(28,Bo (!decide ((Qf ((KC c epoch).1) name).2=0)))] (Jl (!decide ((Qf ((KC c epoch).1) name).2=0)) (fun h2=>?_) (fun h2=>?_))))))))
 refine Jg [0,0,7,0] [(7,I ((Qf ((KC c epoch).1) name).2))] (Jn (Jj ?_))
 have hf2:JM c name epoch=((⟨(⟨0,0,0,0⟩:JU),(⟨[],[],[]⟩:Q6)⟩:Wa),(Qf ((KC c epoch).1) name).2):=by
  unfold JM JdW;(rw [if_neg (by omega)];(rw [if_pos ‹_›];rfl))
 refine Jo [2,0] [.agg #[I 0,U 0,U 0,I 0,Sr ([]),Sl none 0 0,Sl none 0 0],I ((Qf ((KC c epoch).1) name).2)] (JA [] (Ja (Ja hl1 hl2) hl3) ?_)
 rw [hf2]
 try dsimp only
 exact ⟨none,0,none,0,rfl,J8,J8,J8,J8,(Hh rfl),(JP QD G3),(JP EU G3),rfl⟩
 refine Jq (Jb ?_)
 obtain ⟨kn1,hkn1⟩:∃ k_:Nat,epoch=(k_:Int):=⟨(epoch).toNat,by (have q_:=Jde (c:=c) ‹_›;have q1_:=q_.1.len;omega)⟩
 have e1:epoch=(kn1:Int):=hkn1
 refine Q2 2 (I (kn1:Int)) (congrArg I e1) (Jf ?_)
 obtain ⟨b4,o1,rfl⟩:=RS.addr (hs2.mono (Ja (Ja hl1 hl2) hl3)) (k:=kn1) (by (have q_:=Jde (c:=c) ‹_›;have q1_:=q_.1.len;omega))
 obtain ⟨x1,hx1⟩:=Wf (l:=c.heads) (k:=kn1) (by (have q_:=Jde (c:=c) ‹_›;have q1_:=q_.1.len;omega))
 obtain ⟨_,⟨rfl,w6,w7,w8,w9⟩,hc1⟩:=RS.get (hs2.mono (Ja (Ja hl1 hl2) hl3)) hx1
 refine Kp [7] (Wl [(0,Pt b1 5),(1,Sl (At b4 o1) c.heads.length c2),(2,I (kn1:Int)),(3,Pt b4 (o1+kn1*4)),(4,.agg #[I x1.epoch,U x1.root,U x1.prev,I x1.at_]),(5,(VS (Qf ((KC c epoch).1) name).1 a5 c5 a6 c6)),(6,(WP (⟨x1,(Qf ((KC c epoch).1) name).1⟩:Wa) a5 c5 a6 c6))] (JK [] [(0,0),(1,8),(2,0),(5,2),(6,0)] [3,4] [7] (Ki ?_ (Ki ?_ K8)) (Ki ?_ K8)))
 refine Jt 3 34 (Pt b4 (o1+kn1*4)) [(32,Sl (At b4 o1) c.heads.length c2),(33,I (kn1:Int))] (fun X=>?_)
 exact J5 (b:=b4) (off:=o1) (len:=c.heads.length) (cap:=c2) (ik:=.i64) 34 43 4 kn1 (by (have q_:=Jde (c:=c) ‹_›;have q1_:=q_.1.len;omega)) Jp
 refine Jt 4 35 (.agg #[I x1.epoch,U x1.root,U x1.prev,I x1.at_]) [(34,Pt b4 (o1+kn1*4))] (fun X=>?_)
 exact JZ 35 43 (cs:=[I x1.epoch,U x1.root,U x1.prev,I x1.at_]) 0 (.agg #[I x1.epoch,U x1.root,U x1.prev,I x1.at_]) hc1 Jp
 refine JC 7 [(6,Pt b2 0),(37,(WP (⟨x1,(Qf ((KC c epoch).1) name).1⟩:Wa) a5 c5 a6 c6))] (fun X=>?_)
 refine KN 2 [[Sg b3 0 (Vw (Qf ((KC c epoch).1) name).1 a5 c5 a6 c6)],[],[Sg b2 0 (Zz (⟨x1,(Qf ((KC c epoch).1) name).1⟩:Wa) a5 c5 a6 c6)],[Sg b1 0 (KB c a1 c1 (At b4 o1) c2 a3 c3)]] (Ka [(8,I 0)] (Km [0,1,2,3,4,5,6] [(8,0)] [] [(6,Pt b2 0),(7,I 0)] (Ha _) (Jb (Jn ?_))))
 have hf3:JM c name epoch=((⟨x1,((Qf ((KC c epoch).1) name).1)⟩:Wa),0):=by
  unfold JM JdW;(rw [if_neg (by omega)];(rw [if_neg (by simp_all)];simp_all;done))
 refine Jo [2,0] [(WP (⟨x1,(Qf ((KC c epoch).1) name).1⟩:Wa) a5 c5 a6 c6),I 0] (JA [] (Ja (Ja hl1 hl2) hl3) ?_)
 rw [hf3]
 try dsimp only
 exact ⟨a5,c5,a6,c6,rfl,w6,w7,w8,w9,w5,hs5,hs6,rfl⟩
def ZB (c:Kz) (a b:Int):List JU×Int:=if ¬ Kc c=0 then ([],Kc c) else W0 c.heads a b
set_option maxHeartbeats 1600000 in
theorem JfC (G:J4) (vs_c:List Value) (c:Kz) (h_c:Jal.R G vs_c c) (a:Int) (hw_a:rI a) (b:Int) (hw_b:rI b) :Yw 167 #[.agg vs_c.toArray,I a,I b] G [] (fun u G' L'=>∃ (a1:Option Addr) (c2:Nat),u=.tuple #[Sl a1 (((ZB c a b).1).length) c2,I ((ZB c a b).2)]∧(RS KA G' a1 c2 ((ZB c a b).1))∧L'=[]):=by
 obtain ⟨a1,c1,a2,c2,a3,c3,rfl,w1,hs1,w2,w3,w4,hs2,hs3⟩:=h_c
 refine JR Tryz.func167 21 [(0,(Qt c a1 c1 a2 c2 a3 c3)),(1,I a),(2,I b)] rfl (fun w0 G0=>?_)
 refine Jf (Jd (Jv 3 #[I c.queue.most,Sl a1 c.queue.wait.length c1,I c.batch,I c.every,I c.now,Sl a2 c.heads.length c2,Sl a3 c.books.length c3] 60 (fun b1=>Jc [0,0] [] (Je (Jb (Jf (Jf (Jd (Jc [2] [(9,(Qt c a1 c1 a2 c2 a3 c3))] (Jm 10 (I (Kc c)) (Vm G (KB c a1 c1 a2 c2 a3 c3) c (⟨a1,c1,a2,c2,a3,c3,rfl,w1,hs1,w2,w3,w4,hs2,hs3⟩)) (Jc [0] [(8,I (Kc c))] (Je (Jb (Jg [0,0] [(12,Bo (!decide (Kc c=0)))] (Jl (!decide (Kc c=0)) (fun h1=>?_) (fun h1=>?_))))))))))))))))
 refine Jg [0,0,0] [(6,Sl none 0 0),(7,I (Kc c))] (Jn (Jj ?_))
 have hf1:ZB c a b=([],Kc c):=by
  unfold ZB;(rw [if_pos ‹_›];done)
 refine Jo [0,0] [Sl none 0 0,I (Kc c)] (JA [] (Jh _) ?_)
 rw [hf1]
 try dsimp only
 exact ⟨none,0,rfl,(JP KA G),rfl⟩
 refine Jq (Jb (Jf (Jd (Jc [0,2,0,0] [(15,Sl a2 c.heads.length c2),(16,I a),(17,I b)] (JI 18 (Jf6 G a2 c2 c.heads hs2 a hw_a b hw_b) (fun v G1 L1 hl1 hp=>?_))))))
 obtain ⟨a4,c4,rfl,hs4,rfl⟩:=hp
 refine Jc [0,0,0,0] [(6,Sl a4 (((W0 c.heads a b).1).length) c4),(7,I ((W0 c.heads a b).2))] (Je (Jb (Jn ?_)))
 have hf2:ZB c a b=((W0 c.heads a b).1,(W0 c.heads a b).2):=by
  unfold ZB;(rw [if_neg (by omega)];done)
 refine Jo [0,0] [Sl a4 (((W0 c.heads a b).1).length) c4,I ((W0 c.heads a b).2)] (JA [] hl1 ?_)
 rw [hf2]
 try dsimp only
 exact ⟨a4,c4,rfl,hs4,rfl⟩
def Y5 (p:Wb):Prop:=1≤p.least∧p.least≤p.most∧p.most≤1000∧1≤p.lost∧p.lost≤100∧p.least≤p.gap∧p.gap≤p.most∧0≤p.next∧p.next≤1000000000∧0≤p.asked∧p.asked≤1000000
instance (p:Wb):Decidable (Y5 p):=inferInstanceAs (Decidable (_∧_))
def KG (p:Wb):Int:=if Y5 p then 0 else 4
theorem Zw (p:Wb):KG p=0 ↔ Y5 p:=by unfold KG;split <;> simp_all
theorem JhE (p:Wb):KG p=0∨KG p=4:=by unfold KG;split <;> simp
theorem Jbm {p:Wb} (h:Y5 p):KG p=0:=if_pos h
theorem Jch {p:Wb} (h:¬ Y5 p):KG p=4:=if_neg h
def KK (p:Wb) (now:Int):Int:=if KG p=0∧(now<0∨1000000000<now) then 4 else KG p
theorem JcC (p:Wb) (now:Int):KK p now=0 ↔ (Y5 p∧0≤now∧now≤1000000000):=by
 rw [← Zw];unfold KK;have:=JhE p;split <;> omega
theorem JbL {p:Wb} {now:Int} (h:KK p now=0):1≤p.least∧p.least≤p.most∧p.most≤1000∧1≤p.lost∧p.lost≤100∧p.least≤p.gap∧p.gap≤p.most∧0≤p.next∧p.next≤1000000000∧0≤p.asked∧p.asked≤1000000∧0≤now∧now≤1000000000:=by
 have:=(JcC p now).1 h;unfold Y5 at this;omega
def K7 (now n:Int):Int:=if 1000000000<now+n then 1000000000 else now+n
def Vt:Wb:=⟨0,0,0,0,0,0⟩
def KL (p:Wb) (now:Int):Wb×Int :=
 if KK p now ≠ 0 then (Vt,KK p now) else if now<p.next then (Vt,9) else if p.asked=1000000 then (Vt,7) else
 (⟨p.least,p.most,p.lost,if p.most<2*p.gap then p.most else 2*p.gap,K7 now p.gap,p.asked+1⟩,0)
def KQ (least top lost:Int):Wb×Int:=if Y5 ⟨least,top,lost,least,0,0⟩ then (⟨least,top,lost,least,0,0⟩,0) else (Vt,4)
def Q7 (p:Wb) (now:Int):Wb×Int :=
 if KK p now ≠ 0 then (Vt,KK p now) else
 (⟨p.least,p.most,p.lost,p.least,if K7 now p.least<p.next then K7 now p.least else p.next,0⟩,0)
theorem Jeo {p:Wb} {now:Int} (h:(KL p now).2=0) :
  1≤p.least∧p.least≤p.most∧p.most≤1000∧1≤p.lost∧p.lost≤100∧p.least≤p.gap∧p.gap≤p.most∧0≤p.next∧p.next≤1000000000∧0≤p.asked∧p.asked<1000000∧0≤now∧now≤1000000000∧p.next≤now ∧
  KG (KL p now).1=0∧(KL p now).1.least=p.least∧(KL p now).1.most=p.most∧(KL p now).1.lost=p.lost∧(KL p now).1.asked=p.asked+1 ∧
  (p.most<2*p.gap∧(KL p now).1.gap=p.most∨2*p.gap≤p.most∧(KL p now).1.gap=2*p.gap) ∧
  (1000000000<now+p.gap∧(KL p now).1.next=1000000000∨now+p.gap≤1000000000∧(KL p now).1.next=now+p.gap):=by
 unfold KL at h ⊢
 split at h
 · contradiction
 split at h
 · cases h
 split at h
 · cases h
 rename_i h1 h2 h3
 have hb:=JbL (p:=p) (now:=now) (by omega)
 rw [if_neg h1,if_neg h2,if_neg h3]
 dsimp only
 refine ⟨by omega,by omega,by omega,by omega,by omega,by omega,by omega,by omega,by omega,by omega,by omega,by omega,by omega,by omega,Jbm ?_,rfl,rfl,rfl,rfl,?_,?_⟩
 · unfold Y5 K7;simp only;(repeat' split) <;> omega
 · split <;> omega
 · unfold K7;split <;> omega
theorem JhF {p:Wb} {now:Int} (h:(KL p now).2 ≠ 0):(KL p now).1=Vt:=by
 revert h;unfold KL;(repeat' split) <;> simp
theorem JhG {p:Wb} {now:Int} (h:(Q7 p now).2=0):KK p now=0∧Q7 p now=(⟨p.least,p.most,p.lost,p.least,if K7 now p.least<p.next then K7 now p.least else p.next,0⟩,0):=by
 revert h;unfold Q7;split
 · intro h;exact absurd h ‹_›
 · intro _;exact ⟨by omega,rfl⟩
theorem JfD {a b c:Int} (h:(KQ a b c).2=0):Y5 ⟨a,b,c,a,0,0⟩∧KQ a b c=(⟨a,b,c,a,0,0⟩,0):=by
 revert h;unfold KQ;split
 · rename_i h1;intro _;exact ⟨h1,rfl⟩
 · simp
theorem JiS {a b c:Int} (h:(KQ a b c).2 ≠ 0):(KQ a b c).1=Vt:=by
 revert h;unfold KQ;split <;> simp
def Ja4 (p:Wb):Bool:=decide (KG p=0) && decide (p.asked ≥ p.lost)
def ZC (p:Wb) (now:Int):Bool×Int:=(decide (KK p now=0) && decide (now ≥ p.next),KK p now)
def WU (p:Wb):Bool×Int:=(Ja4 p,KG p)
theorem JaO (G:J4) (vs_p:List Value) (p:Wb) (h_p:Wg.R G vs_p p) :Q4 100 #[.agg vs_p.toArray] G (I (KG p)):=by
 obtain ⟨rfl,_,_,_,_,_,_⟩:=h_p
 refine JR Tryz.func100 62 [(0,.agg #[I p.least,I p.most,I p.lost,I p.gap,I p.next,I p.asked])] rfl (fun w0 G0=>?_)
 refine Jf (Jd (Jv 1 #[I p.least,I p.most,I p.lost,I p.gap,I p.next,I p.asked] 143 (fun b1=>Jc [0] [] (Je (Jb (Jf (Jf (Jd (Jc [0,2,0,0] [(6,Bo (decide (p.least<1)))] (Ks (decide (p.least<1)) [6] [1,1,1,1,1,0] [0,2,0,2,0,0] (fun bb=>[(12,Bo (bb || (decide (p.least > p.most))))]) (Jc [0] [(13,Bo ((decide (p.least<1)) || (decide (p.least > p.most))))] (Ks ((decide (p.least<1)) || (decide (p.least > p.most))) [13] [1,1,1,0] [0,2,0,0] (fun bb=>[(17,Bo (bb || (decide (p.most > 1000))))]) (Jc [0] [(18,Bo (((decide (p.least<1)) || (decide (p.least > p.most))) || (decide (p.most > 1000))))] (Ks (((decide (p.least<1)) || (decide (p.least > p.most))) || (decide (p.most > 1000))) [18] [1,1,1,0] [0,2,0,0] (fun bb=>[(22,Bo (bb || (decide (p.lost<1))))]) (Jc [0] [(23,Bo ((((decide (p.least<1)) || (decide (p.least > p.most))) || (decide (p.most > 1000))) || (decide (p.lost<1))))] (Ks ((((decide (p.least<1)) || (decide (p.least > p.most))) || (decide (p.most > 1000))) || (decide (p.lost<1))) [23] [1,1,1,0] [0,2,0,0] (fun bb=>[(27,Bo (bb || (decide (p.lost > 100))))]) ?_))))))))))))))))
 refine Jc [0] [(28,Bo (((((decide (p.least<1)) || (decide (p.least > p.most))) || (decide (p.most > 1000))) || (decide (p.lost<1))) || (decide (p.lost > 100))))] (Ks (((((decide (p.least<1)) || (decide (p.least > p.most))) || (decide (p.most > 1000))) || (decide (p.lost<1))) || (decide (p.lost > 100))) [28] [1,1,1,1,1,0] [0,2,0,2,0,0] (fun bb=>[(34,Bo (bb || (decide (p.gap<p.least))))]) (Jc [0] [(35,Bo ((((((decide (p.least<1)) || (decide (p.least > p.most))) || (decide (p.most > 1000))) || (decide (p.lost<1))) || (decide (p.lost > 100))) || (decide (p.gap<p.least))))] (Ks ((((((decide (p.least<1)) || (decide (p.least > p.most))) || (decide (p.most > 1000))) || (decide (p.lost<1))) || (decide (p.lost > 100))) || (decide (p.gap<p.least))) [35] [1,1,1,1,1,0] [0,2,0,2,0,0] (fun bb=>[(41,Bo (bb || (decide (p.gap > p.most))))]) (Jc [0] [(42,Bo (((((((decide (p.least<1)) || (decide (p.least > p.most))) || (decide (p.most > 1000))) || (decide (p.lost<1))) || (decide (p.lost > 100))) || (decide (p.gap<p.least))) || (decide (p.gap > p.most))))] (Ks (((((((decide (p.least<1)) || (decide (p.least > p.most))) || (decide (p.most > 1000))) || (decide (p.lost<1))) || (decide (p.lost > 100))) || (decide (p.gap<p.least))) || (decide (p.gap > p.most))) [42] [1,1,1,0] [0,2,0,0] (fun bb=>[(46,Bo (bb || (decide (p.next<0))))]) (Jc [0] [(47,Bo ((((((((decide (p.least<1)) || (decide (p.least > p.most))) || (decide (p.most > 1000))) || (decide (p.lost<1))) || (decide (p.lost > 100))) || (decide (p.gap<p.least))) || (decide (p.gap > p.most))) || (decide (p.next<0))))] (Ks ((((((((decide (p.least<1)) || (decide (p.least > p.most))) || (decide (p.most > 1000))) || (decide (p.lost<1))) || (decide (p.lost > 100))) || (decide (p.gap<p.least))) || (decide (p.gap > p.most))) || (decide (p.next<0))) [47] [1,1,1,0] [0,2,0,0] (fun bb=>[(51,Bo (bb || (decide (p.next > 1000000000))))]) (Jc [0] [(52,Bo (((((((((decide (p.least<1)) || (decide (p.least > p.most))) || (decide (p.most > 1000))) || (decide (p.lost<1))) || (decide (p.lost > 100))) || (decide (p.gap<p.least))) || (decide (p.gap > p.most))) || (decide (p.next<0))) || (decide (p.next > 1000000000))))] (Ks (((((((((decide (p.least<1)) || (decide (p.least > p.most))) || (decide (p.most > 1000))) || (decide (p.lost<1))) || (decide (p.lost > 100))) || (decide (p.gap<p.least))) || (decide (p.gap > p.most))) || (decide (p.next<0))) || (decide (p.next > 1000000000))) [52] [1,1,1,0] [0,2,0,0] (fun bb=>[(56,Bo (bb || (decide (p.asked<0))))]) (Jc [0] [(57,Bo ((((((((((decide (p.least<1)) || (decide (p.least > p.most))) || (decide (p.most > 1000))) || (decide (p.lost<1))) || (decide (p.lost > 100))) || (decide (p.gap<p.least))) || (decide (p.gap > p.most))) || (decide (p.next<0))) || (decide (p.next > 1000000000))) || (decide (p.asked<0))))] ?_))))))))))
 refine Ks ((((((((((decide (p.least<1)) || (decide (p.least > p.most))) || (decide (p.most > 1000))) || (decide (p.lost<1))) || (decide (p.lost > 100))) || (decide (p.gap<p.least))) || (decide (p.gap > p.most))) || (decide (p.next<0))) || (decide (p.next > 1000000000))) || (decide (p.asked<0))) [57] [1,1,1,0] [0,2,0,0] (fun bb=>[(61,Bo (bb || (decide (p.asked > 1000000))))]) (Je (Jb (Jl (((((((((((decide (p.least<1)) || (decide (p.least > p.most))) || (decide (p.most > 1000))) || (decide (p.lost<1))) || (decide (p.lost > 100))) || (decide (p.gap<p.least))) || (decide (p.gap > p.most))) || (decide (p.next<0))) || (decide (p.next > 1000000000))) || (decide (p.asked<0))) || (decide (p.asked > 1000000))) (fun h1=>?_) (fun h1=>?_))))
 refine Jg [0] [(2,I 4)] (Jn (Jj (Jo [0] [I 4] (Jx (Jh _) (congrArg I (?_:(KG p)=4).symm)))))
 exact Jch (by unfold Y5;omega)
 refine Jq (Jb (Jg [0] [(2,I 0)] (Jn (Jo [0] [I 0] (Jx (Jh _) (congrArg I (?_:(KG p)=0).symm))))))
 exact Jbm (by unfold Y5;omega)
theorem Jbt (G:J4) (vs_p:List Value) (p:Wb) (h_p:Wg.R G vs_p p) (now:Int) :Q4 215 #[.agg vs_p.toArray,I now] G (I (KK p now)):=by
 obtain ⟨rfl,w1,w2,w3,w4,w5,w6⟩:=h_p
 refine JR Tryz.func215 19 [(0,.agg #[I p.least,I p.most,I p.lost,I p.gap,I p.next,I p.asked]),(1,I now)] rfl (fun w0 G0=>?_)
 refine Jf (Jd (Jv 2 #[I p.least,I p.most,I p.lost,I p.gap,I p.next,I p.asked] 143 (fun b1=>Jc [0] [] (Je (Jb (Jf (Jd (Jc [2] [(6,.agg #[I p.least,I p.most,I p.lost,I p.gap,I p.next,I p.asked])] (Jm 7 (I (KG p)) (JaO G [I p.least,I p.most,I p.lost,I p.gap,I p.next,I p.asked] p (⟨rfl,w1,w2,w3,w4,w5,w6⟩)) (Jc [0] [(5,I (KG p))] (Je (Jb (Jf (Jf (Jd (Jc [0,0,0] [(10,Bo (decide (KG p=0)))] (QY [10] (decide (KG p=0)) (fun h1=>?_) (fun h1=>?_))))))))))))))))))
 refine Jc [0,0,0] [(13,Bo (decide (now<0)))] (Ks (decide (now<0)) [13] [1,1,0] [0,0,0] (fun bb=>[(16,Bo (bb || (decide (now > 1000000000))))]) (Jc [0] [(17,Bo ((decide (now<0)) || (decide (now > 1000000000))))] (Je (Jb (Jl ((decide (now<0)) || (decide (now > 1000000000))) (fun h2=>?_) (fun h2=>?_))))))
 refine Jd (Jc [0] [(5,I 4)] (Je (Jb (Jg [0,0] [(4,I 4)] (Jn (Jo [0] [I 4] (Jx (Jh _) (congrArg I (?_:(KK p now)=4).symm))))))))
 unfold KK;split <;> omega
 refine Jq (Jb (Jg [0,0] [(4,I (KG p))] (Jn (Jo [0] [I (KG p)] (Jx (Jh _) (congrArg I (?_:(KK p now)=(KG p)).symm))))))
 unfold KK;split <;> omega
 refine Jc [1,1,1,1,1,1,0] [(17,Bo false)] (Je (Jb (Qq (Jq (Jb (Jg [0,0] [(4,I (KG p))] (Jn (Jo [0] [I (KG p)] (Jx (Jh _) (congrArg I (?_:(KK p now)=(KG p)).symm))))))))))
 unfold KK;split <;> omega
theorem JiT (G:J4) (vs_p:List Value) (p:Wb) (h_p:Wg.R G vs_p p) (now:Int) :Q4 217 #[.agg vs_p.toArray,I now] G (.tuple #[Bo ((ZC p now).1),I ((ZC p now).2)]):=by
 obtain ⟨rfl,w1,w2,w3,w4,w5,w6⟩:=h_p
 refine JR Tryz.func217 19 [(0,.agg #[I p.least,I p.most,I p.lost,I p.gap,I p.next,I p.asked]),(1,I now)] rfl (fun w0 G0=>?_)
 refine Jf (Jd (Jv 2 #[I p.least,I p.most,I p.lost,I p.gap,I p.next,I p.asked] 143 (fun b1=>Jc [0,0] [] (Je (Jb (Jf (Jd (Jc [2,0] [(7,.agg #[I p.least,I p.most,I p.lost,I p.gap,I p.next,I p.asked]),(8,I now)] (Jm 9 (I (KK p now)) (Jbt G [I p.least,I p.most,I p.lost,I p.gap,I p.next,I p.asked] p (⟨rfl,w1,w2,w3,w4,w5,w6⟩) now) (Jc [0] [(6,I (KK p now))] (Je (Jb (Jf (Jd (Jc [0,0,0] [(12,Bo (decide (KK p now=0)))] (Ks (decide (KK p now=0)) [12] [0,0,2,0,0] [1,1,1,1,0] (fun bb=>[(17,Bo (bb && (decide (now ≥ p.next))))]) (Jc [0,0,0] [(4,Bo ((decide (KK p now=0)) && (decide (now ≥ p.next)))),(5,I (KK p now))] (Je (Jb (Jn (Jo [0,0] [Bo ((decide (KK p now=0)) && (decide (now ≥ p.next))),I (KK p now)] (Jx (Jh _) ?_))))))))))))))))))))))
 have hf_:(ZC p now)=(((decide (KK p now=0)) && (decide (now ≥ p.next))),(KK p now)):=by
  rfl
 · (try rw [hf_]);(simp only [Qx];done)
theorem Jci (G:J4) (now:Int) (n:Int) (hn:-9000000000000000000≤now+n∧now+n≤9000000000000000000):Q4 216 #[I now,I n] G (I (K7 now n)):=by
 refine JR Tryz.func216 9 [(0,I now),(1,I n)] rfl (fun w0 G0=>?_)
 refine Jg [0] [] (Jg [0,0,0,0,0] [(4,I (if 1000000000<(Hb.wrap (now+n)) then 1000000000 else (Hb.wrap (now+n))))] ?_)
 have e1:Hb.wrap (now+n)=now+n:=Ho _ (by omega)
 refine Q2 4 (I (if 1000000000<(now+n) then 1000000000 else (now+n))) (show (I (if 1000000000<(Hb.wrap (now+n)) then 1000000000 else (Hb.wrap (now+n))):Value)=I (if 1000000000<(now+n) then 1000000000 else (now+n)) by simp only [e1]) ?_
 clear e1
 refine Jn (Jo [0] [I (if 1000000000<(now+n) then 1000000000 else (now+n))] (Jx (Jh _) (congrArg I (?_:(K7 now n)=(if 1000000000<(now+n) then 1000000000 else (now+n))).symm)))
 unfold K7;split <;> rfl
theorem Jdg (G:J4) (vs_p:List Value) (p:Wb) (h_p:Wg.R G vs_p p) (now:Int) :Q4 170 #[.agg vs_p.toArray,I now] G (.tuple #[.agg #[I (((KL p now).1).least),I (((KL p now).1).most),I (((KL p now).1).lost),I (((KL p now).1).gap),I (((KL p now).1).next),I (((KL p now).1).asked)],I ((KL p now).2)]):=by
 obtain ⟨rfl,w1,w2,w3,w4,w5,w6⟩:=h_p
 refine JR Tryz.func170 45 [(0,.agg #[I p.least,I p.most,I p.lost,I p.gap,I p.next,I p.asked]),(1,I now)] rfl (fun w0 G0=>?_)
 refine Jf (Jd (Jv 2 #[I p.least,I p.most,I p.lost,I p.gap,I p.next,I p.asked] 143 (fun b1=>Jv 4 #[I 0,I 0,I 0,I 0,I 0,I 0] 143 (fun b2=>Jc [0] [] (Je (Jb (Jf (Jd (Jc [4,0] [(9,.agg #[I p.least,I p.most,I p.lost,I p.gap,I p.next,I p.asked]),(10,I now)] (Jm 11 (.tuple #[Bo ((ZC p now).1),I ((ZC p now).2)]) (JiT G [I p.least,I p.most,I p.lost,I p.gap,I p.next,I p.asked] p (⟨rfl,w1,w2,w3,w4,w5,w6⟩) now) (Jc [0,0,0,0,0] [(6,Bo ((ZC p now).1)),(7,I ((ZC p now).2))] (Je (Jb (Jf (Jy (Jg [0,0,0] [(14,Bo (!decide ((ZC p now).2=0)))] (Jl (!decide ((ZC p now).2=0)) (fun h1=>?_) (fun h1=>?_))))))))))))))))))
 refine Jg [0,0,3,0] [(5,I ((ZC p now).2))] (Jn (Js (Jj (Jo [0,0] [.agg #[I 0,I 0,I 0,I 0,I 0,I 0],I ((ZC p now).2)] (Jx (Jh _) ?_)))))
 have hf_:(KL p now)=((⟨0,0,0,0,0,0⟩:Wb),((ZC p now).2)):=by
  unfold KL Vt;(try unfold ZC at *);(repeat' split) <;> rfl
 · (try rw [hf_]);(simp only [Qx];done)
 refine Jg [0,0,0] [(19,Bo (!((ZC p now).1)))] (Jl (!((ZC p now).1)) (fun h2=>?_) (fun h2=>?_))
 refine Jg [0,3,0] [(5,I 9)] (Jn (Js (Jj (Jo [0,0] [.agg #[I 0,I 0,I 0,I 0,I 0,I 0],I 9] (Jx (Jh _) ?_)))))
 have hf_:(KL p now)=((⟨0,0,0,0,0,0⟩:Wb),9):=by
  unfold KL Vt;(try unfold ZC at *);(repeat' split) <;> first | rfl | (exfalso;omega) | (simp_all;done)
 · (try rw [hf_]);(simp only [Qx];done)
 refine Jg [0,4,0,0] [(23,Bo (decide (p.asked=1000000)))] (Jl (decide (p.asked=1000000)) (fun h3=>?_) (fun h3=>?_))
 refine Jg [0,3,0] [(5,I 7)] (Jn (Js (Jj (Jo [0,0] [.agg #[I 0,I 0,I 0,I 0,I 0,I 0],I 7] (Jx (Jh _) ?_)))))
 have hf_:(KL p now)=((⟨0,0,0,0,0,0⟩:Wb),7):=by
  unfold KL Vt;(try unfold ZC at *);(repeat' split) <;> first | rfl | (exfalso;omega) | (exfalso;simp_all;omega)
 · (try rw [hf_]);(simp only [Qx];done)
 refine Jq (JN (Jb (QA [0,4,0,0,5] [] [[Sg b2 0 [I 0,I 0,I 0,I 0,I 0,I 0]],[Sg b1 0 [I p.least,I p.most,I p.lost,I p.gap,I p.next,I (Hb.wrap (p.asked+1))]]] ?_)))
 have e1:Hb.wrap (p.asked+1)=p.asked+1:=Ho _ (by (have q_:=JbL (p:=p) (now:=now) ‹_›;omega))
 refine Ja5 (L':=[[Sg b2 0 [I 0,I 0,I 0,I 0,I 0,I 0]],[Sg b1 0 [I p.least,I p.most,I p.lost,I p.gap,I p.next,I (p.asked+1)]]]) (by simp only [e1]) ?_
 clear e1
 refine Jf (Jd (Jc [0,0,4] [(32,I now),(34,I p.gap)] (Jm 35 (I (K7 now p.gap)) (Jci G now p.gap (by (have q_:=JbL (p:=p) (now:=now) ‹_›;omega))) (JV [0,5] [] [[Sg b2 0 [I 0,I 0,I 0,I 0,I 0,I 0]],[Sg b1 0 [I p.least,I p.most,I p.lost,I p.gap,I (K7 now p.gap),I (p.asked+1)]]] (Je (Jb (QA [0,4,0,0,4,0,0,5] [] [[Sg b2 0 [I 0,I 0,I 0,I 0,I 0,I 0]],[Sg b1 0 [I p.least,I p.most,I p.lost,I (if p.most<(Hb.wrap (2*p.gap)) then p.most else (Hb.wrap (2*p.gap))),I (K7 now p.gap),I (p.asked+1)]]] ?_)))))))
 have e2:Hb.wrap (2*p.gap)=2*p.gap:=Ho _ (by (have q_:=JbL (p:=p) (now:=now) ‹_›;omega))
 refine Ja5 (L':=[[Sg b2 0 [I 0,I 0,I 0,I 0,I 0,I 0]],[Sg b1 0 [I p.least,I p.most,I p.lost,I (if p.most<(2*p.gap) then p.most else (2*p.gap)),I (K7 now p.gap),I (p.asked+1)]]]) (by simp only [e2]) ?_
 clear e2
 refine QA [4,3,0] [(5,I 0)] [[Sg b2 0 [I p.least,I p.most,I p.lost,I (if p.most<(2*p.gap) then p.most else (2*p.gap)),I (K7 now p.gap),I (p.asked+1)]],[Sg b1 0 [I p.least,I p.most,I p.lost,I (if p.most<(2*p.gap) then p.most else (2*p.gap)),I (K7 now p.gap),I (p.asked+1)]]] (Jn (Jo [0,0] [.agg #[I p.least,I p.most,I p.lost,I (if p.most<(2*p.gap) then p.most else (2*p.gap)),I (K7 now p.gap),I (p.asked+1)],I 0] (Jx (Jh _) ?_)))
 have hf_:(KL p now)=((⟨p.least,p.most,p.lost,if p.most<(2*p.gap) then p.most else (2*p.gap),K7 now p.gap,p.asked+1⟩:Wb),0):=by
  unfold KL Vt;(try unfold ZC at *);(repeat' split) <;> first | rfl | (exfalso;omega) | (exfalso;simp_all;omega)
 · (try rw [hf_]);(simp only [Qx];done)
theorem JiU (G:J4) (a:Int) (hw_a:rI a) (b:Int) (hw_b:rI b) (c:Int) (hw_c:rI c) :Q4 58 #[I a,I b,I c] G (.tuple #[.agg #[I (((KQ a b c).1).least),I (((KQ a b c).1).most),I (((KQ a b c).1).lost),I (((KQ a b c).1).gap),I (((KQ a b c).1).next),I (((KQ a b c).1).asked)],I ((KQ a b c).2)]):=by
 refine JR Tryz.func58 22 [(0,I a),(1,I b),(2,I c)] rfl (fun w0 G0=>?_)
 refine Jf (Jd (Jv 6 #[I 0,I 0,I 0,I 0,I 0,I 0] 143 (fun b1=>Jc [0] [] (Je (Jb (Jf (Jd (Jc [0,0,0,0,0] [(14,.agg #[I a,I b,I c,I a,I 0,I 0])] (Jv 8 #[I 0,I 0,I 0,I 0,I 0,I 0] 143 (fun b2=>JV [3] [] [[Sg b2 0 [I a,I b,I c,I a,I 0,I 0]],[Sg b1 0 [I 0,I 0,I 0,I 0,I 0,I 0]]] (Je (Jb (Jf (Jf (Jd (Jc [2] [(15,.agg #[I a,I b,I c,I a,I 0,I 0])] (Jm 16 (I (KG (⟨a,b,c,a,0,0⟩:Wb))) (JaO G [I a,I b,I c,I a,I 0,I 0] (⟨a,b,c,a,0,0⟩:Wb) (⟨rfl,hw_a,hw_b,hw_c,hw_a,(by (simp;done)),(by (simp;done))⟩)) (Jc [0] [(9,I (KG (⟨a,b,c,a,0,0⟩:Wb)))] (Je (Jb (Jg [0,0] [(18,Bo (!decide (KG (⟨a,b,c,a,0,0⟩:Wb)=0)))] (Jl (!decide (KG (⟨a,b,c,a,0,0⟩:Wb)=0)) (fun h1=>?_) (fun h1=>?_)))))))))))))))))))))))
 refine Jg [0,0,5,0] [(7,I (KG (⟨a,b,c,a,0,0⟩:Wb)))] (Jn (Jj (Jo [1,0] [.agg #[I 0,I 0,I 0,I 0,I 0,I 0],I (KG (⟨a,b,c,a,0,0⟩:Wb))] (Jx (Jh _) ?_))))
 have hf_:(KQ a b c)=((⟨0,0,0,0,0,0⟩:Wb),(KG (⟨a,b,c,a,0,0⟩:Wb))):=by
  rw [Zw] at *;unfold KQ Vt;split <;> first | (rename_i hx;rw [Jch hx];done) | contradiction
 · (try rw [hf_]);(simp only [Qx];done)
 refine Jq (Jb (QA [2,5,0] [(7,I 0)] [[Sg b2 0 [I a,I b,I c,I a,I 0,I 0]],[Sg b1 0 [I a,I b,I c,I a,I 0,I 0]]] (Jn (Jo [1,0] [.agg #[I a,I b,I c,I a,I 0,I 0],I 0] (Jx (Jh _) ?_)))))
 have hf_:(KQ a b c)=((⟨a,b,c,a,0,0⟩:Wb),0):=by
  rw [Zw] at *;unfold KQ Vt;split <;> rfl
 · (try rw [hf_]);(simp only [Qx];done)
theorem Jgg (G:J4) (vs_p:List Value) (p:Wb) (h_p:Wg.R G vs_p p) (now:Int) :Q4 169 #[.agg vs_p.toArray,I now] G (.tuple #[.agg #[I (((Q7 p now).1).least),I (((Q7 p now).1).most),I (((Q7 p now).1).lost),I (((Q7 p now).1).gap),I (((Q7 p now).1).next),I (((Q7 p now).1).asked)],I ((Q7 p now).2)]):=by
 obtain ⟨rfl,w1,w2,w3,w4,w5,w6⟩:=h_p
 refine JR Tryz.func169 27 [(0,.agg #[I p.least,I p.most,I p.lost,I p.gap,I p.next,I p.asked]),(1,I now)] rfl (fun w0 G0=>?_)
 refine Jf (Jd (Jv 2 #[I p.least,I p.most,I p.lost,I p.gap,I p.next,I p.asked] 143 (fun b1=>Jv 4 #[I 0,I 0,I 0,I 0,I 0,I 0] 143 (fun b2=>Jc [0] [] (Je (Jb (Jf (Jf (Jd (Jc [4,0] [(7,.agg #[I p.least,I p.most,I p.lost,I p.gap,I p.next,I p.asked]),(8,I now)] (Jm 9 (I (KK p now)) (Jbt G [I p.least,I p.most,I p.lost,I p.gap,I p.next,I p.asked] p (⟨rfl,w1,w2,w3,w4,w5,w6⟩) now) (Jc [0] [(6,I (KK p now))] (Je (Jb (Jg [0,0] [(11,Bo (!decide (KK p now=0)))] (Jl (!decide (KK p now=0)) (fun h1=>?_) (fun h1=>?_)))))))))))))))))
 refine Jg [0,0,3,0] [(5,I (KK p now))] (Jn (Jj (Jo [0,0] [.agg #[I 0,I 0,I 0,I 0,I 0,I 0],I (KK p now)] (Jx (Jh _) ?_))))
 have hf_:(Q7 p now)=((⟨0,0,0,0,0,0⟩:Wb),(KK p now)):=by
  unfold Q7 Vt;(repeat' split) <;> rfl
 · (try rw [hf_]);(simp only [Qx];done)
 refine Jq (Jb (QA [0,4,0,5,0,5] [] [[Sg b2 0 [I 0,I 0,I 0,I 0,I 0,I 0]],[Sg b1 0 [I p.least,I p.most,I p.lost,I p.least,I p.next,I 0]]] (Jf (Kp [8] (Wl [(0,Pt b1 4),(1,I p.next),(2,I now),(3,Pt b1 0),(4,I p.least),(5,I (K7 now p.least)),(6,I (if (K7 now p.least)<p.next then (K7 now p.least) else p.next)),(7,Pt b1 4)] (JK [] [(0,0),(1,4),(2,0),(3,0),(4,4),(6,0),(7,0)] [5] [8] (Ki ?_ K8) (Ki ?_ K8)))))))
 refine Jt 5 23 (I (K7 now p.least)) [(20,I now),(22,I p.least)] (fun X=>?_)
 exact Jm 23 (I (K7 now p.least)) (Jci G now p.least (by (have q_:=JbL (p:=p) (now:=now) ‹_›;omega))) Jp
 refine JC 8 [(24,I (if (K7 now p.least)<p.next then (K7 now p.least) else p.next)),(25,Pt b1 4)] (fun X=>?_)
 refine KN 1 [[Sg b2 0 [I 0,I 0,I 0,I 0,I 0,I 0]],[Sg b1 0 [I p.least,I p.most,I p.lost,I p.least,I (if (K7 now p.least)<p.next then (K7 now p.least) else p.next),I 0]]] (Ka [] (Km [0,1,2,3,4,5,6,7] [] [] [(2,Pt b1 0),(4,Pt b2 0)] (Ha _) (Jb (QA [4,3,0] [(5,I 0)] [[Sg b2 0 [I p.least,I p.most,I p.lost,I p.least,I (if (K7 now p.least)<p.next then (K7 now p.least) else p.next),I 0]],[Sg b1 0 [I p.least,I p.most,I p.lost,I p.least,I (if (K7 now p.least)<p.next then (K7 now p.least) else p.next),I 0]]] (Jn (Jo [0,0] [.agg #[I p.least,I p.most,I p.lost,I p.least,I (if (K7 now p.least)<p.next then (K7 now p.least) else p.next),I 0],I 0] (Jx (Jh _) ?_)))))))
 have hf_:(Q7 p now)=((⟨p.least,p.most,p.lost,p.least,if (K7 now p.least)<p.next then (K7 now p.least) else p.next,0⟩:Wb),0):=by
  unfold Q7 Vt;(repeat' split) <;> first | rfl | (exfalso;omega)
 · (try rw [hf_]);(simp only [Qx];done)
theorem Jcj (G:J4) (vs_p:List Value) (p:Wb) (h_p:Wg.R G vs_p p) :Q4 171 #[.agg vs_p.toArray] G (.tuple #[Bo ((WU p).1),I ((WU p).2)]):=by
 obtain ⟨rfl,w1,w2,w3,w4,w5,w6⟩:=h_p
 refine JR Tryz.func171 17 [(0,.agg #[I p.least,I p.most,I p.lost,I p.gap,I p.next,I p.asked])] rfl (fun w0 G0=>?_)
 refine Jf (Jd (Jv 1 #[I p.least,I p.most,I p.lost,I p.gap,I p.next,I p.asked] 143 (fun b1=>Jc [0,0] [] (Je (Jb (Jf (Jd (Jc [2] [(5,.agg #[I p.least,I p.most,I p.lost,I p.gap,I p.next,I p.asked])] (Jm 6 (I (KG p)) (JaO G [I p.least,I p.most,I p.lost,I p.gap,I p.next,I p.asked] p (⟨rfl,w1,w2,w3,w4,w5,w6⟩)) (Jc [0] [(4,I (KG p))] (Je (Jb (Jf (Jd (Jc [0,0,0] [(9,Bo (decide (KG p=0)))] (Ks (decide (KG p=0)) [9] [0,2,0,2,0,0] [1,1,1,1,1,0] (fun bb=>[(15,Bo (bb && (decide (p.asked ≥ p.lost))))]) (Jc [0,0,0] [(2,Bo ((decide (KG p=0)) && (decide (p.asked ≥ p.lost)))),(3,I (KG p))] (Je (Jb (Jn (Jo [0,0] [Bo ((decide (KG p=0)) && (decide (p.asked ≥ p.lost))),I (KG p)] (Jx (Jh _) ?_))))))))))))))))))))))
 have hf_:(WU p)=(((decide (KG p=0)) && (decide (p.asked ≥ p.lost))),(KG p)):=by
  rfl
 · (try rw [hf_]);(simp only [Qx];done)
def JbM:Yx:=⟨0,[]⟩
def JeC (l:JQ) (n:Yx):Bool:=decide (l.due≤n.now)
def Qm (n:Yx):Int:=if n.now<0∨1000000000<n.now then 4 else if 60<n.way.length then 7 else if (n.way.any fun x0=>JeC x0 n)=true then 4 else 0
theorem Q0 {n:Yx} (h:Qm n=0):0≤n.now∧n.now≤1000000000∧n.way.length≤60∧∀ l∈n.way,n.now<l.due:=by
 unfold Qm at h
 split at h
 · cases h
 split at h
 · cases h
 split at h
 · cases h
 ·
  rename_i h1 h2 h3
  refine ⟨by omega,by omega,by omega,fun l hl=>?_⟩
  have:¬ JeC l n=true:=fun hc=>h3 (Hv.2 ⟨l,hl,hc⟩)
  unfold JeC at this
  simpa using this
def Vn (k:Int):Bool:=decide (k<1) || decide (k > 100)
theorem Jlb {l:List Int} {i:Nat} {x:Int} (h:(l.any fun x0=>Vn x0)=false) (hx:l[i]? = some x):1≤x∧x≤100:=by
 have:=List.any_eq_false.1 h x (Hr hx)
 unfold Vn at this
 simp at this;omega
def JnS (l:JQ) (d:Int):JQ:=⟨l.to_,l.from_,l.since,d,l.heads,l.reply⟩
def Ku (n:Yx) (l:JQ) (fates:List Int):Yx×Int :=
 if Qm n ≠ 0 then (JbM,Qm n) else if (fates.any fun x0=>Vn x0)=true then (JbM,4) else if (fates.length:Int) > 60-(n.way.length:Int) then (JbM,7) else (⟨n.now,n.way++fates.map fun k=>JnS l (n.now+k)⟩,0)
def Kn (n:Yx):Yx×List JQ×Int :=
 if Qm n ≠ 0 then (JbM,[],Qm n) else if n.now=1000000000 then (JbM,[],9) else (⟨n.now+1,n.way.filter fun l=>!decide (l.due=n.now+1)⟩,n.way.filter fun l=>decide (l.due=n.now+1),0)
theorem Jmp {α:Type} {l:List α} {i:Nat} {x:α} (h:l[i]? = some x):l.take i++[x]=l.take (i+1):=by rw [Hj,h];rfl
theorem JnT {α β:Type} {l:List α} {i:Nat} {x:α} (f:α→β) (h:l[i]? = some x):(l.take i).map f++[f x]=(l.take (i+1)).map f:=by rw [Hj,h];simp
theorem Jep {α:Type} {l:List α} {i:Nat} {x:α} {p:α→Bool} (h:l[i]? = some x) (hp:p x=true):(l.take i).filter p++[x]=(l.take (i+1)).filter p:=by rw [Hj,h];simp [hp]
theorem Jeq {α:Type} {l:List α} {i:Nat} {x:α} {p:α→Bool} (h:l[i]? = some x) (hp:p x=false):(l.take i).filter p=(l.take (i+1)).filter p:=by rw [Hj,h];simp [hp]
theorem We {α:Type} (p:α→Bool) (l:List α) (i:Nat):((l.take i).filter p).length≤l.length:=Hg (HB _ _) (List.length_take_le' i l)
theorem Jer (G:J4) (vs_l:List Value) (l:JQ) (h_l:Ke.R G vs_l l) :Yw 109 #[.agg vs_l.toArray] G [] (fun u G' L'=>∃ (a1:Option Addr) (c2:Nat) (a3:Option Addr) (c4:Nat) (a5:Option Addr) (c6:Nat),u=.agg #[I l.to_,I l.from_,I l.since,I l.due,Sl a1 l.heads.length c2,I l.reply.head.epoch,U l.reply.head.root,U l.reply.head.prev,I l.reply.head.at_,Sr l.reply.proof.name,Sl a3 l.reply.proof.entries.length c4,Sl a5 l.reply.proof.sides.length c6]∧(rI l.to_)∧(rI l.from_)∧(rI l.since)∧(rI l.due)∧(RS KA G' a1 c2 l.heads)∧(rI l.reply.head.epoch)∧(rU l.reply.head.root)∧(rU l.reply.head.prev)∧(rI l.reply.head.at_)∧((l.reply.proof.name).length≤140737488351232)∧(RS QD G' a3 c4 l.reply.proof.entries)∧(RS EU G' a5 c6 l.reply.proof.sides)∧L'=[]):=by
 obtain ⟨a1,c1,a2,c2,a3,c3,rfl,w1,w2,w3,w4,hs1,w5,w6,w7,w8,w9,hs2,hs3⟩:=h_l
 refine JR Tryz.func109 24 [(0,(Q1 l a1 c1 a2 c2 a3 c3))] rfl (fun w0 G0=>?_)
 refine Jf (Jd (Jv 1 #[I l.to_,I l.from_,I l.since,I l.due,Sl a1 l.heads.length c1,I l.reply.head.epoch,U l.reply.head.root,U l.reply.head.prev,I l.reply.head.at_,Sr l.reply.proof.name,Sl a2 l.reply.proof.entries.length c2,Sl a3 l.reply.proof.sides.length c3] 51 (fun b1=>Jv 2 #[I 0,I 0,I 0,I 0,Sl none 0 0,I 0,U 0,U 0,I 0,Sr ([]),Sl none 0 0,Sl none 0 0] 51 (fun b2=>Je (Jb (Jf (Jd (Jc [0,4] [(4,Sl a1 l.heads.length c1)] (JI 5 (Vj G a1 c1 l.heads hs1) (fun v G1 L1 hl1 hp=>?_))))))))))
 obtain ⟨a4,c4,r1,rfl,hr1,rfl⟩:=hp
 refine JV [0,7] [] [r1,[Sg b2 0 [I 0,I 0,I 0,I 0,Sl none 0 0,I 0,U 0,U 0,I 0,Sr ([]),Sl none 0 0,Sl none 0 0]],[Sg b1 0 (Kq l a4 c4 a2 c2 a3 c3)]] (Je (Jb (Jf (Jd (Jc [0,0,0,6] [(10,Sl a2 l.reply.proof.entries.length c2)] (JI 11 (YA G1 a2 c2 l.reply.proof.entries (hs2.mono hl1)) (fun v G2 L1 hl2 hp=>?_)))))))
 obtain ⟨a5,c5,r2,rfl,hr2,rfl⟩:=hp
 refine JV [0,0,0,9] [] [r2,r1,[Sg b2 0 [I 0,I 0,I 0,I 0,Sl none 0 0,I 0,U 0,U 0,I 0,Sr ([]),Sl none 0 0,Sl none 0 0]],[Sg b1 0 (Kq l a4 c4 a5 c5 a3 c3)]] (Je (Jb (Jf (Jd (Jc [0,0,0,8] [(18,Sl a3 l.reply.proof.sides.length c3)] (JI 19 (JdI G2 a3 c3 l.reply.proof.sides (hs3.mono (Ja hl1 hl2))) (fun v G3 L1 hl3 hp=>?_)))))))
 obtain ⟨a6,c6,r3,rfl,hr3,rfl⟩:=hp
 refine JV [0,0,0,11] [] [r3,r2,r1,[Sg b2 0 [I 0,I 0,I 0,I 0,Sl none 0 0,I 0,U 0,U 0,I 0,Sr ([]),Sl none 0 0,Sl none 0 0]],[Sg b1 0 (Kq l a4 c4 a5 c5 a6 c6)]] (Je (Jb (QA [10,9] [] [r3,r2,r1,[Sg b2 0 (Kq l a4 c4 a5 c5 a6 c6)],[Sg b1 0 (Kq l a4 c4 a5 c5 a6 c6)]] (Jn (Wp (E:=KA) 2 (hr1.mono (Ja hl2 hl3)) (by exact (hs1).fit) (fun G4 hl4 hs4=>Wp (E:=QD) 1 (hr2.mono (Ja hl3 hl4)) (by exact (hs2.mono hl1).fit) (fun G5 hl5 hs5=>Wp (E:=EU) 0 (hr3.mono (Ja hl4 hl5)) (by exact (hs3.mono (Ja hl1 hl2)).fit) (fun G6 hl6 hs6=>?_))))))))
 have hf1:l=l:=by
  rfl
 refine Jo [3] [(Q1 l a4 c4 a5 c5 a6 c6)] (JA [] (Ja (Ja (Ja (Ja (Ja hl1 hl2) hl3) hl4) hl5) hl6) ?_)
 rw [hf1]
 try dsimp only
 exact ⟨a4,c4,a5,c5,a6,c6,rfl,w1,w2,w3,w4,(hs4.mono (Ja hl5 hl6)),w5,w6,w7,w8,w9,(hs5.mono hl6),hs6,rfl⟩
theorem Jbn (G:J4) (a_l:Option Addr) (c_l:Nat) (l:List JQ) (h_l:RS Ke G a_l c_l l) (hf:l.length*152≤140737488351232):Yw 108 #[Sl a_l l.length c_l] G [] (fun u G' L'=>∃ (a1:Option Addr) (c2:Nat) (r3:List Kh),u=Sl a1 l.length c2∧(J1 Ke G' a1 c2 l r3)∧L'=[r3]):=by
 refine JR Tryz.func108 19 [(0,Sl a_l l.length c_l)] rfl (fun w0 G0=>?_)
 refine Jg [0] [] (Jg [0] [(3,Sl none 0 0)] (Jf (Jg [0,0,0] [(6,Sl a_l l.length c_l),(7,I (l.length:Int)),(8,I 0)] (Jy (Yk ?_)))))
 have hlm_h_l:l.length≤9223372036854775807:=Hg (h_l).le (h_l).max
 refine Qh (σ:=Nat×Option Addr×Nat×List Kh×List JQ×J4) (fun q_=>(J4.le G q_.2.2.2.2.2)∧(q_.1≤l.length)∧(J1 Ke q_.2.2.2.2.2 q_.2.1 q_.2.2.1 q_.2.2.2.2.1 q_.2.2.2.1)∧(q_.2.2.2.2.1=l.take q_.1)) (fun q_=>[(3,Sl q_.2.1 q_.2.2.2.2.1.length q_.2.2.1),(6,Sl a_l l.length c_l),(7,I (l.length:Int)),(8,I (q_.1:Int))]) (fun q_=>q_.2.2.2.2.2) (fun q_=>[q_.2.2.2.1]) (fun q_=>l.length-q_.1) (0,none,0,[],[],G) ⟨(Jh _),(by (try dsimp only);exact Hs _),(J1.none Ke _),(by (try dsimp only);rfl)⟩ (fun q_ hs=>?_)
 obtain ⟨i,ao,co,ro,xo,g⟩:=q_
 obtain ⟨hle,hi,hro,hxo⟩:=hs
 dsimp only at hle hi hro hxo
 dsimp only
 refine Jg [0] [(9,Bo (decide ((i:Int)<(l.length:Int))))] (Jf (Jl (decide ((i:Int)<(l.length:Int))) (fun h1=>?_) (fun h1=>?_)))
 refine Jq (Jb (Jf (Jy (Jf (Jd ?_)))))
 obtain ⟨b1,o1,rfl⟩:=RS.addr (h_l.mono hle) (k:=i) (by omega)
 obtain ⟨x1,hx1⟩:=Wf (l:=l) (k:=i) (by omega)
 obtain ⟨_,⟨a1,c1,a2,c2,a3,c3,rfl,w1,w2,w3,w4,hs1,w5,w6,w7,w8,w9,hs2,hs3⟩,hc1⟩:=RS.get (h_l.mono hle) hx1
 refine J5 (b:=b1) (off:=o1) (len:=l.length) (cap:=c_l) (ik:=.i64) 10 51 12 i J8 (JZ 11 51 (cs:=(Kq x1 a1 c1 a2 c2 a3 c3)) 0 (Q1 x1 a1 c1 a2 c2 a3 c3) hc1 (Jv 5 #[I 0,I 0,I 0,I 0,Sl none 0 0,I 0,U 0,U 0,I 0,Sr ([]),Sl none 0 0,Sl none 0 0] 51 (fun b2=>JV [3] [] [[Sg b2 0 (Kq x1 a1 c1 a2 c2 a3 c3)],ro] (Je (Jb (Jd (Jc [0,2] [(12,Sl ao xo.length co),(13,(Q1 x1 a1 c1 a2 c2 a3 c3))] (JI 14 (Jer g (Kq x1 a1 c1 a2 c2 a3 c3) x1 (⟨a1,c1,a2,c2,a3,c3,rfl,w1,w2,w3,w4,hs1,w5,w6,w7,w8,w9,hs2,hs3⟩)) (fun v G1 L1 hl1 hp=>?_)))))))))
 obtain ⟨a4,c4,a5,c5,a6,c6,rfl,w10,w11,w12,w13,hs4,w14,w15,w16,w17,w18,hs5,hs6,rfl⟩:=hp
 exact Kt 15 1 #[I x1.to_,I x1.from_,I x1.since,I x1.due,Sl a4 x1.heads.length c4,I x1.reply.head.epoch,U x1.reply.head.root,U x1.reply.head.prev,I x1.reply.head.at_,Sr x1.reply.proof.name,Sl a5 x1.reply.proof.entries.length c5,Sl a6 x1.reply.proof.sides.length c6] 51 (fun b3=>Qy (b:=b3) (cs:=(Kq x1 a4 c4 a5 c5 a6 c6)) 16 51 2 0 (E:=Ke) x1 (hro.mono hl1) ⟨a4,c4,a5,c5,a6,c6,rfl,w10,w11,w12,w13,hs4,w14,w15,w16,w17,w18,hs5,hs6⟩ (by have q1_:=congrArg Hn hxo;(try simp only [Ke,Hc,He,Hi,Hm,Hl] at *);omega) (by have q1_:=congrArg Hn hxo;(try simp only [Ke,Hc,He,Hi,Hm,Hl] at *);omega) (fun a7 c7 r1 hr1=>Jc [0] [(3,Sl a7 ((xo++[x1]).length) c7)] (Je (JN (Jb (Jd (Jc [0,0] [(8,I (Hb.wrap ((i:Int)+1)))] (Kr 8 ((i:Int)+1) J8 (Je (Qr [r1] (Qi (i+1,a7,c7,r1,xo++[x1],G1) ⟨(Ja hle hl1),J8,hr1,(by rw [hxo];exact Jmp hx1)⟩ (by (try dsimp only);omega))))))))))))
 refine KW (JY (J9 (JT (Jb (Jg [0,0] [(2,Sl ao xo.length co)] (Jn (Jk 0 ?_)))))))
 have hf1:l=xo:=by
  rw [hxo,Hk (by omega)]
 refine Jo [0] [Sl ao xo.length co] (JA [ro] hle ?_)
 rw [hf1]
 try dsimp only
 exact ⟨ao,co,ro,rfl,hro,rfl⟩
theorem JnU (G:J4) (vs_l:List Value) (l:JQ) (h_l:Ke.R G vs_l l) (vs_n:List Value) (n:Yx) (h_n:ENet.R G vs_n n) (b_n:Nat) (hz_n:∀ j v,(vs_n:List Value)[j]? = some v→G b_n (0+j)=some v) :Q4 159 #[.agg vs_l.toArray,Pt b_n 0] G (Bo (JeC l n)):=by
 obtain ⟨a1,c1,a2,c2,a3,c3,rfl,_,_,_,_,_,_,_,_,_,_,_,_⟩:=h_l
 obtain ⟨a4,c4,rfl,_,_⟩:=h_n
 refine JR Tryz.func159 9 [(0,(Q1 l a1 c1 a2 c2 a3 c3)),(1,Pt b_n 0)] rfl (fun w0 G0=>?_)
 refine Jf (Jd (Jv 2 #[I l.to_,I l.from_,I l.since,I l.due,Sl a1 l.heads.length c1,I l.reply.head.epoch,U l.reply.head.root,U l.reply.head.prev,I l.reply.head.at_,Sr l.reply.proof.name,Sl a2 l.reply.proof.entries.length c2,Sl a3 l.reply.proof.sides.length c3] 51 (fun b1=>Jc [0] [] (Je (Jb (Jf (Jd (Jc [0,2,0] [(5,I l.due),(6,Pt b_n 0)] (JZ (o':=0) 7 2 (cs:=[I n.now,Sl a4 n.way.length c4]) 0 (I n.now) hz_n (Jc [0,0] [(3,Bo (decide (l.due≤n.now)))] (Je (Jb (Jn (Jo [0] [Bo (decide (l.due≤n.now))] (Jx (Jh _) (congrArg Bo (?_:(JeC l n)=(decide (l.due≤n.now))).symm))))))))))))))))
 rfl
theorem Jdh (G:J4) (vs_n:List Value) (n:Yx) (h_n:ENet.R G vs_n n) :Q4 105 #[.agg vs_n.toArray] G (I (Qm n)):=by
 obtain ⟨a1,c1,rfl,w1,hs1⟩:=h_n
 refine JR Tryz.func105 22 [(0,.agg #[I n.now,Sl a1 n.way.length c1])] rfl (fun w0 G0=>?_)
 refine Jf (Jd (Jv 1 #[I n.now,Sl a1 n.way.length c1] 65 (fun b1=>Jc [0] [] (Je (Jb (Jf (Jy (Jf (Jd (Jc [0,2,0,0] [(7,Bo (decide (n.now<0)))] (Ks (decide (n.now<0)) [7] [1,1,1,0] [0,2,0,0] (fun bb=>[(11,Bo (bb || (decide (n.now > 1000000000))))]) (Jc [0] [(3,Bo ((decide (n.now<0)) || (decide (n.now > 1000000000))))] (Je (Jb (Jl ((decide (n.now<0)) || (decide (n.now > 1000000000))) (fun h1=>?_) (fun h1=>?_))))))))))))))))
 refine Jg [0] [(2,I 4)] (Jn (Js (Jj (Jo [0] [I 4] (Jx (Jh _) (congrArg I (?_:(Qm n)=4).symm))))))
 · unfold Qm;(rw [if_pos (by omega)];done)
 refine Jg [0,2,0,0,0] [(12,Bo (decide ((n.way.length:Int) > 60)))] (Jl (decide ((n.way.length:Int) > 60)) (fun h2=>?_) (fun h2=>?_))
 refine Jg [0] [(2,I 7)] (Jn (Js (Jj (Jo [0] [I 7] (Jx (Jh _) (congrArg I (?_:(Qm n)=7).symm))))))
 · unfold Qm;(rw [if_neg (by omega),if_pos (by omega)];done)
 refine Jf (Jd (Jc [0,2,0] [(19,Sl a1 n.way.length c1),(20,Fv 159 #[Pt b1 0])] (QZ (b:=b1) (o:=0) (cs:=[I n.now,Sl a1 n.way.length c1]) 0 (fun G1 hl1 hz1=>Jm 21 (Bo (n.way.any (fun x0=>JeC x0 n))) (Jhl G1 a1 c1 n.way (hs1.mono hl1) 159 #[Pt b1 0] (fun x0=>JeC x0 n) (fun _ _=>by kernel_rfl) (fun vs0 x0 hx0=>by obtain ⟨a2,c2,a3,c3,a4,c4,rfl,w2,w3,w4,w5,hs2,w6,w7,w8,w9,w10,hs3,hs4⟩:=hx0;exact JnU G1 (Kq x0 a2 c2 a3 c3 a4 c4) x0 (⟨a2,c2,a3,c3,a4,c4,rfl,w2,w3,w4,w5,hs2,w6,w7,w8,w9,w10,hs3,hs4⟩) [I n.now,Sl a1 n.way.length c1] n (⟨a1,c1,rfl,w1,(hs1.mono hl1)⟩) b1 hz1)) (Jc [0] [(17,Bo (n.way.any (fun x0=>JeC x0 n)))] (Je (Jb (Jl (n.way.any (fun x0=>JeC x0 n)) (fun h3=>?_) (fun h3=>?_)))))))))
 refine Jg [0] [(2,I 4)] (Jn (Js (Jj (Jo [0] [I 4] (Jx hl1 (congrArg I (?_:(Qm n)=4).symm))))))
 · unfold Qm;(rw [if_neg (by omega),if_neg (by omega)];simp_all;done)
 refine Jq (JN (Jb (Jg [0] [(2,I 0)] (Jn (Jo [0] [I 0] (Jx hl1 (congrArg I (?_:(Qm n)=0).symm)))))))
 · unfold Qm;(rw [if_neg (by omega),if_neg (by omega)];simp_all;done)
theorem JiV (G:J4) (k:Int) :Q4 107 #[I k] G (Bo (Vn k)):=by
 refine JR Tryz.func107 9 [(0,I k)] rfl (fun w0 G0=>?_)
 refine Jg [0] [] (Jf (Jd (Jc [0,0,0] [(5,Bo (decide (k<1)))] (Ks (decide (k<1)) [5] [1,1,0] [0,0,0] (fun bb=>[(8,Bo (bb || (decide (k > 100))))]) (Jc [0] [(2,Bo ((decide (k<1)) || (decide (k > 100))))] (Je (Jb (Jn (Jo [0] [Bo ((decide (k<1)) || (decide (k > 100)))] (Jx (Jh _) (congrArg Bo (?_:(Vn k)=((decide (k<1)) || (decide (k > 100)))).symm)))))))))))
 rfl
set_option maxRecDepth 20000 in
theorem YH (G:J4) (vs_n:List Value) (n:Yx) (h_n:ENet.R G vs_n n) (vs_l:List Value) (l:JQ) (h_l:Ke.R G vs_l l) (a_fates:Option Addr) (c_fates:Nat) (fates:List Int) (h_fates:RS EI G a_fates c_fates fates) :Yw 63 #[.agg vs_n.toArray,.agg vs_l.toArray,Sl a_fates fates.length c_fates] G [] (fun u G' L'=>∃ (a1:Option Addr) (c2:Nat),u=.tuple #[.agg #[I (((Ku n l fates).1).now),Sl a1 ((((Ku n l fates).1).way).length) c2],I ((Ku n l fates).2)]∧(rI (((Ku n l fates).1).now))∧(RS Ke G' a1 c2 (((Ku n l fates).1).way))∧L'=[]):=by
 obtain ⟨a1,c1,rfl,w1,hs1⟩:=h_n
 obtain ⟨a2,c2,a3,c3,a4,c4,rfl,_,_,_,_,hs2,_,_,_,_,_,hs3,hs4⟩:=h_l
 refine JR Tryz.func63 60 [(0,.agg #[I n.now,Sl a1 n.way.length c1]),(1,(Q1 l a2 c2 a3 c3 a4 c4)),(2,Sl a_fates fates.length c_fates)] rfl (fun w0 G0=>?_)
 refine Jf (Jd (Jv 3 #[I n.now,Sl a1 n.way.length c1] 65 (fun b1=>Jv 4 #[I l.to_,I l.from_,I l.since,I l.due,Sl a2 l.heads.length c2,I l.reply.head.epoch,U l.reply.head.root,U l.reply.head.prev,I l.reply.head.at_,Sr l.reply.proof.name,Sl a3 l.reply.proof.entries.length c3,Sl a4 l.reply.proof.sides.length c4] 51 (fun b2=>Jv 6 #[I 0,Sl none 0 0] 65 (fun b3=>Jc [0] [] (Je (Jb (Jf (Jd (Jc [6] [(13,.agg #[I n.now,Sl a1 n.way.length c1])] (Jm 14 (I (Qm n)) (Jdh G [I n.now,Sl a1 n.way.length c1] n (⟨a1,c1,rfl,w1,hs1⟩)) (Jc [0] [(8,I (Qm n))] (Je (Jb (Jf (Jy (Jg [0,0,0] [(15,Bo (!decide (Qm n=0)))] (Jl (!decide (Qm n=0)) (fun h1=>?_) (fun h1=>?_)))))))))))))))))))
 refine Jg [0,0,3,0] [(7,I (Qm n))] (Jn (Js (Jj ?_)))
 have hf1:Ku n l fates=((⟨0,[]⟩:Yx),Qm n):=by
  unfold Ku JbM;(simp_all;done)
 refine Jo [0,0] [.agg #[I 0,Sl none 0 0],I (Qm n)] (JA [] (Jh _) ?_)
 rw [hf1]
 try dsimp only
 exact ⟨none,0,rfl,J8,(JP Ke G),rfl⟩
 refine Jf (Jd (Jc [0] [(21,Sl a_fates fates.length c_fates)] (Jm 22 (Bo (fates.any (fun x0=>Vn x0))) (JoX G a_fates c_fates fates h_fates 107 #[] (fun x0=>Vn x0) (fun _ _=>by kernel_rfl) (fun x0 hx0=>JiV G x0)) (Jc [0] [(20,Bo (fates.any (fun x0=>Vn x0)))] (Je (Jb (Jl (fates.any (fun x0=>Vn x0)) (fun h2=>?_) (fun h2=>?_))))))))
 refine Jg [0,3,0] [(7,I 4)] (Jn (Js (Jj ?_)))
 have hf2:Ku n l fates=((⟨0,[]⟩:Yx),4):=by
  unfold Ku JbM;(simp_all;done)
 refine Jo [0,0] [.agg #[I 0,Sl none 0 0],I 4] (JA [] (Jh _) ?_)
 rw [hf2]
 try dsimp only
 exact ⟨none,0,rfl,J8,(JP Ke G),rfl⟩
 refine Jg [0,0,0,6,0,0,0,0] [(24,Bo (decide ((fates.length:Int) > Hb.wrap (60-(n.way.length:Int)))))] ?_
 have e1:Hb.wrap (60-(n.way.length:Int))=60-(n.way.length:Int):=Ho _ (by (have q_:=Q0 ‹_›;omega))
 refine Q2 24 (Bo (decide ((fates.length:Int) > 60-(n.way.length:Int)))) (show (Bo (decide ((fates.length:Int) > Hb.wrap (60-(n.way.length:Int)))):Value)=Bo (decide ((fates.length:Int) > 60-(n.way.length:Int))) by simp only [e1]) ?_
 clear e1
 refine Jl (decide ((fates.length:Int) > 60-(n.way.length:Int))) (fun h3=>?_) (fun h3=>?_)
 refine Jg [0,3,0] [(7,I 7)] (Jn (Js (Jj ?_)))
 have hf3:Ku n l fates=((⟨0,[]⟩:Yx),7):=by
  unfold Ku JbM;(simp_all;done)
 refine Jo [0,0] [.agg #[I 0,Sl none 0 0],I 7] (JA [] (Jh _) ?_)
 rw [hf3]
 try dsimp only
 exact ⟨none,0,rfl,J8,(JP Ke G),rfl⟩
 refine Jq (JN (Jb ?_))
 refine Yv (σ:=Nat×(Option Addr)×Nat×(List Kh)×J4) (fun q_=>(J4.le G q_.2.2.2.2)∧(J1 Ke q_.2.2.2.2 q_.2.1 q_.2.2.1 n.way q_.2.2.2.1)) (fun q_=>[(2,Sl a_fates fates.length c_fates),(3,Pt b1 0),(4,Pt b2 0),(6,Pt b3 0),(9,Pt q_.1 0)]) (fun q_=>q_.2.2.2.2) (fun q_=>[[Sg q_.1 0 [I n.now,Sl q_.2.1 n.way.length q_.2.2.1]],q_.2.2.2.1,[Sg b3 0 [I 0,Sl none 0 0]],[Sg b2 0 (Kq l a2 c2 a3 c3 a4 c4)],[Sg b1 0 [I n.now,Sl a1 n.way.length c1]]]) ?_ (fun q_ hs=>?_)
 refine Kp [4,6,7] (Wl [(0,Pt b1 0),(1,I n.now),(2,Pt b1 1),(3,Sl a1 n.way.length c1)] (JK [] [(0,0),(1,6),(2,0),(3,6)] [] [4,6] (Ha _) (Ki ?_ (Ki ?_ K8))))
 refine JC 4 [(36,Sl a1 n.way.length c1)] (fun X=>?_)
 refine JI 37 (Jbn G a1 c1 n.way hs1 (by (have q_:=Q0 ‹_›;omega))) (fun v G1 L1 hl1 hp=>?_)
 obtain ⟨a5,c5,r1,rfl,hr1,rfl⟩:=hp
 refine JD [(4,Sl a5 n.way.length c5),(5,.agg #[I n.now,Sl a5 n.way.length c5])] (JK [2,3] [(0,0),(1,8),(5,0)] [] [6] (Ha _) (Ki ?_ K8))
 refine JC 6 [] (fun X=>?_)
 refine Jv 9 #[I 0,Sl none 0 0] 65 (fun b4=>JD [(6,Pt b4 0)] (JK [2,3] [(0,0),(1,10),(5,0)] [] [7] (Ha _) (Ki ?_ K8)))
 refine JC 7 [(9,Pt b4 0),(38,.agg #[I n.now,Sl a5 n.way.length c5])] (fun X=>?_)
 exact KN 0 [[Sg b4 0 [I n.now,Sl a5 n.way.length c5]],r1,[Sg b3 0 [I 0,Sl none 0 0]],[Sg b2 0 (Kq l a2 c2 a3 c3 a4 c4)],[Sg b1 0 [I n.now,Sl a1 n.way.length c1]]] (Ka [] (Km [0,1,2,3,5] [] [] [(2,Sl a_fates fates.length c_fates),(3,Pt b1 0),(4,Pt b2 0),(6,Pt b3 0),(9,Pt b4 0)] (Ha _) (Wd (b4,a5,c5,r1,G1) ⟨hl1,hr1⟩)))
 refine JC 6 [] (fun X=>?_)
 refine Jv 9 #[I 0,Sl none 0 0] 65 (fun b5=>JD [(6,Pt b5 0)] (JK [] [(0,0),(1,8),(2,0),(3,8)] [] [4] (Ha _) (Ki ?_ K8)))
 refine JC 4 [(36,Sl a1 n.way.length c1)] (fun X=>?_)
 refine JI 37 (Jbn G a1 c1 n.way hs1 (by (have q_:=Q0 ‹_›;omega))) (fun v G2 L1 hl2 hp=>?_)
 obtain ⟨a6,c6,r2,rfl,hr2,rfl⟩:=hp
 refine JD [(4,Sl a6 n.way.length c6),(5,.agg #[I n.now,Sl a6 n.way.length c6])] (JK [2,3] [(0,0),(1,10),(5,0)] [] [7] (Ha _) (Ki ?_ K8))
 refine JC 7 [(9,Pt b5 0),(38,.agg #[I n.now,Sl a6 n.way.length c6])] (fun X=>?_)
 exact KN 1 [r2,[Sg b5 0 [I n.now,Sl a6 n.way.length c6]],[Sg b3 0 [I 0,Sl none 0 0]],[Sg b2 0 (Kq l a2 c2 a3 c3 a4 c4)],[Sg b1 0 [I n.now,Sl a1 n.way.length c1]]] (Ka [] (Km [0,1,2,3,5] [] [] [(2,Sl a_fates fates.length c_fates),(3,Pt b1 0),(4,Pt b2 0),(6,Pt b3 0),(9,Pt b5 0)] (Ha _) (Jk 4 (Jk 4 (Jk 4 (Jk 3 (Jk 4 (Wd (b5,a6,c6,r2,G2) ⟨hl2,hr2⟩))))))))
 obtain ⟨b4,a5,c5,r1,G1⟩:=q_
 obtain ⟨hle1,hj1⟩:=hs
 dsimp only at hle1 hj1
 dsimp only
 refine Jf (Jg [0,0,0] [(39,Sl a_fates fates.length c_fates),(40,I (fates.length:Int)),(41,I 0)] (Jy ?_))
 have hlm_h_fates:fates.length≤9223372036854775807:=Hg (h_fates).le (h_fates).max
 refine Qh (σ:=Nat×Option Addr×Nat×List Kh×List JQ×J4) (fun q_=>(J4.le G1 q_.2.2.2.2.2)∧(q_.1≤fates.length)∧(J1 Ke q_.2.2.2.2.2 q_.2.1 q_.2.2.1 q_.2.2.2.2.1 q_.2.2.2.1)∧(q_.2.2.2.2.1=n.way++(fates.take q_.1).map fun k=>JnS l (n.now+k))) (fun q_=>[(3,Pt b1 0),(4,Pt b2 0),(6,Pt b3 0),(9,Pt b4 0),(39,Sl a_fates fates.length c_fates),(40,I (fates.length:Int)),(41,I (q_.1:Int))]) (fun q_=>q_.2.2.2.2.2) (fun q_=>[[Sg b4 0 [I n.now,Sl q_.2.1 q_.2.2.2.2.1.length q_.2.2.1]],q_.2.2.2.1,[Sg b3 0 [I 0,Sl none 0 0]],[Sg b2 0 (Kq l a2 c2 a3 c3 a4 c4)],[Sg b1 0 [I n.now,Sl a1 n.way.length c1]]]) (fun q_=>fates.length-q_.1) (0,a5,c5,r1,n.way,G1) ⟨(Jh _),(by (try dsimp only);exact Hs _),hj1,(by (try dsimp only);simp)⟩ (fun q_ hs=>?_)
 obtain ⟨i,aw,cw,rw,xw,g⟩:=q_
 obtain ⟨hle,hi,hrw,hxw⟩:=hs
 dsimp only at hle hi hrw hxw
 dsimp only
 refine Jg [0] [(42,Bo (decide ((i:Int)<(fates.length:Int))))] (Jf (Jl (decide ((i:Int)<(fates.length:Int))) (fun h4=>?_) (fun h4=>?_)))
 refine Jq (Jb (Jf (Jy (Jf (Jd ?_)))))
 obtain ⟨b6,o1,rfl⟩:=RS.addr (h_fates.mono (Ja hle1 hle)) (k:=i) (by omega)
 obtain ⟨x1,hx1⟩:=Wf (l:=fates) (k:=i) (by omega)
 obtain ⟨_,⟨rfl,_⟩,hc1⟩:=RS.get (h_fates.mono (Ja hle1 hle)) hx1
 refine J5 (b:=b6) (off:=o1) (len:=fates.length) (cap:=c_fates) (ik:=.i64) 43 3 1 i J8 (JZ 44 3 (cs:=[I x1]) 0 (I x1) hc1 (Jc [0] [(11,I x1)] (Je (Jb (Jf (Jd (Jc [8] [(45,(Q1 l a2 c2 a3 c3 a4 c4))] (JI 46 (Jer g (Kq l a2 c2 a3 c3 a4 c4) l (⟨a2,c2,a3,c3,a4,c4,rfl,‹_›,‹_›,‹_›,‹_›,(hs2.mono (Ja hle1 hle)),‹_›,‹_›,‹_›,‹_›,‹_›,(hs3.mono (Ja hle1 hle)),(hs4.mono (Ja hle1 hle))⟩)) (fun v G3 L1 hl3 hp=>?_)))))))))
 obtain ⟨a7,c7,a8,c8,a9,c9,rfl,_,_,_,_,hs5,_,_,_,_,_,hs6,hs7,rfl⟩:=hp
 refine Jv 12 #[I 0,I 0,I 0,I 0,Sl none 0 0,I 0,U 0,U 0,I 0,Sr ([]),Sl none 0 0,Sl none 0 0] 51 (fun b7=>JV [3] [] [[Sg b7 0 (Kq l a7 c7 a8 c8 a9 c9)],[Sg b4 0 [I n.now,Sl aw xw.length cw]],rw,[Sg b3 0 [I 0,Sl none 0 0]],[Sg b2 0 (Kq l a2 c2 a3 c3 a4 c4)],[Sg b1 0 [I n.now,Sl a1 n.way.length c1]]] (Je (Jb (QA [0,12,0,0,0,3] [] [[Sg b7 0 (Kq (⟨l.to_,l.from_,l.since,(Hb.wrap (n.now+x1)),l.heads,l.reply⟩:JQ) a7 c7 a8 c8 a9 c9)],[Sg b4 0 [I n.now,Sl aw xw.length cw]],rw,[Sg b3 0 [I 0,Sl none 0 0]],[Sg b2 0 (Kq l a2 c2 a3 c3 a4 c4)],[Sg b1 0 [I n.now,Sl a1 n.way.length c1]]] ?_))))
 have e2:Hb.wrap (n.now+x1)=n.now+x1:=Ho _ (by (have q_:=Q0 ‹_›;have q1_:=Jlb ‹_› ‹_›;omega))
 refine Ja5 (L':=[[Sg b7 0 [I l.to_,I l.from_,I l.since,I (n.now+x1),Sl a7 l.heads.length c7,I l.reply.head.epoch,U l.reply.head.root,U l.reply.head.prev,I l.reply.head.at_,Sr l.reply.proof.name,Sl a8 l.reply.proof.entries.length c8,Sl a9 l.reply.proof.sides.length c9]],[Sg b4 0 [I n.now,Sl aw xw.length cw]],rw,[Sg b3 0 [I 0,Sl none 0 0]],[Sg b2 0 [I l.to_,I l.from_,I l.since,I l.due,Sl a2 l.heads.length c2,I l.reply.head.epoch,U l.reply.head.root,U l.reply.head.prev,I l.reply.head.at_,Sr l.reply.proof.name,Sl a3 l.reply.proof.entries.length c3,Sl a4 l.reply.proof.sides.length c4]],[Sg b1 0 [I n.now,Sl a1 n.way.length c1]]]) (by simp only [Kq,Q1,e2];first | done | rfl) ?_
 clear e2
 exact Jd (Jc [0,4,2] [(53,Sl aw xw.length cw),(54,(Q1 (⟨l.to_,l.from_,l.since,(n.now+x1),l.heads,l.reply⟩:JQ) a7 c7 a8 c8 a9 c9))] (Kt 55 1 #[I l.to_,I l.from_,I l.since,I (n.now+x1),Sl a7 l.heads.length c7,I l.reply.head.epoch,U l.reply.head.root,U l.reply.head.prev,I l.reply.head.at_,Sr l.reply.proof.name,Sl a8 l.reply.proof.entries.length c8,Sl a9 l.reply.proof.sides.length c9] 51 (fun b8=>Qy (b:=b8) (cs:=(Kq (⟨l.to_,l.from_,l.since,(n.now+x1),l.heads,l.reply⟩:JQ) a7 c7 a8 c8 a9 c9)) 56 51 3 0 (E:=Ke) (⟨l.to_,l.from_,l.since,n.now+x1,l.heads,l.reply⟩:JQ) (hrw.mono hl3) ⟨a7,c7,a8,c8,a9,c9,rfl,‹_›,‹_›,‹_›,(by (dsimp only;(have q_:=Q0 ‹_›;have q1_:=Jlb ‹_› ‹_›;omega))),hs5,‹_›,‹_›,‹_›,‹_›,‹_›,hs6,hs7⟩ (by have q_:=Q0 ‹_›;have q1_:=congrArg Hn hxw;(try simp only [Ke,Hc,He,Hi,Hm,Hl] at *);omega) (by have q_:=Q0 ‹_›;have q1_:=congrArg Hn hxw;(try simp only [Ke,Hc,He,Hi,Hm,Hl] at *);omega) (fun a10 c10 r3 hr3=>JV [0,7] [] [[Sg b8 0 (Kq (⟨l.to_,l.from_,l.since,(n.now+x1),l.heads,l.reply⟩:JQ) a7 c7 a8 c8 a9 c9)],[Sg b7 0 (Kq (⟨l.to_,l.from_,l.since,(n.now+x1),l.heads,l.reply⟩:JQ) a7 c7 a8 c8 a9 c9)],[Sg b4 0 [I n.now,Sl a10 ((xw++[(⟨l.to_,l.from_,l.since,n.now+x1,l.heads,l.reply⟩:JQ)]).length) c10]],r3,[Sg b3 0 [I 0,Sl none 0 0]],[Sg b2 0 (Kq l a2 c2 a3 c3 a4 c4)],[Sg b1 0 [I n.now,Sl a1 n.way.length c1]]] (Je (JN (Jb (Jd (Jc [0,0] [(41,I (Hb.wrap ((i:Int)+1)))] (Kr 41 ((i:Int)+1) J8 (Je (Qr [[Sg b4 0 [I n.now,Sl a10 ((xw++[(⟨l.to_,l.from_,l.since,n.now+x1,l.heads,l.reply⟩:JQ)]).length) c10]],r3,[Sg b3 0 [I 0,Sl none 0 0]],[Sg b2 0 (Kq l a2 c2 a3 c3 a4 c4)],[Sg b1 0 [I n.now,Sl a1 n.way.length c1]]] (Qi (i+1,a10,c10,r3,xw++[(⟨l.to_,l.from_,l.since,n.now+x1,l.heads,l.reply⟩:JQ)],G3) ⟨(Ja hle hl3),J8,hr3,(by rw [hxw,Hz];exact congrArg _ (JnT (fun k=>JnS l (n.now+k)) hx1))⟩ (by (try dsimp only);omega))))))))))))))
 refine KW (JY (J9 (JT (Jb (QA [2,7,0] [(7,I 0)] [[Sg b4 0 [I n.now,Sl aw xw.length cw]],rw,[Sg b3 0 [I n.now,Sl aw xw.length cw]],[Sg b2 0 (Kq l a2 c2 a3 c3 a4 c4)],[Sg b1 0 [I n.now,Sl a1 n.way.length c1]]] (Jn (Wp (E:=Ke) 1 hrw (by have q_:=Q0 ‹_›;have q1_:=congrArg Hn hxw;(try simp only [Ke,Hc,He,Hi,Hm,Hl] at *);omega) (fun G4 hl4 hs8=>?_))))))))
 have hf4:Ku n l fates=((⟨n.now,xw⟩:Yx),0):=by
  unfold Ku JbM;(rw [if_neg (by omega),if_neg (by simp_all),if_neg (by omega),hxw,Hk (by omega)])
 refine Jo [2,0] [.agg #[I n.now,Sl aw xw.length cw],I 0] (JA [] (Ja (Ja hle1 hle) hl4) ?_)
 rw [hf4]
 try dsimp only
 exact ⟨aw,cw,rfl,‹_›,hs8,rfl⟩
theorem JiW (G:J4) (vs_n:List Value) (n:Yx) (h_n:ENet.R G vs_n n) :Yw 111 #[.agg vs_n.toArray] G [] (fun u G' L'=>∃ (a1:Option Addr) (c2:Nat) (a3:Option Addr) (c4:Nat),u=.tuple #[.agg #[I (((Kn n).1).now),Sl a1 ((((Kn n).1).way).length) c2],Sl a3 (((Kn n).2.1).length) c4,I ((Kn n).2.2)]∧(rI (((Kn n).1).now))∧(RS Ke G' a1 c2 (((Kn n).1).way))∧(RS Ke G' a3 c4 ((Kn n).2.1))∧L'=[]):=by
 obtain ⟨a1,c1,rfl,w1,hs1⟩:=h_n
 refine JR Tryz.func111 50 [(0,.agg #[I n.now,Sl a1 n.way.length c1])] rfl (fun w0 G0=>?_)
 refine Jf (Jd (Jv 1 #[I n.now,Sl a1 n.way.length c1] 65 (fun b1=>Jv 2 #[I 0,Sl none 0 0] 65 (fun b2=>Jc [0,0] [] (Je (Jb (Jf (Jf (Jd (Jc [4] [(10,.agg #[I n.now,Sl a1 n.way.length c1])] (Jm 11 (I (Qm n)) (Jdh G [I n.now,Sl a1 n.way.length c1] n (⟨a1,c1,rfl,w1,hs1⟩)) (Jc [0] [(5,I (Qm n))] (Je (Jb (Jg [0,0] [(13,Bo (!decide (Qm n=0)))] (Jl (!decide (Qm n=0)) (fun h1=>?_) (fun h1=>?_)))))))))))))))))
 refine Jg [0,0,3,0,0] [(3,Sl none 0 0),(4,I (Qm n))] (Jn (Jj ?_))
 have hf1:Kn n=((⟨0,[]⟩:Yx),[],Qm n):=by
  unfold Kn JbM;(simp_all;done)
 refine Jo [0,0,0] [.agg #[I 0,Sl none 0 0],Sl none 0 0,I (Qm n)] (JA [] (Jh _) ?_)
 rw [hf1]
 try dsimp only
 exact ⟨none,0,none,0,rfl,J8,(JP Ke G),(JP Ke G),rfl⟩
 refine Jq (Jb (Jf (Jg [0,4,0] [(18,Bo (decide (n.now=1000000000)))] (Jl (decide (n.now=1000000000)) (fun h2=>?_) (fun h2=>?_)))))
 refine Jg [0,3,0,0] [(3,Sl none 0 0),(4,I 9)] (Jn (Jj ?_))
 have hf2:Kn n=((⟨0,[]⟩:Yx),[],9):=by
  unfold Kn JbM;(simp_all;done)
 refine Jo [0,0,0] [.agg #[I 0,Sl none 0 0],Sl none 0 0,I 9] (JA [] (Jh _) ?_)
 rw [hf2]
 try dsimp only
 exact ⟨none,0,none,0,rfl,J8,(JP Ke G),(JP Ke G),rfl⟩
 refine Jq (Jb (Jf (Jd (Jc [0,4,0,0] [(23,.agg #[I (Hb.wrap (n.now+1)),Sl none 0 0])] ?_))))
 have e1:Hb.wrap (n.now+1)=n.now+1:=Ho _ (by (have q_:=Q0 ‹_›;omega))
 refine KU 23 (.agg #[I (n.now+1),Sl none 0 0]) (show (.agg #[I (Hb.wrap (n.now+1)),Sl none 0 0]:Value)=.agg #[I (n.now+1),Sl none 0 0] by simp only [e1]) ?_
 clear e1
 refine Jv 6 #[I 0,Sl none 0 0] 65 (fun b3=>JV [3] [] [[Sg b3 0 [I (n.now+1),Sl none 0 0]],[Sg b2 0 [I 0,Sl none 0 0]],[Sg b1 0 [I n.now,Sl a1 n.way.length c1]]] (Je (Jb (Jg [0] [(7,Sl none 0 0)] (Jf (Jf (Jd (Jc [0,6] [(25,Sl a1 n.way.length c1)] (JI 26 (Jbn G a1 c1 n.way hs1 (by (have q_:=Q0 ‹_›;omega))) (fun v G1 L1 hl1 hp=>?_))))))))))
 obtain ⟨a2,c2,_,rfl,hr1,rfl⟩:=hp
 refine Jc [0,0] [(27,I (n.way.length:Int)),(28,I 0)] (Je (Jb (Jy (JoJ (E:=Ke) 0 hr1 (by exact (hs1).fit) (fun G2 hl2 hs2=>Yk (Yk ?_))))))
 have hlm_hs2:n.way.length≤9223372036854775807:=Hg (hs2).le (hs2).max
 refine Qh (σ:=Nat×Option Addr×Nat×List Kh×List JQ×Option Addr×Nat×List Kh×List JQ×J4) (fun q_=>(J4.le G2 q_.2.2.2.2.2.2.2.2.2)∧(q_.1≤n.way.length)∧(J1 Ke q_.2.2.2.2.2.2.2.2.2 q_.2.1 q_.2.2.1 q_.2.2.2.2.1 q_.2.2.2.1)∧(q_.2.2.2.2.1=(n.way.take q_.1).filter fun l=>decide (l.due=n.now+1))∧(J1 Ke q_.2.2.2.2.2.2.2.2.2 q_.2.2.2.2.2.1 q_.2.2.2.2.2.2.1 q_.2.2.2.2.2.2.2.2.1 q_.2.2.2.2.2.2.2.1)∧(q_.2.2.2.2.2.2.2.2.1=(n.way.take q_.1).filter fun l=>!decide (l.due=n.now+1))) (fun q_=>[(2,Pt b2 0),(6,Pt b3 0),(7,Sl q_.2.1 q_.2.2.2.2.1.length q_.2.2.1),(26,Sl a2 n.way.length c2),(27,I (n.way.length:Int)),(28,I (q_.1:Int))]) (fun q_=>q_.2.2.2.2.2.2.2.2.2) (fun q_=>[q_.2.2.2.2.2.2.2.1,q_.2.2.2.1,[],[Sg b3 0 [I (n.now+1),Sl q_.2.2.2.2.2.1 q_.2.2.2.2.2.2.2.2.1.length q_.2.2.2.2.2.2.1]],[Sg b2 0 [I 0,Sl none 0 0]],[Sg b1 0 [I n.now,Sl a1 n.way.length c1]]]) (fun q_=>n.way.length-q_.1) (0,none,0,[],[],none,0,[],[],G2) ⟨(Jh _),(by (try dsimp only);exact Hs _),(J1.none Ke _),(by (try dsimp only);rfl),(J1.none Ke _),(by (try dsimp only);rfl)⟩ (fun q_ hs=>?_)
 obtain ⟨i,ac,cc,rc,xc,aw,cw,rw,xw,g⟩:=q_
 obtain ⟨hle,hi,hrc,hxc,hrw,hxw⟩:=hs
 dsimp only at hle hi hrc hxc hrw hxw
 dsimp only
 refine Jg [0] [(29,Bo (decide ((i:Int)<(n.way.length:Int))))] (Jf (Jl (decide ((i:Int)<(n.way.length:Int))) (fun h3=>?_) (fun h3=>?_)))
 refine Jq (Jb (Jf (Jy (Jf (Jd ?_)))))
 obtain ⟨b4,o1,rfl⟩:=RS.addr (hs2.mono hle) (k:=i) (by omega)
 obtain ⟨x1,hx1⟩:=Wf (l:=n.way) (k:=i) (by omega)
 obtain ⟨_,⟨a3,c3,a4,c4,a5,c5,rfl,w2,w3,w4,w5,hs3,w6,w7,w8,w9,w10,hs4,hs5⟩,hc1⟩:=RS.get (hs2.mono hle) hx1
 refine J5 (b:=b4) (off:=o1) (len:=n.way.length) (cap:=c2) (ik:=.i64) 30 51 12 i J8 (JZ 31 51 (cs:=(Kq x1 a3 c3 a4 c4 a5 c5)) 0 (Q1 x1 a3 c3 a4 c4 a5 c5) hc1 (Jv 9 #[I 0,I 0,I 0,I 0,Sl none 0 0,I 0,U 0,U 0,I 0,Sr ([]),Sl none 0 0,Sl none 0 0] 51 (fun b5=>JV [3] [] [[Sg b5 0 (Kq x1 a3 c3 a4 c4 a5 c5)],rw,rc,[],[Sg b3 0 [I (n.now+1),Sl aw xw.length cw]],[Sg b2 0 [I 0,Sl none 0 0]],[Sg b1 0 [I n.now,Sl a1 n.way.length c1]]] (Je (Jb (Jg [0,2,0,10,0] [(36,Bo (decide (x1.due=n.now+1)))] (Jl (decide (x1.due=n.now+1)) (fun h4=>?_) (fun h4=>?_))))))))
 exact Jd (Jc [0,2] [(37,Sl ac xc.length cc),(38,(Q1 x1 a3 c3 a4 c4 a5 c5))] (Kt 39 1 #[I x1.to_,I x1.from_,I x1.since,I x1.due,Sl a3 x1.heads.length c3,I x1.reply.head.epoch,U x1.reply.head.root,U x1.reply.head.prev,I x1.reply.head.at_,Sr x1.reply.proof.name,Sl a4 x1.reply.proof.entries.length c4,Sl a5 x1.reply.proof.sides.length c5] 51 (fun b6=>Qy (b:=b6) (cs:=(Kq x1 a3 c3 a4 c4 a5 c5)) 40 51 3 0 (E:=Ke) x1 hrc ⟨a3,c3,a4,c4,a5,c5,rfl,w2,w3,w4,w5,hs3,w6,w7,w8,w9,w10,hs4,hs5⟩ (by have q_:=Q0 ‹_›;have q1_:=congrArg Hn hxc;have q2_:=congrArg Hn hxw;have q3_:=We (fun l:JQ=>decide (l.due=n.now+1)) n.way i;have q4_:=We (fun l:JQ=>!decide (l.due=n.now+1)) n.way i;(try simp only [Ke,Hc,He,Hi,Hm,Hl] at *);omega) (by have q_:=Q0 ‹_›;have q1_:=congrArg Hn hxc;have q2_:=congrArg Hn hxw;have q3_:=We (fun l:JQ=>decide (l.due=n.now+1)) n.way i;have q4_:=We (fun l:JQ=>!decide (l.due=n.now+1)) n.way i;(try simp only [Ke,Hc,He,Hi,Hm,Hl] at *);omega) (fun a6 c6 r2 hr2=>Jc [0] [(7,Sl a6 ((xc++[x1]).length) c6)] (Je (JN (Jb (Jd (Jc [0,0] [(28,I (Hb.wrap ((i:Int)+1)))] (Kr 28 ((i:Int)+1) J8 (Je (Qr [rw,r2,[],[Sg b3 0 [I (n.now+1),Sl aw xw.length cw]],[Sg b2 0 [I 0,Sl none 0 0]],[Sg b1 0 [I n.now,Sl a1 n.way.length c1]]] (Qi (i+1,a6,c6,r2,xc++[x1],aw,cw,rw,xw,g) ⟨(Ja hle (Jh _)),J8,hr2,(by rw [hxc];exact Jep hx1 (by simp_all)),hrw,(by rw [hxw];exact Jeq hx1 (by simp_all))⟩ (by (try dsimp only);omega))))))))))))))
 exact Jd (Jc [0,10,2] [(42,Sl aw xw.length cw),(43,(Q1 x1 a3 c3 a4 c4 a5 c5))] (Kt 44 1 #[I x1.to_,I x1.from_,I x1.since,I x1.due,Sl a3 x1.heads.length c3,I x1.reply.head.epoch,U x1.reply.head.root,U x1.reply.head.prev,I x1.reply.head.at_,Sr x1.reply.proof.name,Sl a4 x1.reply.proof.entries.length c4,Sl a5 x1.reply.proof.sides.length c5] 51 (fun b7=>Qy (b:=b7) (cs:=(Kq x1 a3 c3 a4 c4 a5 c5)) 45 51 2 0 (E:=Ke) x1 hrw ⟨a3,c3,a4,c4,a5,c5,rfl,w2,w3,w4,w5,hs3,w6,w7,w8,w9,w10,hs4,hs5⟩ (by have q_:=Q0 ‹_›;have q1_:=congrArg Hn hxc;have q2_:=congrArg Hn hxw;have q3_:=We (fun l:JQ=>decide (l.due=n.now+1)) n.way i;have q4_:=We (fun l:JQ=>!decide (l.due=n.now+1)) n.way i;(try simp only [Ke,Hc,He,Hi,Hm,Hl] at *);omega) (by have q_:=Q0 ‹_›;have q1_:=congrArg Hn hxc;have q2_:=congrArg Hn hxw;have q3_:=We (fun l:JQ=>decide (l.due=n.now+1)) n.way i;have q4_:=We (fun l:JQ=>!decide (l.due=n.now+1)) n.way i;(try simp only [Ke,Hc,He,Hi,Hm,Hl] at *);omega) (fun a7 c7 r3 hr3=>JV [0,13] [] [[Sg b7 0 (Kq x1 a3 c3 a4 c4 a5 c5)],[Sg b5 0 (Kq x1 a3 c3 a4 c4 a5 c5)],r3,rc,[],[Sg b3 0 [I (n.now+1),Sl a7 ((xw++[x1]).length) c7]],[Sg b2 0 [I 0,Sl none 0 0]],[Sg b1 0 [I n.now,Sl a1 n.way.length c1]]] (Je (JN (Jb (Jd (Jc [0,0] [(28,I (Hb.wrap ((i:Int)+1)))] (Kr 28 ((i:Int)+1) J8 (Je (Qr [r3,rc,[],[Sg b3 0 [I (n.now+1),Sl a7 ((xw++[x1]).length) c7]],[Sg b2 0 [I 0,Sl none 0 0]],[Sg b1 0 [I n.now,Sl a1 n.way.length c1]]] (Qi (i+1,ac,cc,rc,xc,a7,c7,r3,xw++[x1],g) ⟨(Ja hle (Jh _)),J8,hrc,(by rw [hxc];exact Jeq hx1 (by simp_all)),hr3,(by rw [hxw];exact Jep hx1 (by simp_all))⟩ (by (try dsimp only);omega))))))))))))))
 refine KW (JY (J9 (JT (Jb (QA [8,0,11,0,0] [(3,Sl ac xc.length cc),(4,I 0)] [rw,rc,[],[Sg b3 0 [I (n.now+1),Sl aw xw.length cw]],[Sg b2 0 [I (n.now+1),Sl aw xw.length cw]],[Sg b1 0 [I n.now,Sl a1 n.way.length c1]]] (Jn (Wp (E:=Ke) 0 hrw (by have q_:=Q0 ‹_›;have q1_:=congrArg Hn hxc;have q2_:=congrArg Hn hxw;have q3_:=We (fun l:JQ=>decide (l.due=n.now+1)) n.way i;have q4_:=We (fun l:JQ=>!decide (l.due=n.now+1)) n.way i;(try simp only [Ke,Hc,He,Hi,Hm,Hl] at *);omega) (fun G3 hl3 hs6=>Wp (E:=Ke) 1 (hrc.mono hl3) (by have q_:=Q0 ‹_›;have q1_:=congrArg Hn hxc;have q2_:=congrArg Hn hxw;have q3_:=We (fun l:JQ=>decide (l.due=n.now+1)) n.way i;have q4_:=We (fun l:JQ=>!decide (l.due=n.now+1)) n.way i;(try simp only [Ke,Hc,He,Hi,Hm,Hl] at *);omega) (fun G4 hl4 hs7=>?_)))))))))
 have hf3:Kn n=((⟨n.now+1,xw⟩:Yx),xc,0):=by
  unfold Kn JbM;(rw [if_neg (by omega),if_neg (by omega),hxw,hxc,Hk (by omega)])
 refine Jo [4,0,0] [.agg #[I (n.now+1),Sl aw xw.length cw],Sl ac xc.length cc,I 0] (JA [] (Ja (Ja (Ja (Ja hl1 hl2) hle) hl3) hl4) ?_)
 rw [hf3]
 try dsimp only
 exact ⟨aw,cw,ac,cc,rfl,(by (have q_:=Q0 ‹_›;omega)),(hs6.mono hl4),hs7,rfl⟩
structure JH where
 town:Q8
 reach:Int
 fates:List (List Int)
 events:List VR
deriving DecidableEq
def W4 (t:JH) (k:Int):Bool:=decide (k ≥ 0) && decide (k<t.town.owners.length)
abbrev Q5 (t:JH) (kind who n a:Int):JH:=⟨t.town,t.reach,t.fates,t.events++[⟨kind,who,n,a⟩]⟩
def Jlc (t:JH):List Int:=if t.fates.length > 0 then t.fates[0]?.getD [] else [1]
def Wi (t:JH) (l:JQ):JH:=⟨⟨t.town.clerk,t.town.owners,t.town.polls,if (Ku t.town.net l (Jlc t)).2=0 then (Ku t.town.net l (Jlc t)).1 else t.town.net⟩,t.reach,t.fates.drop 1,t.events⟩
theorem JnV {t:JH} (h:¬ 0<t.fates.length) (l:JQ):Wi t l=⟨⟨t.town.clerk,t.town.owners,t.town.polls,if (Ku t.town.net l [1]).2=0 then (Ku t.town.net l [1]).1 else t.town.net⟩,t.reach,t.fates,t.events⟩:=by
 have h0:t.fates=[]:=List.eq_nil_of_length_eq_zero (by omega)
 unfold Wi Jlc
 rw [h0];rfl
theorem JnW {t:JH} (h:0<t.fates.length) {f:List Int} (hf:t.fates[0]? = some f) (l:JQ):Wi t l=⟨⟨t.town.clerk,t.town.owners,t.town.polls,if (Ku t.town.net l f).2=0 then (Ku t.town.net l f).1 else t.town.net⟩,t.reach,t.fates.drop 1,t.events⟩:=by
 unfold Wi Jlc
 rw [if_pos h,hf];rfl
def Ju (t:JH) (k:Int):K9:=t.town.owners[k.toNat]?.getD Vx
def QN (t:JH) (k:Int):Wb:=t.town.polls[k.toNat]?.getD Vt
theorem YI {t:JH} {n:Nat} (h:n<t.town.owners.length):t.town.owners[n]? = some (Ju t (n:Int)):=by unfold Ju;rw [Int.toNat_natCast,Hp h];rfl
theorem JfE {t:JH} {n:Nat} (h:n<t.town.polls.length):t.town.polls[n]? = some (QN t (n:Int)):=by unfold QN;rw [Int.toNat_natCast,Hp h];rfl
def Wc (t:JH) (d:K6):JH :=
 if W4 t d.who=false then t
 else if ¬ (JO (Ju t d.who) d.value).2.2=0∨Z6 (JO (Ju t d.who) d.value).1.key (JO (Ju t d.who) d.value).2.1=false then t
 else if ¬ (Ko t.town.clerk (JO (Ju t d.who) d.value).2.1).2.2=0 then t
 else ⟨⟨(Ko t.town.clerk (JO (Ju t d.who) d.value).2.1).1,t.town.owners.set d.who.toNat (JO (Ju t d.who) d.value).1,t.town.polls,t.town.net⟩,t.reach,t.fates,t.events++[⟨1,d.who,(Ju t d.who).wanted.length,(Ko t.town.clerk (JO (Ju t d.who) d.value).2.1).2.1⟩]⟩
theorem tWant0 {t:JH} {d:K6} (h:W4 t d.who=false):Wc t d=t:=by unfold Wc;rw [if_pos h]
theorem tWant1 {t:JH} {d:K6} {k:Int} (hk:d.who=k) (h0:W4 t d.who=true) (h:¬ (JO (Ju t k) d.value).2.2=0):Wc t d=t:=by
 subst hk;unfold Wc;rw [if_neg (by rw [h0];simp),if_pos (.inl h)]
theorem tWant2 {t:JH} {d:K6} {k:Int} (hk:d.who=k) (h0:W4 t d.who=true) (h:Z6 (JO (Ju t k) d.value).1.key (JO (Ju t k) d.value).2.1=false):Wc t d=t:=by
 subst hk;unfold Wc;rw [if_neg (by rw [h0];simp),if_pos (.inr h)]
theorem tWant3 {t:JH} {d:K6} {k:Int} (hk:d.who=k) (h0:W4 t d.who=true) (h:¬ (Ko t.town.clerk (JO (Ju t k) d.value).2.1).2.2=0):Wc t d=t:=by
 subst hk;unfold Wc;rw [if_neg (by rw [h0];simp)]
 split
 · rfl
 · rfl
theorem tWant4 {t:JH} {d:K6} {k:Int} {n:Nat} (hk:d.who=k) (hn:k=(n:Int)) (h0:W4 t d.who=true) (h1:(JO (Ju t k) d.value).2.2=0) (h2:Z6 (JO (Ju t k) d.value).1.key (JO (Ju t k) d.value).2.1=true) (h3:(Ko t.town.clerk (JO (Ju t k) d.value).2.1).2.2=0) :
  Wc t d=Q5 ⟨⟨(Ko t.town.clerk (JO (Ju t k) d.value).2.1).1,t.town.owners.set n (JO (Ju t k) d.value).1,t.town.polls,t.town.net⟩,t.reach,t.fates,t.events⟩ 1 k (Ju t k).wanted.length (Ko t.town.clerk (JO (Ju t k) d.value).2.1).2.1:=by
 subst hk;unfold Wc
 rw [if_neg (by rw [h0];simp),if_neg (by rw [h2];simp [h1]),if_neg (by simpa using h3)]
 unfold Q5;rw [show d.who.toNat=n by omega]
def ZE (t:JH) (l:JQ):JH:=⟨⟨t.town.clerk,t.town.owners.set l.to_.toNat (JB (Ju t l.to_) l.heads l.reply).1,if (JB (Ju t l.to_) l.heads l.reply).2.1=0∨(JB (Ju t l.to_) l.heads l.reply).2.1=1 then t.town.polls.set l.to_.toNat (Q7 (QN t l.to_) t.town.clerk.now).1 else t.town.polls,t.town.net⟩,t.reach,t.fates,t.events++[⟨2,l.to_,(JB (Ju t l.to_) l.heads l.reply).2.1,(JB (Ju t l.to_) l.heads l.reply).1.head.epoch⟩]⟩
def minI (a b:Int):Int:=if b<a then b else a
def maxI (a b:Int):Int:=if b > a then b else a
def WR (t:JH):Int:=(t.town.clerk.heads.length:Int)-1
def WJ (t:JH) (l:JQ):Int:=maxI (minI l.since (WR t)) 0
def Va (t:JH) (l:JQ):Int:=minI (WJ t l+t.reach-1) (WR t)
def Qn (t:JH) (l:JQ):JH:=if W4 t l.from_=false then t else Wi t ⟨l.from_,0,0,0,(ZB t.town.clerk (WJ t l) (Va t l)).1,(JM t.town.clerk (Ju t l.from_).name (Va t l)).1⟩
def JaE (t:JH) (k:Int):JH:=Wi ⟨⟨t.town.clerk,t.town.owners,t.town.polls.set k.toNat (KL (QN t k) t.town.clerk.now).1,t.town.net⟩,t.reach,t.fates,t.events⟩ ⟨-1,k,(Ju t k).head.epoch+1,0,[],JdW⟩
def Zs (t:JH) (k:Int):JH :=
 if ¬ (KL (QN t k) t.town.clerk.now).2=0 then t
 else if Ja4 (KL (QN t k) t.town.clerk.now).1=true∧Ja4 (QN t k)=false then Q5 (JaE t k) 3 k 0 t.town.clerk.now else JaE t k
def Y6 (t:JH):JH:=⟨⟨(KD t.town.clerk).1,t.town.owners,t.town.polls,(Kn t.town.net).1⟩,t.reach,t.fates,t.events⟩
def Z1 (t:JH) (l:JQ):JH:=if l.to_<0 then Qn t l else ZE t l
def W9 (t:JH) (l:List JQ):JH:=l.foldl Z1 t
def Jbu (t:JH) (n:Nat):JH:=(List.range n).foldl (fun t (k:Nat)=>Zs t (k:Int)) t
def Wu (t:JH):JH:=if (KD t.town.clerk).1.now=t.town.clerk.now then t else Jbu (W9 (Y6 t) (Kn t.town.net).2.1) (W9 (Y6 t) (Kn t.town.net).2.1).town.owners.length
def JiX (l:JQ) (k:Int):JQ:=⟨k,l.from_,l.since,l.due,l.heads,l.reply⟩
def JfF (t:JH) (d:K6):JH:=if W4 t d.who=false then t else ⟨⟨t.town.clerk,t.town.owners,t.town.polls,if (Ku t.town.net (JiX d.letter d.who) [1]).2=0 then (Ku t.town.net (JiX d.letter d.who) [1]).1 else t.town.net⟩,t.reach,t.fates,t.events⟩
def YJ (t:JH) (d:K6):JH:=if d.kind=1 then Wc t d else if d.kind=2 then ⟨t.town,t.reach,t.fates++[d.fates],t.events⟩ else if d.kind=3 then JfF t d else if d.kind=4 then Wu t else t
structure Yj (t u:JH) (k:Nat):Prop where
 ev:∃ m,u.events=t.events++m∧m.length≤k
 own:u.town.owners.length=t.town.owners.length
 polls:u.town.polls.length=t.town.polls.length
 reach:u.reach=t.reach
theorem Yj.refl (t:JH) (k:Nat):Yj t t k:=⟨⟨[],by simp,by simp⟩,rfl,rfl,rfl⟩
theorem Yj.trans {t u v:JH} {j k:Nat} (h:Yj t u j) (h2:Yj u v k):Yj t v (j+k):=by
 obtain ⟨m,e,l⟩:=h.ev;obtain ⟨n,e2,l2⟩:=h2.ev
 exact ⟨⟨m++n,by rw [e2,e,Hz],by simp;omega⟩,h2.own.trans h.own,h2.polls.trans h.polls,h2.reach.trans h.reach⟩
theorem Yj.mono {t u:JH} {j k:Nat} (h:Yj t u j) (hk:j≤k):Yj t u k:=by
 obtain ⟨m,e,l⟩:=h.ev
 exact ⟨⟨m,e,Hg l hk⟩,h.own,h.polls,h.reach⟩
theorem Yj.len {t u:JH} {k:Nat} (h:Yj t u k):u.events.length≤t.events.length+k∧t.events.length≤u.events.length:=by
 obtain ⟨m,e,l⟩:=h.ev;rw [e];simp;omega
theorem g_send (t:JH) (l:JQ):Yj t (Wi t l) 0:=⟨⟨[],by simp [Wi],by simp⟩,rfl,rfl,rfl⟩
theorem g_want (t:JH) (d:K6):Yj t (Wc t d) 1:=by
 unfold Wc
 split
 · exact Yj.refl t 1
 split
 · exact Yj.refl t 1
 split
 · exact Yj.refl t 1
 · exact ⟨⟨_,rfl,by simp⟩,by simp,rfl,rfl⟩
theorem JnX (t:JH) (l:JQ):Yj t (Qn t l) 0:=by
 unfold Qn
 split
 · exact Yj.refl t 0
 · exact g_send t _
theorem g_see (t:JH) (l:JQ):Yj t (ZE t l) 1:=by
 refine ⟨⟨_,rfl,by simp⟩,by simp [ZE],?_,rfl⟩
 unfold ZE;simp only
 split <;> simp
theorem JnY (t:JH) (k:Int):Yj t (JaE t k) 0:=⟨⟨[],by simp [JaE,Wi],by simp⟩,rfl,by simp [JaE,Wi],rfl⟩
theorem g_ask (t:JH) (k:Int):Yj t (Zs t k) 1:=by
 unfold Zs
 split
 · exact Yj.refl t 1
 split
 · refine (JnY t k).trans (k:=1) ⟨⟨_,rfl,by simp⟩,rfl,rfl,rfl⟩
 · exact (JnY t k).mono (by omega)
theorem JfG (t:JH) (l:JQ):Yj t (Z1 t l) 1:=by
 unfold Z1
 split
 · exact (JnX t l).mono (by omega)
 · exact g_see t l
theorem JdX:∀ (l:List JQ) (t:JH),Yj t (W9 t l) l.length
 | [],t=>Yj.refl t 0
 | x::l,t=>by
  have:=(JfG t x).trans (JdX l (Z1 t x))
  exact this.mono (by simp;omega)
theorem Jgh (t:JH) (l:List JQ) (x:JQ):W9 t (l++[x])=Z1 (W9 t l) x:=by simp [W9,HA]
theorem Jck {t:JH} {l:List JQ} {i:Nat} {x:JQ} (h:l[i]? = some x):Z1 (W9 t (l.take i)) x=W9 t (l.take (i+1)):=by
 rw [Hj,h,← Jgh];rfl
theorem Vz (t:JH) (n:Nat):Zs (Jbu t n) (n:Int)=Jbu t (n+1):=by simp [Jbu,List.range_succ,HA]
theorem Jkk (t:JH):∀ n,Yj t (Jbu t n) n
 | 0=>Yj.refl t 0
 | n+1=>by rw [← Vz];exact (Jkk t n).trans (g_ask _ _)
theorem JiY (n:Yx):(Kn n).2.1.length≤60:=by
 unfold Kn
 split
 · simp
 split
 · simp
 ·
  rename_i h1 h2
  have:=Q0 (Hd.1 h1)
  have h3:=HB (fun l:JQ=>decide (l.due=n.now+1)) n.way
  simp only;omega
theorem g_tick {t:JH} (h:t.town.owners.length≤4):Yj t (Wu t) 64:=by
 unfold Wu
 split
 · exact Yj.refl t 64
 ·
  have h1:Yj t (Y6 t) 0:=⟨⟨[],by simp [Y6],by simp⟩,rfl,rfl,rfl⟩
  have h2:=h1.trans (JdX (Kn t.town.net).2.1 (Y6 t))
  have h3:=h2.trans (Jkk (W9 (Y6 t) (Kn t.town.net).2.1) (W9 (Y6 t) (Kn t.town.net).2.1).town.owners.length)
  have h4:=JiY t.town.net
  exact h3.mono (by rw [h2.own];omega)
theorem g_say (t:JH) (d:K6):Yj t (JfF t d) 0:=by
 unfold JfF
 split
 · exact Yj.refl t 0
 · exact ⟨⟨[],by simp,by simp⟩,rfl,rfl,rfl⟩
theorem g_do {t:JH} (h:t.town.owners.length≤4) (d:K6):Yj t (YJ t d) 64:=by
 unfold YJ
 split
 · exact (g_want t d).mono (by omega)
 split
 · exact ⟨⟨[],by simp,by simp⟩,rfl,rfl,rfl⟩
 split
 · exact (g_say t d).mono (by omega)
 split
 · exact g_tick h
 · exact Yj.refl t 64
def WC (t:JH):Prop:=∀ l∈t.town.net.way,l.to_<t.town.owners.length
theorem Jes {n:Yx} {l x:JQ} {f:List Int} (hk:(Ku n l f).2=0) (h:x∈(Ku n l f).1.way):x∈n.way∨x.to_=l.to_:=by
 unfold Ku at hk h
 split at h
 · simp [JbM] at h
 split at h
 · simp [JbM] at h
 split at h
 · simp [JbM] at h
 ·
  simp only [Hf,List.mem_map] at h
  rcases h with h | ⟨k,_,rfl⟩
  · exact .inl h
  · exact .inr rfl
theorem JiZ {n:Yx} {x:JQ} (h:x∈(Kn n).1.way):x∈n.way:=by
 unfold Kn at h
 split at h
 · simp [JbM] at h
 split at h
 · simp [JbM] at h
 · exact (HN.1 h).1
theorem Jdi {n:Yx} {x:JQ} (h:x∈(Kn n).2.1):x∈n.way:=by
 unfold Kn at h
 split at h
 · simp at h
 split at h
 · simp at h
 · exact (HN.1 h).1
theorem JnZ {t:JH} {l:JQ} (h:WC t) (hl:l.to_<t.town.owners.length):WC (Wi t l):=by
 intro x hx
 unfold Wi at hx ⊢
 simp only at hx ⊢
 split at hx
 ·
  rename_i hk
  rcases Jes hk hx with h2 | h2
  · exact h x h2
  · omega
 · exact h x hx
theorem VA {t:JH} {k:Int}:W4 t k=true ↔ 0≤k∧k<t.town.owners.length:=by unfold W4;simp
theorem w_want {t:JH} (h:WC t) (d:K6):WC (Wc t d):=by
 unfold Wc
 split
 · exact h
 split
 · exact h
 split
 · exact h
 · intro x hx;have:=h x hx;simpa using this
theorem Jn0 {t:JH} (h:WC t) (l:JQ):WC (Qn t l):=by
 unfold Qn
 split
 · exact h
 ·
  rename_i h1
  exact JnZ h (VA.1 (by simpa using h1)).2
theorem w_see {t:JH} (h:WC t) (l:JQ):WC (ZE t l):=by
 intro x hx;have:=h x hx;simpa [ZE] using this
theorem Jn1 {t:JH} (h:WC t) (k:Int):WC (JaE t k):=by
 unfold JaE
 exact JnZ (t:=⟨⟨t.town.clerk,t.town.owners,t.town.polls.set k.toNat (KL (QN t k) t.town.clerk.now).1,t.town.net⟩,t.reach,t.fates,t.events⟩) h (by simp only;omega)
theorem w_ask {t:JH} (h:WC t) (k:Int):WC (Zs t k):=by
 unfold Zs
 split
 · exact h
 split
 · exact Jn1 h k
 · exact Jn1 h k
theorem Jn2 {t:JH} (h:WC t) (l:JQ):WC (Z1 t l):=by
 unfold Z1
 split
 · exact Jn0 h l
 · exact w_see h l
theorem JdY:∀ (l:List JQ) {t:JH},WC t→WC (W9 t l)
 | [],_,h=>h
 | x::l,t,h=>JdY l (Jn2 h x)
theorem Jkl {t:JH} (h:WC t):∀ n,WC (Jbu t n)
 | 0=>h
 | n+1=>by rw [← Vz];exact w_ask (Jkl h n) _
theorem Jld {t:JH} (h:WC t):WC (Y6 t):=fun x hx=>h x (JiZ hx)
theorem w_tick {t:JH} (h:WC t):WC (Wu t):=by
 unfold Wu
 split
 · exact h
 · exact Jkl (JdY _ (Jld h)) _
theorem w_say {t:JH} (h:WC t) (d:K6):WC (JfF t d):=by
 unfold JfF
 split
 · exact h
 ·
  rename_i h1
  have h2:=(VA.1 (by simpa using h1:W4 t d.who=true)).2
  intro x hx
  simp only at hx ⊢
  split at hx
  ·
   rename_i hk
   rcases Jes hk hx with h3 | h3
   · exact h x h3
   · rw [h3];exact h2
  · exact h x hx
theorem w_do {t:JH} (h:WC t) (d:K6):WC (YJ t d):=by
 unfold YJ
 split
 · exact w_want h d
 split
 · exact h
 split
 · exact w_say h d
 split
 · exact w_tick h
 · exact h
def JaP (t:JH) (l:List K6):JH:=l.foldl YJ t
theorem JgO {t:JH} {l:List K6} {i:Nat} {d:K6} (h:l[i]? = some d):YJ (JaP t (l.take i)) d=JaP t (l.take (i+1)):=by
 unfold JaP;rw [Hj,h];simp [HA]
theorem Jn3:∀ (l:List K6) {t:JH},t.town.owners.length≤4→Yj t (JaP t l) (64*l.length)
 | [],t,_=>Yj.refl t 0
 | d::l,t,h=>by
  have h1:=g_do h d
  have h2:=Jn3 l (t:=YJ t d) (by rw [h1.own];exact h)
  exact (h1.trans h2).mono (by simp;omega)
def nmE:List (List UInt8)→List (List UInt8)→Int
 | _,[]=>0
 | p,n::l=>if KJ n=false∨(p.any fun x=>decide (n=x))=true then 3 else nmE (p++[n]) l
def ZQ (s:Kv) (h:JU):List K9:=(s.names.zip s.keys).map fun x=>(Kg x.1 x.2 h).1
def Qo (s:Kv):Int:=if ¬ (J3 s.most s.batch s.every).2=0 then (J3 s.most s.batch s.every).2 else if s.names.length > 4 then 2 else if ¬ s.keys.length=s.names.length then 3 else if ¬ nmE [] s.names=0 then nmE [] s.names else if ¬ (KQ s.least s.top s.lost).2=0 then (KQ s.least s.top s.lost).2 else if s.reach<1∨s.reach > 40 then 4 else 0
def Qw (s:Kv):JH:=⟨⟨(J3 s.most s.batch s.every).1,ZQ s (WS (J3 s.most s.batch s.every).1.heads),HE (ZQ s (WS (J3 s.most s.batch s.every).1.heads)).length (KQ s.least s.top s.lost).1,⟨0,[]⟩⟩,s.reach,[],[]⟩
def Jbv (s:Kv) (l:List K6):Int:=if ¬ Qo s=0 then Qo s else if l.length > 200 then 2 else 0
def Jle:Q8:=⟨ZY,[],[],⟨0,[]⟩⟩
def Jr (s:Kv) (l:List K6):Q8×List VR×Int:=if ¬ Jbv s l=0 then (Jle,[],Jbv s l) else ((JaP (Qw s) l).town,(JaP (Qw s) l).events,0)
theorem VB {s:Kv} (h:Qo s=0):s.names.length≤4∧s.keys.length=s.names.length∧nmE [] s.names=0∧(J3 s.most s.batch s.every).2=0∧(KQ s.least s.top s.lost).2=0∧1≤s.reach∧s.reach≤40:=by
 unfold Qo at h
 split at h
 · contradiction
 split at h
 · cases h
 split at h
 · cases h
 split at h
 · contradiction
 split at h
 · contradiction
 split at h
 · cases h
 ·
  rename_i h1 h2 h3 h4 h5 h6
  exact ⟨by omega,Hd.1 h3,Hd.1 h4,Hd.1 h1,Hd.1 h5,by omega,by omega⟩
theorem Jdj {s:Kv} (h:Qo s=0) (x:JU):(ZQ s x).length=s.names.length:=by
 have:=VB h
 unfold ZQ;rw [Hl,List.length_zip];omega
theorem JeV {s:Kv} {l:List K6} (h:(Jr s l).2.2=0):Qo s=0∧l.length≤200∧Jr s l=((JaP (Qw s) l).town,(JaP (Qw s) l).events,0):=by
 unfold Jr at h ⊢
 split at h
 · contradiction
 ·
  rename_i h1
  rw [if_neg h1]
  have h2:=Hd.1 h1
  unfold Jbv at h2
  split at h2
  · contradiction
  split at h2
  · cases h2
  · rename_i a b;exact ⟨Hd.1 a,by omega,rfl⟩
theorem Jn4 {s:Kv} {l:List K6} (h:¬ (Jr s l).2.2=0):Jr s l=(Jle,[],Jbv s l):=by
 unfold Jr at h ⊢
 split
 · rfl
 · rename_i h1;rw [if_neg h1] at h;exact absurd rfl h
structure Za (s:Kv) (t:JH):Prop where
 clerk:W6 t.town.clerk
 net:Qm t.town.net=0
 now:t.town.net.now=t.town.clerk.now
 own:∀ (i:Nat) o,t.town.owners[i]? = some o→Kb o=0∧s.names[i]? = some o.name∧s.keys[i]? = some o.key
 poll:∀ (i:Nat) p,t.town.polls[i]? = some p→KG p=0
theorem Jlf {n:Yx} (h:Qm n=0):∀ l∈n.way,n.now<l.due:=by
 unfold Qm at h
 split at h
 · cases h
 split at h
 · cases h
 split at h
 · cases h
 ·
  rename_i h3
  intro l hl
  have:¬ JeC l n=true:=fun e=>h3 (Hv.2 ⟨l,hl,e⟩)
  unfold JeC at this
  simp at this;omega
theorem Jkm {n:Yx} (h1:0≤n.now) (h2:n.now≤1000000000) (h3:n.way.length≤60) (h4:∀ l∈n.way,n.now<l.due):Qm n=0:=by
 unfold Qm
 rw [if_neg (by omega),if_neg (by omega),if_neg]
 rw [Hv]
 rintro ⟨l,hl,e⟩
 have:=h4 l hl
 unfold JeC at e
 simp at e;omega
theorem VG {n:Yx} {l:JQ} {f:List Int} (h:(Ku n l f).2=0):Qm (Ku n l f).1=0∧(Ku n l f).1.now=n.now:=by
 unfold Ku at h ⊢
 split at h
 · contradiction
 split at h
 · cases h
 split at h
 · cases h
 ·
  rename_i h1 h2 h3
  rw [if_neg h1,if_neg h2,if_neg h3]
  have hc:=Q0 (Hd.1 h1)
  have ha:=Jlf (Hd.1 h1)
  refine ⟨Jkm (by simp only;omega) (by simp only;omega) (by simp only [Hc,Hl];omega) (fun x hx=>?_),rfl⟩
  simp only [Hf,List.mem_map] at hx
  rcases hx with hx | ⟨k,hk,rfl⟩
  · exact ha x hx
  ·
   have:¬ Vn k=true:=fun e=>h2 (Hv.2 ⟨k,hk,e⟩)
   unfold Vn at this
   simp at this
   show n.now<n.now+k
   omega
theorem Jcl {n:Yx} (h:Qm n=0) (hn:¬ n.now=1000000000):Qm (Kn n).1=0∧(Kn n).1.now=n.now+1:=by
 have hc:=Q0 h
 have ha:=Jlf h
 unfold Kn
 rw [if_neg (by omega),if_neg hn]
 refine ⟨Jkm (by simp only;omega) (by simp only;omega) ?_ (fun x hx=>?_),rfl⟩
 ·
  have:=HB (fun l:JQ=>!decide (l.due=n.now+1)) n.way
  simp only;omega
 ·
  have hx':=HN.1 hx
  have h1:=ha x hx'.1
  have h2:¬ x.due=n.now+1:=by simpa using hx'.2
  simp only;omega
theorem JeW {α:Type} {l:List α} {k i:Nat} {v x:α} (h:(l.set k v)[i]? = some x):(k=i∧x=v∧k<l.length)∨(k ≠ i∧l[i]? = some x):=by
 by_cases e:k=i
 ·
  subst e
  have hl:=(Hq.1 h).1
  rw [Hx] at hl
  rw [HL hl] at h
  exact .inl ⟨rfl,(HP.inj h).symm,hl⟩
 · rw [List.getElem?_set_ne e] at h;exact .inr ⟨e,h⟩
theorem JaF {t:JH} {k:Int} (h:k.toNat<t.town.owners.length):t.town.owners[k.toNat]? = some (Ju t k):=by unfold Ju;rw [Hp h];rfl
theorem Jkn {t:JH} {k:Int} (h:k.toNat<t.town.polls.length):t.town.polls[k.toNat]? = some (QN t k):=by unfold QN;rw [Hp h];rfl
theorem Jn5 {s:Kv} {t:JH} (h:Za s t) (l:JQ):Za s (Wi t l):=by
 refine ⟨h.clerk,?_,?_,h.own,h.poll⟩ <;> (unfold Wi;simp only;split)
 · rename_i hk;exact (VG hk).1
 · exact h.net
 · rename_i hk;rw [(VG hk).2];exact h.now
 · exact h.now
theorem i_want {s:Kv} {t:JH} (h:Za s t) (d:K6):Za s (Wc t d):=by
 unfold Wc
 split
 · exact h
 rename_i h0
 split
 · exact h
 split
 · exact h
 ·
  rename_i h1 h2
  simp only [not_or,Hy] at h1
  have hw:=Hd.1 h1.1
  have ha:=Hd.1 h2
  have hd:=VA.1 (by simpa using h0:W4 t d.who=true)
  obtain ⟨w1,w2,w3,w4,w5⟩:=Jc9 hw
  have hnow:(Ko t.town.clerk (JO (Ju t d.who) d.value).2.1).1.now=t.town.clerk.now:=by rw [(JaD ha).2.2.2.2]
  refine ⟨JfA ha,h.net,by simp only;rw [hnow];exact h.now,fun i o ho=>?_,h.poll⟩
  rcases JeW ho with ⟨rfl,rfl,_⟩ | ⟨_,ho⟩
  ·
   obtain ⟨q1,q2,q3⟩:=h.own _ _ (JaF (k:=d.who) (by omega))
   refine ⟨w5.1,?_,?_⟩ <;> rw [w4]
   · exact q2
   · exact q3
  · exact h.own i o ho
theorem JgP {o:K9} {l:List JU} {r:Wa} (h:Kb o=0):Kb (JB o l r).1=0∧(JB o l r).1.name=o.name∧(JB o l r).1.key=o.key∧(JB o l r).1.wanted=o.wanted:=by
 by_cases hv:(J0 o l r).1=0
 ·
  have e:JB o l r=(⟨o.name,o.key,r.head,o.wanted,(J0 o l r).2⟩,0,0):=by unfold JB;rw [if_neg (by omega),if_pos hv]
  have h1:(JB o l r).2.2=0:=by rw [e]
  have h2:(JB o l r).2.1=0:=by rw [e]
  exact ⟨(JnM h1 h2).2.2.2.2.1,by rw [e],by rw [e],by rw [e]⟩
 ·
  have e:JB o l r=(o,(J0 o l r).1,0):=by unfold JB;rw [if_neg (by omega),if_neg hv]
  rw [e];exact ⟨h,rfl,rfl,rfl⟩
theorem Jet {p:Wb} {now:Int} (h:KG p=0) (h1:0≤now) (h2:now≤1000000000):KG (Q7 p now).1=0:=by
 have hp:=(Zw p).1 h
 have ha:KK p now=0:=(JcC p now).2 ⟨hp,h1,h2⟩
 unfold Q7
 rw [if_neg (by omega)]
 simp only
 rw [Zw]
 unfold Y5 at hp ⊢
 unfold K7
 simp only
 (repeat' split) <;> omega
theorem i_see {s:Kv} {t:JH} (h:Za s t) {l:JQ} (h0:0≤l.to_) (h1:l.to_<t.town.owners.length):Za s (ZE t l):=by
 refine ⟨h.clerk,h.net,h.now,fun i o ho=>?_,fun i p hp=>?_⟩
 ·
  rcases JeW ho with ⟨rfl,rfl,_⟩ | ⟨_,ho⟩
  ·
   obtain ⟨q1,q2,q3⟩:=h.own _ _ (JaF (k:=l.to_) (by omega))
   obtain ⟨k1,k2,k3,_⟩:=JgP (l:=l.heads) (r:=l.reply) q1
   exact ⟨k1,by rw [k2];exact q2,by rw [k3];exact q3⟩
  · exact h.own i o ho
 ·
  unfold ZE at hp
  simp only at hp
  split at hp
  ·
   rcases JeW hp with ⟨rfl,rfl,hl⟩ | ⟨_,hp⟩
   · exact Jet (h.poll _ _ (Jkn hl)) h.clerk.now.1 h.clerk.now.2
   · exact h.poll i p hp
  · exact h.poll i p hp
theorem Jn6 {s:Kv} {t:JH} (h:Za s t) (l:JQ):Za s (Qn t l):=by
 unfold Qn
 split
 · exact h
 · exact Jn5 h _
theorem Ji0 {s:Kv} {t:JH} (h:Za s t) {l:JQ} (h1:l.to_<t.town.owners.length):Za s (Z1 t l):=by
 unfold Z1
 split
 · exact Jn6 h l
 · exact i_see h (by omega) h1
theorem JdZ {s:Kv}:∀ (l:List JQ) {t:JH},Za s t→(∀ x∈l,x.to_<t.town.owners.length)→Za s (W9 t l)
 | [],_,h,_=>h
 | x::l,t,h,hl=>JdZ l (Ji0 h (hl x (by simp))) (fun y hy=>by rw [(JfG t x).own];exact hl y (by simp [hy]))
theorem i_sent {s:Kv} {t:JH} (h:Za s t) {k:Int} (hk:(KL (QN t k) t.town.clerk.now).2=0):Za s (JaE t k):=by
 unfold JaE
 refine Jn5 (t:=⟨⟨t.town.clerk,t.town.owners,t.town.polls.set k.toNat (KL (QN t k) t.town.clerk.now).1,t.town.net⟩,t.reach,t.fates,t.events⟩) ⟨h.clerk,h.net,h.now,h.own,fun i p hp=>?_⟩ _
 rcases JeW hp with ⟨rfl,rfl,_⟩ | ⟨_,hp⟩
 · have:=Jeo hk;omega
 · exact h.poll i p hp
theorem i_ask {s:Kv} {t:JH} (h:Za s t) (k:Int):Za s (Zs t k):=by
 unfold Zs
 split
 · exact h
 rename_i h1
 have h2:=i_sent h (Hd.1 h1)
 split
 · exact ⟨h2.clerk,h2.net,h2.now,h2.own,h2.poll⟩
 · exact h2
theorem Jko {s:Kv} {t:JH} (h:Za s t):∀ n,Za s (Jbu t n)
 | 0=>h
 | n+1=>by rw [← Vz];exact i_ask (Jko h n) _
theorem i_tick {s:Kv} {t:JH} (h:Za s t) (hw:WC t):Za s (Wu t):=by
 unfold Wu
 split
 · exact h
 ·
  rename_i h1
  obtain ⟨t0,tk⟩:=Jbl h.clerk
  have hn:Zg t.town.clerk=false∧(KD t.town.clerk).1.now=t.town.clerk.now+1:=by
   rcases JaN h.clerk with q | q
   · exact absurd q.1 h1
   · exact q
  have hne:¬ t.town.net.now=1000000000:=by
   rw [h.now]
   have:=hn.1;unfold Zg at this
   simp only [HC,decide_eq_false_iff_not] at this
   exact this.2
  obtain ⟨n1,n2⟩:=Jcl h.net hne
  have hT:Za s (Y6 t):=⟨tk.ok,n1,by show (Kn t.town.net).1.now=(KD t.town.clerk).1.now;rw [n2,hn.2,h.now],h.own,h.poll⟩
  exact Jko (JdZ _ hT (fun x hx=>hw x (Jdi hx))) _
theorem i_do {s:Kv} {t:JH} (h:Za s t) (hw:WC t) (d:K6):Za s (YJ t d):=by
 unfold YJ
 split
 · exact i_want h d
 split
 · exact ⟨h.clerk,h.net,h.now,h.own,h.poll⟩
 split
 ·
  unfold JfF
  split
  · exact h
  ·
   refine ⟨h.clerk,?_,?_,h.own,h.poll⟩ <;> (simp only;split)
   · rename_i hk;exact (VG hk).1
   · exact h.net
   · rename_i hk;rw [(VG hk).2];exact h.now
   · exact h.now
 split
 · exact i_tick h hw
 · exact h
theorem Jn7 {s:Kv}:∀ (l:List K6) {t:JH},Za s t→WC t→Za s (JaP t l)
 | [],_,h,_=>h
 | d::l,_,h,hw=>Jn7 l (i_do h hw d) (w_do hw d)
theorem JbN {m b e:Int} (h:(J3 m b e).2=0):W6 (J3 m b e).1∧(J3 m b e).1.now=0∧(J3 m b e).1.books=[[]]∧(J3 m b e).1.queue.wait=[]∧(J3 m b e).1.heads.length=1:=by
 unfold J3 at h ⊢
 split at h
 · cases h
 ·
  rename_i h1
  rw [if_neg h1]
  simp only [not_or,Hy] at h1
  obtain ⟨a1,a2,a3⟩:=h1
  have b1:=Vy.1 a1;have b2:=Vy.1 a2;have b3:=Vy.1 a3
  have hT:W3 []:=⟨by simp,by simp,by simp⟩
  have hroot:=Jcz (q:=[]) hT (by simp) (by simp)
  have hb:=JbI (KF [] []) []
  have hc:JL ⟨0,(JX [] []).1,0,0⟩=0:=by
   rw [hroot];unfold JL;simp only
   rw [if_neg (by omega),if_neg (by simp)]
  have hf:K0 (JX [] []).1 0=(⟨0,(JX [] []).1,0,0⟩,0):=by unfold K0;rw [if_neg (by omega)]
  rw [hf]
  refine ⟨⟨K2.2 ⟨by simp only;omega,by simp only;omega,by simp;omega,by simp⟩,b2,b3,⟨by simp,by simp⟩,⟨by simp,by simp,?_,?_⟩,rfl,rfl,by simp [WW],?_,?_⟩,rfl,rfl,rfl,rfl⟩
  · intro x hx;simp at hx;rw [hx];exact hc
  · intro k x y hx hy;have:=(Hq.1 hy).1;simp at this
  ·
   intro k x hx
   have hk:k=0:=by have:=(Hq.1 hx).1;simp at this;exact this
   subst hk
   simp at hx
   subst hx
   exact ⟨by rw [hroot],by simp⟩
  · simp [V2,Ws,KR,Qv,nn,dd]
theorem JhH:∀ (l p:List (List UInt8)),nmE p l=0→(∀ n∈l,KJ n=true)∧l.Nodup∧∀ n∈l,n ∉ p
 | [],_,_=>by simp
 | n::l,p,h=>by
  unfold nmE at h
  split at h
  · cases h
  ·
   rename_i h1
   simp only [not_or,Hy] at h1
   obtain ⟨q1,q2,q3⟩:=JhH l (p++[n]) h
   have hn:n ∉ p:=fun hp=>h1.2 (Hv.2 ⟨n,hp,by simp⟩)
   refine ⟨fun x hx=>?_,HM.2 ⟨fun hx=>(q3 n hx) (by simp),q2⟩,fun x hx=>?_⟩
   ·
    rcases Ht.1 hx with rfl | hx
    · exact h1.1
    · exact q1 x hx
   ·
    rcases Ht.1 hx with rfl | hx
    · exact hn
    · exact fun hp=>q3 x hx (by simp [hp])
theorem JhI {s:Kv} {h:JU} {i:Nat} {o:K9} (hh:JL h=0) (hn:nmE [] s.names=0) (ho:(ZQ s h)[i]? = some o):Kb o=0∧s.names[i]? = some o.name∧s.keys[i]? = some o.key∧o.head=h∧o.wanted=[]∧o.had=0:=by
 unfold ZQ at ho
 rw [List.getElem?_map,Option.map_eq_some_iff] at ho
 obtain ⟨⟨n,k⟩,hz,rfl⟩:=ho
 rw [List.getElem?_zip_eq_some] at hz
 obtain ⟨z1,z2⟩:=hz
 have hp:=(JhH _ _ hn).1 n (Hr z1)
 have hc:Kb ⟨n,k,h,[],0⟩=0:=K5.2 ⟨hp,hh,by simp,by simp,by simp,by simp⟩
 have e:Kg n k h=(⟨n,k,h,[],0⟩,0):=by unfold Kg;rw [if_neg (by omega)]
 simp only [e]
 exact ⟨hc,z1,z2,by simp⟩
theorem JaG {s:Kv} (h:Qo s=0):Za s (Qw s)∧WC (Qw s)∧(Qw s).town.owners.length=s.names.length∧(Qw s).town.polls.length=s.names.length:=by
 obtain ⟨b1,b2,b3,b4,b5,b6,b7⟩:=VB h
 obtain ⟨c1,c2,c3,c4,c5⟩:=JbN b4
 have hf:JL (WS (J3 s.most s.batch s.every).1.heads)=0:=c1.chain.ok _ (Hr c1.chain.first)
 refine ⟨⟨c1,?_,?_,?_,?_⟩,?_,Jdj h _,?_⟩
 · show Qm ⟨0,[]⟩=0;exact Jkm (by simp) (by simp) (by simp) (by simp)
 · show (0:Int)=(J3 s.most s.batch s.every).1.now;exact c2.symm
 ·
  intro i o ho
  obtain ⟨q1,q2,q3,_⟩:=JhI hf b3 ho
  exact ⟨q1,q2,q3⟩
 ·
  intro i p hp
  have:=Hr hp
  have:=(List.mem_replicate.1 this).2
  rw [this]
  obtain ⟨q1,q2⟩:=JfD b5
  rw [q2];exact Jbm q1
 · intro l hl;simp [Qw] at hl
 · show (HE _ _).length=_;rw [List.length_replicate];exact Jdj h _
theorem JgQ {s:Kv} {l:List K6} (h:(Jr s l).2.2=0):Kc (Jr s l).1.clerk=0∧Qm (Jr s l).1.net=0∧(Jr s l).1.net.now=(Jr s l).1.clerk.now∧(Jr s l).1.owners.length=s.names.length∧(Jr s l).1.polls.length=s.names.length∧s.keys.length=s.names.length ∧
  (∀ (i:Nat) o,(Jr s l).1.owners[i]? = some o→Kb o=0∧s.names[i]? = some o.name∧s.keys[i]? = some o.key)∧∀ (i:Nat) p,(Jr s l).1.polls[i]? = some p→KG p=0:=by
 obtain ⟨h1,h2,h3⟩:=JeV h
 obtain ⟨b1,b2,b3,b4⟩:=JaG h1
 have hi:=Jn7 l b1 b2
 have hb:=VB h1
 have hg:=Jn3 l (t:=Qw s) (by rw [b3];exact hb.1)
 rw [h3]
 exact ⟨Zj.2 hi.clerk,hi.net,hi.now,hg.own.trans b3,hg.polls.trans b4,hb.2.1,hi.own,hi.poll⟩
abbrev J7 (x:JH) (a0:Option Addr) (c0:Nat) (a1:Option Addr) (c1:Nat) (a2:Option Addr) (c2:Nat) (a3:Option Addr) (c3:Nat) (a4:Option Addr) (c4:Nat) (a5:Option Addr) (c5:Nat) (a6:Option Addr) (c6:Nat) (a7:Option Addr) (c7:Nat):List Value:=[I x.town.clerk.queue.most,Sl a0 x.town.clerk.queue.wait.length c0,I x.town.clerk.batch,I x.town.clerk.every,I x.town.clerk.now,Sl a1 x.town.clerk.heads.length c1,Sl a2 x.town.clerk.books.length c2,Sl a3 x.town.owners.length c3,Sl a4 x.town.polls.length c4,I x.town.net.now,Sl a5 x.town.net.way.length c5,I x.reach,Sl a6 x.fates.length c6,Sl a7 x.events.length c7]
abbrev vTownT (x:JH) (a0:Option Addr) (c0:Nat) (a1:Option Addr) (c1:Nat) (a2:Option Addr) (c2:Nat) (a3:Option Addr) (c3:Nat) (a4:Option Addr) (c4:Nat) (a5:Option Addr) (c5:Nat) (a6:Option Addr) (c6:Nat) (a7:Option Addr) (c7:Nat):Value:=.agg #[I x.town.clerk.queue.most,Sl a0 x.town.clerk.queue.wait.length c0,I x.town.clerk.batch,I x.town.clerk.every,I x.town.clerk.now,Sl a1 x.town.clerk.heads.length c1,Sl a2 x.town.clerk.books.length c2,Sl a3 x.town.owners.length c3,Sl a4 x.town.polls.length c4,I x.town.net.now,Sl a5 x.town.net.way.length c5,I x.reach,Sl a6 x.fates.length c6,Sl a7 x.events.length c7]
theorem JbO (G:J4) (b:Nat) (t:JH) (a_1:Option Addr) (c_1:Nat) (a_5:Option Addr) (c_5:Nat) (a_6:Option Addr) (c_6:Nat) (a_7:Option Addr) (c_7:Nat) (a_8:Option Addr) (c_8:Nat) (a_10:Option Addr) (c_10:Nat) (a_12:Option Addr) (c_12:Nat) (a_13:Option Addr) (c_13:Nat) (r_7:List Kh) (r_8:List Kh) (r_12:List Kh) (r_13:List Kh) (h_0:rI t.town.clerk.queue.most) (h_1:RS QW G a_1 c_1 t.town.clerk.queue.wait) (h_2:rI t.town.clerk.batch) (h_3:rI t.town.clerk.every) (h_4:rI t.town.clerk.now) (h_5:RS KA G a_5 c_5 t.town.clerk.heads) (h_6:RS Qk G a_6 c_6 t.town.clerk.books) (h_7:J1 QB G a_7 c_7 t.town.owners r_7) (h_8:J1 Wg G a_8 c_8 t.town.polls r_8) (h_9:rI t.town.net.now) (h_10:RS Ke G a_10 c_10 t.town.net.way) (h_11:rI t.reach) (h_12:J1 Vd G a_12 c_12 t.fates r_12) (h_13:J1 QU G a_13 c_13 t.events r_13) (k:Int) :Jcc 62 #[Pt b 0,I k] G [[Sg b 0 [I t.town.clerk.queue.most,Sl a_1 t.town.clerk.queue.wait.length c_1,I t.town.clerk.batch,I t.town.clerk.every,I t.town.clerk.now,Sl a_5 t.town.clerk.heads.length c_5,Sl a_6 t.town.clerk.books.length c_6,Sl a_7 t.town.owners.length c_7,Sl a_8 t.town.polls.length c_8,I t.town.net.now,Sl a_10 t.town.net.way.length c_10,I t.reach,Sl a_12 t.fates.length c_12,Sl a_13 t.events.length c_13]],r_7,r_8,r_12,r_13] (fun u G' L'=>∃ (a_z1:Option Addr) (c_z1:Nat) (a_z5:Option Addr) (c_z5:Nat) (a_z6:Option Addr) (c_z6:Nat) (a_z7:Option Addr) (c_z7:Nat) (a_z8:Option Addr) (c_z8:Nat) (a_z10:Option Addr) (c_z10:Nat) (a_z12:Option Addr) (c_z12:Nat) (a_z13:Option Addr) (c_z13:Nat) (r_z7:List Kh) (r_z8:List Kh) (r_z12:List Kh) (r_z13:List Kh),u=Bo (W4 t k)∧(rI t.town.clerk.queue.most)∧(RS QW G' a_z1 c_z1 t.town.clerk.queue.wait)∧(rI t.town.clerk.batch)∧(rI t.town.clerk.every)∧(rI t.town.clerk.now)∧(RS KA G' a_z5 c_z5 t.town.clerk.heads)∧(RS Qk G' a_z6 c_z6 t.town.clerk.books)∧(J1 QB G' a_z7 c_z7 t.town.owners r_z7)∧(J1 Wg G' a_z8 c_z8 t.town.polls r_z8)∧(rI t.town.net.now)∧(RS Ke G' a_z10 c_z10 t.town.net.way)∧(rI t.reach)∧(J1 Vd G' a_z12 c_z12 t.fates r_z12)∧(J1 QU G' a_z13 c_z13 t.events r_z13)∧L'=[[Sg b 0 [I t.town.clerk.queue.most,Sl a_z1 t.town.clerk.queue.wait.length c_z1,I t.town.clerk.batch,I t.town.clerk.every,I t.town.clerk.now,Sl a_z5 t.town.clerk.heads.length c_z5,Sl a_z6 t.town.clerk.books.length c_z6,Sl a_z7 t.town.owners.length c_z7,Sl a_z8 t.town.polls.length c_z8,I t.town.net.now,Sl a_z10 t.town.net.way.length c_z10,I t.reach,Sl a_z12 t.fates.length c_z12,Sl a_z13 t.events.length c_z13]],r_z7,r_z8,r_z12,r_z13]):=by
 intro Lr
 refine JR Tryz.func62 17 [(0,Pt b 0),(1,I k)] rfl (fun w0 G0=>?_)
 show TC _ _ _ _ _ ([Sg b 0 (J7 t a_1 c_1 a_5 c_5 a_6 c_6 a_7 c_7 a_8 c_8 a_10 c_10 a_12 c_12 a_13 c_13)]::r_7::r_8::r_12::r_13::Lr)
 refine Jg [0] [] (Jf (Jd (Jc [0,0,0] [(7,Bo (decide (k ≥ 0)))] (Ks (decide (k ≥ 0)) [7] [0,0,0,0,0,2,0,0,0] [1,1,1,1,1,1,1,1,0] (fun bb=>[(16,Bo (bb && (decide (k<(t.town.owners.length:Int)))))]) (Jc [0] [(4,Bo ((decide (k ≥ 0)) && (decide (k<(t.town.owners.length:Int)))))] (Je (Jb (Jn (Jk 4 (Jk 4 (Jk 4 (Jk 4 (Jk 4 ?_)))))))))))))
 have hf1:(t,W4 t k)=(t,(decide (k ≥ 0)) && (decide (k<(t.town.owners.length:Int)))):=by
  rfl
 refine Jo [0] [Bo ((decide (k ≥ 0)) && (decide (k<(t.town.owners.length:Int))))] (KT (Lr:=Lr) [[Sg b 0 (J7 t a_1 c_1 a_5 c_5 a_6 c_6 a_7 c_7 a_8 c_8 a_10 c_10 a_12 c_12 a_13 c_13)],r_7,r_8,r_12,r_13] (Jh _) ?_)
 try rw [hf1];try dsimp only
 exact ⟨a_1,c_1,a_5,c_5,a_6,c_6,a_7,c_7,a_8,c_8,a_10,c_10,a_12,c_12,a_13,c_13,r_7,r_8,r_12,r_13,rfl,h_0,h_1,h_2,h_3,h_4,h_5,h_6,h_7,h_8,h_9,h_10,h_11,h_12,h_13,rfl⟩
theorem Jd0 (G:J4) (b:Nat) (t:JH) (a_1:Option Addr) (c_1:Nat) (a_5:Option Addr) (c_5:Nat) (a_6:Option Addr) (c_6:Nat) (a_7:Option Addr) (c_7:Nat) (a_8:Option Addr) (c_8:Nat) (a_10:Option Addr) (c_10:Nat) (a_12:Option Addr) (c_12:Nat) (a_13:Option Addr) (c_13:Nat) (r_7:List Kh) (r_8:List Kh) (r_12:List Kh) (r_13:List Kh) (h_0:rI t.town.clerk.queue.most) (h_1:RS QW G a_1 c_1 t.town.clerk.queue.wait) (h_2:rI t.town.clerk.batch) (h_3:rI t.town.clerk.every) (h_4:rI t.town.clerk.now) (h_5:RS KA G a_5 c_5 t.town.clerk.heads) (h_6:RS Qk G a_6 c_6 t.town.clerk.books) (h_7:J1 QB G a_7 c_7 t.town.owners r_7) (h_8:J1 Wg G a_8 c_8 t.town.polls r_8) (h_9:rI t.town.net.now) (h_10:RS Ke G a_10 c_10 t.town.net.way) (h_11:rI t.reach) (h_12:J1 Vd G a_12 c_12 t.fates r_12) (h_13:J1 QU G a_13 c_13 t.events r_13) (kind:Int) (hw_kind:rI kind) (who:Int) (hw_who:rI who) (n:Int) (hw_n:rI n) (at_:Int) (hw_at_:rI at_) (hev:t.events.length≤1000000):Jcc 104 #[Pt b 0,I kind,I who,I n,I at_] G [[Sg b 0 [I t.town.clerk.queue.most,Sl a_1 t.town.clerk.queue.wait.length c_1,I t.town.clerk.batch,I t.town.clerk.every,I t.town.clerk.now,Sl a_5 t.town.clerk.heads.length c_5,Sl a_6 t.town.clerk.books.length c_6,Sl a_7 t.town.owners.length c_7,Sl a_8 t.town.polls.length c_8,I t.town.net.now,Sl a_10 t.town.net.way.length c_10,I t.reach,Sl a_12 t.fates.length c_12,Sl a_13 t.events.length c_13]],r_7,r_8,r_12,r_13] (fun u G' L'=>∃ (a_z1:Option Addr) (c_z1:Nat) (a_z5:Option Addr) (c_z5:Nat) (a_z6:Option Addr) (c_z6:Nat) (a_z7:Option Addr) (c_z7:Nat) (a_z8:Option Addr) (c_z8:Nat) (a_z10:Option Addr) (c_z10:Nat) (a_z12:Option Addr) (c_z12:Nat) (a_z13:Option Addr) (c_z13:Nat) (r_z7:List Kh) (r_z8:List Kh) (r_z12:List Kh) (r_z13:List Kh),u=.tuple #[]∧(rI ((Q5 t kind who n at_).town.clerk.queue.most))∧(RS QW G' a_z1 c_z1 ((Q5 t kind who n at_).town.clerk.queue.wait))∧(rI ((Q5 t kind who n at_).town.clerk.batch))∧(rI ((Q5 t kind who n at_).town.clerk.every))∧(rI ((Q5 t kind who n at_).town.clerk.now))∧(RS KA G' a_z5 c_z5 ((Q5 t kind who n at_).town.clerk.heads))∧(RS Qk G' a_z6 c_z6 ((Q5 t kind who n at_).town.clerk.books))∧(J1 QB G' a_z7 c_z7 ((Q5 t kind who n at_).town.owners) r_z7)∧(J1 Wg G' a_z8 c_z8 ((Q5 t kind who n at_).town.polls) r_z8)∧(rI ((Q5 t kind who n at_).town.net.now))∧(RS Ke G' a_z10 c_z10 ((Q5 t kind who n at_).town.net.way))∧(rI ((Q5 t kind who n at_).reach))∧(J1 Vd G' a_z12 c_z12 ((Q5 t kind who n at_).fates) r_z12)∧(J1 QU G' a_z13 c_z13 ((Q5 t kind who n at_).events) r_z13)∧L'=[[Sg b 0 [I ((Q5 t kind who n at_).town.clerk.queue.most),Sl a_z1 (((Q5 t kind who n at_).town.clerk.queue.wait).length) c_z1,I ((Q5 t kind who n at_).town.clerk.batch),I ((Q5 t kind who n at_).town.clerk.every),I ((Q5 t kind who n at_).town.clerk.now),Sl a_z5 (((Q5 t kind who n at_).town.clerk.heads).length) c_z5,Sl a_z6 (((Q5 t kind who n at_).town.clerk.books).length) c_z6,Sl a_z7 (((Q5 t kind who n at_).town.owners).length) c_z7,Sl a_z8 (((Q5 t kind who n at_).town.polls).length) c_z8,I ((Q5 t kind who n at_).town.net.now),Sl a_z10 (((Q5 t kind who n at_).town.net.way).length) c_z10,I ((Q5 t kind who n at_).reach),Sl a_z12 (((Q5 t kind who n at_).fates).length) c_z12,Sl a_z13 (((Q5 t kind who n at_).events).length) c_z13]],r_z7,r_z8,r_z12,r_z13]):=by
 intro Lr
 refine JR Tryz.func104 24 [(0,Pt b 0),(1,I kind),(2,I who),(3,I n),(4,I at_)] rfl (fun w0 G0=>?_)
 show TC _ _ _ _ _ ([Sg b 0 (J7 t a_1 c_1 a_5 c_5 a_6 c_6 a_7 c_7 a_8 c_8 a_10 c_10 a_12 c_12 a_13 c_13)]::r_7::r_8::r_12::r_13::Lr)
 refine Jd (Jc [0,0,0,0,2,0,0,0,0,0] [(10,Pt b 0),(14,Sl a_13 t.events.length c_13),(19,.agg #[I kind,I who,I n,I at_])] (Kt 20 1 #[I kind,I who,I n,I at_] 74 (fun b1=>Qy (b:=b1) (cs:=[I kind,I who,I n,I at_]) 21 74 5 0 (E:=QU) (⟨kind,who,n,at_⟩:VR) h_13 ⟨rfl,hw_kind,hw_who,hw_n,hw_at_⟩ (by (try simp only [QU,Hc,He,Hi]);omega) (by (try simp only [QU,Hc,He,Hi]);omega) (fun a1 c1 r1 hr1=>JV [0,0,5] [] ([Sg b1 0 [I kind,I who,I n,I at_]]::[Sg b 0 (J7 (⟨t.town,t.reach,t.fates,(t.events++[(⟨kind,who,n,at_⟩:VR)])⟩:JH) a_1 c_1 a_5 c_5 a_6 c_6 a_7 c_7 a_8 c_8 a_10 c_10 a_12 c_12 a1 c1)]::r_7::r_8::r_12::r1::Lr) (Je (Jk 5 (Jk 5 (Jk 5 (Jk 5 (Jk 5 ?_))))))))))
 have hf1:Q5 t kind who n at_=(⟨t.town,t.reach,t.fates,t.events++[(⟨kind,who,n,at_⟩:VR)]⟩:JH):=by
  rfl
 refine ZD [] [] (KT (Lr:=Lr) [[Sg b 0 (J7 (⟨t.town,t.reach,t.fates,(t.events++[(⟨kind,who,n,at_⟩:VR)])⟩:JH) a_1 c_1 a_5 c_5 a_6 c_6 a_7 c_7 a_8 c_8 a_10 c_10 a_12 c_12 a1 c1)],r_7,r_8,r_12,r1] (Jh _) ?_)
 rw [hf1];try dsimp only
 exact ⟨a_1,c_1,a_5,c_5,a_6,c_6,a_7,c_7,a_8,c_8,a_10,c_10,a_12,c_12,a1,c1,r_7,r_8,r_12,r1,rfl,h_0,h_1,h_2,h_3,h_4,h_5,h_6,h_7,h_8,h_9,h_10,h_11,h_12,hr1,rfl⟩
set_option maxRecDepth 20000 in
abbrev ZZ (l:JQ) (t:JH):=Ku t.town.net l ([1])
abbrev z3_1 (t:JH):=(⟨t.town,t.reach,(t.fates.drop 1),t.events⟩:JH)
theorem JgR (G:J4) (b:Nat) (t:JH) (a_1:Option Addr) (c_1:Nat) (a_5:Option Addr) (c_5:Nat) (a_6:Option Addr) (c_6:Nat) (a_7:Option Addr) (c_7:Nat) (a_8:Option Addr) (c_8:Nat) (a_10:Option Addr) (c_10:Nat) (a_12:Option Addr) (c_12:Nat) (a_13:Option Addr) (c_13:Nat) (r_7:List Kh) (r_8:List Kh) (r_12:List Kh) (r_13:List Kh) (h_0:rI t.town.clerk.queue.most) (h_1:RS QW G a_1 c_1 t.town.clerk.queue.wait) (h_2:rI t.town.clerk.batch) (h_3:rI t.town.clerk.every) (h_4:rI t.town.clerk.now) (h_5:RS KA G a_5 c_5 t.town.clerk.heads) (h_6:RS Qk G a_6 c_6 t.town.clerk.books) (h_7:J1 QB G a_7 c_7 t.town.owners r_7) (h_8:J1 Wg G a_8 c_8 t.town.polls r_8) (h_9:rI t.town.net.now) (h_10:RS Ke G a_10 c_10 t.town.net.way) (h_11:rI t.reach) (h_12:J1 Vd G a_12 c_12 t.fates r_12) (h_13:J1 QU G a_13 c_13 t.events r_13) (vs_l:List Value) (l:JQ) (h_l:Ke.R G vs_l l) :Jcc 168 #[Pt b 0,.agg vs_l.toArray] G [[Sg b 0 [I t.town.clerk.queue.most,Sl a_1 t.town.clerk.queue.wait.length c_1,I t.town.clerk.batch,I t.town.clerk.every,I t.town.clerk.now,Sl a_5 t.town.clerk.heads.length c_5,Sl a_6 t.town.clerk.books.length c_6,Sl a_7 t.town.owners.length c_7,Sl a_8 t.town.polls.length c_8,I t.town.net.now,Sl a_10 t.town.net.way.length c_10,I t.reach,Sl a_12 t.fates.length c_12,Sl a_13 t.events.length c_13]],r_7,r_8,r_12,r_13] (fun u G' L'=>∃ (a_z1:Option Addr) (c_z1:Nat) (a_z5:Option Addr) (c_z5:Nat) (a_z6:Option Addr) (c_z6:Nat) (a_z7:Option Addr) (c_z7:Nat) (a_z8:Option Addr) (c_z8:Nat) (a_z10:Option Addr) (c_z10:Nat) (a_z12:Option Addr) (c_z12:Nat) (a_z13:Option Addr) (c_z13:Nat) (r_z7:List Kh) (r_z8:List Kh) (r_z12:List Kh) (r_z13:List Kh),u=.tuple #[]∧(rI ((Wi t l).town.clerk.queue.most))∧(RS QW G' a_z1 c_z1 ((Wi t l).town.clerk.queue.wait))∧(rI ((Wi t l).town.clerk.batch))∧(rI ((Wi t l).town.clerk.every))∧(rI ((Wi t l).town.clerk.now))∧(RS KA G' a_z5 c_z5 ((Wi t l).town.clerk.heads))∧(RS Qk G' a_z6 c_z6 ((Wi t l).town.clerk.books))∧(J1 QB G' a_z7 c_z7 ((Wi t l).town.owners) r_z7)∧(J1 Wg G' a_z8 c_z8 ((Wi t l).town.polls) r_z8)∧(rI ((Wi t l).town.net.now))∧(RS Ke G' a_z10 c_z10 ((Wi t l).town.net.way))∧(rI ((Wi t l).reach))∧(J1 Vd G' a_z12 c_z12 ((Wi t l).fates) r_z12)∧(J1 QU G' a_z13 c_z13 ((Wi t l).events) r_z13)∧L'=[[Sg b 0 [I ((Wi t l).town.clerk.queue.most),Sl a_z1 (((Wi t l).town.clerk.queue.wait).length) c_z1,I ((Wi t l).town.clerk.batch),I ((Wi t l).town.clerk.every),I ((Wi t l).town.clerk.now),Sl a_z5 (((Wi t l).town.clerk.heads).length) c_z5,Sl a_z6 (((Wi t l).town.clerk.books).length) c_z6,Sl a_z7 (((Wi t l).town.owners).length) c_z7,Sl a_z8 (((Wi t l).town.polls).length) c_z8,I ((Wi t l).town.net.now),Sl a_z10 (((Wi t l).town.net.way).length) c_z10,I ((Wi t l).reach),Sl a_z12 (((Wi t l).fates).length) c_z12,Sl a_z13 (((Wi t l).events).length) c_z13]],r_z7,r_z8,r_z12,r_z13]):=by
 obtain ⟨a1,c1,a2,c2,a3,c3,rfl,w1,w2,w3,w4,hs1,w5,w6,w7,w8,w9,hs2,hs3⟩:=h_l
 intro Lr
 refine JR Tryz.func168 46 [(0,Pt b 0),(1,(Q1 l a1 c1 a2 c2 a3 c3))] rfl (fun w0 G0=>?_)
 show TC _ _ _ _ _ ([Sg b 0 (J7 t a_1 c_1 a_5 c_5 a_6 c_6 a_7 c_7 a_8 c_8 a_10 c_10 a_12 c_12 a_13 c_13)]::r_7::r_8::r_12::r_13::Lr)
 refine Jf (Jd (Jv 3 #[I l.to_,I l.from_,I l.since,I l.due,Sl a1 l.heads.length c1,I l.reply.head.epoch,U l.reply.head.root,U l.reply.head.prev,I l.reply.head.at_,Sr l.reply.proof.name,Sl a2 l.reply.proof.entries.length c2,Sl a3 l.reply.proof.sides.length c3] 51 (fun b1=>Je (Jb (Jf (Jd (Kt 7 1 #[I 1] 3 (fun b2=>Jc [0] [(4,Sl (At b2 0) 1 1)] (Je (Jb (Jf (Jg [0,0,0,6,0,0] [(13,Bo (decide ((t.fates.length:Int) > 0)))] (Jl (decide ((t.fates.length:Int) > 0)) (fun h1=>?_) (fun h1=>?_))))))))))))))
 obtain ⟨x1,hx1⟩:=Wf (l:=t.fates) (k:=0) (by omega)
 obtain ⟨b3,o1,_,_,⟨a4,c4,rfl,hs4⟩,ha1,hre1,hc1⟩:=J1.ix h_12 hx1
 obtain ⟨r1,hr1,hsh1⟩:=J1.dropX h_12 1 (by omega)
 obtain ⟨a5,ea1⟩:∃ z_:Option Addr,z_=(if c_12=1 then a_12 else (a_12).map (·.add (1*1))):=⟨_,rfl⟩
 have hr1:J1 Vd G a5 (c_12-1) (t.fates.drop 1) r1:=by rw [ea1];exact hr1
 refine Kp [15] (Wl [(0,Pt b 0),(1,Pt b 0),(2,Pt b 0),(3,Pt b 12),(4,Sl a_12 t.fates.length c_12),(5,Pt b3 (o1+0*1)),(6,Sl a4 x1.length c4),(7,Pt b 0),(8,Pt b 0),(9,Pt b 12),(10,Sl a_12 t.fates.length c_12),(11,Sl a5 ((t.fates.drop 1).length) (c_12-1)),(12,Sl a4 x1.length c4),(13,Pt b 0),(14,Pt b 12)] (JK [] [(0,0),(1,0),(2,0),(3,0),(4,6),(7,0),(8,0),(9,0),(10,6),(12,0),(13,0),(14,0)] [5,6,11] [15] (Ki ?_ (Ki ?_ (Ki ?_ K8))) (Ki ?_ K8)))
 refine Jt 5 19 (Pt b3 (o1+0*1)) [(18,Sl a_12 t.fates.length c_12)] (fun X=>?_)
 exact QK (b:=b3) (off:=o1) (len:=t.fates.length) (cap:=c_12) (ik:=.i64) 19 39 1 0 ha1 J8 Jp
 refine Jt 6 20 (Sl a4 x1.length c4) [(19,Pt b3 (o1+0*1))] (fun X=>?_)
 exact W7 (off:=o1) (p:=0*1) (cs:=[Sl a4 x1.length c4]) 20 39 5 0 (Sl a4 x1.length c4) hre1 hc1 Jp
 refine Jt 11 25 (Sl a5 ((t.fates.drop 1).length) (c_12-1)) [(24,Sl a_12 t.fates.length c_12)] (fun X=>?_)
 exact Wz (a:=a_12) (len:=t.fates.length) (cap:=c_12) 25 1 (some (I 1)) none 1 t.fates.length (.inr ⟨_,rfl⟩) (.inl ⟨rfl,rfl⟩) J8 ea1 rfl (by rw [List.length_drop]) (by have q_:=h_12.lec;omega) Jp
 refine JC 15 [(25,Sl a5 ((t.fates.drop 1).length) (c_12-1)),(27,Pt b 12)] (fun X=>?_)
 refine KN 2 ([Sg b2 0 [I 1]]::[Sg b1 0 (Kq l a1 c1 a2 c2 a3 c3)]::[Sg b 0 (J7 (z3_1 t) a_1 c_1 a_5 c_5 a_6 c_6 a_7 c_7 a_8 c_8 a_10 c_10 a5 (c_12-1) a_13 c_13)]::r_7::r_8::r_12::r_13::Lr) (Ka [] (Km [0,1,2,3,4,5,6,7,8,9,10,11,12,13,14] [] [] [(0,Pt b 0),(3,Pt b1 0),(4,Sl a4 x1.length c4)] (Ha _) (tq_shr 5 hsh1 (Jb ?_))))
 refine Yv (σ:=Nat×(Option Addr)×Nat×J4) (fun q_=>(J4.le G q_.2.2.2)∧(rI (((Ku t.town.net l x1).1).now))∧(RS Ke q_.2.2.2 q_.2.1 q_.2.2.1 (((Ku t.town.net l x1).1).way))) (fun q_=>[(0,Pt b 0),(5,Pt q_.1 0),(6,I ((Ku t.town.net l x1).2))]) (fun q_=>q_.2.2.2) (fun q_=>([Sg q_.1 0 [I (((Ku t.town.net l x1).1).now),Sl q_.2.1 ((((Ku t.town.net l x1).1).way).length) q_.2.2.1]]::[Sg b2 0 [I 1]]::[Sg b1 0 (Kq l a1 c1 a2 c2 a3 c3)]::[Sg b 0 (J7 (z3_1 t) a_1 c_1 a_5 c_5 a_6 c_6 a_7 c_7 a_8 c_8 a_10 c_10 a5 (c_12-1) a_13 c_13)]::r_7::r_8::r1::r_13::Lr)) ?_ (fun q_ hs=>?_)
 refine Kp [7,11,12] (Wl [(0,Pt b 0),(1,Pt b 0),(2,Pt b 0),(3,Pt b 9),(4,.agg #[I t.town.net.now,Sl a_10 t.town.net.way.length c_10]),(5,(Q1 l a1 c1 a2 c2 a3 c3)),(6,Sl a4 x1.length c4)] (JK [] [(0,0),(1,0),(2,0),(3,0),(4,6),(5,4),(6,0)] [] [7,11] (Ha _) (Ki ?_ (Ki ?_ K8))))
 refine JC 7 [(33,.agg #[I t.town.net.now,Sl a_10 t.town.net.way.length c_10]),(34,(Q1 l a1 c1 a2 c2 a3 c3)),(35,Sl a4 x1.length c4)] (fun X=>?_)
 refine JI 36 (YH G [I t.town.net.now,Sl a_10 t.town.net.way.length c_10] t.town.net (⟨a_10,c_10,rfl,h_9,h_10⟩) (Kq l a1 c1 a2 c2 a3 c3) l (⟨a1,c1,a2,c2,a3,c3,rfl,w1,w2,w3,w4,hs1,w5,w6,w7,w8,w9,hs2,hs3⟩) a4 c4 x1 hs4) (fun v G1 L1 hl1 hp=>?_)
 obtain ⟨a6,c5,rfl,w10,hs5,rfl⟩:=hp
 refine JD [(7,.tuple #[.agg #[I (((Ku t.town.net l x1).1).now),Sl a6 ((((Ku t.town.net l x1).1).way).length) c5],I ((Ku t.town.net l x1).2)]),(8,.tuple #[.agg #[I (((Ku t.town.net l x1).1).now),Sl a6 ((((Ku t.town.net l x1).1).way).length) c5],I ((Ku t.town.net l x1).2)]),(9,.agg #[I (((Ku t.town.net l x1).1).now),Sl a6 ((((Ku t.town.net l x1).1).way).length) c5]),(10,I ((Ku t.town.net l x1).2))] (JK [0,1,2,3,4,5,6] [(8,0),(9,0),(10,0)] [] [11] (Ha _) (Ki ?_ K8))
 refine JC 11 [] (fun X=>?_)
 refine Jv 5 #[I 0,Sl none 0 0] 65 (fun b4=>JD [(11,Pt b4 0)] (JK [0,1,2,3,4,5,6] [(8,0),(9,0),(10,0)] [] [12] (Ha _) (Ki ?_ K8)))
 refine JC 12 [(5,Pt b4 0),(37,.agg #[I (((Ku t.town.net l x1).1).now),Sl a6 ((((Ku t.town.net l x1).1).way).length) c5])] (fun X=>?_)
 exact KN 0 ([Sg b4 0 [I (((Ku t.town.net l x1).1).now),Sl a6 ((((Ku t.town.net l x1).1).way).length) c5]]::[Sg b2 0 [I 1]]::[Sg b1 0 (Kq l a1 c1 a2 c2 a3 c3)]::[Sg b 0 (J7 (z3_1 t) a_1 c_1 a_5 c_5 a_6 c_6 a_7 c_7 a_8 c_8 a_10 c_10 a5 (c_12-1) a_13 c_13)]::r_7::r_8::r1::r_13::Lr) (Ka [(13,I ((Ku t.town.net l x1).2))] (Km [0,1,2,3,4,5,6,8,9] [(10,0),(13,0)] [] [(0,Pt b 0),(5,Pt b4 0),(6,I ((Ku t.town.net l x1).2))] (Ha _) (Wd (b4,a6,c5,G1) ⟨hl1,w10,hs5⟩)))
 refine JC 11 [] (fun X=>?_)
 refine Jv 5 #[I 0,Sl none 0 0] 65 (fun b5=>JD [(11,Pt b5 0)] (JK [] [(0,0),(1,0),(2,0),(3,0),(4,8),(5,6),(6,0)] [] [7] (Ha _) (Ki ?_ K8)))
 refine JC 7 [(33,.agg #[I t.town.net.now,Sl a_10 t.town.net.way.length c_10]),(34,(Q1 l a1 c1 a2 c2 a3 c3)),(35,Sl a4 x1.length c4)] (fun X=>?_)
 refine JI 36 (YH G [I t.town.net.now,Sl a_10 t.town.net.way.length c_10] t.town.net (⟨a_10,c_10,rfl,h_9,h_10⟩) (Kq l a1 c1 a2 c2 a3 c3) l (⟨a1,c1,a2,c2,a3,c3,rfl,w1,w2,w3,w4,hs1,w5,w6,w7,w8,w9,hs2,hs3⟩) a4 c4 x1 hs4) (fun v G2 L1 hl2 hp=>?_)
 obtain ⟨a7,c6,rfl,w11,hs6,rfl⟩:=hp
 refine JD [(7,.tuple #[.agg #[I (((Ku t.town.net l x1).1).now),Sl a7 ((((Ku t.town.net l x1).1).way).length) c6],I ((Ku t.town.net l x1).2)]),(8,.tuple #[.agg #[I (((Ku t.town.net l x1).1).now),Sl a7 ((((Ku t.town.net l x1).1).way).length) c6],I ((Ku t.town.net l x1).2)]),(9,.agg #[I (((Ku t.town.net l x1).1).now),Sl a7 ((((Ku t.town.net l x1).1).way).length) c6]),(10,I ((Ku t.town.net l x1).2))] (JK [0,1,2,3,4,5,6] [(8,0),(9,0),(10,0)] [] [12] (Ha _) (Ki ?_ K8))
 refine JC 12 [(5,Pt b5 0),(37,.agg #[I (((Ku t.town.net l x1).1).now),Sl a7 ((((Ku t.town.net l x1).1).way).length) c6])] (fun X=>?_)
 exact KN 0 ([Sg b5 0 [I (((Ku t.town.net l x1).1).now),Sl a7 ((((Ku t.town.net l x1).1).way).length) c6]]::[Sg b2 0 [I 1]]::[Sg b1 0 (Kq l a1 c1 a2 c2 a3 c3)]::[Sg b 0 (J7 (z3_1 t) a_1 c_1 a_5 c_5 a_6 c_6 a_7 c_7 a_8 c_8 a_10 c_10 a5 (c_12-1) a_13 c_13)]::r_7::r_8::r1::r_13::Lr) (Ka [(13,I ((Ku t.town.net l x1).2))] (Km [0,1,2,3,4,5,6,8,9] [(10,0),(13,0)] [] [(0,Pt b 0),(5,Pt b5 0),(6,I ((Ku t.town.net l x1).2))] (Ha _) (Wd (b5,a7,c6,G2) ⟨hl2,w11,hs6⟩)))
 obtain ⟨b4,a6,c5,G1⟩:=q_
 obtain ⟨hle1,hj1,hj2⟩:=hs
 dsimp only at hle1 hj1 hj2
 dsimp only
 refine Jg [0,0] [(40,Bo (decide ((Ku t.town.net l x1).2=0)))] (Jl (decide ((Ku t.town.net l x1).2=0)) (fun h2=>?_) (fun h2=>?_))
 refine Jd (JV [0,2,0,0,0,9] [] ([Sg b4 0 [I (((Ku t.town.net l x1).1).now),Sl a6 ((((Ku t.town.net l x1).1).way).length) c5]]::[Sg b2 0 [I 1]]::[Sg b1 0 (Kq l a1 c1 a2 c2 a3 c3)]::[Sg b 0 (J7 (⟨(⟨t.town.clerk,t.town.owners,t.town.polls,(Ku t.town.net l x1).1⟩:Q8),t.reach,(t.fates.drop 1),t.events⟩:JH) a_1 c_1 a_5 c_5 a_6 c_6 a_7 c_7 a_8 c_8 a6 c5 a5 (c_12-1) a_13 c_13)]::r_7::r_8::r1::r_13::Lr) (Je (Jk 7 (Jk 7 (Jk 7 (Jk 7 (Jk 7 ?_)))))))
 have hf1:Wi t l=(⟨(⟨t.town.clerk,t.town.owners,t.town.polls,((Ku t.town.net l x1).1)⟩:Q8),t.reach,t.fates.drop 1,t.events⟩:JH):=by
  (rw [JnW (by omega) ‹_›,if_pos ‹_›];done)
 refine ZD [] [] (KT (Lr:=Lr) [[Sg b 0 (J7 (⟨(⟨t.town.clerk,t.town.owners,t.town.polls,(Ku t.town.net l x1).1⟩:Q8),t.reach,(t.fates.drop 1),t.events⟩:JH) a_1 c_1 a_5 c_5 a_6 c_6 a_7 c_7 a_8 c_8 a6 c5 a5 (c_12-1) a_13 c_13)],r_7,r_8,r1,r_13] hle1 ?_)
 rw [hf1];try dsimp only
 exact ⟨a_1,c_1,a_5,c_5,a_6,c_6,a_7,c_7,a_8,c_8,a6,c5,a5,(c_12-1),a_13,c_13,r_7,r_8,r1,r_13,rfl,h_0,(h_1.mono hle1),h_2,h_3,h_4,(h_5.mono hle1),(h_6.mono hle1),(h_7.mono hle1),(h_8.mono hle1),hj1,hj2,h_11,(hr1.mono hle1),(h_13.mono hle1),rfl⟩
 refine Jq (Jk 7 (Jk 7 (Jk 7 (Jk 7 (Jk 7 ?_)))))
 have hf2:Wi t l=(⟨t.town,t.reach,t.fates.drop 1,t.events⟩:JH):=by
  (rw [JnW (by omega) ‹_›,if_neg ‹_›];done)
 refine ZD [] [] (KT (Lr:=Lr) [[Sg b 0 (J7 (z3_1 t) a_1 c_1 a_5 c_5 a_6 c_6 a_7 c_7 a_8 c_8 a_10 c_10 a5 (c_12-1) a_13 c_13)],r_7,r_8,r1,r_13] hle1 ?_)
 rw [hf2];try dsimp only
 exact ⟨a_1,c_1,a_5,c_5,a_6,c_6,a_7,c_7,a_8,c_8,a_10,c_10,a5,(c_12-1),a_13,c_13,r_7,r_8,r1,r_13,rfl,h_0,(h_1.mono hle1),h_2,h_3,h_4,(h_5.mono hle1),(h_6.mono hle1),(h_7.mono hle1),(h_8.mono hle1),h_9,(h_10.mono hle1),h_11,(hr1.mono hle1),(h_13.mono hle1),rfl⟩
 refine Jq (Jb ?_)
 refine Yv (σ:=Nat×(Option Addr)×Nat×J4) (fun q_=>(J4.le G q_.2.2.2)∧(rI (((ZZ l t).1).now))∧(RS Ke q_.2.2.2 q_.2.1 q_.2.2.1 (((ZZ l t).1).way))) (fun q_=>[(0,Pt b 0),(5,Pt q_.1 0),(6,I ((ZZ l t).2))]) (fun q_=>q_.2.2.2) (fun q_=>([Sg q_.1 0 [I (((ZZ l t).1).now),Sl q_.2.1 ((((ZZ l t).1).way).length) q_.2.2.1]]::[]::[Sg b1 0 (Kq l a1 c1 a2 c2 a3 c3)]::[Sg b 0 (J7 t a_1 c_1 a_5 c_5 a_6 c_6 a_7 c_7 a_8 c_8 a_10 c_10 a_12 c_12 a_13 c_13)]::r_7::r_8::r_12::r_13::Lr)) ?_ (fun q_ hs=>?_)
 refine Kp [7,11,12] (Wl [(0,Pt b 0),(1,Pt b 0),(2,Pt b 0),(3,Pt b 9),(4,.agg #[I t.town.net.now,Sl a_10 t.town.net.way.length c_10]),(5,(Q1 l a1 c1 a2 c2 a3 c3)),(6,Sl (At b2 0) 1 1)] (JK [] [(0,0),(1,0),(2,0),(3,0),(4,6),(5,4),(6,0)] [] [7,11] (Ha _) (Ki ?_ (Ki ?_ K8))))
 refine JC 7 [(33,.agg #[I t.town.net.now,Sl a_10 t.town.net.way.length c_10]),(34,(Q1 l a1 c1 a2 c2 a3 c3)),(35,Sl (At b2 0) 1 1)] (fun X=>?_)
 refine QZ (b:=b2) (o:=0) (cs:=[I 1]) 0 (fun G3 hl3 hz1=>?_)
 have hs7:RS EI G3 (At b2 0) 1 [1]:=RS.lit [[I 1]] [1] ⟨⟨rfl,(by omega)⟩,trivial⟩ hz1 (Hh rfl) (Hh rfl)
 refine JI 36 (YH G3 [I t.town.net.now,Sl a_10 t.town.net.way.length c_10] t.town.net (⟨a_10,c_10,rfl,h_9,(h_10.mono hl3)⟩) (Kq l a1 c1 a2 c2 a3 c3) l (⟨a1,c1,a2,c2,a3,c3,rfl,w1,w2,w3,w4,(hs1.mono hl3),w5,w6,w7,w8,w9,(hs2.mono hl3),(hs3.mono hl3)⟩) (At b2 0) 1 ([1]) hs7) (fun v G4 L1 hl4 hp=>?_)
 obtain ⟨a8,c7,rfl,w12,hs8,rfl⟩:=hp
 refine JD [(7,.tuple #[.agg #[I (((ZZ l t).1).now),Sl a8 ((((ZZ l t).1).way).length) c7],I ((ZZ l t).2)]),(8,.tuple #[.agg #[I (((ZZ l t).1).now),Sl a8 ((((ZZ l t).1).way).length) c7],I ((ZZ l t).2)]),(9,.agg #[I (((ZZ l t).1).now),Sl a8 ((((ZZ l t).1).way).length) c7]),(10,I ((ZZ l t).2))] (JK [0,1,2,3,4,5,6] [(8,0),(9,0),(10,0)] [] [11] (Ha _) (Ki ?_ K8))
 refine JC 11 [] (fun X=>?_)
 refine Jv 5 #[I 0,Sl none 0 0] 65 (fun b6=>JD [(11,Pt b6 0)] (JK [0,1,2,3,4,5,6] [(8,0),(9,0),(10,0)] [] [12] (Ha _) (Ki ?_ K8)))
 refine JC 12 [(5,Pt b6 0),(37,.agg #[I (((ZZ l t).1).now),Sl a8 ((((ZZ l t).1).way).length) c7])] (fun X=>?_)
 exact KN 0 ([Sg b6 0 [I (((ZZ l t).1).now),Sl a8 ((((ZZ l t).1).way).length) c7]]::[]::[Sg b1 0 (Kq l a1 c1 a2 c2 a3 c3)]::[Sg b 0 (J7 t a_1 c_1 a_5 c_5 a_6 c_6 a_7 c_7 a_8 c_8 a_10 c_10 a_12 c_12 a_13 c_13)]::r_7::r_8::r_12::r_13::Lr) (Ka [(13,I ((ZZ l t).2))] (Km [0,1,2,3,4,5,6,8,9] [(10,0),(13,0)] [] [(0,Pt b 0),(5,Pt b6 0),(6,I ((ZZ l t).2))] (Ha _) (Wd (b6,a8,c7,G4) ⟨(Ja hl3 hl4),w12,hs8⟩)))
 refine JC 11 [] (fun X=>?_)
 refine Jv 5 #[I 0,Sl none 0 0] 65 (fun b7=>JD [(11,Pt b7 0)] (JK [] [(0,0),(1,0),(2,0),(3,0),(4,8),(5,6),(6,0)] [] [7] (Ha _) (Ki ?_ K8)))
 refine JC 7 [(33,.agg #[I t.town.net.now,Sl a_10 t.town.net.way.length c_10]),(34,(Q1 l a1 c1 a2 c2 a3 c3)),(35,Sl (At b2 0) 1 1)] (fun X=>?_)
 refine QZ (b:=b2) (o:=0) (cs:=[I 1]) 1 (fun G5 hl5 hz2=>?_)
 have hs9:RS EI G5 (At b2 0) 1 [1]:=RS.lit [[I 1]] [1] ⟨⟨rfl,(by omega)⟩,trivial⟩ hz2 (Hh rfl) (Hh rfl)
 refine JI 36 (YH G5 [I t.town.net.now,Sl a_10 t.town.net.way.length c_10] t.town.net (⟨a_10,c_10,rfl,h_9,(h_10.mono hl5)⟩) (Kq l a1 c1 a2 c2 a3 c3) l (⟨a1,c1,a2,c2,a3,c3,rfl,w1,w2,w3,w4,(hs1.mono hl5),w5,w6,w7,w8,w9,(hs2.mono hl5),(hs3.mono hl5)⟩) (At b2 0) 1 ([1]) hs9) (fun v G6 L1 hl6 hp=>?_)
 obtain ⟨a9,c8,rfl,w13,hs10,rfl⟩:=hp
 refine JD [(7,.tuple #[.agg #[I (((ZZ l t).1).now),Sl a9 ((((ZZ l t).1).way).length) c8],I ((ZZ l t).2)]),(8,.tuple #[.agg #[I (((ZZ l t).1).now),Sl a9 ((((ZZ l t).1).way).length) c8],I ((ZZ l t).2)]),(9,.agg #[I (((ZZ l t).1).now),Sl a9 ((((ZZ l t).1).way).length) c8]),(10,I ((ZZ l t).2))] (JK [0,1,2,3,4,5,6] [(8,0),(9,0),(10,0)] [] [12] (Ha _) (Ki ?_ K8))
 refine JC 12 [(5,Pt b7 0),(37,.agg #[I (((ZZ l t).1).now),Sl a9 ((((ZZ l t).1).way).length) c8])] (fun X=>?_)
 exact KN 0 ([Sg b7 0 [I (((ZZ l t).1).now),Sl a9 ((((ZZ l t).1).way).length) c8]]::[]::[Sg b1 0 (Kq l a1 c1 a2 c2 a3 c3)]::[Sg b 0 (J7 t a_1 c_1 a_5 c_5 a_6 c_6 a_7 c_7 a_8 c_8 a_10 c_10 a_12 c_12 a_13 c_13)]::r_7::r_8::r_12::r_13::Lr) (Ka [(13,I ((ZZ l t).2))] (Km [0,1,2,3,4,5,6,8,9] [(10,0),(13,0)] [] [(0,Pt b 0),(5,Pt b7 0),(6,I ((ZZ l t).2))] (Ha _) (Wd (b7,a9,c8,G6) ⟨(Ja hl5 hl6),w13,hs10⟩)))
 obtain ⟨b6,a8,c7,G4⟩:=q_
 obtain ⟨hle2,hj3,hj4⟩:=hs
 dsimp only at hle2 hj3 hj4
 dsimp only
 refine Jg [0,0] [(40,Bo (decide ((ZZ l t).2=0)))] (Jl (decide ((ZZ l t).2=0)) (fun h3=>?_) (fun h3=>?_))
 refine Jd (JV [0,2,0,0,0,9] [] ([Sg b6 0 [I (((ZZ l t).1).now),Sl a8 ((((ZZ l t).1).way).length) c7]]::[]::[Sg b1 0 (Kq l a1 c1 a2 c2 a3 c3)]::[Sg b 0 (J7 (⟨(⟨t.town.clerk,t.town.owners,t.town.polls,(ZZ l t).1⟩:Q8),t.reach,t.fates,t.events⟩:JH) a_1 c_1 a_5 c_5 a_6 c_6 a_7 c_7 a_8 c_8 a8 c7 a_12 c_12 a_13 c_13)]::r_7::r_8::r_12::r_13::Lr) (Je (Jk 7 (Jk 7 (Jk 7 (Jk 7 (Jk 7 ?_)))))))
 have hf3:Wi t l=(⟨(⟨t.town.clerk,t.town.owners,t.town.polls,((ZZ l t).1)⟩:Q8),t.reach,t.fates,t.events⟩:JH):=by
  (rw [JnV (by omega),if_pos ‹_›];done)
 refine ZD [] [] (KT (Lr:=Lr) [[Sg b 0 (J7 (⟨(⟨t.town.clerk,t.town.owners,t.town.polls,(ZZ l t).1⟩:Q8),t.reach,t.fates,t.events⟩:JH) a_1 c_1 a_5 c_5 a_6 c_6 a_7 c_7 a_8 c_8 a8 c7 a_12 c_12 a_13 c_13)],r_7,r_8,r_12,r_13] hle2 ?_)
 rw [hf3];try dsimp only
 exact ⟨a_1,c_1,a_5,c_5,a_6,c_6,a_7,c_7,a_8,c_8,a8,c7,a_12,c_12,a_13,c_13,r_7,r_8,r_12,r_13,rfl,h_0,(h_1.mono hle2),h_2,h_3,h_4,(h_5.mono hle2),(h_6.mono hle2),(h_7.mono hle2),(h_8.mono hle2),hj3,hj4,h_11,(h_12.mono hle2),(h_13.mono hle2),rfl⟩
 refine Jq (Jk 7 (Jk 7 (Jk 7 (Jk 7 (Jk 7 ?_)))))
 have hf4:Wi t l=t:=by
  (rw [JnV (by omega),if_neg ‹_›];done)
 refine ZD [] [] (KT (Lr:=Lr) [[Sg b 0 (J7 t a_1 c_1 a_5 c_5 a_6 c_6 a_7 c_7 a_8 c_8 a_10 c_10 a_12 c_12 a_13 c_13)],r_7,r_8,r_12,r_13] hle2 ?_)
 rw [hf4];try dsimp only
 exact ⟨a_1,c_1,a_5,c_5,a_6,c_6,a_7,c_7,a_8,c_8,a_10,c_10,a_12,c_12,a_13,c_13,r_7,r_8,r_12,r_13,rfl,h_0,(h_1.mono hle2),h_2,h_3,h_4,(h_5.mono hle2),(h_6.mono hle2),(h_7.mono hle2),(h_8.mono hle2),h_9,(h_10.mono hle2),h_11,(h_12.mono hle2),(h_13.mono hle2),rfl⟩
set_option maxRecDepth 20000 in
abbrev QG (d:K6) (kn1:Nat) (t:JH):=JO (Ju t (kn1:Int)) d.value
abbrev Zc (d:K6) (kn1:Nat) (t:JH):=Ko t.town.clerk ((QG d kn1 t).2.1)
abbrev Jbx (d:K6) (kn1:Nat):=(⟨d.kind,(kn1:Int),d.value,d.fates,d.letter⟩:K6)
abbrev VT (d:K6) (kn1:Nat) (t:JH):=JjI (QG d kn1 t).2.1
abbrev z4_4 (d:K6) (kn1:Nat) (t:JH):=(⟨(⟨((Zc d kn1 t).1),t.town.owners.set kn1 ((QG d kn1 t).1),t.town.polls,t.town.net⟩:Q8),t.reach,t.fates,t.events⟩:JH)
abbrev JcD (d:K6) (kn1:Nat) (t:JH):=Jic (QG d kn1 t).2.1
set_option maxHeartbeats 1600000 in
theorem Jmq (G:J4) (b:Nat) (t:JH) (a_1:Option Addr) (c_1:Nat) (a_5:Option Addr) (c_5:Nat) (a_6:Option Addr) (c_6:Nat) (a_7:Option Addr) (c_7:Nat) (a_8:Option Addr) (c_8:Nat) (a_10:Option Addr) (c_10:Nat) (a_12:Option Addr) (c_12:Nat) (a_13:Option Addr) (c_13:Nat) (r_7:List Kh) (r_8:List Kh) (r_12:List Kh) (r_13:List Kh) (h_0:rI t.town.clerk.queue.most) (h_1:RS QW G a_1 c_1 t.town.clerk.queue.wait) (h_2:rI t.town.clerk.batch) (h_3:rI t.town.clerk.every) (h_4:rI t.town.clerk.now) (h_5:RS KA G a_5 c_5 t.town.clerk.heads) (h_6:RS Qk G a_6 c_6 t.town.clerk.books) (h_7:J1 QB G a_7 c_7 t.town.owners r_7) (h_8:J1 Wg G a_8 c_8 t.town.polls r_8) (h_9:rI t.town.net.now) (h_10:RS Ke G a_10 c_10 t.town.net.way) (h_11:rI t.reach) (h_12:J1 Vd G a_12 c_12 t.fates r_12) (h_13:J1 QU G a_13 c_13 t.events r_13) (vs_d:List Value) (d:K6) (h_d:WO.R G vs_d d) (hev:t.events.length≤1000000):Jcc 60 #[Pt b 0,.agg vs_d.toArray] G [[Sg b 0 [I t.town.clerk.queue.most,Sl a_1 t.town.clerk.queue.wait.length c_1,I t.town.clerk.batch,I t.town.clerk.every,I t.town.clerk.now,Sl a_5 t.town.clerk.heads.length c_5,Sl a_6 t.town.clerk.books.length c_6,Sl a_7 t.town.owners.length c_7,Sl a_8 t.town.polls.length c_8,I t.town.net.now,Sl a_10 t.town.net.way.length c_10,I t.reach,Sl a_12 t.fates.length c_12,Sl a_13 t.events.length c_13]],r_7,r_8,r_12,r_13] (fun u G' L'=>∃ (a_z1:Option Addr) (c_z1:Nat) (a_z5:Option Addr) (c_z5:Nat) (a_z6:Option Addr) (c_z6:Nat) (a_z7:Option Addr) (c_z7:Nat) (a_z8:Option Addr) (c_z8:Nat) (a_z10:Option Addr) (c_z10:Nat) (a_z12:Option Addr) (c_z12:Nat) (a_z13:Option Addr) (c_z13:Nat) (r_z7:List Kh) (r_z8:List Kh) (r_z12:List Kh) (r_z13:List Kh),u=.tuple #[]∧(rI ((Wc t d).town.clerk.queue.most))∧(RS QW G' a_z1 c_z1 ((Wc t d).town.clerk.queue.wait))∧(rI ((Wc t d).town.clerk.batch))∧(rI ((Wc t d).town.clerk.every))∧(rI ((Wc t d).town.clerk.now))∧(RS KA G' a_z5 c_z5 ((Wc t d).town.clerk.heads))∧(RS Qk G' a_z6 c_z6 ((Wc t d).town.clerk.books))∧(J1 QB G' a_z7 c_z7 ((Wc t d).town.owners) r_z7)∧(J1 Wg G' a_z8 c_z8 ((Wc t d).town.polls) r_z8)∧(rI ((Wc t d).town.net.now))∧(RS Ke G' a_z10 c_z10 ((Wc t d).town.net.way))∧(rI ((Wc t d).reach))∧(J1 Vd G' a_z12 c_z12 ((Wc t d).fates) r_z12)∧(J1 QU G' a_z13 c_z13 ((Wc t d).events) r_z13)∧L'=[[Sg b 0 [I ((Wc t d).town.clerk.queue.most),Sl a_z1 (((Wc t d).town.clerk.queue.wait).length) c_z1,I ((Wc t d).town.clerk.batch),I ((Wc t d).town.clerk.every),I ((Wc t d).town.clerk.now),Sl a_z5 (((Wc t d).town.clerk.heads).length) c_z5,Sl a_z6 (((Wc t d).town.clerk.books).length) c_z6,Sl a_z7 (((Wc t d).town.owners).length) c_z7,Sl a_z8 (((Wc t d).town.polls).length) c_z8,I ((Wc t d).town.net.now),Sl a_z10 (((Wc t d).town.net.way).length) c_z10,I ((Wc t d).reach),Sl a_z12 (((Wc t d).fates).length) c_z12,Sl a_z13 (((Wc t d).events).length) c_z13]],r_z7,r_z8,r_z12,r_z13]):=by
 obtain ⟨a1,c1,a2,c2,a3,c3,a4,c4,rfl,_,_,w3,_,_,_,_,_,_,_,_,_,_,_,_,_⟩:=h_d
 intro Lr
 refine JR Tryz.func60 84 [(0,Pt b 0),(1,(JcV d a1 c1 a2 c2 a3 c3 a4 c4))] rfl (fun w0 G0=>?_)
 show TC _ _ _ _ _ ([Sg b 0 (J7 t a_1 c_1 a_5 c_5 a_6 c_6 a_7 c_7 a_8 c_8 a_10 c_10 a_12 c_12 a_13 c_13)]::r_7::r_8::r_12::r_13::Lr)
 refine Jf (Jd (Jv 3 #[I d.kind,I d.who,Sr d.value,Sl a1 d.fates.length c1,I d.letter.to_,I d.letter.from_,I d.letter.since,I d.letter.due,Sl a2 d.letter.heads.length c2,I d.letter.reply.head.epoch,U d.letter.reply.head.root,U d.letter.reply.head.prev,I d.letter.reply.head.at_,Sr d.letter.reply.proof.name,Sl a3 d.letter.reply.proof.entries.length c3,Sl a4 d.letter.reply.proof.sides.length c4] 53 (fun b1=>Je (Jb (Jf (Jf (Jd (Jc [0,0,2] [(10,Pt b 0),(12,I d.who)] (Jw 5 (Jw 5 (Jw 5 (Jw 5 (Jw 5 (Qp (Ls:=[[Sg b 0 (J7 t a_1 c_1 a_5 c_5 a_6 c_6 a_7 c_7 a_8 c_8 a_10 c_10 a_12 c_12 a_13 c_13)],r_7,r_8,r_12,r_13]) (Lr:=([Sg b1 0 (WI d a1 c1 a2 c2 a3 c3 a4 c4)]::Lr)) 13 (JbO G b t a_1 c_1 a_5 c_5 a_6 c_6 a_7 c_7 a_8 c_8 a_10 c_10 a_12 c_12 a_13 c_13 r_7 r_8 r_12 r_13 h_0 h_1 h_2 h_3 h_4 h_5 h_6 h_7 h_8 h_9 h_10 h_11 h_12 h_13 d.who) (fun v G1 L1 hl1 hp=>?_)))))))))))))))
 obtain ⟨a5,c5,a6,c6,a7,c7,a8,c8,a9,c9,a10,c10,a11,c11,a12,c12,r1,r2,r3,r4,rfl,w13,hs5,w14,w15,w16,hs6,hs7,hr1,hr2,w17,hs8,w18,hr3,hr4,rfl⟩:=hp
 refine Jc [0] [(14,Bo (!(W4 t d.who)))] (Je (Jb (Jl (!(W4 t d.who)) (fun h1=>?_) (fun h1=>?_))))
 refine Jn (Jj (Jk 4 (Jk 4 (Jk 4 (Jk 4 (Jk 4 ?_))))))
 have hf1:Wc t d=t:=by
  exact tWant0 ‹_›
 refine Jo [] [] (KT (Lr:=Lr) [[Sg b 0 (J7 t a5 c5 a6 c6 a7 c7 a8 c8 a9 c9 a10 c10 a11 c11 a12 c12)],r1,r2,r3,r4] hl1 ?_)
 rw [hf1];try dsimp only
 exact ⟨a5,c5,a6,c6,a7,c7,a8,c8,a9,c9,a10,c10,a11,c11,a12,c12,r1,r2,r3,r4,rfl,w13,hs5,w14,w15,w16,hs6,hs7,hr1,hr2,w17,hs8,w18,hr3,hr4,rfl⟩
 refine Jq (Jb ?_)
 have hown:=VA.1 (show W4 t d.who=true by assumption)
 obtain ⟨kn1,hkn1⟩:∃ k_:Nat,d.who=(k_:Int):=⟨(d.who).toNat,by omega⟩
 have e1:d.who=(kn1:Int):=hkn1
 refine Ja5 (L':=([Sg b 0 [I t.town.clerk.queue.most,Sl a5 t.town.clerk.queue.wait.length c5,I t.town.clerk.batch,I t.town.clerk.every,I t.town.clerk.now,Sl a6 t.town.clerk.heads.length c6,Sl a7 t.town.clerk.books.length c7,Sl a8 t.town.owners.length c8,Sl a9 t.town.polls.length c9,I t.town.net.now,Sl a10 t.town.net.way.length c10,I t.reach,Sl a11 t.fates.length c11,Sl a12 t.events.length c12]]::r1::r2::r3::r4::[Sg b1 0 [I d.kind,I (kn1:Int),Sr d.value,Sl a1 d.fates.length c1,I d.letter.to_,I d.letter.from_,I d.letter.since,I d.letter.due,Sl a2 d.letter.heads.length c2,I d.letter.reply.head.epoch,U d.letter.reply.head.root,U d.letter.reply.head.prev,I d.letter.reply.head.at_,Sr d.letter.reply.proof.name,Sl a3 d.letter.reply.proof.entries.length c3,Sl a4 d.letter.reply.proof.sides.length c4]]::Lr)) (by (simp only [Jic,KB,WI,KH,J7,JjI,Qt,JcV,Ky,e1];first | done | rfl)) (Jf ?_)
 have hx1:(t.town.owners)[kn1]? = some (Ju t (kn1:Int)):=YI (by omega)
 obtain ⟨b2,o1,_,_,⟨a13,c13,rfl,w19,w20,w21,w22,w23,w24,hs9,w25⟩,ha1,hre1,hc1⟩:=J1.ix hr1 hx1
 refine Kp [] (Wl [(0,Pt b 0),(1,Pt b 0),(2,Pt b 0),(3,Pt b 7),(4,Sl a8 t.town.owners.length c8),(5,Pt b1 1),(6,I (kn1:Int)),(7,Pt b2 (o1+kn1*8)),(8,Pt b2 (o1+kn1*8+6)),(9,Sl a13 (((Ju t (kn1:Int)).wanted).length) c13),(10,I ((((Ju t (kn1:Int)).wanted).length:Nat):Int)),(11,I ((((Ju t (kn1:Int)).wanted).length:Nat):Int))] (Km [] [(0,0),(1,0),(2,0),(3,0),(4,2),(5,0),(6,12),(8,0),(10,0),(11,0)] [7,9] [(0,Pt b 0),(3,Pt b1 0),(4,I ((((Ju t (kn1:Int)).wanted).length:Nat):Int))] (Ki ?_ (Ki ?_ K8)) ?_))
 refine Jt 7 22 (Pt b2 (o1+kn1*8)) [(19,Sl a8 t.town.owners.length c8),(21,I (kn1:Int))] (fun X=>?_)
 exact QK (b:=b2) (off:=o1) (len:=t.town.owners.length) (cap:=c8) (ik:=.i64) 22 76 8 kn1 ha1 J8 Jp
 refine Jt 9 24 (Sl a13 (((Ju t (kn1:Int)).wanted).length) c13) [(23,Pt b2 (o1+kn1*8+6))] (fun X=>?_)
 exact W7 (off:=o1) (p:=kn1*8) (cs:=(KH (Ju t (kn1:Int)) a13 c13)) 24 22 1 6 (Sl a13 (((Ju t (kn1:Int)).wanted).length) c13) hre1 hc1 Jp
 refine Jb ?_
 refine Yv (σ:=Nat×Nat×(Option Addr)×Nat×J4) (fun q_=>(J4.le G1 q_.2.2.2.2)∧((((QG d kn1 t).2.1).name).length≤140737488351232)∧((((QG d kn1 t).2.1).value).length≤140737488351232)∧(rU (((QG d kn1 t).2.1).n))∧(rU (((QG d kn1 t).2.1).tag))∧((((QG d kn1 t).1).name).length≤140737488351232)∧(rU (((QG d kn1 t).1).key))∧(rI (((QG d kn1 t).1).head.epoch))∧(rU (((QG d kn1 t).1).head.root))∧(rU (((QG d kn1 t).1).head.prev))∧(rI (((QG d kn1 t).1).head.at_))∧(RS ES q_.2.2.2.2 q_.2.2.1 q_.2.2.2.1 (((QG d kn1 t).1).wanted))∧(rI (((QG d kn1 t).1).had))) (fun q_=>[(0,Pt b 0),(3,Pt b1 0),(4,I ((((Ju t (kn1:Int)).wanted).length:Nat):Int)),(5,Pt q_.1 0),(6,Pt q_.2.1 0),(7,I ((QG d kn1 t).2.2))]) (fun q_=>q_.2.2.2.2) (fun q_=>([Sg q_.2.1 0 (JcD d kn1 t)]::[Sg q_.1 0 (KH (QG d kn1 t).1 q_.2.2.1 q_.2.2.2.1)]::[Sg b 0 (J7 t a5 c5 a6 c6 a7 c7 a8 c8 a9 c9 a10 c10 a11 c11 a12 c12)]::r1::r2::r3::r4::[Sg b1 0 (WI (Jbx d kn1) a1 c1 a2 c2 a3 c3 a4 c4)]::Lr)) ?_ (fun q_ hs=>?_)
 refine Kp [11,16,17,18,19] (Wl [(0,Pt b 0),(1,Pt b 0),(2,Pt b 0),(3,Pt b 7),(4,Sl a8 t.town.owners.length c8),(5,Pt b1 1),(6,I (kn1:Int)),(7,Pt b2 (o1+kn1*8)),(8,(Ky (Ju t (kn1:Int)) a13 c13)),(9,Pt b1 2),(10,Sr d.value)] (JK [] [(0,0),(1,0),(2,0),(3,0),(4,2),(5,0),(6,12),(9,0),(10,12)] [7,8] [11,16,17] (Ki ?_ (Ki ?_ K8)) (Ki ?_ (Ki ?_ (Ki ?_ K8)))))
 refine Jt 7 34 (Pt b2 (o1+kn1*8)) [(31,Sl a8 t.town.owners.length c8),(33,I (kn1:Int))] (fun X=>?_)
 exact QK (b:=b2) (off:=o1) (len:=t.town.owners.length) (cap:=c8) (ik:=.i64) 34 76 8 kn1 ha1 J8 Jp
 refine Jt 8 35 (Ky (Ju t (kn1:Int)) a13 c13) [(34,Pt b2 (o1+kn1*8))] (fun X=>?_)
 exact W7 (off:=o1) (p:=kn1*8) (cs:=(KH (Ju t (kn1:Int)) a13 c13)) 35 76 1 0 (Ky (Ju t (kn1:Int)) a13 c13) hre1 hc1 Jp
 refine JC 11 [(35,(Ky (Ju t (kn1:Int)) a13 c13)),(37,Sr d.value)] (fun X=>?_)
 refine JI 38 (YW G1 (KH (Ju t (kn1:Int)) a13 c13) (Ju t (kn1:Int)) (⟨a13,c13,rfl,w19,w20,w21,w22,w23,w24,hs9,w25⟩) d.value w3) (fun v G2 L1 hl2 hp=>?_)
 obtain ⟨a14,c14,rfl,w26,w27,w28,w29,w30,w31,hs10,w32,w33,w34,w35,w36,rfl⟩:=hp
 refine JD [(11,.tuple #[(Ky (QG d kn1 t).1 a14 c14),(VT d kn1 t),I ((QG d kn1 t).2.2)]),(12,.tuple #[(Ky (QG d kn1 t).1 a14 c14),(VT d kn1 t),I ((QG d kn1 t).2.2)]),(13,(Ky (QG d kn1 t).1 a14 c14)),(14,(VT d kn1 t)),(15,I ((QG d kn1 t).2.2))] (JK [0,1,2,3,4,5,6,7,8,9,10] [(12,0),(13,0),(14,0),(15,0)] [] [16,17] (Ha _) (Ki ?_ (Ki ?_ K8)))
 refine JC 16 [] (fun X=>?_)
 refine Jv 5 #[Sr ([]),U 0,I 0,U 0,U 0,I 0,Sl none 0 0,I 0] 76 (fun b3=>JD [(16,Pt b3 0)] (JK [0,1,2,3,4,5,6,7,8,9,10] [(12,0),(13,0),(14,0),(15,0)] [] [17] (Ha _) (Ki ?_ K8)))
 refine JC 17 [] (fun X=>?_)
 refine Jv 6 #[Sr ([]),Sr ([]),U 0,U 0] 182 (fun b4=>JD [(17,Pt b4 0)] (JK [0,1,2,3,4,5,6,7,8,9,10] [(12,0),(13,0),(14,0),(15,0)] [] [18] (Ha _) (Ki ?_ K8)))
 refine JC 18 [(5,Pt b3 0),(39,(Ky (QG d kn1 t).1 a14 c14))] (fun X=>?_)
 refine KN 1 ([Sg b4 0 [Sr ([]),Sr ([]),U 0,U 0]]::[Sg b3 0 (KH (QG d kn1 t).1 a14 c14)]::[Sg b 0 (J7 t a5 c5 a6 c6 a7 c7 a8 c8 a9 c9 a10 c10 a11 c11 a12 c12)]::r1::r2::r3::r4::[Sg b1 0 (WI (Jbx d kn1) a1 c1 a2 c2 a3 c3 a4 c4)]::Lr) (Ka [] (JK [0,1,2,3,4,5,6,7,8,9,10,12,13] [(14,0),(15,0)] [] [19] (Ha _) (Ki ?_ K8)))
 refine JC 19 [(6,Pt b4 0),(40,(VT d kn1 t))] (fun X=>?_)
 exact KN 0 ([Sg b4 0 (JcD d kn1 t)]::[Sg b3 0 (KH (QG d kn1 t).1 a14 c14)]::[Sg b 0 (J7 t a5 c5 a6 c6 a7 c7 a8 c8 a9 c9 a10 c10 a11 c11 a12 c12)]::r1::r2::r3::r4::[Sg b1 0 (WI (Jbx d kn1) a1 c1 a2 c2 a3 c3 a4 c4)]::Lr) (Ka [(20,I ((QG d kn1 t).2.2))] (Km [0,1,2,3,4,5,6,7,8,9,10,12,13,14] [(15,0),(20,0)] [] [(0,Pt b 0),(3,Pt b1 0),(4,I ((((Ju t (kn1:Int)).wanted).length:Nat):Int)),(5,Pt b3 0),(6,Pt b4 0),(7,I ((QG d kn1 t).2.2))] (Ha _) (Wd (b3,b4,a14,c14,G2) ⟨hl2,w33,w34,w35,w36,w26,w27,w28,w29,w30,w31,hs10,w32⟩)))
 refine JC 17 [] (fun X=>?_)
 refine Jv 6 #[Sr ([]),Sr ([]),U 0,U 0] 182 (fun b5=>JD [(17,Pt b5 0)] (JK [0,1,2,3,4,5,6,7,8,9,10] [(12,0),(13,0),(14,0),(15,0)] [] [16] (Ha _) (Ki ?_ K8)))
 refine JC 16 [] (fun X=>?_)
 refine Jv 5 #[Sr ([]),U 0,I 0,U 0,U 0,I 0,Sl none 0 0,I 0] 76 (fun b6=>JD [(16,Pt b6 0)] (JK [0,1,2,3,4,5,6,7,8,9,10] [(12,0),(13,0),(14,0),(15,0)] [] [18] (Ha _) (Ki ?_ K8)))
 refine JC 18 [(5,Pt b6 0),(39,(Ky (QG d kn1 t).1 a14 c14))] (fun X=>?_)
 refine KN 0 ([Sg b6 0 (KH (QG d kn1 t).1 a14 c14)]::[Sg b5 0 [Sr ([]),Sr ([]),U 0,U 0]]::[Sg b 0 (J7 t a5 c5 a6 c6 a7 c7 a8 c8 a9 c9 a10 c10 a11 c11 a12 c12)]::r1::r2::r3::r4::[Sg b1 0 (WI (Jbx d kn1) a1 c1 a2 c2 a3 c3 a4 c4)]::Lr) (Ka [] (JK [0,1,2,3,4,5,6,7,8,9,10,12,13] [(14,0),(15,0)] [] [19] (Ha _) (Ki ?_ K8)))
 refine JC 19 [(6,Pt b5 0),(40,(VT d kn1 t))] (fun X=>?_)
 refine KN 1 ([Sg b6 0 (KH (QG d kn1 t).1 a14 c14)]::[Sg b5 0 (JcD d kn1 t)]::[Sg b 0 (J7 t a5 c5 a6 c6 a7 c7 a8 c8 a9 c9 a10 c10 a11 c11 a12 c12)]::r1::r2::r3::r4::[Sg b1 0 (WI (Jbx d kn1) a1 c1 a2 c2 a3 c3 a4 c4)]::Lr) (Ka [(20,I ((QG d kn1 t).2.2))] (Km [0,1,2,3,4,5,6,7,8,9,10,12,13,14] [(15,0),(20,0)] [] [(0,Pt b 0),(3,Pt b1 0),(4,I ((((Ju t (kn1:Int)).wanted).length:Nat):Int)),(5,Pt b6 0),(6,Pt b5 0),(7,I ((QG d kn1 t).2.2))] (Ha _) (Jk 7 (Jk 7 (Jk 7 (Jk 7 (Jk 7 (Jk 7 (Jk 6 (Jk 7 ?_))))))))))
 exact Wd (b6,b5,a14,c14,G2) ⟨hl2,w33,w34,w35,w36,w26,w27,w28,w29,w30,w31,hs10,w32⟩
 refine JC 16 [] (fun X=>?_)
 refine Jv 5 #[Sr ([]),U 0,I 0,U 0,U 0,I 0,Sl none 0 0,I 0] 76 (fun b7=>JD [(16,Pt b7 0)] (JK [] [(0,0),(1,0),(2,0),(3,0),(4,4),(5,0),(6,14),(9,0),(10,14)] [7,8] [11,17] (Ki ?_ (Ki ?_ K8)) (Ki ?_ (Ki ?_ K8))))
 refine Jt 7 34 (Pt b2 (o1+kn1*8)) [(31,Sl a8 t.town.owners.length c8),(33,I (kn1:Int))] (fun X=>?_)
 exact QK (b:=b2) (off:=o1) (len:=t.town.owners.length) (cap:=c8) (ik:=.i64) 34 76 8 kn1 ha1 J8 Jp
 refine Jt 8 35 (Ky (Ju t (kn1:Int)) a13 c13) [(34,Pt b2 (o1+kn1*8))] (fun X=>?_)
 exact W7 (off:=o1) (p:=kn1*8) (cs:=(KH (Ju t (kn1:Int)) a13 c13)) 35 76 2 0 (Ky (Ju t (kn1:Int)) a13 c13) hre1 hc1 Jp
 refine JC 11 [(35,(Ky (Ju t (kn1:Int)) a13 c13)),(37,Sr d.value)] (fun X=>?_)
 refine JI 38 (YW G1 (KH (Ju t (kn1:Int)) a13 c13) (Ju t (kn1:Int)) (⟨a13,c13,rfl,w19,w20,w21,w22,w23,w24,hs9,w25⟩) d.value w3) (fun v G3 L1 hl3 hp=>?_)
 obtain ⟨a15,c15,rfl,w37,w38,w39,w40,w41,w42,hs11,w43,w44,w45,w46,w47,rfl⟩:=hp
 refine JD [(11,.tuple #[(Ky (QG d kn1 t).1 a15 c15),(VT d kn1 t),I ((QG d kn1 t).2.2)]),(12,.tuple #[(Ky (QG d kn1 t).1 a15 c15),(VT d kn1 t),I ((QG d kn1 t).2.2)]),(13,(Ky (QG d kn1 t).1 a15 c15)),(14,(VT d kn1 t)),(15,I ((QG d kn1 t).2.2))] (JK [0,1,2,3,4,5,6,7,8,9,10] [(12,0),(13,0),(14,0),(15,0)] [] [17] (Ha _) (Ki ?_ K8))
 refine JC 17 [] (fun X=>?_)
 refine Jv 6 #[Sr ([]),Sr ([]),U 0,U 0] 182 (fun b8=>JD [(17,Pt b8 0)] (JK [0,1,2,3,4,5,6,7,8,9,10] [(12,0),(13,0),(14,0),(15,0)] [] [18] (Ha _) (Ki ?_ K8)))
 refine JC 18 [(5,Pt b7 0),(39,(Ky (QG d kn1 t).1 a15 c15))] (fun X=>?_)
 refine KN 1 ([Sg b8 0 [Sr ([]),Sr ([]),U 0,U 0]]::[Sg b7 0 (KH (QG d kn1 t).1 a15 c15)]::[Sg b 0 (J7 t a5 c5 a6 c6 a7 c7 a8 c8 a9 c9 a10 c10 a11 c11 a12 c12)]::r1::r2::r3::r4::[Sg b1 0 (WI (Jbx d kn1) a1 c1 a2 c2 a3 c3 a4 c4)]::Lr) (Ka [] (JK [0,1,2,3,4,5,6,7,8,9,10,12,13] [(14,0),(15,0)] [] [19] (Ha _) (Ki ?_ K8)))
 refine JC 19 [(6,Pt b8 0),(40,(VT d kn1 t))] (fun X=>?_)
 exact KN 0 ([Sg b8 0 (JcD d kn1 t)]::[Sg b7 0 (KH (QG d kn1 t).1 a15 c15)]::[Sg b 0 (J7 t a5 c5 a6 c6 a7 c7 a8 c8 a9 c9 a10 c10 a11 c11 a12 c12)]::r1::r2::r3::r4::[Sg b1 0 (WI (Jbx d kn1) a1 c1 a2 c2 a3 c3 a4 c4)]::Lr) (Ka [(20,I ((QG d kn1 t).2.2))] (Km [0,1,2,3,4,5,6,7,8,9,10,12,13,14] [(15,0),(20,0)] [] [(0,Pt b 0),(3,Pt b1 0),(4,I ((((Ju t (kn1:Int)).wanted).length:Nat):Int)),(5,Pt b7 0),(6,Pt b8 0),(7,I ((QG d kn1 t).2.2))] (Ha _) (Wd (b7,b8,a15,c15,G3) ⟨hl3,w44,w45,w46,w47,w37,w38,w39,w40,w41,w42,hs11,w43⟩)))
 refine JC 17 [] (fun X=>?_)
 refine Jv 6 #[Sr ([]),Sr ([]),U 0,U 0] 182 (fun b9=>JD [(17,Pt b9 0)] (JK [] [(0,0),(1,0),(2,0),(3,0),(4,6),(5,0),(6,16),(9,0),(10,16)] [7,8] [11] (Ki ?_ (Ki ?_ K8)) (Ki ?_ K8)))
 refine Jt 7 34 (Pt b2 (o1+kn1*8)) [(31,Sl a8 t.town.owners.length c8),(33,I (kn1:Int))] (fun X=>?_)
 exact QK (b:=b2) (off:=o1) (len:=t.town.owners.length) (cap:=c8) (ik:=.i64) 34 76 8 kn1 ha1 J8 Jp
 refine Jt 8 35 (Ky (Ju t (kn1:Int)) a13 c13) [(34,Pt b2 (o1+kn1*8))] (fun X=>?_)
 exact W7 (off:=o1) (p:=kn1*8) (cs:=(KH (Ju t (kn1:Int)) a13 c13)) 35 76 3 0 (Ky (Ju t (kn1:Int)) a13 c13) hre1 hc1 Jp
 refine JC 11 [(35,(Ky (Ju t (kn1:Int)) a13 c13)),(37,Sr d.value)] (fun X=>?_)
 refine JI 38 (YW G1 (KH (Ju t (kn1:Int)) a13 c13) (Ju t (kn1:Int)) (⟨a13,c13,rfl,w19,w20,w21,w22,w23,w24,hs9,w25⟩) d.value w3) (fun v G4 L1 hl4 hp=>?_)
 obtain ⟨a16,c16,rfl,w48,w49,w50,w51,w52,w53,hs12,w54,w55,w56,w57,w58,rfl⟩:=hp
 refine JD [(11,.tuple #[(Ky (QG d kn1 t).1 a16 c16),(VT d kn1 t),I ((QG d kn1 t).2.2)]),(12,.tuple #[(Ky (QG d kn1 t).1 a16 c16),(VT d kn1 t),I ((QG d kn1 t).2.2)]),(13,(Ky (QG d kn1 t).1 a16 c16)),(14,(VT d kn1 t)),(15,I ((QG d kn1 t).2.2))] (JK [0,1,2,3,4,5,6,7,8,9,10] [(12,0),(13,0),(14,0),(15,0)] [] [18] (Ha _) (Ki ?_ K8))
 refine JC 18 [(5,Pt b7 0),(39,(Ky (QG d kn1 t).1 a16 c16))] (fun X=>?_)
 refine KN 1 ([Sg b9 0 [Sr ([]),Sr ([]),U 0,U 0]]::[Sg b7 0 (KH (QG d kn1 t).1 a16 c16)]::[Sg b 0 (J7 t a5 c5 a6 c6 a7 c7 a8 c8 a9 c9 a10 c10 a11 c11 a12 c12)]::r1::r2::r3::r4::[Sg b1 0 (WI (Jbx d kn1) a1 c1 a2 c2 a3 c3 a4 c4)]::Lr) (Ka [] (JK [0,1,2,3,4,5,6,7,8,9,10,12,13] [(14,0),(15,0)] [] [19] (Ha _) (Ki ?_ K8)))
 refine JC 19 [(6,Pt b9 0),(40,(VT d kn1 t))] (fun X=>?_)
 exact KN 0 ([Sg b9 0 (JcD d kn1 t)]::[Sg b7 0 (KH (QG d kn1 t).1 a16 c16)]::[Sg b 0 (J7 t a5 c5 a6 c6 a7 c7 a8 c8 a9 c9 a10 c10 a11 c11 a12 c12)]::r1::r2::r3::r4::[Sg b1 0 (WI (Jbx d kn1) a1 c1 a2 c2 a3 c3 a4 c4)]::Lr) (Ka [(20,I ((QG d kn1 t).2.2))] (Km [0,1,2,3,4,5,6,7,8,9,10,12,13,14] [(15,0),(20,0)] [] [(0,Pt b 0),(3,Pt b1 0),(4,I ((((Ju t (kn1:Int)).wanted).length:Nat):Int)),(5,Pt b7 0),(6,Pt b9 0),(7,I ((QG d kn1 t).2.2))] (Ha _) (Wd (b7,b9,a16,c16,G4) ⟨hl4,w55,w56,w57,w58,w48,w49,w50,w51,w52,w53,hs12,w54⟩)))
 refine JC 17 [] (fun X=>?_)
 refine Jv 6 #[Sr ([]),Sr ([]),U 0,U 0] 182 (fun b10=>JD [(17,Pt b10 0)] (JK [] [(0,0),(1,0),(2,0),(3,0),(4,4),(5,0),(6,14),(9,0),(10,14)] [7,8] [11,16] (Ki ?_ (Ki ?_ K8)) (Ki ?_ (Ki ?_ K8))))
 refine Jt 7 34 (Pt b2 (o1+kn1*8)) [(31,Sl a8 t.town.owners.length c8),(33,I (kn1:Int))] (fun X=>?_)
 exact QK (b:=b2) (off:=o1) (len:=t.town.owners.length) (cap:=c8) (ik:=.i64) 34 76 8 kn1 ha1 J8 Jp
 refine Jt 8 35 (Ky (Ju t (kn1:Int)) a13 c13) [(34,Pt b2 (o1+kn1*8))] (fun X=>?_)
 exact W7 (off:=o1) (p:=kn1*8) (cs:=(KH (Ju t (kn1:Int)) a13 c13)) 35 76 2 0 (Ky (Ju t (kn1:Int)) a13 c13) hre1 hc1 Jp
 refine JC 11 [(35,(Ky (Ju t (kn1:Int)) a13 c13)),(37,Sr d.value)] (fun X=>?_)
 refine JI 38 (YW G1 (KH (Ju t (kn1:Int)) a13 c13) (Ju t (kn1:Int)) (⟨a13,c13,rfl,w19,w20,w21,w22,w23,w24,hs9,w25⟩) d.value w3) (fun v G5 L1 hl5 hp=>?_)
 obtain ⟨a17,c17,rfl,w59,w60,w61,w62,w63,w64,hs13,w65,w66,w67,w68,w69,rfl⟩:=hp
 refine JD [(11,.tuple #[(Ky (QG d kn1 t).1 a17 c17),(VT d kn1 t),I ((QG d kn1 t).2.2)]),(12,.tuple #[(Ky (QG d kn1 t).1 a17 c17),(VT d kn1 t),I ((QG d kn1 t).2.2)]),(13,(Ky (QG d kn1 t).1 a17 c17)),(14,(VT d kn1 t)),(15,I ((QG d kn1 t).2.2))] (JK [0,1,2,3,4,5,6,7,8,9,10] [(12,0),(13,0),(14,0),(15,0)] [] [16] (Ha _) (Ki ?_ K8))
 refine JC 16 [] (fun X=>?_)
 refine Jv 5 #[Sr ([]),U 0,I 0,U 0,U 0,I 0,Sl none 0 0,I 0] 76 (fun b11=>JD [(16,Pt b11 0)] (JK [0,1,2,3,4,5,6,7,8,9,10] [(12,0),(13,0),(14,0),(15,0)] [] [18] (Ha _) (Ki ?_ K8)))
 refine JC 18 [(5,Pt b11 0),(39,(Ky (QG d kn1 t).1 a17 c17))] (fun X=>?_)
 refine KN 0 ([Sg b11 0 (KH (QG d kn1 t).1 a17 c17)]::[Sg b10 0 [Sr ([]),Sr ([]),U 0,U 0]]::[Sg b 0 (J7 t a5 c5 a6 c6 a7 c7 a8 c8 a9 c9 a10 c10 a11 c11 a12 c12)]::r1::r2::r3::r4::[Sg b1 0 (WI (Jbx d kn1) a1 c1 a2 c2 a3 c3 a4 c4)]::Lr) (Ka [] (JK [0,1,2,3,4,5,6,7,8,9,10,12,13] [(14,0),(15,0)] [] [19] (Ha _) (Ki ?_ K8)))
 refine JC 19 [(6,Pt b10 0),(40,(VT d kn1 t))] (fun X=>?_)
 refine KN 1 ([Sg b11 0 (KH (QG d kn1 t).1 a17 c17)]::[Sg b10 0 (JcD d kn1 t)]::[Sg b 0 (J7 t a5 c5 a6 c6 a7 c7 a8 c8 a9 c9 a10 c10 a11 c11 a12 c12)]::r1::r2::r3::r4::[Sg b1 0 (WI (Jbx d kn1) a1 c1 a2 c2 a3 c3 a4 c4)]::Lr) (Ka [(20,I ((QG d kn1 t).2.2))] (Km [0,1,2,3,4,5,6,7,8,9,10,12,13,14] [(15,0),(20,0)] [] [(0,Pt b 0),(3,Pt b1 0),(4,I ((((Ju t (kn1:Int)).wanted).length:Nat):Int)),(5,Pt b11 0),(6,Pt b10 0),(7,I ((QG d kn1 t).2.2))] (Ha _) (Jk 7 (Jk 7 (Jk 7 (Jk 7 (Jk 7 (Jk 7 (Jk 6 (Jk 7 ?_))))))))))
 exact Wd (b11,b10,a17,c17,G5) ⟨hl5,w66,w67,w68,w69,w59,w60,w61,w62,w63,w64,hs13,w65⟩
 refine JC 16 [] (fun X=>?_)
 refine Jv 5 #[Sr ([]),U 0,I 0,U 0,U 0,I 0,Sl none 0 0,I 0] 76 (fun b12=>JD [(16,Pt b12 0)] (JK [] [(0,0),(1,0),(2,0),(3,0),(4,6),(5,0),(6,16),(9,0),(10,16)] [7,8] [11] (Ki ?_ (Ki ?_ K8)) (Ki ?_ K8)))
 refine Jt 7 34 (Pt b2 (o1+kn1*8)) [(31,Sl a8 t.town.owners.length c8),(33,I (kn1:Int))] (fun X=>?_)
 exact QK (b:=b2) (off:=o1) (len:=t.town.owners.length) (cap:=c8) (ik:=.i64) 34 76 8 kn1 ha1 J8 Jp
 refine Jt 8 35 (Ky (Ju t (kn1:Int)) a13 c13) [(34,Pt b2 (o1+kn1*8))] (fun X=>?_)
 exact W7 (off:=o1) (p:=kn1*8) (cs:=(KH (Ju t (kn1:Int)) a13 c13)) 35 76 3 0 (Ky (Ju t (kn1:Int)) a13 c13) hre1 hc1 Jp
 refine JC 11 [(35,(Ky (Ju t (kn1:Int)) a13 c13)),(37,Sr d.value)] (fun X=>?_)
 refine JI 38 (YW G1 (KH (Ju t (kn1:Int)) a13 c13) (Ju t (kn1:Int)) (⟨a13,c13,rfl,w19,w20,w21,w22,w23,w24,hs9,w25⟩) d.value w3) (fun v G6 L1 hl6 hp=>?_)
 obtain ⟨a18,c18,rfl,w70,w71,w72,w73,w74,w75,hs14,w76,w77,w78,w79,w80,rfl⟩:=hp
 refine JD [(11,.tuple #[(Ky (QG d kn1 t).1 a18 c18),(VT d kn1 t),I ((QG d kn1 t).2.2)]),(12,.tuple #[(Ky (QG d kn1 t).1 a18 c18),(VT d kn1 t),I ((QG d kn1 t).2.2)]),(13,(Ky (QG d kn1 t).1 a18 c18)),(14,(VT d kn1 t)),(15,I ((QG d kn1 t).2.2))] (JK [0,1,2,3,4,5,6,7,8,9,10] [(12,0),(13,0),(14,0),(15,0)] [] [18] (Ha _) (Ki ?_ K8))
 refine JC 18 [(5,Pt b12 0),(39,(Ky (QG d kn1 t).1 a18 c18))] (fun X=>?_)
 refine KN 0 ([Sg b12 0 (KH (QG d kn1 t).1 a18 c18)]::[Sg b10 0 [Sr ([]),Sr ([]),U 0,U 0]]::[Sg b 0 (J7 t a5 c5 a6 c6 a7 c7 a8 c8 a9 c9 a10 c10 a11 c11 a12 c12)]::r1::r2::r3::r4::[Sg b1 0 (WI (Jbx d kn1) a1 c1 a2 c2 a3 c3 a4 c4)]::Lr) (Ka [] (JK [0,1,2,3,4,5,6,7,8,9,10,12,13] [(14,0),(15,0)] [] [19] (Ha _) (Ki ?_ K8)))
 refine JC 19 [(6,Pt b10 0),(40,(VT d kn1 t))] (fun X=>?_)
 refine KN 1 ([Sg b12 0 (KH (QG d kn1 t).1 a18 c18)]::[Sg b10 0 (JcD d kn1 t)]::[Sg b 0 (J7 t a5 c5 a6 c6 a7 c7 a8 c8 a9 c9 a10 c10 a11 c11 a12 c12)]::r1::r2::r3::r4::[Sg b1 0 (WI (Jbx d kn1) a1 c1 a2 c2 a3 c3 a4 c4)]::Lr) (Ka [(20,I ((QG d kn1 t).2.2))] (Km [0,1,2,3,4,5,6,7,8,9,10,12,13,14] [(15,0),(20,0)] [] [(0,Pt b 0),(3,Pt b1 0),(4,I ((((Ju t (kn1:Int)).wanted).length:Nat):Int)),(5,Pt b12 0),(6,Pt b10 0),(7,I ((QG d kn1 t).2.2))] (Ha _) (Jk 7 (Jk 7 (Jk 7 (Jk 7 (Jk 7 (Jk 7 (Jk 6 (Jk 7 ?_))))))))))
 exact Wd (b12,b10,a18,c18,G6) ⟨hl6,w77,w78,w79,w80,w70,w71,w72,w73,w74,w75,hs14,w76⟩
 obtain ⟨b3,b4,a14,c14,G2⟩:=q_
 obtain ⟨hle1,hj1,hj2,hj3,hj4,hj5,hj6,hj7,hj8,hj9,hj10,hj11,hj12⟩:=hs
 dsimp only at hle1 hj1 hj2 hj3 hj4 hj5 hj6 hj7 hj8 hj9 hj10 hj11 hj12
 dsimp only
 refine Jf (Jf (Jd (Jc [0,0,0] [(44,Bo (!decide ((QG d kn1 t).2.2=0)))] (QY [44] (!decide ((QG d kn1 t).2.2=0)) (fun h2=>?_) (fun h2=>?_)))))
 refine Jc [1,1,1,1,1,0] [(50,Bo true)] (Je (Jb (JW (Jn (Jj (Jk 6 (Jk 6 (Jk 6 (Jk 6 (Jk 6 ?_))))))))))
 have hf2:Wc t d=t:=by
  exact tWant1 ‹_› ‹_› ‹_›
 refine Jo [] [] (KT (Lr:=Lr) [[Sg b 0 (J7 t a5 c5 a6 c6 a7 c7 a8 c8 a9 c9 a10 c10 a11 c11 a12 c12)],r1,r2,r3,r4] (Ja hl1 hle1) ?_)
 rw [hf2];try dsimp only
 exact ⟨a5,c5,a6,c6,a7,c7,a8,c8,a9,c9,a10,c10,a11,c11,a12,c12,r1,r2,r3,r4,rfl,w13,(hs5.mono hle1),w14,w15,w16,(hs6.mono hle1),(hs7.mono hle1),(hr1.mono hle1),(hr2.mono hle1),w17,(hs8.mono hle1),w18,(hr3.mono hle1),(hr4.mono hle1),rfl⟩
 refine Jc [0,4,2] [(46,U (((QG d kn1 t).1).key)),(47,(VT d kn1 t))] (Jm 48 (Bo (Z6 (((QG d kn1 t).1).key) ((QG d kn1 t).2.1))) (Jhu G2 (((QG d kn1 t).1).key) (JcD d kn1 t) ((QG d kn1 t).2.1) (⟨rfl,hj1,hj2,hj3,hj4⟩)) (Jc [0,0] [(50,Bo (!(Z6 (((QG d kn1 t).1).key) ((QG d kn1 t).2.1))))] (Je (Jb (Jl (!(Z6 (((QG d kn1 t).1).key) ((QG d kn1 t).2.1))) (fun h3=>?_) (fun h3=>?_))))))
 refine Jn (Jj (Jk 6 (Jk 6 (Jk 6 (Jk 6 (Jk 6 ?_))))))
 have hf3:Wc t d=t:=by
  exact tWant2 ‹_› ‹_› ‹_›
 refine Jo [] [] (KT (Lr:=Lr) [[Sg b 0 (J7 t a5 c5 a6 c6 a7 c7 a8 c8 a9 c9 a10 c10 a11 c11 a12 c12)],r1,r2,r3,r4] (Ja hl1 hle1) ?_)
 rw [hf3];try dsimp only
 exact ⟨a5,c5,a6,c6,a7,c7,a8,c8,a9,c9,a10,c10,a11,c11,a12,c12,r1,r2,r3,r4,rfl,w13,(hs5.mono hle1),w14,w15,w16,(hs6.mono hle1),(hs7.mono hle1),(hr1.mono hle1),(hr2.mono hle1),w17,(hs8.mono hle1),w18,(hr3.mono hle1),(hr4.mono hle1),rfl⟩
 refine Jq (Jb ?_)
 refine Yv (σ:=Nat×(Option Addr)×Nat×(Option Addr)×Nat×(Option Addr)×Nat×J4) (fun q_=>(J4.le G2 q_.2.2.2.2.2.2.2)∧(rI ((Zc d kn1 t).2.1))∧(rI (((Zc d kn1 t).1).queue.most))∧(RS QW q_.2.2.2.2.2.2.2 q_.2.1 q_.2.2.1 (((Zc d kn1 t).1).queue.wait))∧(rI (((Zc d kn1 t).1).batch))∧(rI (((Zc d kn1 t).1).every))∧(rI (((Zc d kn1 t).1).now))∧(RS KA q_.2.2.2.2.2.2.2 q_.2.2.2.1 q_.2.2.2.2.1 (((Zc d kn1 t).1).heads))∧(RS Qk q_.2.2.2.2.2.2.2 q_.2.2.2.2.2.1 q_.2.2.2.2.2.2.1 (((Zc d kn1 t).1).books))) (fun q_=>[(0,Pt b 0),(3,Pt b1 0),(4,I ((((Ju t (kn1:Int)).wanted).length:Nat):Int)),(5,Pt b3 0),(7,I ((Zc d kn1 t).2.2)),(8,Pt q_.1 0),(9,I ((Zc d kn1 t).2.1))]) (fun q_=>q_.2.2.2.2.2.2.2) (fun q_=>([Sg q_.1 0 (KB (Zc d kn1 t).1 q_.2.1 q_.2.2.1 q_.2.2.2.1 q_.2.2.2.2.1 q_.2.2.2.2.2.1 q_.2.2.2.2.2.2.1)]::[Sg b4 0 (JcD d kn1 t)]::[Sg b3 0 (KH (QG d kn1 t).1 a14 c14)]::[Sg b 0 (J7 t a5 c5 a6 c6 a7 c7 a8 c8 a9 c9 a10 c10 a11 c11 a12 c12)]::r1::r2::r3::r4::[Sg b1 0 (WI (Jbx d kn1) a1 c1 a2 c2 a3 c3 a4 c4)]::Lr)) ?_ (fun q_ hs=>?_)
 refine Kp [6,11,12] (Wl [(0,Pt b 0),(1,Pt b 0),(2,Pt b 0),(3,Pt b 0),(4,(Qt t.town.clerk a5 c5 a6 c6 a7 c7)),(5,(VT d kn1 t))] (JK [] [(0,0),(1,0),(2,0),(3,0),(4,6),(5,2)] [] [6,11] (Ha _) (Ki ?_ (Ki ?_ K8))))
 refine JC 6 [(56,(Qt t.town.clerk a5 c5 a6 c6 a7 c7)),(57,(VT d kn1 t))] (fun X=>?_)
 refine JI 58 (Jdf G2 (KB t.town.clerk a5 c5 a6 c6 a7 c7) t.town.clerk (⟨a5,c5,a6,c6,a7,c7,rfl,w13,(hs5.mono hle1),w14,w15,w16,(hs6.mono hle1),(hs7.mono hle1)⟩) (JcD d kn1 t) ((QG d kn1 t).2.1) (⟨rfl,hj1,hj2,hj3,hj4⟩)) (fun v G7 L1 hl7 hp=>?_)
 obtain ⟨a19,c19,a20,c20,a21,c21,rfl,w81,hs15,w82,w83,w84,hs16,hs17,w85,rfl⟩:=hp
 refine JD [(6,.tuple #[(Qt (Zc d kn1 t).1 a19 c19 a20 c20 a21 c21),I ((Zc d kn1 t).2.1),I ((Zc d kn1 t).2.2)]),(7,.tuple #[(Qt (Zc d kn1 t).1 a19 c19 a20 c20 a21 c21),I ((Zc d kn1 t).2.1),I ((Zc d kn1 t).2.2)]),(8,(Qt (Zc d kn1 t).1 a19 c19 a20 c20 a21 c21)),(9,I ((Zc d kn1 t).2.1)),(10,I ((Zc d kn1 t).2.2))] (JK [0,1,2,3,4,5] [(7,0),(8,0),(9,0),(10,0)] [] [11] (Ha _) (Ki ?_ K8))
 refine JC 11 [] (fun X=>?_)
 refine Jv 8 #[I 0,Sl none 0 0,I 0,I 0,I 0,Sl none 0 0,Sl none 0 0] 60 (fun b13=>JD [(11,Pt b13 0)] (JK [0,1,2,3,4,5] [(7,0),(8,0),(9,0),(10,0)] [] [12] (Ha _) (Ki ?_ K8)))
 refine JC 12 [(8,Pt b13 0),(59,(Qt (Zc d kn1 t).1 a19 c19 a20 c20 a21 c21))] (fun X=>?_)
 exact KN 0 ([Sg b13 0 (KB (Zc d kn1 t).1 a19 c19 a20 c20 a21 c21)]::[Sg b4 0 (JcD d kn1 t)]::[Sg b3 0 (KH (QG d kn1 t).1 a14 c14)]::[Sg b 0 (J7 t a5 c5 a6 c6 a7 c7 a8 c8 a9 c9 a10 c10 a11 c11 a12 c12)]::r1::r2::r3::r4::[Sg b1 0 (WI (Jbx d kn1) a1 c1 a2 c2 a3 c3 a4 c4)]::Lr) (Ka [(13,I ((Zc d kn1 t).2.1)),(14,I ((Zc d kn1 t).2.2))] (Km [0,1,2,3,4,5,7,8] [(9,0),(10,0),(13,0),(14,0)] [] [(0,Pt b 0),(3,Pt b1 0),(4,I ((((Ju t (kn1:Int)).wanted).length:Nat):Int)),(5,Pt b3 0),(7,I ((Zc d kn1 t).2.2)),(8,Pt b13 0),(9,I ((Zc d kn1 t).2.1))] (Ha _) (Wd (b13,a19,c19,a20,c20,a21,c21,G7) ⟨hl7,w85,w81,hs15,w82,w83,w84,hs16,hs17⟩)))
 refine JC 11 [] (fun X=>?_)
 refine Jv 8 #[I 0,Sl none 0 0,I 0,I 0,I 0,Sl none 0 0,Sl none 0 0] 60 (fun b14=>JD [(11,Pt b14 0)] (JK [] [(0,0),(1,0),(2,0),(3,0),(4,8),(5,4)] [] [6] (Ha _) (Ki ?_ K8)))
 refine JC 6 [(56,(Qt t.town.clerk a5 c5 a6 c6 a7 c7)),(57,(VT d kn1 t))] (fun X=>?_)
 refine JI 58 (Jdf G2 (KB t.town.clerk a5 c5 a6 c6 a7 c7) t.town.clerk (⟨a5,c5,a6,c6,a7,c7,rfl,w13,(hs5.mono hle1),w14,w15,w16,(hs6.mono hle1),(hs7.mono hle1)⟩) (JcD d kn1 t) ((QG d kn1 t).2.1) (⟨rfl,hj1,hj2,hj3,hj4⟩)) (fun v G8 L1 hl8 hp=>?_)
 obtain ⟨a22,c22,a23,c23,a24,c24,rfl,w86,hs18,w87,w88,w89,hs19,hs20,w90,rfl⟩:=hp
 refine JD [(6,.tuple #[(Qt (Zc d kn1 t).1 a22 c22 a23 c23 a24 c24),I ((Zc d kn1 t).2.1),I ((Zc d kn1 t).2.2)]),(7,.tuple #[(Qt (Zc d kn1 t).1 a22 c22 a23 c23 a24 c24),I ((Zc d kn1 t).2.1),I ((Zc d kn1 t).2.2)]),(8,(Qt (Zc d kn1 t).1 a22 c22 a23 c23 a24 c24)),(9,I ((Zc d kn1 t).2.1)),(10,I ((Zc d kn1 t).2.2))] (JK [0,1,2,3,4,5] [(7,0),(8,0),(9,0),(10,0)] [] [12] (Ha _) (Ki ?_ K8))
 refine JC 12 [(8,Pt b14 0),(59,(Qt (Zc d kn1 t).1 a22 c22 a23 c23 a24 c24))] (fun X=>?_)
 exact KN 0 ([Sg b14 0 (KB (Zc d kn1 t).1 a22 c22 a23 c23 a24 c24)]::[Sg b4 0 (JcD d kn1 t)]::[Sg b3 0 (KH (QG d kn1 t).1 a14 c14)]::[Sg b 0 (J7 t a5 c5 a6 c6 a7 c7 a8 c8 a9 c9 a10 c10 a11 c11 a12 c12)]::r1::r2::r3::r4::[Sg b1 0 (WI (Jbx d kn1) a1 c1 a2 c2 a3 c3 a4 c4)]::Lr) (Ka [(13,I ((Zc d kn1 t).2.1)),(14,I ((Zc d kn1 t).2.2))] (Km [0,1,2,3,4,5,7,8] [(9,0),(10,0),(13,0),(14,0)] [] [(0,Pt b 0),(3,Pt b1 0),(4,I ((((Ju t (kn1:Int)).wanted).length:Nat):Int)),(5,Pt b3 0),(7,I ((Zc d kn1 t).2.2)),(8,Pt b14 0),(9,I ((Zc d kn1 t).2.1))] (Ha _) (Wd (b14,a22,c22,a23,c23,a24,c24,G8) ⟨hl8,w90,w86,hs18,w87,w88,w89,hs19,hs20⟩)))
 obtain ⟨b13,a19,c19,a20,c20,a21,c21,G7⟩:=q_
 obtain ⟨hle2,hj13,hj14,hj15,hj16,hj17,hj18,hj19,hj20⟩:=hs
 dsimp only at hle2 hj13 hj14 hj15 hj16 hj17 hj18 hj19 hj20
 dsimp only
 refine Jf (Jg [0,0] [(63,Bo (!decide ((Zc d kn1 t).2.2=0)))] (Jl (!decide ((Zc d kn1 t).2.2=0)) (fun h4=>?_) (fun h4=>?_)))
 refine Jn (Jj (Jk 7 (Jk 7 (Jk 7 (Jk 7 (Jk 7 ?_))))))
 have hf4:Wc t d=t:=by
  exact tWant3 ‹_› ‹_› ‹_›
 refine Jo [] [] (KT (Lr:=Lr) [[Sg b 0 (J7 t a5 c5 a6 c6 a7 c7 a8 c8 a9 c9 a10 c10 a11 c11 a12 c12)],r1,r2,r3,r4] (Ja (Ja hl1 hle1) hle2) ?_)
 rw [hf4];try dsimp only
 exact ⟨a5,c5,a6,c6,a7,c7,a8,c8,a9,c9,a10,c10,a11,c11,a12,c12,r1,r2,r3,r4,rfl,w13,(hs5.mono (Ja hle1 hle2)),w14,w15,w16,(hs6.mono (Ja hle1 hle2)),(hs7.mono (Ja hle1 hle2)),(hr1.mono (Ja hle1 hle2)),(hr2.mono (Ja hle1 hle2)),w17,(hs8.mono (Ja hle1 hle2)),w18,(hr3.mono (Ja hle1 hle2)),(hr4.mono (Ja hle1 hle2)),rfl⟩
 refine Jq (Jb (Jf (Kp [11,15] (Wl [(0,Pt b 0),(1,Pt b 0),(2,Pt b 0),(3,Pt b 7),(4,Sl a8 t.town.owners.length c8),(5,Pt b1 1),(6,I (kn1:Int)),(7,Pt b 0),(8,(Ky (QG d kn1 t).1 a14 c14)),(9,(Qt (Zc d kn1 t).1 a19 c19 a20 c20 a21 c21)),(10,Pt b2 (o1+kn1*8))] (JK [] [(0,0),(1,0),(2,0),(3,0),(4,8),(5,0),(6,18),(7,0),(8,6),(9,2)] [10] [11] (Ki ?_ K8) (Ki ?_ K8))))))
 refine Jt 10 74 (Pt b2 (o1+kn1*8)) [(68,Sl a8 t.town.owners.length c8),(70,I (kn1:Int))] (fun X=>?_)
 exact QK (b:=b2) (off:=o1) (len:=t.town.owners.length) (cap:=c8) (ik:=.i64) 74 76 8 kn1 ha1 J8 Jp
 refine JC 11 [(72,(Ky (QG d kn1 t).1 a14 c14)),(74,Pt b2 (o1+kn1*8))] (fun X=>?_)
 refine YT (b:=b2) (off:=o1) 4 (hr1.mono (Ja hle1 hle2)) kn1 ((QG d kn1 t).1) ha1 J8 (Ky (QG d kn1 t).1 a14 c14) (KH (QG d kn1 t).1 a14 c14) ⟨a14,c14,rfl,hj5,hj6,hj7,hj8,hj9,hj10,(hj11.mono hle2),hj12⟩ (fun r5 hr5=>?_)
 have e2:t.town.owners.length=(t.town.owners.set kn1 ((QG d kn1 t).1)).length:=(Hx ..).symm
 refine Ka [(12,Pt b 0),(13,Pt b 0),(14,Pt b 0)] (JK [0,1,2,3,4,5,6,8,10] [(7,0),(9,2),(12,0),(13,0),(14,0)] [] [15] (Ha _) (Ki ?_ K8))
 refine JC 15 [(73,(Qt (Zc d kn1 t).1 a19 c19 a20 c20 a21 c21)),(77,Pt b 0)] (fun X=>?_)
 refine KN 3 ([Sg b13 0 (KB (Zc d kn1 t).1 a19 c19 a20 c20 a21 c21)]::[Sg b4 0 (JcD d kn1 t)]::[Sg b3 0 (KH (QG d kn1 t).1 a14 c14)]::[Sg b 0 (J7 (⟨(⟨(Zc d kn1 t).1,t.town.owners,t.town.polls,t.town.net⟩:Q8),t.reach,t.fates,t.events⟩:JH) a19 c19 a20 c20 a21 c21 a8 c8 a9 c9 a10 c10 a11 c11 a12 c12)]::r5::r2::r3::r4::[Sg b1 0 (WI (Jbx d kn1) a1 c1 a2 c2 a3 c3 a4 c4)]::Lr) (Ka [] (Km [0,1,2,3,4,5,6,7,8,9,10,12,13,14] [] [] [(0,Pt b 0),(3,Pt b1 0),(4,I ((((Ju t (kn1:Int)).wanted).length:Nat):Int)),(9,I ((Zc d kn1 t).2.1))] (Ha _) (JkC (fr':=[(0,Pt b 0),(3,Pt b1 0),(4,I ((((Ju t (kn1:Int)).wanted).length:Nat):Int)),(9,I ((Ko t.town.clerk ((JO (Ju t (kn1:Int)) d.value).2.1)).2.1))]) (L':=([Sg b13 0 [I (((Ko t.town.clerk ((JO (Ju t (kn1:Int)) d.value).2.1)).1).queue.most),Sl a19 ((((Ko t.town.clerk ((JO (Ju t (kn1:Int)) d.value).2.1)).1).queue.wait).length) c19,I (((Ko t.town.clerk ((JO (Ju t (kn1:Int)) d.value).2.1)).1).batch),I (((Ko t.town.clerk ((JO (Ju t (kn1:Int)) d.value).2.1)).1).every),I (((Ko t.town.clerk ((JO (Ju t (kn1:Int)) d.value).2.1)).1).now),Sl a20 ((((Ko t.town.clerk ((JO (Ju t (kn1:Int)) d.value).2.1)).1).heads).length) c20,Sl a21 ((((Ko t.town.clerk ((JO (Ju t (kn1:Int)) d.value).2.1)).1).books).length) c21]]::[Sg b4 0 [Sr (((JO (Ju t (kn1:Int)) d.value).2.1).name),Sr (((JO (Ju t (kn1:Int)) d.value).2.1).value),U (((JO (Ju t (kn1:Int)) d.value).2.1).n),U (((JO (Ju t (kn1:Int)) d.value).2.1).tag)]]::[Sg b3 0 [Sr (((JO (Ju t (kn1:Int)) d.value).1).name),U (((JO (Ju t (kn1:Int)) d.value).1).key),I (((JO (Ju t (kn1:Int)) d.value).1).head.epoch),U (((JO (Ju t (kn1:Int)) d.value).1).head.root),U (((JO (Ju t (kn1:Int)) d.value).1).head.prev),I (((JO (Ju t (kn1:Int)) d.value).1).head.at_),Sl a14 ((((JO (Ju t (kn1:Int)) d.value).1).wanted).length) c14,I (((JO (Ju t (kn1:Int)) d.value).1).had)]]::[Sg b 0 [I (((Ko t.town.clerk ((JO (Ju t (kn1:Int)) d.value).2.1)).1).queue.most),Sl a19 ((((Ko t.town.clerk ((JO (Ju t (kn1:Int)) d.value).2.1)).1).queue.wait).length) c19,I (((Ko t.town.clerk ((JO (Ju t (kn1:Int)) d.value).2.1)).1).batch),I (((Ko t.town.clerk ((JO (Ju t (kn1:Int)) d.value).2.1)).1).every),I (((Ko t.town.clerk ((JO (Ju t (kn1:Int)) d.value).2.1)).1).now),Sl a20 ((((Ko t.town.clerk ((JO (Ju t (kn1:Int)) d.value).2.1)).1).heads).length) c20,Sl a21 ((((Ko t.town.clerk ((JO (Ju t (kn1:Int)) d.value).2.1)).1).books).length) c21,Sl a8 ((t.town.owners.set kn1 ((JO (Ju t (kn1:Int)) d.value).1)).length) c8,Sl a9 t.town.polls.length c9,I t.town.net.now,Sl a10 t.town.net.way.length c10,I t.reach,Sl a11 t.fates.length c11,Sl a12 t.events.length c12]]::r5::r2::r3::r4::[Sg b1 0 [I d.kind,I (kn1:Int),Sr d.value,Sl a1 d.fates.length c1,I d.letter.to_,I d.letter.from_,I d.letter.since,I d.letter.due,Sl a2 d.letter.heads.length c2,I d.letter.reply.head.epoch,U d.letter.reply.head.root,U d.letter.reply.head.prev,I d.letter.reply.head.at_,Sr d.letter.reply.proof.name,Sl a3 d.letter.reply.proof.entries.length c3,Sl a4 d.letter.reply.proof.sides.length c4]]::Lr)) (by rfl) (by (simp only [Jic,KB,WI,KH,J7,JjI,Qt,JcV,Ky,e2];first | done | rfl)) (Jb (Jd (Jc [0,0,18,0,0] [(78,Pt b 0),(80,I (kn1:Int)),(81,I ((((Ju t (kn1:Int)).wanted).length:Nat):Int)),(82,I ((Zc d kn1 t).2.1))] (Jw 7 (Jw 7 (Jw 7 (Jw 7 (Jw 7 ?_)))))))))))
 refine Qp (Ls:=[[Sg b 0 (J7 (⟨(⟨(Zc d kn1 t).1,(t.town.owners.set kn1 ((QG d kn1 t).1)),t.town.polls,t.town.net⟩:Q8),t.reach,t.fates,t.events⟩:JH) a19 c19 a20 c20 a21 c21 a8 c8 a9 c9 a10 c10 a11 c11 a12 c12)],r5,r2,r3,r4]) (Lr:=([Sg b13 0 (KB (Zc d kn1 t).1 a19 c19 a20 c20 a21 c21)]::[Sg b4 0 (JcD d kn1 t)]::[Sg b3 0 (KH (QG d kn1 t).1 a14 c14)]::[Sg b1 0 (WI (Jbx d kn1) a1 c1 a2 c2 a3 c3 a4 c4)]::Lr)) 83 (Jd0 G7 b (z4_4 d kn1 t) a19 c19 a20 c20 a21 c21 a8 c8 a9 c9 a10 c10 a11 c11 a12 c12 r5 r2 r3 r4 hj14 hj15 hj16 hj17 hj18 hj19 hj20 hr5 (hr2.mono (Ja hle1 hle2)) w17 (hs8.mono (Ja hle1 hle2)) w18 (hr3.mono (Ja hle1 hle2)) (hr4.mono (Ja hle1 hle2)) 1 J8 (kn1:Int) J8 ((((Ju t (kn1:Int)).wanted).length:Nat):Int) (by have q_:=(show RS ES _ _ _ (Ju t (kn1:Int)).wanted by assumption).le;have p_:=(show RS ES _ _ _ (Ju t (kn1:Int)).wanted by assumption).max;omega) ((Zc d kn1 t).2.1) hj13 ‹_›) (fun v G9 L1 hl9 hp=>?_)
 obtain ⟨a25,c25,a26,c26,a27,c27,a28,c28,a29,c29,a30,c30,a31,c31,a32,c32,r6,r7,r8,r9,rfl,w91,hs21,w92,w93,w94,hs22,hs23,hr6,hr7,w95,hs24,w96,hr8,hr9,rfl⟩:=hp
 refine Je (Jk 4 (Jk 4 (Jk 4 (Jk 4 (Jk 4 ?_)))))
 have hf5:Wc t d=(Q5 (z4_4 d kn1 t) 1 (kn1:Int) ((((Ju t (kn1:Int)).wanted).length:Nat):Int) ((Zc d kn1 t).2.1)):=by
  exact tWant4 ‹_› rfl ‹_› ‹_› ‹_› ‹_›
 refine ZD [] [] (KT (Lr:=Lr) [[Sg b 0 (J7 (Q5 (z4_4 d kn1 t) 1 (kn1:Int) ((((Ju t (kn1:Int)).wanted).length:Nat):Int) ((Zc d kn1 t).2.1)) a25 c25 a26 c26 a27 c27 a28 c28 a29 c29 a30 c30 a31 c31 a32 c32)],r6,r7,r8,r9] (Ja (Ja (Ja hl1 hle1) hle2) hl9) ?_)
 rw [hf5];try dsimp only
 exact ⟨a25,c25,a26,c26,a27,c27,a28,c28,a29,c29,a30,c30,a31,c31,a32,c32,r6,r7,r8,r9,rfl,w91,hs21,w92,w93,w94,hs22,hs23,hr6,hr7,w95,hs24,w96,hr8,hr9,rfl⟩
end Go.Proofs.YteaampgpgokjmaaGreatDoor
