import Derived.Test.YtnnlpbjdignhaaaGreatDoorTfTownP
namespace Go.Proofs.YtnnlpbjdignhaaaGreatDoor
open Go.Tx
set_option linter.unusedVariables false
set_option linter.unusedSimpArgs false
open Go.Tx Go.Proofs
structure Ext (c d:KF):Prop where
 ok:WR c
 ok2:WR d
 heads:∃ m,d.heads=c.heads++m
 books:∃ m,d.books=c.books++m
theorem Ext.trans {c d e:KF} (h:Ext c d) (h2:Ext d e):Ext c e:=by
 obtain ⟨m,e1⟩:=h.heads;obtain ⟨n,e2⟩:=h2.heads
 obtain ⟨p,e3⟩:=h.books;obtain ⟨q,e4⟩:=h2.books
 exact ⟨h.ok,h2.ok2,⟨m++n,by rw [e2,e1,List.append_assoc]⟩,⟨p++q,by rw [e4,e3,List.append_assoc]⟩⟩
structure Fwd (t u:JG):Prop where
 ext:Ext t.town.clerk u.town.clerk
 own:∀ (i:Nat) o,u.town.owners[i]? = some o→∃ p,t.town.owners[i]? = some p∧p.name=o.name∧p.head.epoch≤o.head.epoch
theorem Fwd.trans {t u v:JG} (h:Fwd t u) (h2:Fwd u v):Fwd t v:=by
 refine ⟨h.ext.trans h2.ext,fun i o ho=>?_⟩
 obtain ⟨p,hp,e1,l1⟩:=h2.own i o ho
 obtain ⟨q,hq,e2,l2⟩:=h.own i p hp
 exact ⟨q,hq,e2.trans e1,by omega⟩
end Go.Proofs.YtnnlpbjdignhaaaGreatDoor
