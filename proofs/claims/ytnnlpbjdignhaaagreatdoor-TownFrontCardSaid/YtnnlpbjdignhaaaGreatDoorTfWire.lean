import Derived.Test.YtnnlpbjdignhaaaGreatDoorTfTy
namespace Go.Proofs.YtnnlpbjdignhaaaGreatDoor
open Go.Tx
set_option linter.unusedVariables false
set_option linter.unusedSimpArgs false
theorem ZG (n:Int) (G:Jt):QE Tryz.prog 89 #[U n] G [] (fun u G' L'=>u=Sr (KK n)):=by
 refine JL Tryz.func89 19 [(0,U n)] rfl (fun w0 G0=>?_)
 refine Jg [0] [(0,U n)] (Je (Jb ?_))
 refine Ju 3 #[Y 0,Y 0,Y 0,Y 0,Y 0,Y 0,Y 0,Y 0] 210 (fun b1=>?_)
 refine Jd (Ja (Je ?_))
 refine Jg [0] [(0,U n),(3,Pt b1 0),(5,I 0)] (Jy ?_)
 refine JbV 9 ?_
 refine Q1 ?_
 refine Jg [0] [(0,U n),(3,Pt b1 0),(5,I 0),(6,Bo true)] (Je ?_)
 refine J0 ?_
 refine Jm (Ja (Je (Jy ?_)))
 refine Jg [0,0] [(0,U n),(3,Pt b1 0),(4,I 0),(5,I 0)] (Jb ?_)
 refine Kb [0,0,0,0,0,0,0,0,3] [(0,U n),(3,Pt b1 0),(5,I 0)] [[Sg b1 0 [Y (IntKind.u8.wrap ((n).fdiv (2 ^ 56))),Y 0,Y 0,Y 0,Y 0,Y 0,Y 0,Y 0]]] (Jd (JK (Ja (Jb ?_))))
 refine Jc [0,0] [(0,U n),(3,Pt b1 0),(5,I 1)] (Jd ?_)
 refine Wd ?_
 refine Q1 ?_
 refine Jg [0] [(0,U n),(3,Pt b1 0),(5,I 1),(6,Bo true)] (Je ?_)
 refine J0 ?_
 refine Jm (Ja (Je (Jy ?_)))
 refine Jg [0,0] [(0,U n),(3,Pt b1 0),(4,I 1),(5,I 1)] (Jb ?_)
 refine Kb [0,0,0,0,0,0,0,0,3] [(0,U n),(3,Pt b1 0),(5,I 1)] [[Sg b1 0 [Y (IntKind.u8.wrap ((n).fdiv (2 ^ 56))),Y (IntKind.u8.wrap ((n).fdiv (2 ^ 48))),Y 0,Y 0,Y 0,Y 0,Y 0,Y 0]]] (Jd (JK (Ja (Jb ?_))))
 refine Jc [0,0] [(0,U n),(3,Pt b1 0),(5,I 2)] (Jd ?_)
 refine Wd ?_
 refine Q1 ?_
 refine Jg [0] [(0,U n),(3,Pt b1 0),(5,I 2),(6,Bo true)] (Je ?_)
 refine J0 ?_
 refine Jm (Ja (Je (Jy ?_)))
 refine Jg [0,0] [(0,U n),(3,Pt b1 0),(4,I 2),(5,I 2)] (Jb ?_)
 refine Kb [0,0,0,0,0,0,0,0,3] [(0,U n),(3,Pt b1 0),(5,I 2)] [[Sg b1 0 [Y (IntKind.u8.wrap ((n).fdiv (2 ^ 56))),Y (IntKind.u8.wrap ((n).fdiv (2 ^ 48))),Y (IntKind.u8.wrap ((n).fdiv (2 ^ 40))),Y 0,Y 0,Y 0,Y 0,Y 0]]] (Jd (JK (Ja (Jb ?_))))
 refine Jc [0,0] [(0,U n),(3,Pt b1 0),(5,I 3)] (Jd ?_)
 refine Wd ?_
 refine Q1 ?_
 refine Jg [0] [(0,U n),(3,Pt b1 0),(5,I 3),(6,Bo true)] (Je ?_)
 refine J0 ?_
 refine Jm (Ja (Je (Jy ?_)))
 refine Jg [0,0] [(0,U n),(3,Pt b1 0),(4,I 3),(5,I 3)] (Jb ?_)
 refine Kb [0,0,0,0,0,0,0,0,3] [(0,U n),(3,Pt b1 0),(5,I 3)] [[Sg b1 0 [Y (IntKind.u8.wrap ((n).fdiv (2 ^ 56))),Y (IntKind.u8.wrap ((n).fdiv (2 ^ 48))),Y (IntKind.u8.wrap ((n).fdiv (2 ^ 40))),Y (IntKind.u8.wrap ((n).fdiv (2 ^ 32))),Y 0,Y 0,Y 0,Y 0]]] (Jd (JK (Ja (Jb ?_))))
 refine Jc [0,0] [(0,U n),(3,Pt b1 0),(5,I 4)] (Jd ?_)
 refine Wd ?_
 refine Q1 ?_
 refine Jg [0] [(0,U n),(3,Pt b1 0),(5,I 4),(6,Bo true)] (Je ?_)
 refine J0 ?_
 refine Jm (Ja (Je (Jy ?_)))
 refine Jg [0,0] [(0,U n),(3,Pt b1 0),(4,I 4),(5,I 4)] (Jb ?_)
 refine Kb [0,0,0,0,0,0,0,0,3] [(0,U n),(3,Pt b1 0),(5,I 4)] [[Sg b1 0 [Y (IntKind.u8.wrap ((n).fdiv (2 ^ 56))),Y (IntKind.u8.wrap ((n).fdiv (2 ^ 48))),Y (IntKind.u8.wrap ((n).fdiv (2 ^ 40))),Y (IntKind.u8.wrap ((n).fdiv (2 ^ 32))),Y (IntKind.u8.wrap ((n).fdiv (2 ^ 24))),Y 0,Y 0,Y 0]]] (Jd (JK (Ja (Jb ?_))))
 refine Jc [0,0] [(0,U n),(3,Pt b1 0),(5,I 5)] (Jd ?_)
 refine Wd ?_
 refine Q1 ?_
 refine Jg [0] [(0,U n),(3,Pt b1 0),(5,I 5),(6,Bo true)] (Je ?_)
 refine J0 ?_
 refine Jm (Ja (Je (Jy ?_)))
 refine Jg [0,0] [(0,U n),(3,Pt b1 0),(4,I 5),(5,I 5)] (Jb ?_)
 refine Kb [0,0,0,0,0,0,0,0,3] [(0,U n),(3,Pt b1 0),(5,I 5)] [[Sg b1 0 [Y (IntKind.u8.wrap ((n).fdiv (2 ^ 56))),Y (IntKind.u8.wrap ((n).fdiv (2 ^ 48))),Y (IntKind.u8.wrap ((n).fdiv (2 ^ 40))),Y (IntKind.u8.wrap ((n).fdiv (2 ^ 32))),Y (IntKind.u8.wrap ((n).fdiv (2 ^ 24))),Y (IntKind.u8.wrap ((n).fdiv (2 ^ 16))),Y 0,Y 0]]] (Jd (JK (Ja (Jb ?_))))
 refine Jc [0,0] [(0,U n),(3,Pt b1 0),(5,I 6)] (Jd ?_)
 refine Wd ?_
 refine Q1 ?_
 refine Jg [0] [(0,U n),(3,Pt b1 0),(5,I 6),(6,Bo true)] (Je ?_)
 refine J0 ?_
 refine Jm (Ja (Je (Jy ?_)))
 refine Jg [0,0] [(0,U n),(3,Pt b1 0),(4,I 6),(5,I 6)] (Jb ?_)
 refine Kb [0,0,0,0,0,0,0,0,3] [(0,U n),(3,Pt b1 0),(5,I 6)] [[Sg b1 0 [Y (IntKind.u8.wrap ((n).fdiv (2 ^ 56))),Y (IntKind.u8.wrap ((n).fdiv (2 ^ 48))),Y (IntKind.u8.wrap ((n).fdiv (2 ^ 40))),Y (IntKind.u8.wrap ((n).fdiv (2 ^ 32))),Y (IntKind.u8.wrap ((n).fdiv (2 ^ 24))),Y (IntKind.u8.wrap ((n).fdiv (2 ^ 16))),Y (IntKind.u8.wrap ((n).fdiv (2 ^ 8))),Y 0]]] (Jd (JK (Ja (Jb ?_))))
 refine Jc [0,0] [(0,U n),(3,Pt b1 0),(5,I 7)] (Jd ?_)
 refine Wd ?_
 refine Q1 ?_
 refine Jg [0] [(0,U n),(3,Pt b1 0),(5,I 7),(6,Bo true)] (Je ?_)
 refine J0 ?_
 refine Jm (Ja (Je (Jy ?_)))
 refine Jg [0,0] [(0,U n),(3,Pt b1 0),(4,I 7),(5,I 7)] (Jb ?_)
 refine Kb [0,0,0,0,0,0,0,0,3] [(0,U n),(3,Pt b1 0),(5,I 7)] [[Sg b1 0 [Y (IntKind.u8.wrap ((n).fdiv (2 ^ 56))),Y (IntKind.u8.wrap ((n).fdiv (2 ^ 48))),Y (IntKind.u8.wrap ((n).fdiv (2 ^ 40))),Y (IntKind.u8.wrap ((n).fdiv (2 ^ 32))),Y (IntKind.u8.wrap ((n).fdiv (2 ^ 24))),Y (IntKind.u8.wrap ((n).fdiv (2 ^ 16))),Y (IntKind.u8.wrap ((n).fdiv (2 ^ 8))),Y (IntKind.u8.wrap ((n).fdiv (2 ^ 0)))]]] (Jd (JK (Ja (Jb ?_))))
 refine Jc [0,0] [(0,U n),(3,Pt b1 0),(5,I 8)] (Jd ?_)
 refine Wd ?_
 refine Q1 ?_
 refine Jg [0] [(0,U n),(3,Pt b1 0),(5,I 8),(6,Bo false)] (Je ?_)
 refine Qm ?_
 refine KU (J3 (J3 (JW (Ja (Je (Jb ?_))))))
 refine Jc [0] [(17,Sl (At b1 0) 8 8)] ?_
 refine VP (b:=b1) (off:=0) (len:=8) (cap:=8) (cs:=List.map (Value.int .u8) [IntKind.u8.wrap ((n).fdiv (2 ^ 56)),IntKind.u8.wrap ((n).fdiv (2 ^ 48)),IntKind.u8.wrap ((n).fdiv (2 ^ 40)),IntKind.u8.wrap ((n).fdiv (2 ^ 32)),IntKind.u8.wrap ((n).fdiv (2 ^ 24)),IntKind.u8.wrap ((n).fdiv (2 ^ 16)),IntKind.u8.wrap ((n).fdiv (2 ^ 8)),IntKind.u8.wrap ((n).fdiv (2 ^ 0))]) 18 0 [IntKind.u8.wrap ((n).fdiv (2 ^ 56)),IntKind.u8.wrap ((n).fdiv (2 ^ 48)),IntKind.u8.wrap ((n).fdiv (2 ^ 40)),IntKind.u8.wrap ((n).fdiv (2 ^ 32)),IntKind.u8.wrap ((n).fdiv (2 ^ 24)),IntKind.u8.wrap ((n).fdiv (2 ^ 16)),IntKind.u8.wrap ((n).fdiv (2 ^ 8)),IntKind.u8.wrap ((n).fdiv (2 ^ 0))] rfl (Vb (ns:=[IntKind.u8.wrap ((n).fdiv (2 ^ 56)),IntKind.u8.wrap ((n).fdiv (2 ^ 48)),IntKind.u8.wrap ((n).fdiv (2 ^ 40)),IntKind.u8.wrap ((n).fdiv (2 ^ 32)),IntKind.u8.wrap ((n).fdiv (2 ^ 24)),IntKind.u8.wrap ((n).fdiv (2 ^ 16)),IntKind.u8.wrap ((n).fdiv (2 ^ 8)),IntKind.u8.wrap ((n).fdiv (2 ^ 0))]) rfl) ?_
 refine Jc [0] [(2,Sr (([IntKind.u8.wrap ((n).fdiv (2 ^ 56)),IntKind.u8.wrap ((n).fdiv (2 ^ 48)),IntKind.u8.wrap ((n).fdiv (2 ^ 40)),IntKind.u8.wrap ((n).fdiv (2 ^ 32)),IntKind.u8.wrap ((n).fdiv (2 ^ 24)),IntKind.u8.wrap ((n).fdiv (2 ^ 16)),IntKind.u8.wrap ((n).fdiv (2 ^ 8)),IntKind.u8.wrap ((n).fdiv (2 ^ 0))]:List Int).map fun n=>UInt8.ofNat n.toNat))] (Jd (Ja (Jk ?_)))
 refine Jl [0] [Sr (([IntKind.u8.wrap ((n).fdiv (2 ^ 56)),IntKind.u8.wrap ((n).fdiv (2 ^ 48)),IntKind.u8.wrap ((n).fdiv (2 ^ 40)),IntKind.u8.wrap ((n).fdiv (2 ^ 32)),IntKind.u8.wrap ((n).fdiv (2 ^ 24)),IntKind.u8.wrap ((n).fdiv (2 ^ 16)),IntKind.u8.wrap ((n).fdiv (2 ^ 8)),IntKind.u8.wrap ((n).fdiv (2 ^ 0))]:List Int).map fun n=>UInt8.ofNat n.toNat)] (Jv (Jt.le_refl _) ?_)
 rfl
end Go.Proofs.YtnnlpbjdignhaaaGreatDoor
