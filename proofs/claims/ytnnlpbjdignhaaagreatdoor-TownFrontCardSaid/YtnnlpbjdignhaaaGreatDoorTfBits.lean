import Derived.Test.YtnnlpbjdignhaaaGreatDoorTfPl
namespace Go.Proofs.YtnnlpbjdignhaaaGreatDoor
open Go.Tx
set_option linter.unusedVariables false
set_option linter.unusedSimpArgs false
theorem JiN  (G:Jt):QE Tryz.prog 220 #[U 2305843009213693951] G [] (fun u G' L'=>u=I 61):=by
 refine JL Tryz.func220 25 [(0,U 2305843009213693951)] rfl (fun w0 G0=>?_)
 refine Jg [0] [(0,U 2305843009213693951),(2,I 0)] (Je ?_)
 refine Jg [0,0] [(0,U 2305843009213693951),(2,I 0),(4,Bo true)] ?_
 refine J0 ?_
 refine Jg [0,0,0] [(0,U 536870911)] (Jb ?_)
 refine Jc [0] [(0,U 536870911),(2,I 32)] (Jd (Ja (Je ?_)))
 refine Jg [0,0] [(0,U 536870911),(2,I 32),(8,Bo true)] ?_
 refine J0 ?_
 refine Jg [0,0,0] [(0,U 8191),(2,I 32)] (Jb ?_)
 refine Jc [0,0,0] [(0,U 8191),(2,I 48)] (Jd (Ja (Je ?_)))
 refine Jg [0,0] [(0,U 8191),(2,I 48),(14,Bo true)] ?_
 refine J0 ?_
 refine Jg [0,0,0] [(0,U 31),(2,I 48)] (Jb ?_)
 refine Jc [0,0,0] [(0,U 31),(2,I 56)] (Jd (Ja ?_))
 refine Jg [0,0,0,0,0,0,0] [(2,I 61)] (Jk ?_)
 refine Jl [0] [I 61] (Jv (Jt.le_refl _) ?_)
 rfl
theorem Jj4  (G:Jt):QE Tryz.prog 218 #[U 2305843009213693951] G [] (fun u G' L'=>u=I 3):=by
 refine JL Tryz.func218 6 [(0,U 2305843009213693951)] rfl (fun w0 G0=>?_)
 refine Jg [0] [(0,U 2305843009213693951)] (Je (Jb ?_))
 refine Jc [0] [(3,U 2305843009213693951)] ?_
 refine Ji 4 (I 61) (JiN  G) ?_
 refine Jc [0,0] [(2,I 3)] (Jd (Ja (Jk ?_)))
 refine Jl [0] [I 3] (Jv (Jt.le_refl _) ?_)
 rfl
theorem JeE (x y:Int) (hx:rU x) (hy:rU y) (G:Jt):QE Tryz.prog 142 #[U x,U y] G [] (fun u G' L'=>u=.tuple #[U (x*y / 18446744073709551616),U (x*y % 18446744073709551616)]):=by
 refine JL Tryz.func142 51 [(0,U x),(1,U y)] rfl (fun w0 G0=>?_)
 refine Jg [0,0] [(0,U x),(1,U y)] ?_
 refine Jg [0,0,0] [(0,U x),(1,U y),(6,U (IntKind.u64.wrap ((BitVec.ofInt 64 x &&& BitVec.ofInt 64 4294967295).toNat:Int)))] ?_
 refine Jg [0,0,0] [(0,U x),(1,U y),(6,U (IntKind.u64.wrap ((BitVec.ofInt 64 x &&& BitVec.ofInt 64 4294967295).toNat:Int))),(7,U ((x).fdiv (2 ^ 32)))] ?_
 refine Jg [0,0,0] [(0,U x),(1,U y),(6,U (IntKind.u64.wrap ((BitVec.ofInt 64 x &&& BitVec.ofInt 64 4294967295).toNat:Int))),(7,U ((x).fdiv (2 ^ 32))),(8,U (IntKind.u64.wrap ((BitVec.ofInt 64 y &&& BitVec.ofInt 64 4294967295).toNat:Int)))] ?_
 refine Jg [0,0,0] [(0,U x),(1,U y),(6,U (IntKind.u64.wrap ((BitVec.ofInt 64 x &&& BitVec.ofInt 64 4294967295).toNat:Int))),(7,U ((x).fdiv (2 ^ 32))),(8,U (IntKind.u64.wrap ((BitVec.ofInt 64 y &&& BitVec.ofInt 64 4294967295).toNat:Int))),(9,U ((y).fdiv (2 ^ 32)))] ?_
 refine Jg [0,0,0,0] [(0,U x),(1,U y),(6,U (IntKind.u64.wrap ((BitVec.ofInt 64 x &&& BitVec.ofInt 64 4294967295).toNat:Int))),(7,U ((x).fdiv (2 ^ 32))),(8,U (IntKind.u64.wrap ((BitVec.ofInt 64 y &&& BitVec.ofInt 64 4294967295).toNat:Int))),(9,U ((y).fdiv (2 ^ 32))),(10,U (IntKind.u64.wrap ((IntKind.u64.wrap ((BitVec.ofInt 64 x &&& BitVec.ofInt 64 4294967295).toNat:Int))*(IntKind.u64.wrap ((BitVec.ofInt 64 y &&& BitVec.ofInt 64 4294967295).toNat:Int)))))] ?_
 refine Jg [0,0,0,0,0,0,0] [(0,U x),(1,U y),(6,U (IntKind.u64.wrap ((BitVec.ofInt 64 x &&& BitVec.ofInt 64 4294967295).toNat:Int))),(7,U ((x).fdiv (2 ^ 32))),(9,U ((y).fdiv (2 ^ 32))),(11,U (IntKind.u64.wrap ((IntKind.u64.wrap (((x).fdiv (2 ^ 32))*(IntKind.u64.wrap ((BitVec.ofInt 64 y &&& BitVec.ofInt 64 4294967295).toNat:Int))))+((IntKind.u64.wrap ((IntKind.u64.wrap ((BitVec.ofInt 64 x &&& BitVec.ofInt 64 4294967295).toNat:Int))*(IntKind.u64.wrap ((BitVec.ofInt 64 y &&& BitVec.ofInt 64 4294967295).toNat:Int)))).fdiv (2 ^ 32)))))] ?_
 refine Jg [0,0,0] [(0,U x),(1,U y),(6,U (IntKind.u64.wrap ((BitVec.ofInt 64 x &&& BitVec.ofInt 64 4294967295).toNat:Int))),(7,U ((x).fdiv (2 ^ 32))),(9,U ((y).fdiv (2 ^ 32))),(11,U (IntKind.u64.wrap ((IntKind.u64.wrap (((x).fdiv (2 ^ 32))*(IntKind.u64.wrap ((BitVec.ofInt 64 y &&& BitVec.ofInt 64 4294967295).toNat:Int))))+((IntKind.u64.wrap ((IntKind.u64.wrap ((BitVec.ofInt 64 x &&& BitVec.ofInt 64 4294967295).toNat:Int))*(IntKind.u64.wrap ((BitVec.ofInt 64 y &&& BitVec.ofInt 64 4294967295).toNat:Int)))).fdiv (2 ^ 32))))),(12,U (IntKind.u64.wrap ((BitVec.ofInt 64 (IntKind.u64.wrap ((IntKind.u64.wrap (((x).fdiv (2 ^ 32))*(IntKind.u64.wrap ((BitVec.ofInt 64 y &&& BitVec.ofInt 64 4294967295).toNat:Int))))+((IntKind.u64.wrap ((IntKind.u64.wrap ((BitVec.ofInt 64 x &&& BitVec.ofInt 64 4294967295).toNat:Int))*(IntKind.u64.wrap ((BitVec.ofInt 64 y &&& BitVec.ofInt 64 4294967295).toNat:Int)))).fdiv (2 ^ 32)))) &&& BitVec.ofInt 64 4294967295).toNat:Int)))] ?_
 refine Jg [0,0,0] [(0,U x),(1,U y),(6,U (IntKind.u64.wrap ((BitVec.ofInt 64 x &&& BitVec.ofInt 64 4294967295).toNat:Int))),(7,U ((x).fdiv (2 ^ 32))),(9,U ((y).fdiv (2 ^ 32))),(12,U (IntKind.u64.wrap ((BitVec.ofInt 64 (IntKind.u64.wrap ((IntKind.u64.wrap (((x).fdiv (2 ^ 32))*(IntKind.u64.wrap ((BitVec.ofInt 64 y &&& BitVec.ofInt 64 4294967295).toNat:Int))))+((IntKind.u64.wrap ((IntKind.u64.wrap ((BitVec.ofInt 64 x &&& BitVec.ofInt 64 4294967295).toNat:Int))*(IntKind.u64.wrap ((BitVec.ofInt 64 y &&& BitVec.ofInt 64 4294967295).toNat:Int)))).fdiv (2 ^ 32)))) &&& BitVec.ofInt 64 4294967295).toNat:Int))),(13,U ((IntKind.u64.wrap ((IntKind.u64.wrap (((x).fdiv (2 ^ 32))*(IntKind.u64.wrap ((BitVec.ofInt 64 y &&& BitVec.ofInt 64 4294967295).toNat:Int))))+((IntKind.u64.wrap ((IntKind.u64.wrap ((BitVec.ofInt 64 x &&& BitVec.ofInt 64 4294967295).toNat:Int))*(IntKind.u64.wrap ((BitVec.ofInt 64 y &&& BitVec.ofInt 64 4294967295).toNat:Int)))).fdiv (2 ^ 32)))).fdiv (2 ^ 32)))] ?_
 refine Jg [0,0,0,0,0,0] [(0,U x),(1,U y),(7,U ((x).fdiv (2 ^ 32))),(9,U ((y).fdiv (2 ^ 32))),(12,U (IntKind.u64.wrap ((IntKind.u64.wrap ((BitVec.ofInt 64 (IntKind.u64.wrap ((IntKind.u64.wrap (((x).fdiv (2 ^ 32))*(IntKind.u64.wrap ((BitVec.ofInt 64 y &&& BitVec.ofInt 64 4294967295).toNat:Int))))+((IntKind.u64.wrap ((IntKind.u64.wrap ((BitVec.ofInt 64 x &&& BitVec.ofInt 64 4294967295).toNat:Int))*(IntKind.u64.wrap ((BitVec.ofInt 64 y &&& BitVec.ofInt 64 4294967295).toNat:Int)))).fdiv (2 ^ 32)))) &&& BitVec.ofInt 64 4294967295).toNat:Int))+(IntKind.u64.wrap ((IntKind.u64.wrap ((BitVec.ofInt 64 x &&& BitVec.ofInt 64 4294967295).toNat:Int))*((y).fdiv (2 ^ 32))))))),(13,U ((IntKind.u64.wrap ((IntKind.u64.wrap (((x).fdiv (2 ^ 32))*(IntKind.u64.wrap ((BitVec.ofInt 64 y &&& BitVec.ofInt 64 4294967295).toNat:Int))))+((IntKind.u64.wrap ((IntKind.u64.wrap ((BitVec.ofInt 64 x &&& BitVec.ofInt 64 4294967295).toNat:Int))*(IntKind.u64.wrap ((BitVec.ofInt 64 y &&& BitVec.ofInt 64 4294967295).toNat:Int)))).fdiv (2 ^ 32)))).fdiv (2 ^ 32)))] ?_
 refine Jg [0,0,0,0,0,0,0,0,0] [(0,U x),(1,U y),(4,U (IntKind.u64.wrap ((IntKind.u64.wrap ((IntKind.u64.wrap (((x).fdiv (2 ^ 32))*((y).fdiv (2 ^ 32))))+((IntKind.u64.wrap ((IntKind.u64.wrap (((x).fdiv (2 ^ 32))*(IntKind.u64.wrap ((BitVec.ofInt 64 y &&& BitVec.ofInt 64 4294967295).toNat:Int))))+((IntKind.u64.wrap ((IntKind.u64.wrap ((BitVec.ofInt 64 x &&& BitVec.ofInt 64 4294967295).toNat:Int))*(IntKind.u64.wrap ((BitVec.ofInt 64 y &&& BitVec.ofInt 64 4294967295).toNat:Int)))).fdiv (2 ^ 32)))).fdiv (2 ^ 32))))+((IntKind.u64.wrap ((IntKind.u64.wrap ((BitVec.ofInt 64 (IntKind.u64.wrap ((IntKind.u64.wrap (((x).fdiv (2 ^ 32))*(IntKind.u64.wrap ((BitVec.ofInt 64 y &&& BitVec.ofInt 64 4294967295).toNat:Int))))+((IntKind.u64.wrap ((IntKind.u64.wrap ((BitVec.ofInt 64 x &&& BitVec.ofInt 64 4294967295).toNat:Int))*(IntKind.u64.wrap ((BitVec.ofInt 64 y &&& BitVec.ofInt 64 4294967295).toNat:Int)))).fdiv (2 ^ 32)))) &&& BitVec.ofInt 64 4294967295).toNat:Int))+(IntKind.u64.wrap ((IntKind.u64.wrap ((BitVec.ofInt 64 x &&& BitVec.ofInt 64 4294967295).toNat:Int))*((y).fdiv (2 ^ 32)))))).fdiv (2 ^ 32)))))] ?_
 refine Jg [0,0,0,0] [(4,U (IntKind.u64.wrap ((IntKind.u64.wrap ((IntKind.u64.wrap (((x).fdiv (2 ^ 32))*((y).fdiv (2 ^ 32))))+((IntKind.u64.wrap ((IntKind.u64.wrap (((x).fdiv (2 ^ 32))*(IntKind.u64.wrap ((BitVec.ofInt 64 y &&& BitVec.ofInt 64 4294967295).toNat:Int))))+((IntKind.u64.wrap ((IntKind.u64.wrap ((BitVec.ofInt 64 x &&& BitVec.ofInt 64 4294967295).toNat:Int))*(IntKind.u64.wrap ((BitVec.ofInt 64 y &&& BitVec.ofInt 64 4294967295).toNat:Int)))).fdiv (2 ^ 32)))).fdiv (2 ^ 32))))+((IntKind.u64.wrap ((IntKind.u64.wrap ((BitVec.ofInt 64 (IntKind.u64.wrap ((IntKind.u64.wrap (((x).fdiv (2 ^ 32))*(IntKind.u64.wrap ((BitVec.ofInt 64 y &&& BitVec.ofInt 64 4294967295).toNat:Int))))+((IntKind.u64.wrap ((IntKind.u64.wrap ((BitVec.ofInt 64 x &&& BitVec.ofInt 64 4294967295).toNat:Int))*(IntKind.u64.wrap ((BitVec.ofInt 64 y &&& BitVec.ofInt 64 4294967295).toNat:Int)))).fdiv (2 ^ 32)))) &&& BitVec.ofInt 64 4294967295).toNat:Int))+(IntKind.u64.wrap ((IntKind.u64.wrap ((BitVec.ofInt 64 x &&& BitVec.ofInt 64 4294967295).toNat:Int))*((y).fdiv (2 ^ 32)))))).fdiv (2 ^ 32))))),(5,U (IntKind.u64.wrap (x*y)))] (Jk ?_)
 refine Jl [0,0] [U (IntKind.u64.wrap ((IntKind.u64.wrap ((IntKind.u64.wrap (((x).fdiv (2 ^ 32))*((y).fdiv (2 ^ 32))))+((IntKind.u64.wrap ((IntKind.u64.wrap (((x).fdiv (2 ^ 32))*(IntKind.u64.wrap ((BitVec.ofInt 64 y &&& BitVec.ofInt 64 4294967295).toNat:Int))))+((IntKind.u64.wrap ((IntKind.u64.wrap ((BitVec.ofInt 64 x &&& BitVec.ofInt 64 4294967295).toNat:Int))*(IntKind.u64.wrap ((BitVec.ofInt 64 y &&& BitVec.ofInt 64 4294967295).toNat:Int)))).fdiv (2 ^ 32)))).fdiv (2 ^ 32))))+((IntKind.u64.wrap ((IntKind.u64.wrap ((BitVec.ofInt 64 (IntKind.u64.wrap ((IntKind.u64.wrap (((x).fdiv (2 ^ 32))*(IntKind.u64.wrap ((BitVec.ofInt 64 y &&& BitVec.ofInt 64 4294967295).toNat:Int))))+((IntKind.u64.wrap ((IntKind.u64.wrap ((BitVec.ofInt 64 x &&& BitVec.ofInt 64 4294967295).toNat:Int))*(IntKind.u64.wrap ((BitVec.ofInt 64 y &&& BitVec.ofInt 64 4294967295).toNat:Int)))).fdiv (2 ^ 32)))) &&& BitVec.ofInt 64 4294967295).toNat:Int))+(IntKind.u64.wrap ((IntKind.u64.wrap ((BitVec.ofInt 64 x &&& BitVec.ofInt 64 4294967295).toNat:Int))*((y).fdiv (2 ^ 32)))))).fdiv (2 ^ 32)))),U (IntKind.u64.wrap (x*y))] (Jv (Jt.le_refl _) ?_)
 exact congr (congrArg (fun a b=>Value.tuple #[U a,U b]) (JjS hx hy)) (JaL _)
set_option maxRecDepth 20000 in
theorem JiO (hi lo:Int) (hx:0≤hi∧hi<2305843009213693951) (hy:rU lo) (G:Jt):QE Tryz.prog 214 #[U hi,U lo,U 2305843009213693951] G [] (fun u G' L'=>u=.tuple #[U ((hi*18446744073709551616+lo) / 2305843009213693951),U ((hi*18446744073709551616+lo) % 2305843009213693951)]):=by
 refine JL Tryz.func214 135 [(0,U hi),(1,U lo),(2,U 2305843009213693951)] rfl (fun w0 G0=>?_)
 refine Jg [0,0] [(0,U hi),(1,U lo),(2,U 2305843009213693951)] (Je ?_)
 refine Jg [0,0] [(0,U hi),(1,U lo),(2,U 2305843009213693951),(20,Bo false)] ?_
 refine Qm ?_
 refine Jm (Ja (Je ?_))
 refine Jg [0,0,0] [(0,U hi),(1,U lo),(2,U 2305843009213693951),(24,Bo (decide (2305843009213693951≤hi)))] ?_
 refine Jo (decide (2305843009213693951≤hi)) (fun h1=>?_) (fun h1=>?_)
 try simp only [BB] at h1
 exfalso;omega
 try simp only [BB] at h1
 refine Jm (Ja (Je ?_))
 refine Jg [0,0] [(0,U hi),(1,U lo),(2,U 2305843009213693951),(27,Bo (decide (hi=0)))] ?_
 refine Jo (decide (hi=0)) (fun h2=>?_) (fun h2=>?_)
 try simp only [BB] at h2
 refine Je ?_
 have e1:IntKind.u64.wrap ((lo).tdiv 2305843009213693951)=lo / 2305843009213693951:=IntWalk.u64_quo _ _ (by omega)
 have e2:(lo).tmod 2305843009213693951=lo % 2305843009213693951:=IntWalk.rem_in _ _ (by omega)
 refine Kw [] ?_
 refine Wa [(0,U lo),(1,U 2305843009213693951),(2,U (lo / 2305843009213693951)),(3,U lo),(4,U 2305843009213693951),(5,U (lo % 2305843009213693951)),(6,U (lo / 2305843009213693951)),(7,U (lo % 2305843009213693951))] ?_
 refine Kv [] [(0,0),(1,0),(3,0),(4,0),(6,0),(7,0)] [2,5] [(6,U (lo / 2305843009213693951)),(7,U (lo % 2305843009213693951))] (List.forall_mem_cons.2 ⟨?_,(List.forall_mem_cons.2 ⟨?_,List.forall_mem_nil _⟩)⟩) ?_
 refine Jq 2 30 (U (lo / 2305843009213693951)) [(28,U lo),(29,U 2305843009213693951)] (fun X=>?_)
 exact KZ 30 (U (IntKind.u64.wrap ((lo).tdiv 2305843009213693951))) (U (lo / 2305843009213693951)) (by simp only [e1]) Jn
 refine Jq 5 33 (U (lo % 2305843009213693951)) [(31,U lo),(32,U 2305843009213693951)] (fun X=>?_)
 exact KZ 33 (U ((lo).tmod 2305843009213693951)) (U (lo % 2305843009213693951)) (by simp only [e2]) Jn
 refine Ja (Jk (Jh ?_))
 refine Jl [0,0] [U (lo / 2305843009213693951),U (lo % 2305843009213693951)] (Jv (Jt.le_refl _) ?_)
 · (subst h2;simp [JM];done)
 try simp only [BB] at h2
 refine Jm (Ja (Je (Jb ?_)))
 refine Jc [0] [(0,U hi),(1,U lo),(2,U 2305843009213693951),(34,U 2305843009213693951)] ?_
 refine Ji 35 (I 3) (Jj4  G) ?_
 refine Jc [0,0] [(0,U hi),(1,U lo),(2,U 2305843009213693951),(8,U 3)] (Jd (Ja ?_))
 refine Jg [0,0,0,0] [(0,U hi),(1,U lo),(2,U 18446744073709551608),(8,U 3)] ?_
 refine Jg [0,0,0] [(0,U hi),(1,U lo),(2,U 18446744073709551608),(8,U 3),(9,U 4294967295)] ?_
 refine Jg [0,0,0] [(0,U hi),(1,U lo),(2,U 18446744073709551608),(8,U 3),(9,U 4294967295),(10,U 4294967288)] ?_
 refine Jg [0,0,0,0,0,0,0,0,0] [(1,U lo),(2,U 18446744073709551608),(8,U 3),(9,U 4294967295),(10,U 4294967288),(11,U (IntKind.u64.wrap ((BitVec.ofInt 64 (IntKind.u64.wrap (hi*2 ^ 3)) ||| BitVec.ofInt 64 ((lo).fdiv (2 ^ 61))).toNat:Int)))] ?_
 have e3:IntKind.u64.wrap ((BitVec.ofInt 64 (IntKind.u64.wrap (hi*2 ^ 3)) ||| BitVec.ofInt 64 ((lo).fdiv (2 ^ 61))).toNat:Int)=Qe hi lo:=rfl
 refine KJ (fr':=[(1,U lo),(2,U 18446744073709551608),(8,U 3),(9,U 4294967295),(10,U 4294967288),(11,U (Qe hi lo))]) (L':=[]) (by simp only [e3]) (by rfl) ?_
 clear e3
 refine Jg [0,0,0,0] [(2,U 18446744073709551608),(8,U 3),(9,U 4294967295),(10,U 4294967288),(11,U (Qe hi lo)),(12,U (IntKind.u64.wrap (lo*2 ^ 3)))] ?_
 have e4:IntKind.u64.wrap (lo*2 ^ 3)=JaU lo:=rfl
 refine KJ (fr':=[(2,U 18446744073709551608),(8,U 3),(9,U 4294967295),(10,U 4294967288),(11,U (Qe hi lo)),(12,U (JaU lo))]) (L':=[]) (by simp only [e4]) (by rfl) ?_
 clear e4
 refine Jg [0,0,0] [(2,U 18446744073709551608),(8,U 3),(9,U 4294967295),(10,U 4294967288),(11,U (Qe hi lo)),(12,U (JaU lo)),(13,U ((JaU lo).fdiv (2 ^ 32)))] ?_
 have e5:(JaU lo).fdiv (2 ^ 32)=Qs lo:=rfl
 refine KJ (fr':=[(2,U 18446744073709551608),(8,U 3),(9,U 4294967295),(10,U 4294967288),(11,U (Qe hi lo)),(12,U (JaU lo)),(13,U (Qs lo))]) (L':=[]) (by simp only [e5]) (by rfl) ?_
 clear e5
 refine Jg [0,0,0] [(2,U 18446744073709551608),(8,U 3),(9,U 4294967295),(10,U 4294967288),(11,U (Qe hi lo)),(13,U (Qs lo)),(14,U (IntKind.u64.wrap ((BitVec.ofInt 64 (JaU lo) &&& BitVec.ofInt 64 4294967295).toNat:Int)))] ?_
 have e6:IntKind.u64.wrap ((BitVec.ofInt 64 (JaU lo) &&& BitVec.ofInt 64 4294967295).toNat:Int)=Q2 lo:=rfl
 refine KJ (fr':=[(2,U 18446744073709551608),(8,U 3),(9,U 4294967295),(10,U 4294967288),(11,U (Qe hi lo)),(13,U (Qs lo)),(14,U (Q2 lo))]) (L':=[]) (by simp only [e6]) (by rfl) ?_
 clear e6
 refine Jg [0,0,0,0] [(2,U 18446744073709551608),(8,U 3),(9,U 4294967295),(10,U 4294967288),(11,U (Qe hi lo)),(13,U (Qs lo)),(14,U (Q2 lo)),(15,U (IntKind.u64.wrap ((Qe hi lo).tdiv 4294967295)))] ?_
 refine Jg [0,0,0,0,0,0] [(2,U 18446744073709551608),(8,U 3),(9,U 4294967295),(10,U 4294967288),(11,U (Qe hi lo)),(13,U (Qs lo)),(14,U (Q2 lo)),(15,U (IntKind.u64.wrap ((Qe hi lo).tdiv 4294967295))),(16,U (IntKind.u64.wrap ((Qe hi lo)-(IntKind.u64.wrap ((IntKind.u64.wrap ((Qe hi lo).tdiv 4294967295))*4294967295)))))] (Je (Jy ?_))
 refine Qb (σ:=Int×Int) (fun s=>(VY (Qe hi lo) (Qs lo) s.1 s.2)) (fun s=>[(2,U 18446744073709551608),(8,U 3),(9,U 4294967295),(10,U 4294967288),(11,U (Qe hi lo)),(13,U (Qs lo)),(14,U (Q2 lo)),(15,U s.1),(16,U s.2)]) (fun s=>G) (fun s=>[]) (fun s=>s.1.toNat) (IntKind.u64.wrap ((Qe hi lo).tdiv 4294967295),IntKind.u64.wrap (Qe hi lo-IntKind.u64.wrap (IntKind.u64.wrap ((Qe hi lo).tdiv 4294967295)*4294967295))) (Jb1 (JcY hx hy) (JcZ lo)) (fun s hs=>?_)
 obtain ⟨q,r⟩:=s
 have hI:=hs
 dsimp only at hI
 refine KJ (fr':=[(2,U 18446744073709551608),(8,U 3),(9,U 4294967295),(10,U 4294967288),(11,U (Qe hi lo)),(13,U (Qs lo)),(14,U (Q2 lo)),(15,U q),(16,U r)]) (L':=[]) rfl rfl ?_
 refine Je (Je (Jb ?_))
 refine Jc [0,0,0] [(2,U 18446744073709551608),(8,U 3),(9,U 4294967295),(10,U 4294967288),(11,U (Qe hi lo)),(13,U (Qs lo)),(14,U (Q2 lo)),(15,U q),(16,U r),(69,Bo (decide (q ≥ 4294967296)))] ?_
 refine Ky (decide (q ≥ 4294967296)) (fun bb=>[(2,U 18446744073709551608),(8,U 3),(9,U 4294967295),(10,U 4294967288),(11,U (Qe hi lo)),(13,U (Qs lo)),(14,U (Q2 lo)),(15,U q),(16,U r),(69,Bo bb)]) [1,1,1,1,1,1,1,1,0] [0,0,0,0,0,0,0,0,0] (fun bb=>[(2,U 18446744073709551608),(8,U 3),(9,U 4294967295),(10,U 4294967288),(11,U (Qe hi lo)),(13,U (Qs lo)),(14,U (Q2 lo)),(15,U q),(16,U r),(78,Bo (bb || (decide (IntKind.u64.wrap (q*4294967288) > IntKind.u64.wrap ((IntKind.u64.wrap (4294967296*r))+(Qs lo))))))]) ?_
 refine Jd (Ja ?_)
 refine Jo ((decide (q ≥ 4294967296)) || (decide (IntKind.u64.wrap (q*4294967288) > IntKind.u64.wrap ((IntKind.u64.wrap (4294967296*r))+(Qs lo))))) (fun h3=>?_) (fun h3=>?_)
 try simp only [BB] at h3
 refine Jm (Ja (Jy ?_))
 refine Jg [0,0,0] [(2,U 18446744073709551608),(8,U 3),(9,U 4294967295),(10,U 4294967288),(11,U (Qe hi lo)),(13,U (Qs lo)),(14,U (Q2 lo)),(15,U (IntKind.u64.wrap (q-1))),(16,U r)] ?_
 have e7:IntKind.u64.wrap (q-1)=q-1:=IntWalk.u64_in _ (by (have hm:=ZT hI ‹_›;have:=hI.e;have:=hI.u1;have:=hI.r0;have:=hI.r1;omega))
 refine KJ (fr':=[(2,U 18446744073709551608),(8,U 3),(9,U 4294967295),(10,U 4294967288),(11,U (Qe hi lo)),(13,U (Qs lo)),(14,U (Q2 lo)),(15,U (q-1)),(16,U r)]) (L':=[]) (by simp only [e7]) (by rfl) ?_
 clear e7
 refine Jg [0,0,0,0] [(2,U 18446744073709551608),(8,U 3),(9,U 4294967295),(10,U 4294967288),(11,U (Qe hi lo)),(13,U (Qs lo)),(14,U (Q2 lo)),(15,U (q-1)),(16,U (IntKind.u64.wrap (r+4294967295)))] ?_
 have e8:IntKind.u64.wrap (r+4294967295)=r+4294967295:=IntWalk.u64_in _ (by (have hm:=ZT hI ‹_›;have:=hI.e;have:=hI.u1;have:=hI.r0;have:=hI.r1;omega))
 refine KJ (fr':=[(2,U 18446744073709551608),(8,U 3),(9,U 4294967295),(10,U 4294967288),(11,U (Qe hi lo)),(13,U (Qs lo)),(14,U (Q2 lo)),(15,U (q-1)),(16,U (r+4294967295))]) (L':=[]) (by simp only [e8]) (by rfl) ?_
 clear e8
 refine Jg [0,0] [(2,U 18446744073709551608),(8,U 3),(9,U 4294967295),(10,U 4294967288),(11,U (Qe hi lo)),(13,U (Qs lo)),(14,U (Q2 lo)),(15,U (q-1)),(16,U (r+4294967295)),(85,Bo (decide (r+4294967295 ≥ 4294967296)))] ?_
 refine Jo (decide (r+4294967295 ≥ 4294967296)) (fun h4=>?_) (fun h4=>?_)
 try simp only [BB] at h4
 refine KU ?_
 refine Yz rfl ?_
 refine Ke (JW (Ja ?_))
 refine Jg [0,0,0,0,0,0,0,0,0] [(2,U 18446744073709551608),(8,U 3),(9,U 4294967295),(10,U 4294967288),(14,U (Q2 lo)),(15,U (q-1)),(17,U (IntKind.u64.wrap ((IntKind.u64.wrap ((IntKind.u64.wrap ((Qe hi lo)*4294967296))+(Qs lo)))-(IntKind.u64.wrap ((q-1)*18446744073709551608)))))] ?_
 have e9:IntKind.u64.wrap ((IntKind.u64.wrap ((IntKind.u64.wrap ((Qe hi lo)*4294967296))+(Qs lo)))-(IntKind.u64.wrap ((q-1)*18446744073709551608)))=QP (Qe hi lo) (Qs lo) (q-1):=rfl
 refine KJ (fr':=[(2,U 18446744073709551608),(8,U 3),(9,U 4294967295),(10,U 4294967288),(14,U (Q2 lo)),(15,U (q-1)),(17,U (QP (Qe hi lo) (Qs lo) (q-1)))]) (L':=[]) (by simp only [e9]) (by rfl) ?_
 clear e9
 refine Jg [0,0,0,0] [(2,U 18446744073709551608),(8,U 3),(9,U 4294967295),(10,U 4294967288),(14,U (Q2 lo)),(15,U (q-1)),(17,U (QP (Qe hi lo) (Qs lo) (q-1))),(18,U (IntKind.u64.wrap ((QP (Qe hi lo) (Qs lo) (q-1)).tdiv 4294967295)))] ?_
 refine Jg [0,0,0,0,0,0] [(2,U 18446744073709551608),(8,U 3),(9,U 4294967295),(10,U 4294967288),(14,U (Q2 lo)),(15,U (q-1)),(16,U (IntKind.u64.wrap ((QP (Qe hi lo) (Qs lo) (q-1))-(IntKind.u64.wrap ((IntKind.u64.wrap ((QP (Qe hi lo) (Qs lo) (q-1)).tdiv 4294967295))*4294967295))))),(17,U (QP (Qe hi lo) (Qs lo) (q-1))),(18,U (IntKind.u64.wrap ((QP (Qe hi lo) (Qs lo) (q-1)).tdiv 4294967295)))] (Je (Jy ?_))
 have hD1:Dig (Qe hi lo) (Qs lo) (q-1):=by exact Jb2 hI ‹_› (by omega)
 have hb1:=JcX hD1 (JcY hx hy).1 (JcZ lo).1
 refine Qb (σ:=Int×Int) (fun s=>(VY (QP (Qe hi lo) (Qs lo) (q-1)) (Q2 lo) s.1 s.2)) (fun s=>[(2,U 18446744073709551608),(8,U 3),(9,U 4294967295),(10,U 4294967288),(14,U (Q2 lo)),(15,U (q-1)),(16,U s.2),(17,U (QP (Qe hi lo) (Qs lo) (q-1))),(18,U s.1)]) (fun s=>G) (fun s=>[]) (fun s=>s.1.toNat) (IntKind.u64.wrap ((QP (Qe hi lo) (Qs lo) (q-1)).tdiv 4294967295),IntKind.u64.wrap (QP (Qe hi lo) (Qs lo) (q-1)-IntKind.u64.wrap (IntKind.u64.wrap ((QP (Qe hi lo) (Qs lo) (q-1)).tdiv 4294967295)*4294967295))) (Jb1 hb1.2 (Je9 lo)) (fun s hs=>?_)
 obtain ⟨q2,r2⟩:=s
 have hJ:=hs
 dsimp only at hJ
 refine KJ (fr':=[(2,U 18446744073709551608),(8,U 3),(9,U 4294967295),(10,U 4294967288),(14,U (Q2 lo)),(15,U (q-1)),(16,U r2),(17,U (QP (Qe hi lo) (Qs lo) (q-1))),(18,U q2)]) (L':=[]) rfl rfl ?_
 refine Je (Je (Jb ?_))
 refine Jc [0,0,0] [(2,U 18446744073709551608),(8,U 3),(9,U 4294967295),(10,U 4294967288),(14,U (Q2 lo)),(15,U (q-1)),(16,U r2),(17,U (QP (Qe hi lo) (Qs lo) (q-1))),(18,U q2),(104,Bo (decide (q2 ≥ 4294967296)))] ?_
 refine Ky (decide (q2 ≥ 4294967296)) (fun bb=>[(2,U 18446744073709551608),(8,U 3),(9,U 4294967295),(10,U 4294967288),(14,U (Q2 lo)),(15,U (q-1)),(16,U r2),(17,U (QP (Qe hi lo) (Qs lo) (q-1))),(18,U q2),(104,Bo bb)]) [1,1,1,1,1,1,1,1,0] [0,0,0,0,0,0,0,0,0] (fun bb=>[(2,U 18446744073709551608),(8,U 3),(9,U 4294967295),(10,U 4294967288),(14,U (Q2 lo)),(15,U (q-1)),(16,U r2),(17,U (QP (Qe hi lo) (Qs lo) (q-1))),(18,U q2),(113,Bo (bb || (decide (IntKind.u64.wrap (q2*4294967288) > IntKind.u64.wrap ((IntKind.u64.wrap (4294967296*r2))+(Q2 lo))))))]) ?_
 refine Jd (Ja ?_)
 refine Jo ((decide (q2 ≥ 4294967296)) || (decide (IntKind.u64.wrap (q2*4294967288) > IntKind.u64.wrap ((IntKind.u64.wrap (4294967296*r2))+(Q2 lo))))) (fun h5=>?_) (fun h5=>?_)
 try simp only [BB] at h5
 refine Jm (Ja (Jy ?_))
 refine Jg [0,0,0] [(2,U 18446744073709551608),(8,U 3),(9,U 4294967295),(10,U 4294967288),(14,U (Q2 lo)),(15,U (q-1)),(16,U r2),(17,U (QP (Qe hi lo) (Qs lo) (q-1))),(18,U (IntKind.u64.wrap (q2-1)))] ?_
 have e10:IntKind.u64.wrap (q2-1)=q2-1:=IntWalk.u64_in _ (by (have hm:=ZT hJ ‹_›;have:=hJ.e;have:=hJ.u1;have:=hJ.r0;have:=hJ.r1;omega))
 refine KJ (fr':=[(2,U 18446744073709551608),(8,U 3),(9,U 4294967295),(10,U 4294967288),(14,U (Q2 lo)),(15,U (q-1)),(16,U r2),(17,U (QP (Qe hi lo) (Qs lo) (q-1))),(18,U (q2-1))]) (L':=[]) (by simp only [e10]) (by rfl) ?_
 clear e10
 refine Jg [0,0,0,0] [(2,U 18446744073709551608),(8,U 3),(9,U 4294967295),(10,U 4294967288),(14,U (Q2 lo)),(15,U (q-1)),(16,U (IntKind.u64.wrap (r2+4294967295))),(17,U (QP (Qe hi lo) (Qs lo) (q-1))),(18,U (q2-1))] ?_
 have e11:IntKind.u64.wrap (r2+4294967295)=r2+4294967295:=IntWalk.u64_in _ (by (have hm:=ZT hJ ‹_›;have:=hJ.e;have:=hJ.u1;have:=hJ.r0;have:=hJ.r1;omega))
 refine KJ (fr':=[(2,U 18446744073709551608),(8,U 3),(9,U 4294967295),(10,U 4294967288),(14,U (Q2 lo)),(15,U (q-1)),(16,U (r2+4294967295)),(17,U (QP (Qe hi lo) (Qs lo) (q-1))),(18,U (q2-1))]) (L':=[]) (by simp only [e11]) (by rfl) ?_
 clear e11
 refine Jg [0,0] [(2,U 18446744073709551608),(8,U 3),(9,U 4294967295),(10,U 4294967288),(14,U (Q2 lo)),(15,U (q-1)),(16,U (r2+4294967295)),(17,U (QP (Qe hi lo) (Qs lo) (q-1))),(18,U (q2-1)),(120,Bo (decide (r2+4294967295 ≥ 4294967296)))] ?_
 refine Jo (decide (r2+4294967295 ≥ 4294967296)) (fun h6=>?_) (fun h6=>?_)
 try simp only [BB] at h6
 refine KU ?_
 refine Yz rfl ?_
 refine Ke (JW (Ja ?_))
 refine Jg [0,0,0,0,0,0,0,0,0,0,0,0,0,0,0,0] [(6,U (IntKind.u64.wrap ((IntKind.u64.wrap ((q-1)*4294967296))+(q2-1)))),(7,U ((IntKind.u64.wrap ((IntKind.u64.wrap ((IntKind.u64.wrap ((QP (Qe hi lo) (Qs lo) (q-1))*4294967296))+(Q2 lo)))-(IntKind.u64.wrap ((q2-1)*18446744073709551608)))).fdiv (2 ^ 3)))] ?_
 have e12:IntKind.u64.wrap ((IntKind.u64.wrap ((IntKind.u64.wrap ((QP (Qe hi lo) (Qs lo) (q-1))*4294967296))+(Q2 lo)))-(IntKind.u64.wrap ((q2-1)*18446744073709551608)))=QP (QP (Qe hi lo) (Qs lo) (q-1)) (Q2 lo) (q2-1):=rfl
 refine KJ (fr':=[(6,U (IntKind.u64.wrap ((IntKind.u64.wrap ((q-1)*4294967296))+(q2-1)))),(7,U ((QP (QP (Qe hi lo) (Qs lo) (q-1)) (Q2 lo) (q2-1)).fdiv (2 ^ 3)))]) (L':=[]) (by simp only [e12]) (by rfl) ?_
 clear e12
 refine Jk ?_
 refine Jl [0,0] [U (IntKind.u64.wrap ((IntKind.u64.wrap ((q-1)*4294967296))+(q2-1))),U ((QP (QP (Qe hi lo) (Qs lo) (q-1)) (Q2 lo) (q2-1)).fdiv (2 ^ 3))] (Jv (Jt.le_refl _) ?_)
 (have hD2:Dig _ _ _:=(by exact Jb2 hJ ‹_› (by omega));have he:=Jc0 hx hy hD1 hD2;exact congr (congrArg (fun a b=>Value.tuple #[U a,U b]) he.1) he.2)
 try simp only [BB] at h6
 refine Jm (JK ?_)
 exact Qd (q2-1,r2+4294967295) (Jdk hJ ‹_› (by omega)) (by dsimp only;have:=(ZT hJ ‹_›).1;omega)
 try simp only [BB] at h5
 refine KU (J3 (Ke (JW (Ja ?_))))
 refine Jg [0,0,0,0,0,0,0,0,0,0,0,0,0,0,0,0] [(6,U (IntKind.u64.wrap ((IntKind.u64.wrap ((q-1)*4294967296))+q2))),(7,U ((IntKind.u64.wrap ((IntKind.u64.wrap ((IntKind.u64.wrap ((QP (Qe hi lo) (Qs lo) (q-1))*4294967296))+(Q2 lo)))-(IntKind.u64.wrap (q2*18446744073709551608)))).fdiv (2 ^ 3)))] ?_
 have e13:IntKind.u64.wrap ((IntKind.u64.wrap ((IntKind.u64.wrap ((QP (Qe hi lo) (Qs lo) (q-1))*4294967296))+(Q2 lo)))-(IntKind.u64.wrap (q2*18446744073709551608)))=QP (QP (Qe hi lo) (Qs lo) (q-1)) (Q2 lo) q2:=rfl
 refine KJ (fr':=[(6,U (IntKind.u64.wrap ((IntKind.u64.wrap ((q-1)*4294967296))+q2))),(7,U ((QP (QP (Qe hi lo) (Qs lo) (q-1)) (Q2 lo) q2).fdiv (2 ^ 3)))]) (L':=[]) (by simp only [e13]) (by rfl) ?_
 clear e13
 refine Jk ?_
 refine Jl [0,0] [U (IntKind.u64.wrap ((IntKind.u64.wrap ((q-1)*4294967296))+q2)),U ((QP (QP (Qe hi lo) (Qs lo) (q-1)) (Q2 lo) q2).fdiv (2 ^ 3))] (Jv (Jt.le_refl _) ?_)
 (have hD2:Dig _ _ _:=(by exact Jdl hJ ‹_›);have he:=Jc0 hx hy hD1 hD2;exact congr (congrArg (fun a b=>Value.tuple #[U a,U b]) he.1) he.2)
 try simp only [BB] at h4
 refine Jm (JK ?_)
 exact Qd (q-1,r+4294967295) (Jdk hI ‹_› (by omega)) (by dsimp only;have:=(ZT hI ‹_›).1;omega)
 try simp only [BB] at h3
 refine KU (J3 (Ke (JW (Ja ?_))))
 refine Jg [0,0,0,0,0,0,0,0,0] [(2,U 18446744073709551608),(8,U 3),(9,U 4294967295),(10,U 4294967288),(14,U (Q2 lo)),(15,U q),(17,U (IntKind.u64.wrap ((IntKind.u64.wrap ((IntKind.u64.wrap ((Qe hi lo)*4294967296))+(Qs lo)))-(IntKind.u64.wrap (q*18446744073709551608)))))] ?_
 have e14:IntKind.u64.wrap ((IntKind.u64.wrap ((IntKind.u64.wrap ((Qe hi lo)*4294967296))+(Qs lo)))-(IntKind.u64.wrap (q*18446744073709551608)))=QP (Qe hi lo) (Qs lo) q:=rfl
 refine KJ (fr':=[(2,U 18446744073709551608),(8,U 3),(9,U 4294967295),(10,U 4294967288),(14,U (Q2 lo)),(15,U q),(17,U (QP (Qe hi lo) (Qs lo) q))]) (L':=[]) (by simp only [e14]) (by rfl) ?_
 clear e14
 refine Jg [0,0,0,0] [(2,U 18446744073709551608),(8,U 3),(9,U 4294967295),(10,U 4294967288),(14,U (Q2 lo)),(15,U q),(17,U (QP (Qe hi lo) (Qs lo) q)),(18,U (IntKind.u64.wrap ((QP (Qe hi lo) (Qs lo) q).tdiv 4294967295)))] ?_
 refine Jg [0,0,0,0,0,0] [(2,U 18446744073709551608),(8,U 3),(9,U 4294967295),(10,U 4294967288),(14,U (Q2 lo)),(15,U q),(16,U (IntKind.u64.wrap ((QP (Qe hi lo) (Qs lo) q)-(IntKind.u64.wrap ((IntKind.u64.wrap ((QP (Qe hi lo) (Qs lo) q).tdiv 4294967295))*4294967295))))),(17,U (QP (Qe hi lo) (Qs lo) q)),(18,U (IntKind.u64.wrap ((QP (Qe hi lo) (Qs lo) q).tdiv 4294967295)))] (Je (Jy ?_))
 have hD1:Dig (Qe hi lo) (Qs lo) q:=by exact Jdl hI ‹_›
 have hb1:=JcX hD1 (JcY hx hy).1 (JcZ lo).1
 refine Qb (σ:=Int×Int) (fun s=>(VY (QP (Qe hi lo) (Qs lo) q) (Q2 lo) s.1 s.2)) (fun s=>[(2,U 18446744073709551608),(8,U 3),(9,U 4294967295),(10,U 4294967288),(14,U (Q2 lo)),(15,U q),(16,U s.2),(17,U (QP (Qe hi lo) (Qs lo) q)),(18,U s.1)]) (fun s=>G) (fun s=>[]) (fun s=>s.1.toNat) (IntKind.u64.wrap ((QP (Qe hi lo) (Qs lo) q).tdiv 4294967295),IntKind.u64.wrap (QP (Qe hi lo) (Qs lo) q-IntKind.u64.wrap (IntKind.u64.wrap ((QP (Qe hi lo) (Qs lo) q).tdiv 4294967295)*4294967295))) (Jb1 hb1.2 (Je9 lo)) (fun s hs=>?_)
 obtain ⟨q2,r2⟩:=s
 have hJ:=hs
 dsimp only at hJ
 refine KJ (fr':=[(2,U 18446744073709551608),(8,U 3),(9,U 4294967295),(10,U 4294967288),(14,U (Q2 lo)),(15,U q),(16,U r2),(17,U (QP (Qe hi lo) (Qs lo) q)),(18,U q2)]) (L':=[]) rfl rfl ?_
 refine Je (Je (Jb ?_))
 refine Jc [0,0,0] [(2,U 18446744073709551608),(8,U 3),(9,U 4294967295),(10,U 4294967288),(14,U (Q2 lo)),(15,U q),(16,U r2),(17,U (QP (Qe hi lo) (Qs lo) q)),(18,U q2),(104,Bo (decide (q2 ≥ 4294967296)))] ?_
 refine Ky (decide (q2 ≥ 4294967296)) (fun bb=>[(2,U 18446744073709551608),(8,U 3),(9,U 4294967295),(10,U 4294967288),(14,U (Q2 lo)),(15,U q),(16,U r2),(17,U (QP (Qe hi lo) (Qs lo) q)),(18,U q2),(104,Bo bb)]) [1,1,1,1,1,1,1,1,0] [0,0,0,0,0,0,0,0,0] (fun bb=>[(2,U 18446744073709551608),(8,U 3),(9,U 4294967295),(10,U 4294967288),(14,U (Q2 lo)),(15,U q),(16,U r2),(17,U (QP (Qe hi lo) (Qs lo) q)),(18,U q2),(113,Bo (bb || (decide (IntKind.u64.wrap (q2*4294967288) > IntKind.u64.wrap ((IntKind.u64.wrap (4294967296*r2))+(Q2 lo))))))]) ?_
 refine Jd (Ja ?_)
 refine Jo ((decide (q2 ≥ 4294967296)) || (decide (IntKind.u64.wrap (q2*4294967288) > IntKind.u64.wrap ((IntKind.u64.wrap (4294967296*r2))+(Q2 lo))))) (fun h7=>?_) (fun h7=>?_)
 try simp only [BB] at h7
 refine Jm (Ja (Jy ?_))
 refine Jg [0,0,0] [(2,U 18446744073709551608),(8,U 3),(9,U 4294967295),(10,U 4294967288),(14,U (Q2 lo)),(15,U q),(16,U r2),(17,U (QP (Qe hi lo) (Qs lo) q)),(18,U (IntKind.u64.wrap (q2-1)))] ?_
 have e15:IntKind.u64.wrap (q2-1)=q2-1:=IntWalk.u64_in _ (by (have hm:=ZT hJ ‹_›;have:=hJ.e;have:=hJ.u1;have:=hJ.r0;have:=hJ.r1;omega))
 refine KJ (fr':=[(2,U 18446744073709551608),(8,U 3),(9,U 4294967295),(10,U 4294967288),(14,U (Q2 lo)),(15,U q),(16,U r2),(17,U (QP (Qe hi lo) (Qs lo) q)),(18,U (q2-1))]) (L':=[]) (by simp only [e15]) (by rfl) ?_
 clear e15
 refine Jg [0,0,0,0] [(2,U 18446744073709551608),(8,U 3),(9,U 4294967295),(10,U 4294967288),(14,U (Q2 lo)),(15,U q),(16,U (IntKind.u64.wrap (r2+4294967295))),(17,U (QP (Qe hi lo) (Qs lo) q)),(18,U (q2-1))] ?_
 have e16:IntKind.u64.wrap (r2+4294967295)=r2+4294967295:=IntWalk.u64_in _ (by (have hm:=ZT hJ ‹_›;have:=hJ.e;have:=hJ.u1;have:=hJ.r0;have:=hJ.r1;omega))
 refine KJ (fr':=[(2,U 18446744073709551608),(8,U 3),(9,U 4294967295),(10,U 4294967288),(14,U (Q2 lo)),(15,U q),(16,U (r2+4294967295)),(17,U (QP (Qe hi lo) (Qs lo) q)),(18,U (q2-1))]) (L':=[]) (by simp only [e16]) (by rfl) ?_
 clear e16
 refine Jg [0,0] [(2,U 18446744073709551608),(8,U 3),(9,U 4294967295),(10,U 4294967288),(14,U (Q2 lo)),(15,U q),(16,U (r2+4294967295)),(17,U (QP (Qe hi lo) (Qs lo) q)),(18,U (q2-1)),(120,Bo (decide (r2+4294967295 ≥ 4294967296)))] ?_
 refine Jo (decide (r2+4294967295 ≥ 4294967296)) (fun h8=>?_) (fun h8=>?_)
 try simp only [BB] at h8
 refine KU ?_
 refine Yz rfl ?_
 refine Ke (JW (Ja ?_))
 refine Jg [0,0,0,0,0,0,0,0,0,0,0,0,0,0,0,0] [(6,U (IntKind.u64.wrap ((IntKind.u64.wrap (q*4294967296))+(q2-1)))),(7,U ((IntKind.u64.wrap ((IntKind.u64.wrap ((IntKind.u64.wrap ((QP (Qe hi lo) (Qs lo) q)*4294967296))+(Q2 lo)))-(IntKind.u64.wrap ((q2-1)*18446744073709551608)))).fdiv (2 ^ 3)))] ?_
 have e17:IntKind.u64.wrap ((IntKind.u64.wrap ((IntKind.u64.wrap ((QP (Qe hi lo) (Qs lo) q)*4294967296))+(Q2 lo)))-(IntKind.u64.wrap ((q2-1)*18446744073709551608)))=QP (QP (Qe hi lo) (Qs lo) q) (Q2 lo) (q2-1):=rfl
 refine KJ (fr':=[(6,U (IntKind.u64.wrap ((IntKind.u64.wrap (q*4294967296))+(q2-1)))),(7,U ((QP (QP (Qe hi lo) (Qs lo) q) (Q2 lo) (q2-1)).fdiv (2 ^ 3)))]) (L':=[]) (by simp only [e17]) (by rfl) ?_
 clear e17
 refine Jk ?_
 refine Jl [0,0] [U (IntKind.u64.wrap ((IntKind.u64.wrap (q*4294967296))+(q2-1))),U ((QP (QP (Qe hi lo) (Qs lo) q) (Q2 lo) (q2-1)).fdiv (2 ^ 3))] (Jv (Jt.le_refl _) ?_)
 (have hD2:Dig _ _ _:=(by exact Jb2 hJ ‹_› (by omega));have he:=Jc0 hx hy hD1 hD2;exact congr (congrArg (fun a b=>Value.tuple #[U a,U b]) he.1) he.2)
 try simp only [BB] at h8
 refine Jm (JK ?_)
 exact Qd (q2-1,r2+4294967295) (Jdk hJ ‹_› (by omega)) (by dsimp only;have:=(ZT hJ ‹_›).1;omega)
 try simp only [BB] at h7
 refine KU (J3 (Ke (JW (Ja ?_))))
 refine Jg [0,0,0,0,0,0,0,0,0,0,0,0,0,0,0,0] [(6,U (IntKind.u64.wrap ((IntKind.u64.wrap (q*4294967296))+q2))),(7,U ((IntKind.u64.wrap ((IntKind.u64.wrap ((IntKind.u64.wrap ((QP (Qe hi lo) (Qs lo) q)*4294967296))+(Q2 lo)))-(IntKind.u64.wrap (q2*18446744073709551608)))).fdiv (2 ^ 3)))] ?_
 have e18:IntKind.u64.wrap ((IntKind.u64.wrap ((IntKind.u64.wrap ((QP (Qe hi lo) (Qs lo) q)*4294967296))+(Q2 lo)))-(IntKind.u64.wrap (q2*18446744073709551608)))=QP (QP (Qe hi lo) (Qs lo) q) (Q2 lo) q2:=rfl
 refine KJ (fr':=[(6,U (IntKind.u64.wrap ((IntKind.u64.wrap (q*4294967296))+q2))),(7,U ((QP (QP (Qe hi lo) (Qs lo) q) (Q2 lo) q2).fdiv (2 ^ 3)))]) (L':=[]) (by simp only [e18]) (by rfl) ?_
 clear e18
 refine Jk ?_
 refine Jl [0,0] [U (IntKind.u64.wrap ((IntKind.u64.wrap (q*4294967296))+q2)),U ((QP (QP (Qe hi lo) (Qs lo) q) (Q2 lo) q2).fdiv (2 ^ 3))] (Jv (Jt.le_refl _) ?_)
 (have hD2:Dig _ _ _:=(by exact Jdl hJ ‹_›);have he:=Jc0 hx hy hD1 hD2;exact congr (congrArg (fun a b=>Value.tuple #[U a,U b]) he.1) he.2)
theorem JiP (hi lo:Int) (hx:rU hi) (hy:rU lo) (G:Jt):QE Tryz.prog 202 #[U hi,U lo,U 2305843009213693951] G [] (fun u G' L'=>u=U ((hi*18446744073709551616+lo) % 2305843009213693951)):=by
 refine JL Tryz.func202 19 [(0,U hi),(1,U lo),(2,U 2305843009213693951)] rfl (fun w0 G0=>?_)
 refine Jg [0] [(0,U hi),(1,U lo),(2,U 2305843009213693951)] (Je (Jb ?_))
 refine Jc [0,0,0,0,0] [(12,U ((hi).tmod 2305843009213693951)),(13,U lo),(14,U 2305843009213693951)] ?_
 have e1:(hi).tmod 2305843009213693951=hi % 2305843009213693951:=IntWalk.rem_in _ _ (by omega)
 refine J2 (fr':=[(12,U (hi % 2305843009213693951)),(13,U lo),(14,U 2305843009213693951)]) (L':=[]) (by simp only [e1]) (by rfl) ?_
 clear e1
 refine Ji 15 (.tuple #[U (((hi % 2305843009213693951)*18446744073709551616+lo) / 2305843009213693951),U (((hi % 2305843009213693951)*18446744073709551616+lo) % 2305843009213693951)]) (JiO (hi % 2305843009213693951) lo (by omega) (by omega) G) ?_
 refine Jc [0,0,0,0,0] [(8,U (((hi % 2305843009213693951)*18446744073709551616+lo) % 2305843009213693951))] (Jd (Ja ?_))
 refine Jg [0,0] [(6,U (((hi % 2305843009213693951)*18446744073709551616+lo) % 2305843009213693951))] (Jk ?_)
 refine Jl [0] [U (((hi % 2305843009213693951)*18446744073709551616+lo) % 2305843009213693951)] (Jv (Jt.le_refl _) ?_)
 exact congrArg U (by omega)
theorem JiQ (a b:Int) (hx:rU a) (hy:rU b) (G:Jt):QE Tryz.prog 192 #[U a,U b] G [] (fun u G' L'=>u=U (Q6 a b)):=by
 refine JL Tryz.func192 16 [(0,U a),(1,U b)] rfl (fun w0 G0=>?_)
 refine Jg [0] [(0,U a),(1,U b)] (Je (Jb ?_))
 refine Jc [0,0] [(8,U a),(9,U b)] ?_
 refine Ji 10 (.tuple #[U (a*b / 18446744073709551616),U (a*b % 18446744073709551616)]) (JeE a b (by omega) (by omega) G) ?_
 refine Jc [0,0,0,0,0] [(5,U (a*b / 18446744073709551616)),(6,U (a*b % 18446744073709551616))] (Jd (Ja (Je (Jb ?_))))
 refine Jc [0,0] [(13,U (a*b / 18446744073709551616)),(14,U (a*b % 18446744073709551616))] ?_
 refine Ji 15 (U (((a*b / 18446744073709551616)*18446744073709551616+(a*b % 18446744073709551616)) % 2305843009213693951)) (JiP (a*b / 18446744073709551616) (a*b % 18446744073709551616) (by exact JiG (by omega) (by omega)) (by omega) G) ?_
 refine Jc [0] [(4,U (((a*b / 18446744073709551616)*18446744073709551616+(a*b % 18446744073709551616)) % 2305843009213693951))] (Jd (Ja (Jk ?_)))
 refine Jl [0] [U (((a*b / 18446744073709551616)*18446744073709551616+(a*b % 18446744073709551616)) % 2305843009213693951)] (Jv (Jt.le_refl _) ?_)
 exact congrArg U (by unfold Q6;omega)
end Go.Proofs.YtnnlpbjdignhaaaGreatDoor
