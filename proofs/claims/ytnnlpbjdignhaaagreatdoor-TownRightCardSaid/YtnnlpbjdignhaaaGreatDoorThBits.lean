import Derived.Test.YtnnlpbjdignhaaaGreatDoorThPl
namespace Go.Proofs.YtnnlpbjdignhaaaGreatDoor
open Go.Tx
set_option linter.unusedVariables false
set_option linter.unusedSimpArgs false
theorem JoD  (G:Jt):Con Tryz.prog 220 #[U 2305843009213693951] G [] (fun u G' L'=>u = I 61):=by
 refine JL Tryz.func220 25 [(0,U 2305843009213693951)] rfl (fun w0 G0=>?_)
 refine Jg [0] [(0,U 2305843009213693951),(2,I 0)] (Je ?_)
 refine Jg [0,0] [(0,U 2305843009213693951),(2,I 0),(4,Bo true)] ?_
 refine JT ?_
 refine Jg [0,0,0] [(0,U 536870911)] (Jb ?_)
 refine Jd [0] [(0,U 536870911),(2,I 32)] (Jc (Ja (Je ?_)))
 refine Jg [0,0] [(0,U 536870911),(2,I 32),(8,Bo true)] ?_
 refine JT ?_
 refine Jg [0,0,0] [(0,U 8191),(2,I 32)] (Jb ?_)
 refine Jd [0,0,0] [(0,U 8191),(2,I 48)] (Jc (Ja (Je ?_)))
 refine Jg [0,0] [(0,U 8191),(2,I 48),(14,Bo true)] ?_
 refine JT ?_
 refine Jg [0,0,0] [(0,U 31),(2,I 48)] (Jb ?_)
 refine Jd [0,0,0] [(0,U 31),(2,I 56)] (Jc (Ja ?_))
 refine Jg [0,0,0,0,0,0,0] [(2,I 61)] (Jk ?_)
 refine Jl [0] [I 61] (Jw (Jt.le_refl _) ?_)
 rfl
theorem JpU  (G:Jt):Con Tryz.prog 218 #[U 2305843009213693951] G [] (fun u G' L'=>u = I 3):=by
 refine JL Tryz.func218 6 [(0,U 2305843009213693951)] rfl (fun w0 G0=>?_)
 refine Jg [0] [(0,U 2305843009213693951)] (Je (Jb ?_))
 refine Jd [0] [(3,U 2305843009213693951)] ?_
 refine Ji 4 (I 61) (JoD  G) ?_
 refine Jd [0,0] [(2,I 3)] (Jc (Ja (Jk ?_)))
 refine Jl [0] [I 3] (Jw (Jt.le_refl _) ?_)
 rfl
theorem Jkx (x y:Int) (hx:rU x) (hy:rU y) (G:Jt):Con Tryz.prog 142 #[U x,U y] G [] (fun u G' L'=>u = .tuple #[U (x * y / 18446744073709551616),U (x * y % 18446744073709551616)]):=by
 refine JL Tryz.func142 51 [(0,U x),(1,U y)] rfl (fun w0 G0=>?_)
 refine Jg [0,0] [(0,U x),(1,U y)] ?_
 refine Jg [0,0,0] [(0,U x),(1,U y),(6,U (IntKind.u64.wrap ((BitVec.ofInt 64 x &&& BitVec.ofInt 64 4294967295).toNat:Int)))] ?_
 refine Jg [0,0,0] [(0,U x),(1,U y),(6,U (IntKind.u64.wrap ((BitVec.ofInt 64 x &&& BitVec.ofInt 64 4294967295).toNat:Int))),(7,U ((x).fdiv (2 ^ 32)))] ?_
 refine Jg [0,0,0] [(0,U x),(1,U y),(6,U (IntKind.u64.wrap ((BitVec.ofInt 64 x &&& BitVec.ofInt 64 4294967295).toNat:Int))),(7,U ((x).fdiv (2 ^ 32))),(8,U (IntKind.u64.wrap ((BitVec.ofInt 64 y &&& BitVec.ofInt 64 4294967295).toNat:Int)))] ?_
 refine Jg [0,0,0] [(0,U x),(1,U y),(6,U (IntKind.u64.wrap ((BitVec.ofInt 64 x &&& BitVec.ofInt 64 4294967295).toNat:Int))),(7,U ((x).fdiv (2 ^ 32))),(8,U (IntKind.u64.wrap ((BitVec.ofInt 64 y &&& BitVec.ofInt 64 4294967295).toNat:Int))),(9,U ((y).fdiv (2 ^ 32)))] ?_
 refine Jg [0,0,0,0] [(0,U x),(1,U y),(6,U (IntKind.u64.wrap ((BitVec.ofInt 64 x &&& BitVec.ofInt 64 4294967295).toNat:Int))),(7,U ((x).fdiv (2 ^ 32))),(8,U (IntKind.u64.wrap ((BitVec.ofInt 64 y &&& BitVec.ofInt 64 4294967295).toNat:Int))),(9,U ((y).fdiv (2 ^ 32))),(10,U (IntKind.u64.wrap ((IntKind.u64.wrap ((BitVec.ofInt 64 x &&& BitVec.ofInt 64 4294967295).toNat:Int)) * (IntKind.u64.wrap ((BitVec.ofInt 64 y &&& BitVec.ofInt 64 4294967295).toNat:Int)))))] ?_
 refine Jg [0,0,0,0,0,0,0] [(0,U x),(1,U y),(6,U (IntKind.u64.wrap ((BitVec.ofInt 64 x &&& BitVec.ofInt 64 4294967295).toNat:Int))),(7,U ((x).fdiv (2 ^ 32))),(9,U ((y).fdiv (2 ^ 32))),(11,U (IntKind.u64.wrap ((IntKind.u64.wrap (((x).fdiv (2 ^ 32)) * (IntKind.u64.wrap ((BitVec.ofInt 64 y &&& BitVec.ofInt 64 4294967295).toNat:Int)))) + ((IntKind.u64.wrap ((IntKind.u64.wrap ((BitVec.ofInt 64 x &&& BitVec.ofInt 64 4294967295).toNat:Int)) * (IntKind.u64.wrap ((BitVec.ofInt 64 y &&& BitVec.ofInt 64 4294967295).toNat:Int)))).fdiv (2 ^ 32)))))] ?_
 refine Jg [0,0,0] [(0,U x),(1,U y),(6,U (IntKind.u64.wrap ((BitVec.ofInt 64 x &&& BitVec.ofInt 64 4294967295).toNat:Int))),(7,U ((x).fdiv (2 ^ 32))),(9,U ((y).fdiv (2 ^ 32))),(11,U (IntKind.u64.wrap ((IntKind.u64.wrap (((x).fdiv (2 ^ 32)) * (IntKind.u64.wrap ((BitVec.ofInt 64 y &&& BitVec.ofInt 64 4294967295).toNat:Int)))) + ((IntKind.u64.wrap ((IntKind.u64.wrap ((BitVec.ofInt 64 x &&& BitVec.ofInt 64 4294967295).toNat:Int)) * (IntKind.u64.wrap ((BitVec.ofInt 64 y &&& BitVec.ofInt 64 4294967295).toNat:Int)))).fdiv (2 ^ 32))))),(12,U (IntKind.u64.wrap ((BitVec.ofInt 64 (IntKind.u64.wrap ((IntKind.u64.wrap (((x).fdiv (2 ^ 32)) * (IntKind.u64.wrap ((BitVec.ofInt 64 y &&& BitVec.ofInt 64 4294967295).toNat:Int)))) + ((IntKind.u64.wrap ((IntKind.u64.wrap ((BitVec.ofInt 64 x &&& BitVec.ofInt 64 4294967295).toNat:Int)) * (IntKind.u64.wrap ((BitVec.ofInt 64 y &&& BitVec.ofInt 64 4294967295).toNat:Int)))).fdiv (2 ^ 32)))) &&& BitVec.ofInt 64 4294967295).toNat:Int)))] ?_
 refine Jg [0,0,0] [(0,U x),(1,U y),(6,U (IntKind.u64.wrap ((BitVec.ofInt 64 x &&& BitVec.ofInt 64 4294967295).toNat:Int))),(7,U ((x).fdiv (2 ^ 32))),(9,U ((y).fdiv (2 ^ 32))),(12,U (IntKind.u64.wrap ((BitVec.ofInt 64 (IntKind.u64.wrap ((IntKind.u64.wrap (((x).fdiv (2 ^ 32)) * (IntKind.u64.wrap ((BitVec.ofInt 64 y &&& BitVec.ofInt 64 4294967295).toNat:Int)))) + ((IntKind.u64.wrap ((IntKind.u64.wrap ((BitVec.ofInt 64 x &&& BitVec.ofInt 64 4294967295).toNat:Int)) * (IntKind.u64.wrap ((BitVec.ofInt 64 y &&& BitVec.ofInt 64 4294967295).toNat:Int)))).fdiv (2 ^ 32)))) &&& BitVec.ofInt 64 4294967295).toNat:Int))),(13,U ((IntKind.u64.wrap ((IntKind.u64.wrap (((x).fdiv (2 ^ 32)) * (IntKind.u64.wrap ((BitVec.ofInt 64 y &&& BitVec.ofInt 64 4294967295).toNat:Int)))) + ((IntKind.u64.wrap ((IntKind.u64.wrap ((BitVec.ofInt 64 x &&& BitVec.ofInt 64 4294967295).toNat:Int)) * (IntKind.u64.wrap ((BitVec.ofInt 64 y &&& BitVec.ofInt 64 4294967295).toNat:Int)))).fdiv (2 ^ 32)))).fdiv (2 ^ 32)))] ?_
 refine Jg [0,0,0,0,0,0] [(0,U x),(1,U y),(7,U ((x).fdiv (2 ^ 32))),(9,U ((y).fdiv (2 ^ 32))),(12,U (IntKind.u64.wrap ((IntKind.u64.wrap ((BitVec.ofInt 64 (IntKind.u64.wrap ((IntKind.u64.wrap (((x).fdiv (2 ^ 32)) * (IntKind.u64.wrap ((BitVec.ofInt 64 y &&& BitVec.ofInt 64 4294967295).toNat:Int)))) + ((IntKind.u64.wrap ((IntKind.u64.wrap ((BitVec.ofInt 64 x &&& BitVec.ofInt 64 4294967295).toNat:Int)) * (IntKind.u64.wrap ((BitVec.ofInt 64 y &&& BitVec.ofInt 64 4294967295).toNat:Int)))).fdiv (2 ^ 32)))) &&& BitVec.ofInt 64 4294967295).toNat:Int)) + (IntKind.u64.wrap ((IntKind.u64.wrap ((BitVec.ofInt 64 x &&& BitVec.ofInt 64 4294967295).toNat:Int)) * ((y).fdiv (2 ^ 32))))))),(13,U ((IntKind.u64.wrap ((IntKind.u64.wrap (((x).fdiv (2 ^ 32)) * (IntKind.u64.wrap ((BitVec.ofInt 64 y &&& BitVec.ofInt 64 4294967295).toNat:Int)))) + ((IntKind.u64.wrap ((IntKind.u64.wrap ((BitVec.ofInt 64 x &&& BitVec.ofInt 64 4294967295).toNat:Int)) * (IntKind.u64.wrap ((BitVec.ofInt 64 y &&& BitVec.ofInt 64 4294967295).toNat:Int)))).fdiv (2 ^ 32)))).fdiv (2 ^ 32)))] ?_
 refine Jg [0,0,0,0,0,0,0,0,0] [(0,U x),(1,U y),(4,U (IntKind.u64.wrap ((IntKind.u64.wrap ((IntKind.u64.wrap (((x).fdiv (2 ^ 32)) * ((y).fdiv (2 ^ 32)))) + ((IntKind.u64.wrap ((IntKind.u64.wrap (((x).fdiv (2 ^ 32)) * (IntKind.u64.wrap ((BitVec.ofInt 64 y &&& BitVec.ofInt 64 4294967295).toNat:Int)))) + ((IntKind.u64.wrap ((IntKind.u64.wrap ((BitVec.ofInt 64 x &&& BitVec.ofInt 64 4294967295).toNat:Int)) * (IntKind.u64.wrap ((BitVec.ofInt 64 y &&& BitVec.ofInt 64 4294967295).toNat:Int)))).fdiv (2 ^ 32)))).fdiv (2 ^ 32)))) + ((IntKind.u64.wrap ((IntKind.u64.wrap ((BitVec.ofInt 64 (IntKind.u64.wrap ((IntKind.u64.wrap (((x).fdiv (2 ^ 32)) * (IntKind.u64.wrap ((BitVec.ofInt 64 y &&& BitVec.ofInt 64 4294967295).toNat:Int)))) + ((IntKind.u64.wrap ((IntKind.u64.wrap ((BitVec.ofInt 64 x &&& BitVec.ofInt 64 4294967295).toNat:Int)) * (IntKind.u64.wrap ((BitVec.ofInt 64 y &&& BitVec.ofInt 64 4294967295).toNat:Int)))).fdiv (2 ^ 32)))) &&& BitVec.ofInt 64 4294967295).toNat:Int)) + (IntKind.u64.wrap ((IntKind.u64.wrap ((BitVec.ofInt 64 x &&& BitVec.ofInt 64 4294967295).toNat:Int)) * ((y).fdiv (2 ^ 32)))))).fdiv (2 ^ 32)))))] ?_
 refine Jg [0,0,0,0] [(4,U (IntKind.u64.wrap ((IntKind.u64.wrap ((IntKind.u64.wrap (((x).fdiv (2 ^ 32)) * ((y).fdiv (2 ^ 32)))) + ((IntKind.u64.wrap ((IntKind.u64.wrap (((x).fdiv (2 ^ 32)) * (IntKind.u64.wrap ((BitVec.ofInt 64 y &&& BitVec.ofInt 64 4294967295).toNat:Int)))) + ((IntKind.u64.wrap ((IntKind.u64.wrap ((BitVec.ofInt 64 x &&& BitVec.ofInt 64 4294967295).toNat:Int)) * (IntKind.u64.wrap ((BitVec.ofInt 64 y &&& BitVec.ofInt 64 4294967295).toNat:Int)))).fdiv (2 ^ 32)))).fdiv (2 ^ 32)))) + ((IntKind.u64.wrap ((IntKind.u64.wrap ((BitVec.ofInt 64 (IntKind.u64.wrap ((IntKind.u64.wrap (((x).fdiv (2 ^ 32)) * (IntKind.u64.wrap ((BitVec.ofInt 64 y &&& BitVec.ofInt 64 4294967295).toNat:Int)))) + ((IntKind.u64.wrap ((IntKind.u64.wrap ((BitVec.ofInt 64 x &&& BitVec.ofInt 64 4294967295).toNat:Int)) * (IntKind.u64.wrap ((BitVec.ofInt 64 y &&& BitVec.ofInt 64 4294967295).toNat:Int)))).fdiv (2 ^ 32)))) &&& BitVec.ofInt 64 4294967295).toNat:Int)) + (IntKind.u64.wrap ((IntKind.u64.wrap ((BitVec.ofInt 64 x &&& BitVec.ofInt 64 4294967295).toNat:Int)) * ((y).fdiv (2 ^ 32)))))).fdiv (2 ^ 32))))),(5,U (IntKind.u64.wrap (x * y)))] (Jk ?_)
 refine Jl [0,0] [U (IntKind.u64.wrap ((IntKind.u64.wrap ((IntKind.u64.wrap (((x).fdiv (2 ^ 32)) * ((y).fdiv (2 ^ 32)))) + ((IntKind.u64.wrap ((IntKind.u64.wrap (((x).fdiv (2 ^ 32)) * (IntKind.u64.wrap ((BitVec.ofInt 64 y &&& BitVec.ofInt 64 4294967295).toNat:Int)))) + ((IntKind.u64.wrap ((IntKind.u64.wrap ((BitVec.ofInt 64 x &&& BitVec.ofInt 64 4294967295).toNat:Int)) * (IntKind.u64.wrap ((BitVec.ofInt 64 y &&& BitVec.ofInt 64 4294967295).toNat:Int)))).fdiv (2 ^ 32)))).fdiv (2 ^ 32)))) + ((IntKind.u64.wrap ((IntKind.u64.wrap ((BitVec.ofInt 64 (IntKind.u64.wrap ((IntKind.u64.wrap (((x).fdiv (2 ^ 32)) * (IntKind.u64.wrap ((BitVec.ofInt 64 y &&& BitVec.ofInt 64 4294967295).toNat:Int)))) + ((IntKind.u64.wrap ((IntKind.u64.wrap ((BitVec.ofInt 64 x &&& BitVec.ofInt 64 4294967295).toNat:Int)) * (IntKind.u64.wrap ((BitVec.ofInt 64 y &&& BitVec.ofInt 64 4294967295).toNat:Int)))).fdiv (2 ^ 32)))) &&& BitVec.ofInt 64 4294967295).toNat:Int)) + (IntKind.u64.wrap ((IntKind.u64.wrap ((BitVec.ofInt 64 x &&& BitVec.ofInt 64 4294967295).toNat:Int)) * ((y).fdiv (2 ^ 32)))))).fdiv (2 ^ 32)))),U (IntKind.u64.wrap (x * y))] (Jw (Jt.le_refl _) ?_)
 exact congr (congrArg (fun a b=>Value.tuple #[U a,U b]) (JpI hx hy)) (JgE _)
set_option maxRecDepth 20000 in
theorem JoE (hi lo:Int) (hx:0 ≤ hi ∧ hi < 2305843009213693951) (hy:rU lo) (G:Jt):Con Tryz.prog 214 #[U hi,U lo,U 2305843009213693951] G [] (fun u G' L'=>u = .tuple #[U ((hi * 18446744073709551616 + lo) / 2305843009213693951),U ((hi * 18446744073709551616 + lo) % 2305843009213693951)]):=by
 refine JL Tryz.func214 135 [(0,U hi),(1,U lo),(2,U 2305843009213693951)] rfl (fun w0 G0=>?_)
 refine Jg [0,0] [(0,U hi),(1,U lo),(2,U 2305843009213693951)] (Je ?_)
 refine Jg [0,0] [(0,U hi),(1,U lo),(2,U 2305843009213693951),(20,Bo false)] ?_
 refine Jbk ?_
 refine Jn (Ja (Je ?_))
 refine Jg [0,0,0] [(0,U hi),(1,U lo),(2,U 2305843009213693951),(24,Bo (decide (2305843009213693951 ≤ hi)))] ?_
 refine Jo (decide (2305843009213693951 ≤ hi)) (fun h1=>?_) (fun h1=>?_)
 try simp only [BB] at h1
 exfalso;omega
 try simp only [BB] at h1
 refine Jn (Ja (Je ?_))
 refine Jg [0,0] [(0,U hi),(1,U lo),(2,U 2305843009213693951),(27,Bo (decide (hi = 0)))] ?_
 refine Jo (decide (hi = 0)) (fun h2=>?_) (fun h2=>?_)
 try simp only [BB] at h2
 refine Je ?_
 have e1:IntKind.u64.wrap ((lo).tdiv 2305843009213693951) = lo / 2305843009213693951:=IntWalk.u64_quo _ _ (by omega)
 have e2:(lo).tmod 2305843009213693951 = lo % 2305843009213693951:=IntWalk.rem_in _ _ (by omega)
 refine Jau [] ?_
 refine Jb6 [(0,U lo),(1,U 2305843009213693951),(2,U (lo / 2305843009213693951)),(3,U lo),(4,U 2305843009213693951),(5,U (lo % 2305843009213693951)),(6,U (lo / 2305843009213693951)),(7,U (lo % 2305843009213693951))] ?_
 refine Jav [] [(0,0),(1,0),(3,0),(4,0),(6,0),(7,0)] [2,5] [(6,U (lo / 2305843009213693951)),(7,U (lo % 2305843009213693951))] (List.forall_mem_cons.2 ⟨?_,(List.forall_mem_cons.2 ⟨?_,List.forall_mem_nil _⟩)⟩) ?_
 refine Jq 2 30 (U (lo / 2305843009213693951)) [(28,U lo),(29,U 2305843009213693951)] (fun X=>?_)
 exact JaI 30 (U (IntKind.u64.wrap ((lo).tdiv 2305843009213693951))) (U (lo / 2305843009213693951)) (by simp only [e1]) Jm
 refine Jq 5 33 (U (lo % 2305843009213693951)) [(31,U lo),(32,U 2305843009213693951)] (fun X=>?_)
 exact JaI 33 (U ((lo).tmod 2305843009213693951)) (U (lo % 2305843009213693951)) (by simp only [e2]) Jm
 refine Ja (Jk (Jh ?_))
 refine Jl [0,0] [U (lo / 2305843009213693951),U (lo % 2305843009213693951)] (Jw (Jt.le_refl _) ?_)
 · (subst h2;simp [JM];done)
 try simp only [BB] at h2
 refine Jn (Ja (Je (Jb ?_)))
 refine Jd [0] [(0,U hi),(1,U lo),(2,U 2305843009213693951),(34,U 2305843009213693951)] ?_
 refine Ji 35 (I 3) (JpU  G) ?_
 refine Jd [0,0] [(0,U hi),(1,U lo),(2,U 2305843009213693951),(8,U 3)] (Jc (Ja ?_))
 refine Jg [0,0,0,0] [(0,U hi),(1,U lo),(2,U 18446744073709551608),(8,U 3)] ?_
 refine Jg [0,0,0] [(0,U hi),(1,U lo),(2,U 18446744073709551608),(8,U 3),(9,U 4294967295)] ?_
 refine Jg [0,0,0] [(0,U hi),(1,U lo),(2,U 18446744073709551608),(8,U 3),(9,U 4294967295),(10,U 4294967288)] ?_
 refine Jg [0,0,0,0,0,0,0,0,0] [(1,U lo),(2,U 18446744073709551608),(8,U 3),(9,U 4294967295),(10,U 4294967288),(11,U (IntKind.u64.wrap ((BitVec.ofInt 64 (IntKind.u64.wrap (hi * 2 ^ 3)) ||| BitVec.ofInt 64 ((lo).fdiv (2 ^ 61))).toNat:Int)))] ?_
 have e3:IntKind.u64.wrap ((BitVec.ofInt 64 (IntKind.u64.wrap (hi * 2 ^ 3)) ||| BitVec.ofInt 64 ((lo).fdiv (2 ^ 61))).toNat:Int) = Jbb hi lo:=rfl
 refine JaJ (fr':=[(1,U lo),(2,U 18446744073709551608),(8,U 3),(9,U 4294967295),(10,U 4294967288),(11,U (Jbb hi lo))]) (L':=[]) (by simp only [e3]) (by rfl) ?_
 clear e3
 refine Jg [0,0,0,0] [(2,U 18446744073709551608),(8,U 3),(9,U 4294967295),(10,U 4294967288),(11,U (Jbb hi lo)),(12,U (IntKind.u64.wrap (lo * 2 ^ 3)))] ?_
 have e4:IntKind.u64.wrap (lo * 2 ^ 3) = JgL lo:=rfl
 refine JaJ (fr':=[(2,U 18446744073709551608),(8,U 3),(9,U 4294967295),(10,U 4294967288),(11,U (Jbb hi lo)),(12,U (JgL lo))]) (L':=[]) (by simp only [e4]) (by rfl) ?_
 clear e4
 refine Jg [0,0,0] [(2,U 18446744073709551608),(8,U 3),(9,U 4294967295),(10,U 4294967288),(11,U (Jbb hi lo)),(12,U (JgL lo)),(13,U ((JgL lo).fdiv (2 ^ 32)))] ?_
 have e5:(JgL lo).fdiv (2 ^ 32) = Jbr lo:=rfl
 refine JaJ (fr':=[(2,U 18446744073709551608),(8,U 3),(9,U 4294967295),(10,U 4294967288),(11,U (Jbb hi lo)),(12,U (JgL lo)),(13,U (Jbr lo))]) (L':=[]) (by simp only [e5]) (by rfl) ?_
 clear e5
 refine Jg [0,0,0] [(2,U 18446744073709551608),(8,U 3),(9,U 4294967295),(10,U 4294967288),(11,U (Jbb hi lo)),(13,U (Jbr lo)),(14,U (IntKind.u64.wrap ((BitVec.ofInt 64 (JgL lo) &&& BitVec.ofInt 64 4294967295).toNat:Int)))] ?_
 have e6:IntKind.u64.wrap ((BitVec.ofInt 64 (JgL lo) &&& BitVec.ofInt 64 4294967295).toNat:Int) = JbY lo:=rfl
 refine JaJ (fr':=[(2,U 18446744073709551608),(8,U 3),(9,U 4294967295),(10,U 4294967288),(11,U (Jbb hi lo)),(13,U (Jbr lo)),(14,U (JbY lo))]) (L':=[]) (by simp only [e6]) (by rfl) ?_
 clear e6
 refine Jg [0,0,0,0] [(2,U 18446744073709551608),(8,U 3),(9,U 4294967295),(10,U 4294967288),(11,U (Jbb hi lo)),(13,U (Jbr lo)),(14,U (JbY lo)),(15,U (IntKind.u64.wrap ((Jbb hi lo).tdiv 4294967295)))] ?_
 refine Jg [0,0,0,0,0,0] [(2,U 18446744073709551608),(8,U 3),(9,U 4294967295),(10,U 4294967288),(11,U (Jbb hi lo)),(13,U (Jbr lo)),(14,U (JbY lo)),(15,U (IntKind.u64.wrap ((Jbb hi lo).tdiv 4294967295))),(16,U (IntKind.u64.wrap ((Jbb hi lo) - (IntKind.u64.wrap ((IntKind.u64.wrap ((Jbb hi lo).tdiv 4294967295)) * 4294967295)))))] (Je (Jy ?_))
 refine Ja8 (σ:=Int × Int) (fun s=>(JfQ (Jbb hi lo) (Jbr lo) s.1 s.2)) (fun s=>[(2,U 18446744073709551608),(8,U 3),(9,U 4294967295),(10,U 4294967288),(11,U (Jbb hi lo)),(13,U (Jbr lo)),(14,U (JbY lo)),(15,U s.1),(16,U s.2)]) (fun s=>G) (fun s=>[]) (fun s=>s.1.toNat) (IntKind.u64.wrap ((Jbb hi lo).tdiv 4294967295),IntKind.u64.wrap (Jbb hi lo - IntKind.u64.wrap (IntKind.u64.wrap ((Jbb hi lo).tdiv 4294967295) * 4294967295))) (JhU (JiS hx hy) (JiT lo)) (fun s hs=>?_)
 obtain ⟨q,r⟩:=s
 have hI:=hs
 dsimp only at hI
 refine JaJ (fr':=[(2,U 18446744073709551608),(8,U 3),(9,U 4294967295),(10,U 4294967288),(11,U (Jbb hi lo)),(13,U (Jbr lo)),(14,U (JbY lo)),(15,U q),(16,U r)]) (L':=[]) rfl rfl ?_
 refine Je (Je (Jb ?_))
 refine Jd [0,0,0] [(2,U 18446744073709551608),(8,U 3),(9,U 4294967295),(10,U 4294967288),(11,U (Jbb hi lo)),(13,U (Jbr lo)),(14,U (JbY lo)),(15,U q),(16,U r),(69,Bo (decide (q ≥ 4294967296)))] ?_
 refine Jay (decide (q ≥ 4294967296)) (fun bb=>[(2,U 18446744073709551608),(8,U 3),(9,U 4294967295),(10,U 4294967288),(11,U (Jbb hi lo)),(13,U (Jbr lo)),(14,U (JbY lo)),(15,U q),(16,U r),(69,Bo bb)]) [1,1,1,1,1,1,1,1,0] [0,0,0,0,0,0,0,0,0] (fun bb=>[(2,U 18446744073709551608),(8,U 3),(9,U 4294967295),(10,U 4294967288),(11,U (Jbb hi lo)),(13,U (Jbr lo)),(14,U (JbY lo)),(15,U q),(16,U r),(78,Bo (bb || (decide (IntKind.u64.wrap (q * 4294967288) > IntKind.u64.wrap ((IntKind.u64.wrap (4294967296 * r)) + (Jbr lo))))))]) ?_
 refine Jc (Ja ?_)
 refine Jo ((decide (q ≥ 4294967296)) || (decide (IntKind.u64.wrap (q * 4294967288) > IntKind.u64.wrap ((IntKind.u64.wrap (4294967296 * r)) + (Jbr lo))))) (fun h3=>?_) (fun h3=>?_)
 try simp only [BB] at h3
 refine Jn (Ja (Jy ?_))
 refine Jg [0,0,0] [(2,U 18446744073709551608),(8,U 3),(9,U 4294967295),(10,U 4294967288),(11,U (Jbb hi lo)),(13,U (Jbr lo)),(14,U (JbY lo)),(15,U (IntKind.u64.wrap (q - 1))),(16,U r)] ?_
 have e7:IntKind.u64.wrap (q - 1) = q - 1:=IntWalk.u64_in _ (by (have hm:=JdU hI ‹_›;have:=hI.e;have:=hI.u1;have:=hI.r0;have:=hI.r1;omega))
 refine JaJ (fr':=[(2,U 18446744073709551608),(8,U 3),(9,U 4294967295),(10,U 4294967288),(11,U (Jbb hi lo)),(13,U (Jbr lo)),(14,U (JbY lo)),(15,U (q - 1)),(16,U r)]) (L':=[]) (by simp only [e7]) (by rfl) ?_
 clear e7
 refine Jg [0,0,0,0] [(2,U 18446744073709551608),(8,U 3),(9,U 4294967295),(10,U 4294967288),(11,U (Jbb hi lo)),(13,U (Jbr lo)),(14,U (JbY lo)),(15,U (q - 1)),(16,U (IntKind.u64.wrap (r + 4294967295)))] ?_
 have e8:IntKind.u64.wrap (r + 4294967295) = r + 4294967295:=IntWalk.u64_in _ (by (have hm:=JdU hI ‹_›;have:=hI.e;have:=hI.u1;have:=hI.r0;have:=hI.r1;omega))
 refine JaJ (fr':=[(2,U 18446744073709551608),(8,U 3),(9,U 4294967295),(10,U 4294967288),(11,U (Jbb hi lo)),(13,U (Jbr lo)),(14,U (JbY lo)),(15,U (q - 1)),(16,U (r + 4294967295))]) (L':=[]) (by simp only [e8]) (by rfl) ?_
 clear e8
 refine Jg [0,0] [(2,U 18446744073709551608),(8,U 3),(9,U 4294967295),(10,U 4294967288),(11,U (Jbb hi lo)),(13,U (Jbr lo)),(14,U (JbY lo)),(15,U (q - 1)),(16,U (r + 4294967295)),(85,Bo (decide (r + 4294967295 ≥ 4294967296)))] ?_
 refine Jo (decide (r + 4294967295 ≥ 4294967296)) (fun h4=>?_) (fun h4=>?_)
 try simp only [BB] at h4
 refine JaT ?_
 refine Jex rfl ?_
 refine Jaf (JW (Ja ?_))
 refine Jg [0,0,0,0,0,0,0,0,0] [(2,U 18446744073709551608),(8,U 3),(9,U 4294967295),(10,U 4294967288),(14,U (JbY lo)),(15,U (q - 1)),(17,U (IntKind.u64.wrap ((IntKind.u64.wrap ((IntKind.u64.wrap ((Jbb hi lo) * 4294967296)) + (Jbr lo))) - (IntKind.u64.wrap ((q - 1) * 18446744073709551608)))))] ?_
 have e9:IntKind.u64.wrap ((IntKind.u64.wrap ((IntKind.u64.wrap ((Jbb hi lo) * 4294967296)) + (Jbr lo))) - (IntKind.u64.wrap ((q - 1) * 18446744073709551608))) = JbM (Jbb hi lo) (Jbr lo) (q - 1):=rfl
 refine JaJ (fr':=[(2,U 18446744073709551608),(8,U 3),(9,U 4294967295),(10,U 4294967288),(14,U (JbY lo)),(15,U (q - 1)),(17,U (JbM (Jbb hi lo) (Jbr lo) (q - 1)))]) (L':=[]) (by simp only [e9]) (by rfl) ?_
 clear e9
 refine Jg [0,0,0,0] [(2,U 18446744073709551608),(8,U 3),(9,U 4294967295),(10,U 4294967288),(14,U (JbY lo)),(15,U (q - 1)),(17,U (JbM (Jbb hi lo) (Jbr lo) (q - 1))),(18,U (IntKind.u64.wrap ((JbM (Jbb hi lo) (Jbr lo) (q - 1)).tdiv 4294967295)))] ?_
 refine Jg [0,0,0,0,0,0] [(2,U 18446744073709551608),(8,U 3),(9,U 4294967295),(10,U 4294967288),(14,U (JbY lo)),(15,U (q - 1)),(16,U (IntKind.u64.wrap ((JbM (Jbb hi lo) (Jbr lo) (q - 1)) - (IntKind.u64.wrap ((IntKind.u64.wrap ((JbM (Jbb hi lo) (Jbr lo) (q - 1)).tdiv 4294967295)) * 4294967295))))),(17,U (JbM (Jbb hi lo) (Jbr lo) (q - 1))),(18,U (IntKind.u64.wrap ((JbM (Jbb hi lo) (Jbr lo) (q - 1)).tdiv 4294967295)))] (Je (Jy ?_))
 have hD1:Dig (Jbb hi lo) (Jbr lo) (q - 1):=by exact JhV hI ‹_› (by omega)
 have hb1:=JiR hD1 (JiS hx hy).1 (JiT lo).1
 refine Ja8 (σ:=Int × Int) (fun s=>(JfQ (JbM (Jbb hi lo) (Jbr lo) (q - 1)) (JbY lo) s.1 s.2)) (fun s=>[(2,U 18446744073709551608),(8,U 3),(9,U 4294967295),(10,U 4294967288),(14,U (JbY lo)),(15,U (q - 1)),(16,U s.2),(17,U (JbM (Jbb hi lo) (Jbr lo) (q - 1))),(18,U s.1)]) (fun s=>G) (fun s=>[]) (fun s=>s.1.toNat) (IntKind.u64.wrap ((JbM (Jbb hi lo) (Jbr lo) (q - 1)).tdiv 4294967295),IntKind.u64.wrap (JbM (Jbb hi lo) (Jbr lo) (q - 1) - IntKind.u64.wrap (IntKind.u64.wrap ((JbM (Jbb hi lo) (Jbr lo) (q - 1)).tdiv 4294967295) * 4294967295))) (JhU hb1.2 (Jk1 lo)) (fun s hs=>?_)
 obtain ⟨q2,r2⟩:=s
 have hJ:=hs
 dsimp only at hJ
 refine JaJ (fr':=[(2,U 18446744073709551608),(8,U 3),(9,U 4294967295),(10,U 4294967288),(14,U (JbY lo)),(15,U (q - 1)),(16,U r2),(17,U (JbM (Jbb hi lo) (Jbr lo) (q - 1))),(18,U q2)]) (L':=[]) rfl rfl ?_
 refine Je (Je (Jb ?_))
 refine Jd [0,0,0] [(2,U 18446744073709551608),(8,U 3),(9,U 4294967295),(10,U 4294967288),(14,U (JbY lo)),(15,U (q - 1)),(16,U r2),(17,U (JbM (Jbb hi lo) (Jbr lo) (q - 1))),(18,U q2),(104,Bo (decide (q2 ≥ 4294967296)))] ?_
 refine Jay (decide (q2 ≥ 4294967296)) (fun bb=>[(2,U 18446744073709551608),(8,U 3),(9,U 4294967295),(10,U 4294967288),(14,U (JbY lo)),(15,U (q - 1)),(16,U r2),(17,U (JbM (Jbb hi lo) (Jbr lo) (q - 1))),(18,U q2),(104,Bo bb)]) [1,1,1,1,1,1,1,1,0] [0,0,0,0,0,0,0,0,0] (fun bb=>[(2,U 18446744073709551608),(8,U 3),(9,U 4294967295),(10,U 4294967288),(14,U (JbY lo)),(15,U (q - 1)),(16,U r2),(17,U (JbM (Jbb hi lo) (Jbr lo) (q - 1))),(18,U q2),(113,Bo (bb || (decide (IntKind.u64.wrap (q2 * 4294967288) > IntKind.u64.wrap ((IntKind.u64.wrap (4294967296 * r2)) + (JbY lo))))))]) ?_
 refine Jc (Ja ?_)
 refine Jo ((decide (q2 ≥ 4294967296)) || (decide (IntKind.u64.wrap (q2 * 4294967288) > IntKind.u64.wrap ((IntKind.u64.wrap (4294967296 * r2)) + (JbY lo))))) (fun h5=>?_) (fun h5=>?_)
 try simp only [BB] at h5
 refine Jn (Ja (Jy ?_))
 refine Jg [0,0,0] [(2,U 18446744073709551608),(8,U 3),(9,U 4294967295),(10,U 4294967288),(14,U (JbY lo)),(15,U (q - 1)),(16,U r2),(17,U (JbM (Jbb hi lo) (Jbr lo) (q - 1))),(18,U (IntKind.u64.wrap (q2 - 1)))] ?_
 have e10:IntKind.u64.wrap (q2 - 1) = q2 - 1:=IntWalk.u64_in _ (by (have hm:=JdU hJ ‹_›;have:=hJ.e;have:=hJ.u1;have:=hJ.r0;have:=hJ.r1;omega))
 refine JaJ (fr':=[(2,U 18446744073709551608),(8,U 3),(9,U 4294967295),(10,U 4294967288),(14,U (JbY lo)),(15,U (q - 1)),(16,U r2),(17,U (JbM (Jbb hi lo) (Jbr lo) (q - 1))),(18,U (q2 - 1))]) (L':=[]) (by simp only [e10]) (by rfl) ?_
 clear e10
 refine Jg [0,0,0,0] [(2,U 18446744073709551608),(8,U 3),(9,U 4294967295),(10,U 4294967288),(14,U (JbY lo)),(15,U (q - 1)),(16,U (IntKind.u64.wrap (r2 + 4294967295))),(17,U (JbM (Jbb hi lo) (Jbr lo) (q - 1))),(18,U (q2 - 1))] ?_
 have e11:IntKind.u64.wrap (r2 + 4294967295) = r2 + 4294967295:=IntWalk.u64_in _ (by (have hm:=JdU hJ ‹_›;have:=hJ.e;have:=hJ.u1;have:=hJ.r0;have:=hJ.r1;omega))
 refine JaJ (fr':=[(2,U 18446744073709551608),(8,U 3),(9,U 4294967295),(10,U 4294967288),(14,U (JbY lo)),(15,U (q - 1)),(16,U (r2 + 4294967295)),(17,U (JbM (Jbb hi lo) (Jbr lo) (q - 1))),(18,U (q2 - 1))]) (L':=[]) (by simp only [e11]) (by rfl) ?_
 clear e11
 refine Jg [0,0] [(2,U 18446744073709551608),(8,U 3),(9,U 4294967295),(10,U 4294967288),(14,U (JbY lo)),(15,U (q - 1)),(16,U (r2 + 4294967295)),(17,U (JbM (Jbb hi lo) (Jbr lo) (q - 1))),(18,U (q2 - 1)),(120,Bo (decide (r2 + 4294967295 ≥ 4294967296)))] ?_
 refine Jo (decide (r2 + 4294967295 ≥ 4294967296)) (fun h6=>?_) (fun h6=>?_)
 try simp only [BB] at h6
 refine JaT ?_
 refine Jex rfl ?_
 refine Jaf (JW (Ja ?_))
 refine Jg [0,0,0,0,0,0,0,0,0,0,0,0,0,0,0,0] [(6,U (IntKind.u64.wrap ((IntKind.u64.wrap ((q - 1) * 4294967296)) + (q2 - 1)))),(7,U ((IntKind.u64.wrap ((IntKind.u64.wrap ((IntKind.u64.wrap ((JbM (Jbb hi lo) (Jbr lo) (q - 1)) * 4294967296)) + (JbY lo))) - (IntKind.u64.wrap ((q2 - 1) * 18446744073709551608)))).fdiv (2 ^ 3)))] ?_
 have e12:IntKind.u64.wrap ((IntKind.u64.wrap ((IntKind.u64.wrap ((JbM (Jbb hi lo) (Jbr lo) (q - 1)) * 4294967296)) + (JbY lo))) - (IntKind.u64.wrap ((q2 - 1) * 18446744073709551608))) = JbM (JbM (Jbb hi lo) (Jbr lo) (q - 1)) (JbY lo) (q2 - 1):=rfl
 refine JaJ (fr':=[(6,U (IntKind.u64.wrap ((IntKind.u64.wrap ((q - 1) * 4294967296)) + (q2 - 1)))),(7,U ((JbM (JbM (Jbb hi lo) (Jbr lo) (q - 1)) (JbY lo) (q2 - 1)).fdiv (2 ^ 3)))]) (L':=[]) (by simp only [e12]) (by rfl) ?_
 clear e12
 refine Jk ?_
 refine Jl [0,0] [U (IntKind.u64.wrap ((IntKind.u64.wrap ((q - 1) * 4294967296)) + (q2 - 1))),U ((JbM (JbM (Jbb hi lo) (Jbr lo) (q - 1)) (JbY lo) (q2 - 1)).fdiv (2 ^ 3))] (Jw (Jt.le_refl _) ?_)
 (have hD2:Dig _ _ _:=(by exact JhV hJ ‹_› (by omega));have he:=JiU hx hy hD1 hD2;exact congr (congrArg (fun a b=>Value.tuple #[U a,U b]) he.1) he.2)
 try simp only [BB] at h6
 refine Jn (JK ?_)
 exact Jba (q2 - 1,r2 + 4294967295) (Jje hJ ‹_› (by omega)) (by dsimp only;have:=(JdU hJ ‹_›).1;omega)
 try simp only [BB] at h5
 refine JaT (J2 (Jaf (JW (Ja ?_))))
 refine Jg [0,0,0,0,0,0,0,0,0,0,0,0,0,0,0,0] [(6,U (IntKind.u64.wrap ((IntKind.u64.wrap ((q - 1) * 4294967296)) + q2))),(7,U ((IntKind.u64.wrap ((IntKind.u64.wrap ((IntKind.u64.wrap ((JbM (Jbb hi lo) (Jbr lo) (q - 1)) * 4294967296)) + (JbY lo))) - (IntKind.u64.wrap (q2 * 18446744073709551608)))).fdiv (2 ^ 3)))] ?_
 have e13:IntKind.u64.wrap ((IntKind.u64.wrap ((IntKind.u64.wrap ((JbM (Jbb hi lo) (Jbr lo) (q - 1)) * 4294967296)) + (JbY lo))) - (IntKind.u64.wrap (q2 * 18446744073709551608))) = JbM (JbM (Jbb hi lo) (Jbr lo) (q - 1)) (JbY lo) q2:=rfl
 refine JaJ (fr':=[(6,U (IntKind.u64.wrap ((IntKind.u64.wrap ((q - 1) * 4294967296)) + q2))),(7,U ((JbM (JbM (Jbb hi lo) (Jbr lo) (q - 1)) (JbY lo) q2).fdiv (2 ^ 3)))]) (L':=[]) (by simp only [e13]) (by rfl) ?_
 clear e13
 refine Jk ?_
 refine Jl [0,0] [U (IntKind.u64.wrap ((IntKind.u64.wrap ((q - 1) * 4294967296)) + q2)),U ((JbM (JbM (Jbb hi lo) (Jbr lo) (q - 1)) (JbY lo) q2).fdiv (2 ^ 3))] (Jw (Jt.le_refl _) ?_)
 (have hD2:Dig _ _ _:=(by exact Jjf hJ ‹_›);have he:=JiU hx hy hD1 hD2;exact congr (congrArg (fun a b=>Value.tuple #[U a,U b]) he.1) he.2)
 try simp only [BB] at h4
 refine Jn (JK ?_)
 exact Jba (q - 1,r + 4294967295) (Jje hI ‹_› (by omega)) (by dsimp only;have:=(JdU hI ‹_›).1;omega)
 try simp only [BB] at h3
 refine JaT (J2 (Jaf (JW (Ja ?_))))
 refine Jg [0,0,0,0,0,0,0,0,0] [(2,U 18446744073709551608),(8,U 3),(9,U 4294967295),(10,U 4294967288),(14,U (JbY lo)),(15,U q),(17,U (IntKind.u64.wrap ((IntKind.u64.wrap ((IntKind.u64.wrap ((Jbb hi lo) * 4294967296)) + (Jbr lo))) - (IntKind.u64.wrap (q * 18446744073709551608)))))] ?_
 have e14:IntKind.u64.wrap ((IntKind.u64.wrap ((IntKind.u64.wrap ((Jbb hi lo) * 4294967296)) + (Jbr lo))) - (IntKind.u64.wrap (q * 18446744073709551608))) = JbM (Jbb hi lo) (Jbr lo) q:=rfl
 refine JaJ (fr':=[(2,U 18446744073709551608),(8,U 3),(9,U 4294967295),(10,U 4294967288),(14,U (JbY lo)),(15,U q),(17,U (JbM (Jbb hi lo) (Jbr lo) q))]) (L':=[]) (by simp only [e14]) (by rfl) ?_
 clear e14
 refine Jg [0,0,0,0] [(2,U 18446744073709551608),(8,U 3),(9,U 4294967295),(10,U 4294967288),(14,U (JbY lo)),(15,U q),(17,U (JbM (Jbb hi lo) (Jbr lo) q)),(18,U (IntKind.u64.wrap ((JbM (Jbb hi lo) (Jbr lo) q).tdiv 4294967295)))] ?_
 refine Jg [0,0,0,0,0,0] [(2,U 18446744073709551608),(8,U 3),(9,U 4294967295),(10,U 4294967288),(14,U (JbY lo)),(15,U q),(16,U (IntKind.u64.wrap ((JbM (Jbb hi lo) (Jbr lo) q) - (IntKind.u64.wrap ((IntKind.u64.wrap ((JbM (Jbb hi lo) (Jbr lo) q).tdiv 4294967295)) * 4294967295))))),(17,U (JbM (Jbb hi lo) (Jbr lo) q)),(18,U (IntKind.u64.wrap ((JbM (Jbb hi lo) (Jbr lo) q).tdiv 4294967295)))] (Je (Jy ?_))
 have hD1:Dig (Jbb hi lo) (Jbr lo) q:=by exact Jjf hI ‹_›
 have hb1:=JiR hD1 (JiS hx hy).1 (JiT lo).1
 refine Ja8 (σ:=Int × Int) (fun s=>(JfQ (JbM (Jbb hi lo) (Jbr lo) q) (JbY lo) s.1 s.2)) (fun s=>[(2,U 18446744073709551608),(8,U 3),(9,U 4294967295),(10,U 4294967288),(14,U (JbY lo)),(15,U q),(16,U s.2),(17,U (JbM (Jbb hi lo) (Jbr lo) q)),(18,U s.1)]) (fun s=>G) (fun s=>[]) (fun s=>s.1.toNat) (IntKind.u64.wrap ((JbM (Jbb hi lo) (Jbr lo) q).tdiv 4294967295),IntKind.u64.wrap (JbM (Jbb hi lo) (Jbr lo) q - IntKind.u64.wrap (IntKind.u64.wrap ((JbM (Jbb hi lo) (Jbr lo) q).tdiv 4294967295) * 4294967295))) (JhU hb1.2 (Jk1 lo)) (fun s hs=>?_)
 obtain ⟨q2,r2⟩:=s
 have hJ:=hs
 dsimp only at hJ
 refine JaJ (fr':=[(2,U 18446744073709551608),(8,U 3),(9,U 4294967295),(10,U 4294967288),(14,U (JbY lo)),(15,U q),(16,U r2),(17,U (JbM (Jbb hi lo) (Jbr lo) q)),(18,U q2)]) (L':=[]) rfl rfl ?_
 refine Je (Je (Jb ?_))
 refine Jd [0,0,0] [(2,U 18446744073709551608),(8,U 3),(9,U 4294967295),(10,U 4294967288),(14,U (JbY lo)),(15,U q),(16,U r2),(17,U (JbM (Jbb hi lo) (Jbr lo) q)),(18,U q2),(104,Bo (decide (q2 ≥ 4294967296)))] ?_
 refine Jay (decide (q2 ≥ 4294967296)) (fun bb=>[(2,U 18446744073709551608),(8,U 3),(9,U 4294967295),(10,U 4294967288),(14,U (JbY lo)),(15,U q),(16,U r2),(17,U (JbM (Jbb hi lo) (Jbr lo) q)),(18,U q2),(104,Bo bb)]) [1,1,1,1,1,1,1,1,0] [0,0,0,0,0,0,0,0,0] (fun bb=>[(2,U 18446744073709551608),(8,U 3),(9,U 4294967295),(10,U 4294967288),(14,U (JbY lo)),(15,U q),(16,U r2),(17,U (JbM (Jbb hi lo) (Jbr lo) q)),(18,U q2),(113,Bo (bb || (decide (IntKind.u64.wrap (q2 * 4294967288) > IntKind.u64.wrap ((IntKind.u64.wrap (4294967296 * r2)) + (JbY lo))))))]) ?_
 refine Jc (Ja ?_)
 refine Jo ((decide (q2 ≥ 4294967296)) || (decide (IntKind.u64.wrap (q2 * 4294967288) > IntKind.u64.wrap ((IntKind.u64.wrap (4294967296 * r2)) + (JbY lo))))) (fun h7=>?_) (fun h7=>?_)
 try simp only [BB] at h7
 refine Jn (Ja (Jy ?_))
 refine Jg [0,0,0] [(2,U 18446744073709551608),(8,U 3),(9,U 4294967295),(10,U 4294967288),(14,U (JbY lo)),(15,U q),(16,U r2),(17,U (JbM (Jbb hi lo) (Jbr lo) q)),(18,U (IntKind.u64.wrap (q2 - 1)))] ?_
 have e15:IntKind.u64.wrap (q2 - 1) = q2 - 1:=IntWalk.u64_in _ (by (have hm:=JdU hJ ‹_›;have:=hJ.e;have:=hJ.u1;have:=hJ.r0;have:=hJ.r1;omega))
 refine JaJ (fr':=[(2,U 18446744073709551608),(8,U 3),(9,U 4294967295),(10,U 4294967288),(14,U (JbY lo)),(15,U q),(16,U r2),(17,U (JbM (Jbb hi lo) (Jbr lo) q)),(18,U (q2 - 1))]) (L':=[]) (by simp only [e15]) (by rfl) ?_
 clear e15
 refine Jg [0,0,0,0] [(2,U 18446744073709551608),(8,U 3),(9,U 4294967295),(10,U 4294967288),(14,U (JbY lo)),(15,U q),(16,U (IntKind.u64.wrap (r2 + 4294967295))),(17,U (JbM (Jbb hi lo) (Jbr lo) q)),(18,U (q2 - 1))] ?_
 have e16:IntKind.u64.wrap (r2 + 4294967295) = r2 + 4294967295:=IntWalk.u64_in _ (by (have hm:=JdU hJ ‹_›;have:=hJ.e;have:=hJ.u1;have:=hJ.r0;have:=hJ.r1;omega))
 refine JaJ (fr':=[(2,U 18446744073709551608),(8,U 3),(9,U 4294967295),(10,U 4294967288),(14,U (JbY lo)),(15,U q),(16,U (r2 + 4294967295)),(17,U (JbM (Jbb hi lo) (Jbr lo) q)),(18,U (q2 - 1))]) (L':=[]) (by simp only [e16]) (by rfl) ?_
 clear e16
 refine Jg [0,0] [(2,U 18446744073709551608),(8,U 3),(9,U 4294967295),(10,U 4294967288),(14,U (JbY lo)),(15,U q),(16,U (r2 + 4294967295)),(17,U (JbM (Jbb hi lo) (Jbr lo) q)),(18,U (q2 - 1)),(120,Bo (decide (r2 + 4294967295 ≥ 4294967296)))] ?_
 refine Jo (decide (r2 + 4294967295 ≥ 4294967296)) (fun h8=>?_) (fun h8=>?_)
 try simp only [BB] at h8
 refine JaT ?_
 refine Jex rfl ?_
 refine Jaf (JW (Ja ?_))
 refine Jg [0,0,0,0,0,0,0,0,0,0,0,0,0,0,0,0] [(6,U (IntKind.u64.wrap ((IntKind.u64.wrap (q * 4294967296)) + (q2 - 1)))),(7,U ((IntKind.u64.wrap ((IntKind.u64.wrap ((IntKind.u64.wrap ((JbM (Jbb hi lo) (Jbr lo) q) * 4294967296)) + (JbY lo))) - (IntKind.u64.wrap ((q2 - 1) * 18446744073709551608)))).fdiv (2 ^ 3)))] ?_
 have e17:IntKind.u64.wrap ((IntKind.u64.wrap ((IntKind.u64.wrap ((JbM (Jbb hi lo) (Jbr lo) q) * 4294967296)) + (JbY lo))) - (IntKind.u64.wrap ((q2 - 1) * 18446744073709551608))) = JbM (JbM (Jbb hi lo) (Jbr lo) q) (JbY lo) (q2 - 1):=rfl
 refine JaJ (fr':=[(6,U (IntKind.u64.wrap ((IntKind.u64.wrap (q * 4294967296)) + (q2 - 1)))),(7,U ((JbM (JbM (Jbb hi lo) (Jbr lo) q) (JbY lo) (q2 - 1)).fdiv (2 ^ 3)))]) (L':=[]) (by simp only [e17]) (by rfl) ?_
 clear e17
 refine Jk ?_
 refine Jl [0,0] [U (IntKind.u64.wrap ((IntKind.u64.wrap (q * 4294967296)) + (q2 - 1))),U ((JbM (JbM (Jbb hi lo) (Jbr lo) q) (JbY lo) (q2 - 1)).fdiv (2 ^ 3))] (Jw (Jt.le_refl _) ?_)
 (have hD2:Dig _ _ _:=(by exact JhV hJ ‹_› (by omega));have he:=JiU hx hy hD1 hD2;exact congr (congrArg (fun a b=>Value.tuple #[U a,U b]) he.1) he.2)
 try simp only [BB] at h8
 refine Jn (JK ?_)
 exact Jba (q2 - 1,r2 + 4294967295) (Jje hJ ‹_› (by omega)) (by dsimp only;have:=(JdU hJ ‹_›).1;omega)
 try simp only [BB] at h7
 refine JaT (J2 (Jaf (JW (Ja ?_))))
 refine Jg [0,0,0,0,0,0,0,0,0,0,0,0,0,0,0,0] [(6,U (IntKind.u64.wrap ((IntKind.u64.wrap (q * 4294967296)) + q2))),(7,U ((IntKind.u64.wrap ((IntKind.u64.wrap ((IntKind.u64.wrap ((JbM (Jbb hi lo) (Jbr lo) q) * 4294967296)) + (JbY lo))) - (IntKind.u64.wrap (q2 * 18446744073709551608)))).fdiv (2 ^ 3)))] ?_
 have e18:IntKind.u64.wrap ((IntKind.u64.wrap ((IntKind.u64.wrap ((JbM (Jbb hi lo) (Jbr lo) q) * 4294967296)) + (JbY lo))) - (IntKind.u64.wrap (q2 * 18446744073709551608))) = JbM (JbM (Jbb hi lo) (Jbr lo) q) (JbY lo) q2:=rfl
 refine JaJ (fr':=[(6,U (IntKind.u64.wrap ((IntKind.u64.wrap (q * 4294967296)) + q2))),(7,U ((JbM (JbM (Jbb hi lo) (Jbr lo) q) (JbY lo) q2).fdiv (2 ^ 3)))]) (L':=[]) (by simp only [e18]) (by rfl) ?_
 clear e18
 refine Jk ?_
 refine Jl [0,0] [U (IntKind.u64.wrap ((IntKind.u64.wrap (q * 4294967296)) + q2)),U ((JbM (JbM (Jbb hi lo) (Jbr lo) q) (JbY lo) q2).fdiv (2 ^ 3))] (Jw (Jt.le_refl _) ?_)
 (have hD2:Dig _ _ _:=(by exact Jjf hJ ‹_›);have he:=JiU hx hy hD1 hD2;exact congr (congrArg (fun a b=>Value.tuple #[U a,U b]) he.1) he.2)
theorem JoF (hi lo:Int) (hx:rU hi) (hy:rU lo) (G:Jt):Con Tryz.prog 202 #[U hi,U lo,U 2305843009213693951] G [] (fun u G' L'=>u = U ((hi * 18446744073709551616 + lo) % 2305843009213693951)):=by
 refine JL Tryz.func202 19 [(0,U hi),(1,U lo),(2,U 2305843009213693951)] rfl (fun w0 G0=>?_)
 refine Jg [0] [(0,U hi),(1,U lo),(2,U 2305843009213693951)] (Je (Jb ?_))
 refine Jd [0,0,0,0,0] [(12,U ((hi).tmod 2305843009213693951)),(13,U lo),(14,U 2305843009213693951)] ?_
 have e1:(hi).tmod 2305843009213693951 = hi % 2305843009213693951:=IntWalk.rem_in _ _ (by omega)
 refine J1 (fr':=[(12,U (hi % 2305843009213693951)),(13,U lo),(14,U 2305843009213693951)]) (L':=[]) (by simp only [e1]) (by rfl) ?_
 clear e1
 refine Ji 15 (.tuple #[U (((hi % 2305843009213693951) * 18446744073709551616 + lo) / 2305843009213693951),U (((hi % 2305843009213693951) * 18446744073709551616 + lo) % 2305843009213693951)]) (JoE (hi % 2305843009213693951) lo (by omega) (by omega) G) ?_
 refine Jd [0,0,0,0,0] [(8,U (((hi % 2305843009213693951) * 18446744073709551616 + lo) % 2305843009213693951))] (Jc (Ja ?_))
 refine Jg [0,0] [(6,U (((hi % 2305843009213693951) * 18446744073709551616 + lo) % 2305843009213693951))] (Jk ?_)
 refine Jl [0] [U (((hi % 2305843009213693951) * 18446744073709551616 + lo) % 2305843009213693951)] (Jw (Jt.le_refl _) ?_)
 exact congrArg U (by omega)
theorem JoG (a b:Int) (hx:rU a) (hy:rU b) (G:Jt):Con Tryz.prog 192 #[U a,U b] G [] (fun u G' L'=>u = U (Jb3 a b)):=by
 refine JL Tryz.func192 16 [(0,U a),(1,U b)] rfl (fun w0 G0=>?_)
 refine Jg [0] [(0,U a),(1,U b)] (Je (Jb ?_))
 refine Jd [0,0] [(8,U a),(9,U b)] ?_
 refine Ji 10 (.tuple #[U (a * b / 18446744073709551616),U (a * b % 18446744073709551616)]) (Jkx a b (by omega) (by omega) G) ?_
 refine Jd [0,0,0,0,0] [(5,U (a * b / 18446744073709551616)),(6,U (a * b % 18446744073709551616))] (Jc (Ja (Je (Jb ?_))))
 refine Jd [0,0] [(13,U (a * b / 18446744073709551616)),(14,U (a * b % 18446744073709551616))] ?_
 refine Ji 15 (U (((a * b / 18446744073709551616) * 18446744073709551616 + (a * b % 18446744073709551616)) % 2305843009213693951)) (JoF (a * b / 18446744073709551616) (a * b % 18446744073709551616) (by exact Jow (by omega) (by omega)) (by omega) G) ?_
 refine Jd [0] [(4,U (((a * b / 18446744073709551616) * 18446744073709551616 + (a * b % 18446744073709551616)) % 2305843009213693951))] (Jc (Ja (Jk ?_)))
 refine Jl [0] [U (((a * b / 18446744073709551616) * 18446744073709551616 + (a * b % 18446744073709551616)) % 2305843009213693951)] (Jw (Jt.le_refl _) ?_)
 exact congrArg U (by unfold Jb3;omega)
end Go.Proofs.YtnnlpbjdignhaaaGreatDoor
