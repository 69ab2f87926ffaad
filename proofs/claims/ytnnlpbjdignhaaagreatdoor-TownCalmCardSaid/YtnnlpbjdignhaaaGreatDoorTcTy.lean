import Derived.Test.YtnnlpbjdignhaaaGreatDoorTcPl
import Derived.Test.YtnnlpbjdignhaaaGreatDoorTcRul
namespace Go.Proofs.YtnnlpbjdignhaaaGreatDoor
open Go.Tx
set_option linter.unusedVariables false
set_option linter.unusedSimpArgs false
structure JV where
 name:List UInt8
 value:List UInt8
deriving DecidableEq
structure WT where
 name:List UInt8
 value:List UInt8
 n:Int
 tag:Int
deriving DecidableEq
structure JR where
 epoch:Int
 root:Int
 prev:Int
 at_:Int
deriving DecidableEq
structure QT where
 least:Int
 most:Int
 lost:Int
 gap:Int
 next:Int
 asked:Int
deriving DecidableEq
structure Ym where
 kind:Int
 who:Int
 n:Int
 at_:Int
deriving DecidableEq
structure Wy where
 name:List UInt8
 entries:List JV
 sides:List Int
deriving DecidableEq
structure WC where
 head:JR
 proof:Wy
deriving DecidableEq
structure QL where
 most:Int
 wait:List WT
deriving DecidableEq
structure Kw where
 queue:QL
 batch:Int
 every:Int
 now:Int
 heads:List JR
 books:List (List JV)
deriving DecidableEq
structure KP where
 name:List UInt8
 key:Int
 head:JR
 wanted:List (List UInt8)
 had:Int
deriving DecidableEq
structure JP where
 to_:Int
 from_:Int
 since:Int
 due:Int
 heads:List JR
 reply:WC
deriving DecidableEq
structure Yh where
 now:Int
 way:List JP
deriving DecidableEq
structure KI where
 names:List (List UInt8)
 keys:List Int
 most:Int
 batch:Int
 every:Int
 least:Int
 top:Int
 lost:Int
 reach:Int
deriving DecidableEq
structure Qd where
 kind:Int
 who:Int
 value:List UInt8
 fates:List Int
 letter:JP
deriving DecidableEq
structure QU where
 clerk:Kw
 owners:List KP
 polls:List QT
 net:Yh
deriving DecidableEq
def EI:Yl Int:=⟨1,8,fun G cs x=>cs=[I x]∧(-9223372036854775808≤x∧x<9223372036854775808),fun hle h=>by obtain ⟨rfl,h0⟩:=h;exact ⟨rfl,h0⟩,fun h=>by obtain ⟨rfl,h0⟩:=h;rfl,fun h=>by obtain ⟨rfl,h0⟩:=h;exact ZD rfl⟩
def EU:Yl Int:=⟨1,8,fun G cs x=>cs=[U x]∧(0≤x∧x<18446744073709551616),fun hle h=>by obtain ⟨rfl,h0⟩:=h;exact ⟨rfl,h0⟩,fun h=>by obtain ⟨rfl,h0⟩:=h;rfl,fun h=>by obtain ⟨rfl,h0⟩:=h;exact ZD rfl⟩
def ES:Yl ((List UInt8)):=⟨1,16,fun G cs x=>cs=[Sr x]∧((x).length≤140737488351232),fun hle h=>by obtain ⟨rfl,h0⟩:=h;exact ⟨rfl,h0⟩,fun h=>by obtain ⟨rfl,h0⟩:=h;rfl,fun h=>by obtain ⟨rfl,h0⟩:=h;exact ZD rfl⟩
def Qo:Yl JV:=⟨2,32,fun G cs x=>cs=[Sr x.name,Sr x.value]∧((x.name).length≤140737488351232)∧((x.value).length≤140737488351232),fun hle h=>by obtain ⟨rfl,h0,h1⟩:=h;exact ⟨rfl,h0,h1⟩,fun h=>by obtain ⟨rfl,h0,h1⟩:=h;rfl,fun h=>by obtain ⟨rfl,h0,h1⟩:=h;exact ZD rfl⟩
def QV:Yl WT:=⟨4,48,fun G cs x=>cs=[Sr x.name,Sr x.value,U x.n,U x.tag]∧((x.name).length≤140737488351232)∧((x.value).length≤140737488351232)∧(0≤x.n∧x.n<18446744073709551616)∧(0≤x.tag∧x.tag<18446744073709551616),fun hle h=>by obtain ⟨rfl,h0,h1,h2,h3⟩:=h;exact ⟨rfl,h0,h1,h2,h3⟩,fun h=>by obtain ⟨rfl,h0,h1,h2,h3⟩:=h;rfl,fun h=>by obtain ⟨rfl,h0,h1,h2,h3⟩:=h;exact ZD rfl⟩
def KE:Yl JR:=⟨4,32,fun G cs x=>cs=[I x.epoch,U x.root,U x.prev,I x.at_]∧(-9223372036854775808≤x.epoch∧x.epoch<9223372036854775808)∧(0≤x.root∧x.root<18446744073709551616)∧(0≤x.prev∧x.prev<18446744073709551616)∧(-9223372036854775808≤x.at_∧x.at_<9223372036854775808),fun hle h=>by obtain ⟨rfl,h0,h1,h2,h3⟩:=h;exact ⟨rfl,h0,h1,h2,h3⟩,fun h=>by obtain ⟨rfl,h0,h1,h2,h3⟩:=h;rfl,fun h=>by obtain ⟨rfl,h0,h1,h2,h3⟩:=h;exact ZD rfl⟩
def Ws:Yl QT:=⟨6,48,fun G cs x=>cs=[I x.least,I x.most,I x.lost,I x.gap,I x.next,I x.asked]∧(-9223372036854775808≤x.least∧x.least<9223372036854775808)∧(-9223372036854775808≤x.most∧x.most<9223372036854775808)∧(-9223372036854775808≤x.lost∧x.lost<9223372036854775808)∧(-9223372036854775808≤x.gap∧x.gap<9223372036854775808)∧(-9223372036854775808≤x.next∧x.next<9223372036854775808)∧(-9223372036854775808≤x.asked∧x.asked<9223372036854775808),fun hle h=>by obtain ⟨rfl,h0,h1,h2,h3,h4,h5⟩:=h;exact ⟨rfl,h0,h1,h2,h3,h4,h5⟩,fun h=>by obtain ⟨rfl,h0,h1,h2,h3,h4,h5⟩:=h;rfl,fun h=>by obtain ⟨rfl,h0,h1,h2,h3,h4,h5⟩:=h;exact ZD rfl⟩
def Q1:Yl Ym:=⟨4,32,fun G cs x=>cs=[I x.kind,I x.who,I x.n,I x.at_]∧(-9223372036854775808≤x.kind∧x.kind<9223372036854775808)∧(-9223372036854775808≤x.who∧x.who<9223372036854775808)∧(-9223372036854775808≤x.n∧x.n<9223372036854775808)∧(-9223372036854775808≤x.at_∧x.at_<9223372036854775808),fun hle h=>by obtain ⟨rfl,h0,h1,h2,h3⟩:=h;exact ⟨rfl,h0,h1,h2,h3⟩,fun h=>by obtain ⟨rfl,h0,h1,h2,h3⟩:=h;rfl,fun h=>by obtain ⟨rfl,h0,h1,h2,h3⟩:=h;exact ZD rfl⟩
def JdR:Yl Wy:=⟨3,64,fun G cs x=>∃ a0 c0 a1 c1,cs=[Sr x.name,Sl a0 x.entries.length c0,Sl a1 x.sides.length c1]∧((x.name).length≤140737488351232)∧(RS Qo G a0 c0 x.entries)∧(RS EU G a1 c1 x.sides),fun hle h=>by obtain ⟨a0,c0,a1,c1,rfl,h0,h1,h2⟩:=h;exact ⟨a0,c0,a1,c1,rfl,h0,h1.mono hle,h2.mono hle⟩,fun h=>by obtain ⟨a0,c0,a1,c1,rfl,h0,h1,h2⟩:=h;rfl,fun h=>by obtain ⟨a0,c0,a1,c1,rfl,h0,h1,h2⟩:=h;exact ZD rfl⟩
def JhL:Yl WC:=⟨7,96,fun G cs x=>∃ a0 c0 a1 c1,cs=[I x.head.epoch,U x.head.root,U x.head.prev,I x.head.at_,Sr x.proof.name,Sl a0 x.proof.entries.length c0,Sl a1 x.proof.sides.length c1]∧(-9223372036854775808≤x.head.epoch∧x.head.epoch<9223372036854775808)∧(0≤x.head.root∧x.head.root<18446744073709551616)∧(0≤x.head.prev∧x.head.prev<18446744073709551616)∧(-9223372036854775808≤x.head.at_∧x.head.at_<9223372036854775808)∧((x.proof.name).length≤140737488351232)∧(RS Qo G a0 c0 x.proof.entries)∧(RS EU G a1 c1 x.proof.sides),fun hle h=>by obtain ⟨a0,c0,a1,c1,rfl,h0,h1,h2,h3,h4,h5,h6⟩:=h;exact ⟨a0,c0,a1,c1,rfl,h0,h1,h2,h3,h4,h5.mono hle,h6.mono hle⟩,fun h=>by obtain ⟨a0,c0,a1,c1,rfl,h0,h1,h2,h3,h4,h5,h6⟩:=h;rfl,fun h=>by obtain ⟨a0,c0,a1,c1,rfl,h0,h1,h2,h3,h4,h5,h6⟩:=h;exact ZD rfl⟩
def JhM:Yl QL:=⟨2,32,fun G cs x=>∃ a0 c0,cs=[I x.most,Sl a0 x.wait.length c0]∧(-9223372036854775808≤x.most∧x.most<9223372036854775808)∧(RS QV G a0 c0 x.wait),fun hle h=>by obtain ⟨a0,c0,rfl,h0,h1⟩:=h;exact ⟨a0,c0,rfl,h0,h1.mono hle⟩,fun h=>by obtain ⟨a0,c0,rfl,h0,h1⟩:=h;rfl,fun h=>by obtain ⟨a0,c0,rfl,h0,h1⟩:=h;exact ZD rfl⟩
def Qm:Yl (List JV):=⟨1,24,fun G cs x=>∃ a0 c0,cs=[Sl a0 x.length c0]∧(RS Qo G a0 c0 x),fun hle h=>by obtain ⟨a0,c0,rfl,h0⟩:=h;exact ⟨a0,c0,rfl,h0.mono hle⟩,fun h=>by obtain ⟨a0,c0,rfl,h0⟩:=h;rfl,fun h=>by obtain ⟨a0,c0,rfl,h0⟩:=h;exact ZD rfl⟩
def VE:Yl Kw:=⟨7,104,fun G cs x=>∃ a0 c0 a1 c1 a2 c2,cs=[I x.queue.most,Sl a0 x.queue.wait.length c0,I x.batch,I x.every,I x.now,Sl a1 x.heads.length c1,Sl a2 x.books.length c2]∧(-9223372036854775808≤x.queue.most∧x.queue.most<9223372036854775808)∧(RS QV G a0 c0 x.queue.wait)∧(-9223372036854775808≤x.batch∧x.batch<9223372036854775808)∧(-9223372036854775808≤x.every∧x.every<9223372036854775808)∧(-9223372036854775808≤x.now∧x.now<9223372036854775808)∧(RS KE G a1 c1 x.heads)∧(RS Qm G a2 c2 x.books),fun hle h=>by obtain ⟨a0,c0,a1,c1,a2,c2,rfl,h0,h1,h2,h3,h4,h5,h6⟩:=h;exact ⟨a0,c0,a1,c1,a2,c2,rfl,h0,h1.mono hle,h2,h3,h4,h5.mono hle,h6.mono hle⟩,fun h=>by obtain ⟨a0,c0,a1,c1,a2,c2,rfl,h0,h1,h2,h3,h4,h5,h6⟩:=h;rfl,fun h=>by obtain ⟨a0,c0,a1,c1,a2,c2,rfl,h0,h1,h2,h3,h4,h5,h6⟩:=h;exact ZD rfl⟩
def QO:Yl KP:=⟨8,88,fun G cs x=>∃ a0 c0,cs=[Sr x.name,U x.key,I x.head.epoch,U x.head.root,U x.head.prev,I x.head.at_,Sl a0 x.wanted.length c0,I x.had]∧((x.name).length≤140737488351232)∧(0≤x.key∧x.key<18446744073709551616)∧(-9223372036854775808≤x.head.epoch∧x.head.epoch<9223372036854775808)∧(0≤x.head.root∧x.head.root<18446744073709551616)∧(0≤x.head.prev∧x.head.prev<18446744073709551616)∧(-9223372036854775808≤x.head.at_∧x.head.at_<9223372036854775808)∧(RS ES G a0 c0 x.wanted)∧(-9223372036854775808≤x.had∧x.had<9223372036854775808),fun hle h=>by obtain ⟨a0,c0,rfl,h0,h1,h2,h3,h4,h5,h6,h7⟩:=h;exact ⟨a0,c0,rfl,h0,h1,h2,h3,h4,h5,h6.mono hle,h7⟩,fun h=>by obtain ⟨a0,c0,rfl,h0,h1,h2,h3,h4,h5,h6,h7⟩:=h;rfl,fun h=>by obtain ⟨a0,c0,rfl,h0,h1,h2,h3,h4,h5,h6,h7⟩:=h;exact ZD rfl⟩
def Ki:Yl JP:=⟨12,152,fun G cs x=>∃ a0 c0 a1 c1 a2 c2,cs=[I x.to_,I x.from_,I x.since,I x.due,Sl a0 x.heads.length c0,I x.reply.head.epoch,U x.reply.head.root,U x.reply.head.prev,I x.reply.head.at_,Sr x.reply.proof.name,Sl a1 x.reply.proof.entries.length c1,Sl a2 x.reply.proof.sides.length c2]∧(-9223372036854775808≤x.to_∧x.to_<9223372036854775808)∧(-9223372036854775808≤x.from_∧x.from_<9223372036854775808)∧(-9223372036854775808≤x.since∧x.since<9223372036854775808)∧(-9223372036854775808≤x.due∧x.due<9223372036854775808)∧(RS KE G a0 c0 x.heads)∧(-9223372036854775808≤x.reply.head.epoch∧x.reply.head.epoch<9223372036854775808)∧(0≤x.reply.head.root∧x.reply.head.root<18446744073709551616)∧(0≤x.reply.head.prev∧x.reply.head.prev<18446744073709551616)∧(-9223372036854775808≤x.reply.head.at_∧x.reply.head.at_<9223372036854775808)∧((x.reply.proof.name).length≤140737488351232)∧(RS Qo G a1 c1 x.reply.proof.entries)∧(RS EU G a2 c2 x.reply.proof.sides),fun hle h=>by obtain ⟨a0,c0,a1,c1,a2,c2,rfl,h0,h1,h2,h3,h4,h5,h6,h7,h8,h9,h10,h11⟩:=h;exact ⟨a0,c0,a1,c1,a2,c2,rfl,h0,h1,h2,h3,h4.mono hle,h5,h6,h7,h8,h9,h10.mono hle,h11.mono hle⟩,fun h=>by obtain ⟨a0,c0,a1,c1,a2,c2,rfl,h0,h1,h2,h3,h4,h5,h6,h7,h8,h9,h10,h11⟩:=h;rfl,fun h=>by obtain ⟨a0,c0,a1,c1,a2,c2,rfl,h0,h1,h2,h3,h4,h5,h6,h7,h8,h9,h10,h11⟩:=h;exact ZD rfl⟩
def ENet:Yl Yh:=⟨2,32,fun G cs x=>∃ a0 c0,cs=[I x.now,Sl a0 x.way.length c0]∧(-9223372036854775808≤x.now∧x.now<9223372036854775808)∧(RS Ki G a0 c0 x.way),fun hle h=>by obtain ⟨a0,c0,rfl,h0,h1⟩:=h;exact ⟨a0,c0,rfl,h0,h1.mono hle⟩,fun h=>by obtain ⟨a0,c0,rfl,h0,h1⟩:=h;rfl,fun h=>by obtain ⟨a0,c0,rfl,h0,h1⟩:=h;exact ZD rfl⟩
def JdS:Yl KI:=⟨9,104,fun G cs x=>∃ a0 c0 a1 c1,cs=[Sl a0 x.names.length c0,Sl a1 x.keys.length c1,I x.most,I x.batch,I x.every,I x.least,I x.top,I x.lost,I x.reach]∧(RS ES G a0 c0 x.names)∧(RS EU G a1 c1 x.keys)∧(-9223372036854775808≤x.most∧x.most<9223372036854775808)∧(-9223372036854775808≤x.batch∧x.batch<9223372036854775808)∧(-9223372036854775808≤x.every∧x.every<9223372036854775808)∧(-9223372036854775808≤x.least∧x.least<9223372036854775808)∧(-9223372036854775808≤x.top∧x.top<9223372036854775808)∧(-9223372036854775808≤x.lost∧x.lost<9223372036854775808)∧(-9223372036854775808≤x.reach∧x.reach<9223372036854775808),fun hle h=>by obtain ⟨a0,c0,a1,c1,rfl,h0,h1,h2,h3,h4,h5,h6,h7,h8⟩:=h;exact ⟨a0,c0,a1,c1,rfl,h0.mono hle,h1.mono hle,h2,h3,h4,h5,h6,h7,h8⟩,fun h=>by obtain ⟨a0,c0,a1,c1,rfl,h0,h1,h2,h3,h4,h5,h6,h7,h8⟩:=h;rfl,fun h=>by obtain ⟨a0,c0,a1,c1,rfl,h0,h1,h2,h3,h4,h5,h6,h7,h8⟩:=h;exact ZD rfl⟩
def Jae:Yl Qd:=⟨16,208,fun G cs x=>∃ a0 c0 a1 c1 a2 c2 a3 c3,cs=[I x.kind,I x.who,Sr x.value,Sl a0 x.fates.length c0,I x.letter.to_,I x.letter.from_,I x.letter.since,I x.letter.due,Sl a1 x.letter.heads.length c1,I x.letter.reply.head.epoch,U x.letter.reply.head.root,U x.letter.reply.head.prev,I x.letter.reply.head.at_,Sr x.letter.reply.proof.name,Sl a2 x.letter.reply.proof.entries.length c2,Sl a3 x.letter.reply.proof.sides.length c3]∧(-9223372036854775808≤x.kind∧x.kind<9223372036854775808)∧(-9223372036854775808≤x.who∧x.who<9223372036854775808)∧((x.value).length≤140737488351232)∧(RS EI G a0 c0 x.fates)∧(-9223372036854775808≤x.letter.to_∧x.letter.to_<9223372036854775808)∧(-9223372036854775808≤x.letter.from_∧x.letter.from_<9223372036854775808)∧(-9223372036854775808≤x.letter.since∧x.letter.since<9223372036854775808)∧(-9223372036854775808≤x.letter.due∧x.letter.due<9223372036854775808)∧(RS KE G a1 c1 x.letter.heads)∧(-9223372036854775808≤x.letter.reply.head.epoch∧x.letter.reply.head.epoch<9223372036854775808)∧(0≤x.letter.reply.head.root∧x.letter.reply.head.root<18446744073709551616)∧(0≤x.letter.reply.head.prev∧x.letter.reply.head.prev<18446744073709551616)∧(-9223372036854775808≤x.letter.reply.head.at_∧x.letter.reply.head.at_<9223372036854775808)∧((x.letter.reply.proof.name).length≤140737488351232)∧(RS Qo G a2 c2 x.letter.reply.proof.entries)∧(RS EU G a3 c3 x.letter.reply.proof.sides),fun hle h=>by obtain ⟨a0,c0,a1,c1,a2,c2,a3,c3,rfl,h0,h1,h2,h3,h4,h5,h6,h7,h8,h9,h10,h11,h12,h13,h14,h15⟩:=h;exact ⟨a0,c0,a1,c1,a2,c2,a3,c3,rfl,h0,h1,h2,h3.mono hle,h4,h5,h6,h7,h8.mono hle,h9,h10,h11,h12,h13,h14.mono hle,h15.mono hle⟩,fun h=>by obtain ⟨a0,c0,a1,c1,a2,c2,a3,c3,rfl,h0,h1,h2,h3,h4,h5,h6,h7,h8,h9,h10,h11,h12,h13,h14,h15⟩:=h;rfl,fun h=>by obtain ⟨a0,c0,a1,c1,a2,c2,a3,c3,rfl,h0,h1,h2,h3,h4,h5,h6,h7,h8,h9,h10,h11,h12,h13,h14,h15⟩:=h;exact ZD rfl⟩
def Jdv:Yl (List JR):=⟨1,24,fun G cs x=>∃ a0 c0,cs=[Sl a0 x.length c0]∧(RS KE G a0 c0 x),fun hle h=>by obtain ⟨a0,c0,rfl,h0⟩:=h;exact ⟨a0,c0,rfl,h0.mono hle⟩,fun h=>by obtain ⟨a0,c0,rfl,h0⟩:=h;rfl,fun h=>by obtain ⟨a0,c0,rfl,h0⟩:=h;exact ZD rfl⟩
def YT:Yl (List Int):=⟨1,24,fun G cs x=>∃ a0 c0,cs=[Sl a0 x.length c0]∧(RS EI G a0 c0 x),fun hle h=>by obtain ⟨a0,c0,rfl,h0⟩:=h;exact ⟨a0,c0,rfl,h0.mono hle⟩,fun h=>by obtain ⟨a0,c0,rfl,h0⟩:=h;rfl,fun h=>by obtain ⟨a0,c0,rfl,h0⟩:=h;exact ZD rfl⟩
theorem o_EI {G:Jt} {cs:List Value} {m:Nat} (h:RdL Tryz.prog G [.int .i64] cs m):∃ x,EI.R G cs x∧(fun _=>0) x≤m:=by
 obtain ⟨_,c0,_,_,rfl,_,k0,h⟩:=h
 obtain ⟨x0,rfl,w0⟩:=k0
 have h:c0=[]:=h
 subst h
 exact ⟨x0,⟨rfl,ZW w0⟩,Nat.zero_le _⟩
theorem o_EU {G:Jt} {cs:List Value} {m:Nat} (h:RdL Tryz.prog G [.int .u64] cs m):∃ x,EU.R G cs x∧(fun _=>0) x≤m:=by
 obtain ⟨_,c0,_,_,rfl,_,k0,h⟩:=h
 obtain ⟨x0,rfl,w0⟩:=k0
 have h:c0=[]:=h
 subst h
 exact ⟨x0,⟨rfl,JdO w0⟩,Nat.zero_le _⟩
theorem o_ES {G:Jt} {cs:List Value} {m:Nat} (h:RdL Tryz.prog G [.str] cs m):∃ x,ES.R G cs x∧(fun _=>0) x≤m:=by
 obtain ⟨_,c0,_,_,rfl,_,k0,h⟩:=h
 obtain ⟨x0,rfl,w0,_⟩:=k0
 have h:c0=[]:=h
 subst h
 exact ⟨x0,⟨rfl,w0⟩,Nat.zero_le _⟩
theorem o_EEnt {G:Jt} {cs:List Value} {m:Nat} (h:RdL Tryz.prog G [.str,.str] cs m):∃ x,Qo.R G cs x∧(fun _=>0) x≤m:=by
 obtain ⟨_,c0,_,_,rfl,_,k0,h⟩:=h
 obtain ⟨x0,rfl,w0,_⟩:=k0
 obtain ⟨_,c1,_,_,rfl,_,k1,h⟩:=h
 obtain ⟨x1,rfl,w1,_⟩:=k1
 have h:c1=[]:=h
 subst h
 exact ⟨(⟨x0,x1⟩:JV),⟨rfl,w0,w1⟩,Nat.zero_le _⟩
theorem Jmm {G:Jt} {cs:List Value} {m:Nat} (h:RdL Tryz.prog G [.int .i64,.int .u64,.int .u64,.int .i64] cs m):∃ x,KE.R G cs x∧(fun _=>0) x≤m:=by
 obtain ⟨_,c0,_,_,rfl,_,k0,h⟩:=h
 obtain ⟨x0,rfl,w0⟩:=k0
 obtain ⟨_,c1,_,_,rfl,_,k1,h⟩:=h
 obtain ⟨x1,rfl,w1⟩:=k1
 obtain ⟨_,c2,_,_,rfl,_,k2,h⟩:=h
 obtain ⟨x2,rfl,w2⟩:=k2
 obtain ⟨_,c3,_,_,rfl,_,k3,h⟩:=h
 obtain ⟨x3,rfl,w3⟩:=k3
 have h:c3=[]:=h
 subst h
 exact ⟨(⟨x0,x1,x2,x3⟩:JR),⟨rfl,ZW w0,JdO w1,JdO w2,ZW w3⟩,Nat.zero_le _⟩
theorem JkW {G:Jt} {cs:List Value} {m:Nat} (h:RdL Tryz.prog G [.sl 22,.sl 23,.int .i64,.int .i64,.int .i64,.int .i64,.int .i64,.int .i64,.int .i64] cs m):∃ x,JdS.R G cs x∧(fun _=>0) x≤m:=by
 obtain ⟨_,c0,_,_,rfl,_,k0,h⟩:=h
 obtain ⟨a0,c0_,x0,rfl,hs0,_,hcap0⟩:=VD (E:=ES) (e:=9) (size:=fun _=>0) k0 (by kernel_rfl) (by kernel_rfl) (fun cs m h=>o_ES h) (by decide +kernel) (by kernel_rfl) (by kernel_rfl)
 obtain ⟨_,c1,_,_,rfl,_,k1,h⟩:=h
 obtain ⟨a1,c1_,x1,rfl,hs1,_,hcap1⟩:=VD (E:=EU) (e:=48) (size:=fun _=>0) k1 (by kernel_rfl) (by kernel_rfl) (fun cs m h=>o_EU h) (by decide +kernel) (by kernel_rfl) (by kernel_rfl)
 obtain ⟨_,c2,_,_,rfl,_,k2,h⟩:=h
 obtain ⟨x2,rfl,w2⟩:=k2
 obtain ⟨_,c3,_,_,rfl,_,k3,h⟩:=h
 obtain ⟨x3,rfl,w3⟩:=k3
 obtain ⟨_,c4,_,_,rfl,_,k4,h⟩:=h
 obtain ⟨x4,rfl,w4⟩:=k4
 obtain ⟨_,c5,_,_,rfl,_,k5,h⟩:=h
 obtain ⟨x5,rfl,w5⟩:=k5
 obtain ⟨_,c6,_,_,rfl,_,k6,h⟩:=h
 obtain ⟨x6,rfl,w6⟩:=k6
 obtain ⟨_,c7,_,_,rfl,_,k7,h⟩:=h
 obtain ⟨x7,rfl,w7⟩:=k7
 obtain ⟨_,c8,_,_,rfl,_,k8,h⟩:=h
 obtain ⟨x8,rfl,w8⟩:=k8
 have h:c8=[]:=h
 subst h
 exact ⟨(⟨x0,x1,x2,x3,x4,x5,x6,x7,x8⟩:KI),⟨a0,c0_,a1,c1_,rfl,hs0,hs1,ZW w2,ZW w3,ZW w4,ZW w5,ZW w6,ZW w7,ZW w8⟩,Nat.zero_le _⟩
theorem Jmn {G:Jt} {cs:List Value} {m:Nat} (h:RdL Tryz.prog G [.int .i64,.int .i64,.str,.sl 65,.int .i64,.int .i64,.int .i64,.int .i64,.sl 31,.int .i64,.int .u64,.int .u64,.int .i64,.str,.sl 66,.sl 23] cs m):∃ x,Jae.R G cs x∧(fun _=>0) x≤m:=by
 obtain ⟨_,c0,_,_,rfl,_,k0,h⟩:=h
 obtain ⟨x0,rfl,w0⟩:=k0
 obtain ⟨_,c1,_,_,rfl,_,k1,h⟩:=h
 obtain ⟨x1,rfl,w1⟩:=k1
 obtain ⟨_,c2,_,_,rfl,_,k2,h⟩:=h
 obtain ⟨x2,rfl,w2,_⟩:=k2
 obtain ⟨_,c3,_,_,rfl,_,k3,h⟩:=h
 obtain ⟨a3,c3_,x3,rfl,hs3,_,hcap3⟩:=VD (E:=EI) (e:=3) (size:=fun _=>0) k3 (by kernel_rfl) (by kernel_rfl) (fun cs m h=>o_EI h) (by decide +kernel) (by kernel_rfl) (by kernel_rfl)
 obtain ⟨_,c4,_,_,rfl,_,k4,h⟩:=h
 obtain ⟨x4,rfl,w4⟩:=k4
 obtain ⟨_,c5,_,_,rfl,_,k5,h⟩:=h
 obtain ⟨x5,rfl,w5⟩:=k5
 obtain ⟨_,c6,_,_,rfl,_,k6,h⟩:=h
 obtain ⟨x6,rfl,w6⟩:=k6
 obtain ⟨_,c7,_,_,rfl,_,k7,h⟩:=h
 obtain ⟨x7,rfl,w7⟩:=k7
 obtain ⟨_,c8,_,_,rfl,_,k8,h⟩:=h
 obtain ⟨a8,c8_,x8,rfl,hs8,_,hcap8⟩:=VD (E:=KE) (e:=50) (size:=fun _=>0) k8 (by kernel_rfl) (by kernel_rfl) (fun cs m h=>Jmm h) (by decide +kernel) (by kernel_rfl) (by kernel_rfl)
 obtain ⟨_,c9,_,_,rfl,_,k9,h⟩:=h
 obtain ⟨x9,rfl,w9⟩:=k9
 obtain ⟨_,c10,_,_,rfl,_,k10,h⟩:=h
 obtain ⟨x10,rfl,w10⟩:=k10
 obtain ⟨_,c11,_,_,rfl,_,k11,h⟩:=h
 obtain ⟨x11,rfl,w11⟩:=k11
 obtain ⟨_,c12,_,_,rfl,_,k12,h⟩:=h
 obtain ⟨x12,rfl,w12⟩:=k12
 obtain ⟨_,c13,_,_,rfl,_,k13,h⟩:=h
 obtain ⟨x13,rfl,w13,_⟩:=k13
 obtain ⟨_,c14,_,_,rfl,_,k14,h⟩:=h
 obtain ⟨a14,c14_,x14,rfl,hs14,_,hcap14⟩:=VD (E:=Qo) (e:=94) (size:=fun _=>0) k14 (by kernel_rfl) (by kernel_rfl) (fun cs m h=>o_EEnt h) (by decide +kernel) (by kernel_rfl) (by kernel_rfl)
 obtain ⟨_,c15,_,_,rfl,_,k15,h⟩:=h
 obtain ⟨a15,c15_,x15,rfl,hs15,_,hcap15⟩:=VD (E:=EU) (e:=48) (size:=fun _=>0) k15 (by kernel_rfl) (by kernel_rfl) (fun cs m h=>o_EU h) (by decide +kernel) (by kernel_rfl) (by kernel_rfl)
 have h:c15=[]:=h
 subst h
 exact ⟨(⟨x0,x1,x2,x3,(⟨x4,x5,x6,x7,x8,(⟨(⟨x9,x10,x11,x12⟩:JR),(⟨x13,x14,x15⟩:Wy)⟩:WC)⟩:JP)⟩:Qd),⟨a3,c3_,a8,c8_,a14,c14_,a15,c15_,rfl,ZW w0,ZW w1,w2,hs3,ZW w4,ZW w5,ZW w6,ZW w7,hs8,ZW w9,JdO w10,JdO w11,ZW w12,w13,hs14,hs15⟩,Nat.zero_le _⟩
abbrev JfJ (x:WT):List Value:=[Sr x.name,Sr x.value,U x.n,U x.tag]
abbrev JgG (x:WT):Value:=.agg #[Sr x.name,Sr x.value,U x.n,U x.tag]
abbrev Kn (x:Kw) (a0:Option Addr) (c0:Nat) (a1:Option Addr) (c1:Nat) (a2:Option Addr) (c2:Nat):List Value:=[I x.queue.most,Sl a0 x.queue.wait.length c0,I x.batch,I x.every,I x.now,Sl a1 x.heads.length c1,Sl a2 x.books.length c2]
abbrev KW (x:Kw) (a0:Option Addr) (c0:Nat) (a1:Option Addr) (c1:Nat) (a2:Option Addr) (c2:Nat):Value:=.agg #[I x.queue.most,Sl a0 x.queue.wait.length c0,I x.batch,I x.every,I x.now,Sl a1 x.heads.length c1,Sl a2 x.books.length c2]
abbrev Wk (x:Qd) (a0:Option Addr) (c0:Nat) (a1:Option Addr) (c1:Nat) (a2:Option Addr) (c2:Nat) (a3:Option Addr) (c3:Nat):List Value:=[I x.kind,I x.who,Sr x.value,Sl a0 x.fates.length c0,I x.letter.to_,I x.letter.from_,I x.letter.since,I x.letter.due,Sl a1 x.letter.heads.length c1,I x.letter.reply.head.epoch,U x.letter.reply.head.root,U x.letter.reply.head.prev,I x.letter.reply.head.at_,Sr x.letter.reply.proof.name,Sl a2 x.letter.reply.proof.entries.length c2,Sl a3 x.letter.reply.proof.sides.length c3]
abbrev JaH (x:Qd) (a0:Option Addr) (c0:Nat) (a1:Option Addr) (c1:Nat) (a2:Option Addr) (c2:Nat) (a3:Option Addr) (c3:Nat):Value:=.agg #[I x.kind,I x.who,Sr x.value,Sl a0 x.fates.length c0,I x.letter.to_,I x.letter.from_,I x.letter.since,I x.letter.due,Sl a1 x.letter.heads.length c1,I x.letter.reply.head.epoch,U x.letter.reply.head.root,U x.letter.reply.head.prev,I x.letter.reply.head.at_,Sr x.letter.reply.proof.name,Sl a2 x.letter.reply.proof.entries.length c2,Sl a3 x.letter.reply.proof.sides.length c3]
abbrev JaS (x:JR):List Value:=[I x.epoch,U x.root,U x.prev,I x.at_]
abbrev YC (x:JR):Value:=.agg #[I x.epoch,U x.root,U x.prev,I x.at_]
abbrev J4 (x:JP) (a0:Option Addr) (c0:Nat) (a1:Option Addr) (c1:Nat) (a2:Option Addr) (c2:Nat):List Value:=[I x.to_,I x.from_,I x.since,I x.due,Sl a0 x.heads.length c0,I x.reply.head.epoch,U x.reply.head.root,U x.reply.head.prev,I x.reply.head.at_,Sr x.reply.proof.name,Sl a1 x.reply.proof.entries.length c1,Sl a2 x.reply.proof.sides.length c2]
abbrev K3 (x:JP) (a0:Option Addr) (c0:Nat) (a1:Option Addr) (c1:Nat) (a2:Option Addr) (c2:Nat):Value:=.agg #[I x.to_,I x.from_,I x.since,I x.due,Sl a0 x.heads.length c0,I x.reply.head.epoch,U x.reply.head.root,U x.reply.head.prev,I x.reply.head.at_,Sr x.reply.proof.name,Sl a1 x.reply.proof.entries.length c1,Sl a2 x.reply.proof.sides.length c2]
abbrev Kv (x:KP) (a0:Option Addr) (c0:Nat):List Value:=[Sr x.name,U x.key,I x.head.epoch,U x.head.root,U x.head.prev,I x.head.at_,Sl a0 x.wanted.length c0,I x.had]
abbrev Ko (x:KP) (a0:Option Addr) (c0:Nat):Value:=.agg #[Sr x.name,U x.key,I x.head.epoch,U x.head.root,U x.head.prev,I x.head.at_,Sl a0 x.wanted.length c0,I x.had]
abbrev ZE (x:QT):List Value:=[I x.least,I x.most,I x.lost,I x.gap,I x.next,I x.asked]
abbrev WO (x:QT):Value:=.agg #[I x.least,I x.most,I x.lost,I x.gap,I x.next,I x.asked]
abbrev Ze (x:Wy) (a0:Option Addr) (c0:Nat) (a1:Option Addr) (c1:Nat):List Value:=[Sr x.name,Sl a0 x.entries.length c0,Sl a1 x.sides.length c1]
abbrev ZF (x:Wy) (a0:Option Addr) (c0:Nat) (a1:Option Addr) (c1:Nat):Value:=.agg #[Sr x.name,Sl a0 x.entries.length c0,Sl a1 x.sides.length c1]
abbrev WV (x:WC) (a0:Option Addr) (c0:Nat) (a1:Option Addr) (c1:Nat):List Value:=[I x.head.epoch,U x.head.root,U x.head.prev,I x.head.at_,Sr x.proof.name,Sl a0 x.proof.entries.length c0,Sl a1 x.proof.sides.length c1]
abbrev WD (x:WC) (a0:Option Addr) (c0:Nat) (a1:Option Addr) (c1:Nat):Value:=.agg #[I x.head.epoch,U x.head.root,U x.head.prev,I x.head.at_,Sr x.proof.name,Sl a0 x.proof.entries.length c0,Sl a1 x.proof.sides.length c1]
abbrev W4 (x:KI) (a0:Option Addr) (c0:Nat) (a1:Option Addr) (c1:Nat):List Value:=[Sl a0 x.names.length c0,Sl a1 x.keys.length c1,I x.most,I x.batch,I x.every,I x.least,I x.top,I x.lost,I x.reach]
abbrev V3 (x:KI) (a0:Option Addr) (c0:Nat) (a1:Option Addr) (c1:Nat):Value:=.agg #[Sl a0 x.names.length c0,Sl a1 x.keys.length c1,I x.most,I x.batch,I x.every,I x.least,I x.top,I x.lost,I x.reach]
abbrev JiR (x:QU) (a0:Option Addr) (c0:Nat) (a1:Option Addr) (c1:Nat) (a2:Option Addr) (c2:Nat) (a3:Option Addr) (c3:Nat) (a4:Option Addr) (c4:Nat) (a5:Option Addr) (c5:Nat):List Value:=[I x.clerk.queue.most,Sl a0 x.clerk.queue.wait.length c0,I x.clerk.batch,I x.clerk.every,I x.clerk.now,Sl a1 x.clerk.heads.length c1,Sl a2 x.clerk.books.length c2,Sl a3 x.owners.length c3,Sl a4 x.polls.length c4,I x.net.now,Sl a5 x.net.way.length c5]
abbrev Jfa (x:QU) (a0:Option Addr) (c0:Nat) (a1:Option Addr) (c1:Nat) (a2:Option Addr) (c2:Nat) (a3:Option Addr) (c3:Nat) (a4:Option Addr) (c4:Nat) (a5:Option Addr) (c5:Nat):Value:=.agg #[I x.clerk.queue.most,Sl a0 x.clerk.queue.wait.length c0,I x.clerk.batch,I x.clerk.every,I x.clerk.now,Sl a1 x.clerk.heads.length c1,Sl a2 x.clerk.books.length c2,Sl a3 x.owners.length c3,Sl a4 x.polls.length c4,I x.net.now,Sl a5 x.net.way.length c5]
end Go.Proofs.YtnnlpbjdignhaaaGreatDoor
