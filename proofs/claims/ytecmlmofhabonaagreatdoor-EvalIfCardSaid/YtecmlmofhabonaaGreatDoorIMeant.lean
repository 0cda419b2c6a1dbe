/- The examples that the law asks for, run by the kernel in pieces. -/
import Derived.Test.YtecmlmofhabonaaGreatDoorINode4
noncomputable section
namespace Go.Ev
open Go Go.Ab Go.Nl Go.Nb Go.RowKit Go.Proofs Go.E4
set_option maxRecDepth 1000000
structure MF where
 f:FuncId
 a:List AV
 x:AV
 d:List Nat
abbrev i (n:Nat):AV:=.int .i64 (.ofNat n)
abbrev t (l:List Nat):AV:=.str l
abbrev p (l:List AV)(n:Nat):AV:=.psl l n none
def t0:AV:=t [49]
def t1:AV:=t [109]
def t2:AV:=t [102]
def t3:AV:=t [51]
def t4:AV:=t [120]
def t5:AV:=t [50,48,48]
def t6:AV:=t [49,48,48,48]
def t7:AV:=t [97,98,99,100,101,102,103,104,105,106,107,108,109,110,111,112,113,114,115,116,117,118,119,120,121,122]
def t8:AV:=t [102,117,110,32,102,40,120,41,32,61,32,120,32,42,32,120]
def t9:AV:=t [108,101,116,32,97,32,61,32,102,40,51,123,109,125,41]
def t10:AV:=t [115,104,111,119,32,97,32,43,32,102,40,49,123,109,125,41]
def t11:AV:=t [51,123,107,109,125,32,43,32,50,48,48,123,109,125]
def t12:AV:=t [105,102,32,49,32,60,32,50,32,116,104,101,110,32,51,32,101,108,115,101,32,49,32,47,32,48]
def l0:List AV:=[i 1,.psl [.int .u32 (.ofNat 1)] 1 (some 1)]
def l1:List AV:=[t1,t0,t0,p [t1,t0,t0] 1,t [107,109],t6,t0,p [t1,t0,t0] 1,t [115],t0,t0,p [t [115],t0,t0] 1,t [104],t [51,54,48,48],t0,p [t [115],t0,t0] 1,t [107,103],t0,t0,p [t [107,103],t0,t0] 1]
def l2:List AV:=[i 1,.psl [.int .u32 (.ofNat 1)] 1 (some 1),i 1,.psl [.int .u32 (.ofNat 1)] 1 (some 1)]
def l3:List AV:=[i 1,.psl [.int .u32 (.ofNat 2)] 1 (some 1),i 1,.psl [.int .u32 (.ofNat 1)] 1 (some 1)]
def l4:List AV:=[i 0,t2,p [t4] 1,i 5,t [],t [],t [],i 0,.psl [i 1,t [],t [],t4,i 0,.nils,i 1,t [],t [],t4,i 0,.nils] 2 (some 2),i 1,t [97],.nils,i 14,t [],t [],t2,i 0,p [i 0,t3,t0,t1,i 0,.nils] 1,i 2,t [],.nils,i 3,t [],t [],t [],i 0,.psl [i 1,t [],t [],t [97],i 0,.nils,i 14,t [],t [],t2,i 0,p [i 0,t0,t0,t1,i 0,.nils] 1] 2 (some 2)]
def l5:List AV:=[i 1,.psl [.int .u32 (.ofNat 3)] 1 (some 1),i 1,.psl [.int .u32 (.ofNat 1)] 1 (some 1)]
def l6:List AV:=[i 1,t [105,102],i 0,i 2,t0,i 3,i 4,t [60],i 5,i 2,t [50],i 7,i 1,t [116,104,101,110],i 9,i 2,t3,i 14,i 1,t [101,108,115,101],i 16,i 2,t0,i 21,i 4,t [47],i 23,i 2,t [48],i 25,i 9,t [],i 26]
def l7:List AV:=[t1,i 1,.psl [.int .u32 (.ofNat 1)] 1 (some 1),i 1,.psl [.int .u32 (.ofNat 1)] 1 (some 1)]
def l8:List AV:=[i 12,t [],t [],t [],i 0,.psl [i 0,t0,t0,t [],i 0,.nils,i 0,t [50],t0,t [],i 0,.nils,i 0,t3,t0,t [],i 0,.nils,i 6,t [],t [],t [],i 0,.psl [i 0,t0,t0,t [],i 0,.nils,i 0,t [48],t0,t [],i 0,.nils] 2 (some 2)] 4 (some 4)]
def l9:List AV:=[i 1,.psl [.int .u32 (.ofNat 3)] 1 (some 1)]
def l10:List AV:=[i 1,.psl [.int .u32 (.ofNat 2)] 1 (some 1)]
def l11:List AV:=[i 1,.psl [.int .u32 (.ofNat 200)] 1 (some 1),i 1,.psl [.int .u32 (.ofNat 1)] 1 (some 1)]
def l12:List AV:=[i 0,.nils,i 1,.psl [.int .u32 (.ofNat 1)] 1 (some 1)]
def l13:List AV:=[i 1,.psl [.int .u32 (.ofNat 3000)] 1 (some 1)]
def l14:List AV:=[i 1,.psl [.int .u32 (.ofNat 200)] 1 (some 1)]
def l15:List AV:=[t1,i 1,.psl [.int .u32 (.ofNat 2)] 1 (some 1),i 1,.psl [.int .u32 (.ofNat 1)] 1 (some 1)]
def l16:List AV:=[i 1,.psl [.int .u32 (.ofNat 9)] 1 (some 1)]
def l17:List AV:=[i 5,t [],t [],t [],i 0,.psl [i 1,t [],t [],t [105],i 0,.nils,i 1,t [],t [],t [105],i 0,.nils] 2 (some 2)]
def l18:List AV:=[i 1,t [115,104,111,119],i 0,i 0,t [97],i 5,i 4,t [43],i 7,i 0,t2,i 9,i 4,t [40],i 10,i 2,t0,i 11,i 3,t1,i 12,i 4,t [41],i 15,i 9,t [],i 16]
def l19:List AV:=[i 1,.psl [.int .u32 (.ofNat 9)] 1 (some 1),i 1,.psl [.int .u32 (.ofNat 1)] 1 (some 1)]
def l20:List AV:=[i 1,t [108,101,116],i 0,i 0,t [97],i 4,i 4,t [61],i 6,i 0,t2,i 8,i 4,t [40],i 9,i 2,t3,i 10,i 3,t1,i 11,i 4,t [41],i 14,i 9,t [],i 15]
def l21:List AV:=[i 3,t [],t [],t [],i 0,.psl [i 0,t3,t0,t [107,109],i 0,.nils,i 0,t5,t0,t1,i 0,.nils] 2 (some 2)]
def l22:List AV:=[i 1,.psl [.int .u32 (.ofNat 3000)] 1 (some 1),i 1,.psl [.int .u32 (.ofNat 1)] 1 (some 1)]
def l23:List AV:=[i 1,.psl [.int .u32 (.ofNat 3200)] 1 (some 1)]
def l24:List AV:=[i 1,.psl [.int .u32 (.ofNat 10)] 1 (some 1)]
def l25:List AV:=[i 3,t [],t [],t [],i 0,.psl [i 0,t0,t0,t1,i 0,.nils,i 0,t0,t0,t [115],i 0,.nils] 2 (some 2)]
def l26:List AV:=[i 1,.psl [.int .u32 (.ofNat 4)] 1 (some 1)]
def l27:List AV:=[i 1,t [115,104,111,119],i 0,i 0,t2,i 5,i 4,t [40],i 6,i 2,t0,i 7,i 4,t [41],i 8,i 9,t [],i 9]
def l28:List AV:=[i 1,t [102,117,110],i 0,i 0,t2,i 4,i 4,t [40],i 5,i 0,t4,i 6,i 4,t [41],i 7,i 4,t [61],i 9,i 0,t4,i 11,i 4,t [42],i 13,i 0,t4,i 15,i 9,t [],i 16]
def l29:List AV:=[i 1,.psl [.int .u32 (.ofNat 3200)] 1 (some 1),i 1,.psl [.int .u32 (.ofNat 1)] 1 (some 1)]
def l30:List AV:=[i 1,.psl [.int .u32 (.ofNat 1000)] 1 (some 1)]
def l31:List AV:=[i 1,.psl [.int .u32 (.ofNat 10)] 1 (some 1),i 1,.psl [.int .u32 (.ofNat 1)] 1 (some 1)]
def l32:List AV:=[i 1,.psl [.int .u32 (.ofNat 4)] 1 (some 1),i 1,.psl [.int .u32 (.ofNat 1)] 1 (some 1)]
def l33:List AV:=[i 1,t [116,97,98],i 0,i 0,t [105],i 4,i 4,t [60],i 6,i 2,t3,i 8,i 4,t [46],i 10,i 0,t [105],i 12,i 4,t [42],i 14,i 0,t [105],i 16,i 9,t [],i 17]
def l34:List AV:=[i 3,t [],t [],t [],i 0,.psl [i 1,t [],t [],t [97],i 0,.nils,i 14,t [],t [],t2,i 0,p [i 0,t0,t0,t1,i 0,.nils] 1] 2 (some 2)]
def l35:List AV:=[i 2,t [],.nils,i 14,t [],t [],t2,i 0,p [i 0,t0,t0,t [],i 0,.nils] 1,i 0,t2,p [t4] 1,i 1,t [],t [],t4,i 0,.nils]
def l36:List AV:=[i 1,t [102,117,110],i 0,i 0,t2,i 4,i 4,t [40],i 5,i 0,t4,i 6,i 4,t [41],i 7,i 4,t [61],i 9,i 0,t4,i 11,i 9,t [],i 12]
def l37:List AV:=[i 1,.psl [.int .u32 (.ofNat 3600)] 1 (some 1)]
def l38:List AV:=[i 6,t [],t [],t [],i 0,.psl [i 0,t0,t0,t [],i 0,.nils,i 0,t [48],t0,t [],i 0,.nils] 2 (some 2)]
def l39:List AV:=[i 5,t [],t [],t [],i 0,.psl [i 1,t [],t [],t4,i 0,.nils,i 1,t [],t [],t4,i 0,.nils] 2 (some 2)]
def l40:List AV:=[i 2,t3,i 0,i 3,t [107,109],i 1,i 4,t [43],i 6,i 2,t5,i 8,i 3,t1,i 11,i 9,t [],i 14]
def l41:List AV:=[t [116,97,98,32,105,32,60,32,51,32,46,32,105,32,42,32,105]]
def l42:List AV:=[i 2,t0,i 0,i 3,t1,i 1,i 4,t [43],i 5,i 2,t0,i 7,i 3,t [115],i 8,i 9,t [],i 11]
def l43:List AV:=[.agg [i 0,.nils],.agg l0]
def l44:List AV:=[i 1,.psl [.int .u32 (.ofNat 1000)] 1 (some 1),i 1,.psl [.int .u32 (.ofNat 1)] 1 (some 1)]
def l45:List AV:=[t12]
def l46:List AV:=[i 0,t3,t0,t1,i 0,.nils]
def l47:List AV:=[i 0,t0,t0,t [],i 0,.nils]
def l48:List AV:=[i 0,t2,p [t4] 1,i 1,t [],t [],t4,i 0,.nils]
def l49:List AV:=[.nils,.psl l12 1 (some 1),.nils]
def mL0:List MF:=[
 ⟨10,[],.psl l1 5 (some 5),[]⟩,
 ⟨136,[t8],p l28 10,[]⟩,
 ⟨283,[p l28 10,i 6],.tup [.agg l39,i 9,.bool true],[]⟩,
 ⟨138,[t8],.bool true,[]⟩,
 ⟨136,[t9],p l20 9,[]⟩,
 ⟨397,[p l20 9,i 5,t [41]],.tup [p l46 1,i 8,.bool true],[]⟩,
 ⟨205,[p l20 9,i 2,t [61]],.tup [.agg [i 14,t [],t [],t2,i 0,p l46 1],i 8,.bool true],[5]⟩,
 ⟨138,[t9],.bool true,[]⟩,
 ⟨136,[t10],p l18 9,[]⟩,
 ⟨397,[p l18 9,i 5,t [41]],.tup [p [i 0,t0,t0,t1,i 0,.nils] 1,i 8,.bool true],[]⟩,
 ⟨283,[p l18 9,i 1],.tup [.agg l34,i 8,.bool true],[9]⟩,
 ⟨138,[t10],.bool true,[]⟩]
def mL1:List MF:=[
 ⟨100,[t [102,117,110,32,102,40,120,41,32,61,32,120,32,42,32,120,10,108,101,116,32,97,32,61,32,102,40,51,123,109,125,41,10,115,104,111,119,32,97,32,43,32,102,40,49,123,109,125,41,10]],.tup [p l4 3,i 0,i 0],[1,2,3,4,6,7,8,10,11]⟩,
 ⟨181,[t [48]],.agg [i 0,.nils],[]⟩,
 ⟨181,[t0],.agg l0,[]⟩,
 ⟨289,l43,.tup [.agg [i 0,.nils],.agg [i 0,.nils]],[]⟩,
 ⟨218,l43,.agg l0,[15]⟩,
 ⟨220,[i 1],.agg l0,[]⟩,
 ⟨156,[.agg [t [48],t0]],.agg [t [48],t0,i 0,.nils,i 1,.psl [.int .u32 (.ofNat 1)] 1 (some 1)],[13,14,16,17]⟩,
 ⟨289,[.agg l0,.agg l0],.tup [.agg l0,.agg [i 0,.nils]],[]⟩,
 ⟨218,[.agg l0,.agg l0],.agg l0,[19]⟩,
 ⟨156,[.agg [t0,t0]],.agg [t0,t0,i 1,.psl [.int .u32 (.ofNat 1)] 1 (some 1),i 1,.psl [.int .u32 (.ofNat 1)] 1 (some 1)],[14,20,17]⟩,
 ⟨157,[t1,t7],t [],[]⟩,
 ⟨181,[t6],.agg l30,[]⟩]
def mL2:List MF:=[
 ⟨289,[.agg l30,.agg l0],.tup [.agg l30,.agg [i 0,.nils]],[]⟩,
 ⟨218,[.agg l30,.agg l0],.agg l0,[24]⟩,
 ⟨156,[.agg [t6,t0]],.agg [t6,t0,i 1,.psl [.int .u32 (.ofNat 1000)] 1 (some 1),i 1,.psl [.int .u32 (.ofNat 1)] 1 (some 1)],[23,14,25,17]⟩,
 ⟨157,[t [115],t7],t [],[]⟩,
 ⟨181,[t [51,54,48,48]],.agg l37,[]⟩,
 ⟨289,[.agg l37,.agg l0],.tup [.agg l37,.agg [i 0,.nils]],[]⟩,
 ⟨218,[.agg l37,.agg l0],.agg l0,[29]⟩,
 ⟨156,[.agg [t [51,54,48,48],t0]],.agg [t [51,54,48,48],t0,i 1,.psl [.int .u32 (.ofNat 3600)] 1 (some 1),i 1,.psl [.int .u32 (.ofNat 1)] 1 (some 1)],[28,14,30,17]⟩,
 ⟨157,[t [107,103],t7],t [],[]⟩,
 ⟨86,[.psl l1 5 (some 5)],.tup [],[26,22,31,27,18,32,21]⟩,
 ⟨93,[.agg l39,i 0],.tup [],[]⟩,
 ⟨181,[t3],.agg l9,[]⟩]
def mL3:List MF:=[
 ⟨289,[.agg l9,.agg l0],.tup [.agg l9,.agg [i 0,.nils]],[]⟩,
 ⟨218,[.agg l9,.agg l0],.agg l0,[36]⟩,
 ⟨156,[.agg [t3,t0]],.agg [t3,t0,i 1,.psl [.int .u32 (.ofNat 3)] 1 (some 1),i 1,.psl [.int .u32 (.ofNat 1)] 1 (some 1)],[35,14,37,17]⟩,
 ⟨93,[.agg [i 14,t [],t [],t2,i 0,p l46 1],i 0],.tup [],[38]⟩,
 ⟨93,[.agg [i 14,t [],t [],t2,i 0,p [i 0,t0,t0,t1,i 0,.nils] 1],i 1],.tup [],[21]⟩,
 ⟨93,[.agg l34,i 0],.tup [],[40]⟩,
 ⟨88,[p l4 3],i 0,[34,39,41]⟩,
 ⟨123,[.agg [t3,t0]],.agg l5,[35,14]⟩,
 ⟨123,[.agg [t0,t0]],.agg l2,[14]⟩,
 ⟨220,[i 3],.agg l9,[]⟩,
 ⟨230,[.agg l9,.agg l0],.agg l9,[45]⟩,
 ⟨230,[.agg l0,.agg l0],.agg l0,[17]⟩]
def mL4:List MF:=[
 ⟨228,[.agg l9,.agg l0],.agg l5,[37]⟩,
 ⟨161,[.agg l5,.agg l2],.agg l5,[46,47,48]⟩,
 ⟨132,[.agg l9],t3,[]⟩,
 ⟨132,[.agg l0],t0,[]⟩,
 ⟨228,[.agg l0,.agg l0],.agg l2,[20]⟩,
 ⟨165,[i 1,i 1],.agg l2,[17,52]⟩,
 ⟨161,[.agg l2,.agg l2],.agg l2,[47,52]⟩,
 ⟨220,[i 0],.agg [i 0,.nils],[]⟩,
 ⟨228,l43,.agg l12,[16]⟩,
 ⟨165,[i 0,i 1],.agg l12,[55,17,56]⟩,
 ⟨230,l43,.agg [i 0,.nils],[55]⟩,
 ⟨229,l43,.agg l0,[17]⟩]
def mL5:List MF:=[
 ⟨158,[.agg l12,.agg l2],.agg l2,[58,59,47,52]⟩,
 ⟨220,[i 2],.agg l10,[]⟩,
 ⟨229,[.agg l0,.agg l0],.agg l10,[61]⟩,
 ⟨289,[.agg l10,.agg l0],.tup [.agg l10,.agg [i 0,.nils]],[]⟩,
 ⟨218,[.agg l10,.agg l0],.agg l0,[63]⟩,
 ⟨228,[.agg l10,.agg l0],.agg l3,[64]⟩,
 ⟨158,[.agg l2,.agg l2],.agg l3,[62,47,65]⟩,
 ⟨220,[i 9],.agg l16,[]⟩,
 ⟨230,[.agg l9,.agg l9],.agg l16,[67]⟩,
 ⟨289,[.agg l16,.agg l0],.tup [.agg l16,.agg [i 0,.nils]],[]⟩,
 ⟨218,[.agg l16,.agg l0],.agg l0,[69]⟩,
 ⟨228,[.agg l16,.agg l0],.agg l19,[70]⟩]
def mL6:List MF:=[
 ⟨161,[.agg l5,.agg l5],.agg l19,[68,47,71]⟩,
 ⟨132,[.agg l16],t [57],[]⟩,
 ⟨132,[.agg l10],t [50],[]⟩,
 ⟨74,[i 5,.agg [.nils,.psl l5 1 (some 1),p l7 1],.agg [.nils,.psl l5 1 (some 1),p l7 1]],.agg [.nils,.psl l19 1 (some 1),p l15 1],[53,54,57,60,66,72,73,51,74]⟩,
 ⟨74,[i 5,.agg [.nils,.psl l2 1 (some 1),p l7 1],.agg [.nils,.psl l2 1 (some 1),p l7 1]],.agg [.nils,.psl l2 1 (some 1),p l15 1],[53,57,60,66,54,51,74]⟩,
 ⟨230,[.agg l10,.agg l0],.agg l10,[61]⟩,
 ⟨164,[.agg l3,.agg l3],i 0,[77]⟩,
 ⟨230,[.agg l16,.agg l0],.agg l16,[67]⟩,
 ⟨220,[i 10],.agg l24,[]⟩,
 ⟨229,[.agg l16,.agg l0],.agg l24,[80]⟩,
 ⟨289,[.agg l24,.agg l0],.tup [.agg l24,.agg [i 0,.nils]],[]⟩,
 ⟨218,[.agg l24,.agg l0],.agg l0,[82]⟩]
def mL7:List MF:=[
 ⟨228,[.agg l24,.agg l0],.agg l31,[83]⟩,
 ⟨158,[.agg l19,.agg l2],.agg l31,[79,81,47,84]⟩,
 ⟨132,[.agg l24],t [49,48],[]⟩,
 ⟨74,[i 3,.agg [.nils,.psl l19 1 (some 1),p l15 1],.agg [.nils,.psl l2 1 (some 1),p l15 1]],.agg [.nils,.psl l31 1 (some 1),p l15 1],[78,85,86,51,74]⟩,
 ⟨25,[.psl l1 5 (some 5),p l4 3,.nils],.tup [p [.nils,p [t [49,48],t0] 1,p [t1,t [50],t0] 1] 1,i 12,i 0],[33,42,43,49,50,75,54,44,76,87,86,51,74]⟩,
 ⟨136,[t [115,104,111,119,32,102,40,49,41]],p l27 6,[]⟩,
 ⟨397,[p l27 6,i 3,t [41]],.tup [p l47 1,i 5,.bool true],[]⟩,
 ⟨137,[p l27 6],.tup [.agg [i 2,t [],.nils,i 14,t [],t [],t2,i 0,p l47 1],i 5,.bool true],[90]⟩,
 ⟨138,[t [115,104,111,119,32,102,40,49,41]],.bool true,[]⟩,
 ⟨136,[t [102,117,110,32,102,40,120,41,32,61,32,120]],p l36 8,[]⟩,
 ⟨204,[p l36 8],.tup [.agg l48,i 7,.bool true],[]⟩,
 ⟨138,[t [102,117,110,32,102,40,120,41,32,61,32,120]],.bool true,[]⟩]
def mL8:List MF:=[
 ⟨100,[t [115,104,111,119,32,102,40,49,41,10,102,117,110,32,102,40,120,41,32,61,32,120,10]],.tup [p l35 2,i 0,i 0],[89,91,92,93,94,95]⟩,
 ⟨93,[.agg [i 14,t [],t [],t2,i 0,p l47 1],i 0],.tup [],[21]⟩,
 ⟨129,[.agg l48],.tup [],[]⟩,
 ⟨59,[.psl l1 5 (some 5),p l35 2,.nils],.tup [i 0,i 0],[33,97,98]⟩,
 ⟨136,[t11],p l40 6,[]⟩,
 ⟨283,[p l40 6,i 0],.tup [.agg l21,i 5,.bool true],[]⟩,
 ⟨138,[t11],.bool true,[]⟩,
 ⟨181,[t5],.agg l14,[]⟩,
 ⟨289,[.agg l14,.agg l0],.tup [.agg l14,.agg [i 0,.nils]],[]⟩,
 ⟨218,[.agg l14,.agg l0],.agg l0,[104]⟩,
 ⟨156,[.agg [t5,t0]],.agg [t5,t0,i 1,.psl [.int .u32 (.ofNat 200)] 1 (some 1),i 1,.psl [.int .u32 (.ofNat 1)] 1 (some 1)],[103,14,105,17]⟩,
 ⟨93,[.agg l21,i 0],.tup [],[38,106]⟩]
def mL9:List MF:=[
 ⟨123,[.agg [t6,t0]],.agg l44,[23,14]⟩,
 ⟨220,[i 3000],.agg l13,[]⟩,
 ⟨230,[.agg l9,.agg l30],.agg l13,[109]⟩,
 ⟨289,[.agg l13,.agg l0],.tup [.agg l13,.agg [i 0,.nils]],[]⟩,
 ⟨218,[.agg l13,.agg l0],.agg l0,[111]⟩,
 ⟨228,[.agg l13,.agg l0],.agg l22,[112]⟩,
 ⟨161,[.agg l5,.agg l44],.agg l22,[110,47,113]⟩,
 ⟨132,[.agg l13],t [51,48,48,48],[]⟩,
 ⟨123,[.agg [t5,t0]],.agg l11,[103,14]⟩,
 ⟨220,[i 200],.agg l14,[]⟩,
 ⟨230,[.agg l14,.agg l0],.agg l14,[117]⟩,
 ⟨228,[.agg l14,.agg l0],.agg l11,[105]⟩]
def mL10:List MF:=[
 ⟨161,[.agg l11,.agg l2],.agg l11,[118,47,119]⟩,
 ⟨132,[.agg l14],t5,[]⟩,
 ⟨164,[.agg l2,.agg l2],i 0,[47]⟩,
 ⟨230,[.agg l13,.agg l0],.agg l13,[109]⟩,
 ⟨220,[i 3200],.agg l23,[]⟩,
 ⟨229,[.agg l13,.agg l14],.agg l23,[124]⟩,
 ⟨289,[.agg l23,.agg l0],.tup [.agg l23,.agg [i 0,.nils]],[]⟩,
 ⟨218,[.agg l23,.agg l0],.agg l0,[126]⟩,
 ⟨228,[.agg l23,.agg l0],.agg l29,[127]⟩,
 ⟨158,[.agg l22,.agg l11],.agg l29,[123,118,125,47,128]⟩,
 ⟨132,[.agg l23],t [51,50,48,48],[]⟩,
 ⟨74,[i 3,.agg [.nils,.psl l22 1 (some 1),p l7 1],.agg [.nils,.psl l11 1 (some 1),p l7 1]],.agg [.nils,.psl l29 1 (some 1),p l7 1],[122,129,130,51]⟩]
def mL11:List MF:=[
 ⟨16,[.psl l1 5 (some 5),.nils,.nils,.agg l21],.tup [.agg [.nils,p [t [51,50,48,48],t0] 1,p [t1,t0,t0] 1],i 3,i 0],[33,107,43,108,114,115,116,120,44,121,131,130,51]⟩,
 ⟨136,l41,p l33 9,[]⟩,
 ⟨283,[p l33 9,i 5],.tup [.agg l17,i 8,.bool true],[]⟩,
 ⟨138,l41,.bool true,[]⟩,
 ⟨207,l41,.tup [.agg [i 10,t [],t [],t [105],i 3,.psl l17 1 (some 1)],i 0,i 0],[133,134,135]⟩,
 ⟨93,[.agg l17,i 1],.tup [],[]⟩,
 ⟨230,[.agg [i 0,.nils],.agg [i 0,.nils]],.agg [i 0,.nils],[55]⟩,
 ⟨161,[.agg l12,.agg l12],.agg l12,[138,47,56]⟩,
 ⟨132,[.agg [i 0,.nils]],t [48],[]⟩,
 ⟨74,[i 5,.agg l49,.agg l49],.agg l49,[139,51,140]⟩,
 ⟨74,[i 5,.agg [.nils,.psl l2 1 (some 1),.nils],.agg [.nils,.psl l2 1 (some 1),.nils]],.agg [.nils,.psl l2 1 (some 1),.nils],[54,51]⟩,
 ⟨165,[i 2,i 1],.agg l3,[61,17,65]⟩]
def mL12:List MF:=[
 ⟨220,[i 4],.agg l26,[]⟩,
 ⟨230,[.agg l10,.agg l10],.agg l26,[144]⟩,
 ⟨289,[.agg l26,.agg l0],.tup [.agg l26,.agg [i 0,.nils]],[]⟩,
 ⟨218,[.agg l26,.agg l0],.agg l0,[146]⟩,
 ⟨228,[.agg l26,.agg l0],.agg l32,[147]⟩,
 ⟨161,[.agg l3,.agg l3],.agg l32,[145,47,148]⟩,
 ⟨132,[.agg l26],t [52],[]⟩,
 ⟨74,[i 5,.agg [.nils,.psl l3 1 (some 1),.nils],.agg [.nils,.psl l3 1 (some 1),.nils]],.agg [.nils,.psl l32 1 (some 1),.nils],[149,51,150]⟩,
 ⟨16,[.psl l1 5 (some 5),.nils,.nils,.agg [i 10,t [],t [],t [105],i 3,.psl l17 1 (some 1)]],.tup [.agg [p [i 3] 1,p [t [48],t0,t0,t0,t [52],t0] 3,.nils],i 10,i 0],[33,137,57,141,53,142,143,151,140,51,150]⟩,
 ⟨136,l45,p l6 11,[]⟩,
 ⟨205,[p l6 11,i 4,t [116,104,101,110]],.tup [.agg [i 0,t3,t0,t [],i 0,.nils],i 6,.bool true],[]⟩,
 ⟨336,[p l6 11,i 7],.tup [.agg l38,i 10,.bool true],[]⟩]
def mL13:List MF:=[
 ⟨281,[p l6 11,i 0],.tup [.agg l8,i 10,.bool true],[154,155]⟩,
 ⟨138,l45,.bool true,[]⟩,
 ⟨181,[t [50]],.agg l10,[]⟩,
 ⟨156,[.agg [t [50],t0]],.agg [t [50],t0,i 1,.psl [.int .u32 (.ofNat 2)] 1 (some 1),i 1,.psl [.int .u32 (.ofNat 1)] 1 (some 1)],[158,14,64,17]⟩,
 ⟨93,[.agg l38,i 1],.tup [],[21,18]⟩,
 ⟨93,[.agg l8,i 0],.tup [],[21,159,38,160]⟩,
 ⟨123,[.agg [t [50],t0]],.agg l3,[158,14]⟩,
 ⟨164,[.agg l2,.agg l3],.int .i64 (.negSucc 0),[47,77]⟩,
 ⟨16,[.psl l1 5 (some 5),.nils,.nils,.agg l8],.tup [.agg [.nils,p [t3,t0] 1,.nils],i 4,i 0],[33,161,44,162,163,43,51,50]⟩,
 ⟨60,[t12,i 4,.nils,.nils,.psl [t3,t0] 1 (some 1)],.bool true,[0,153,156,157,164]⟩,
 ⟨136,[t [49,123,109,125,32,43,32,49,123,115,125]],p l42 6,[]⟩,
 ⟨283,[p l42 6,i 0],.tup [.agg l25,i 5,.bool true],[]⟩]
def mL14:List MF:=[
 ⟨138,[t [49,123,109,125,32,43,32,49,123,115,125]],.bool true,[]⟩,
 ⟨93,[.agg l25,i 0],.tup [],[21]⟩,
 ⟨16,[.psl l1 5 (some 5),.nils,.nils,.agg l25],.tup [.agg [.nils,.nils,.nils],i 0,i 10],[33,169,54,44,51]⟩,
 ⟨18,[],.bool true,[12,88,96,99,100,101,102,132,136,152,165,0,166,167,168,170]⟩]
def mL:List MF:=mL0++(mL1++(mL2++(mL3++(mL4++(mL5++(mL6++(mL7++(mL8++(mL9++(mL10++(mL11++(mL12++(mL13++(mL14))))))))))))))
def MF.q (m:MF):OF:=vq m.f m.a (.ret m.x)
def mAt (j:Nat):MF:=mL.getD j ⟨0,[],.any,[]⟩
noncomputable def runM (l:List AV)(facts:List OF)(f:FuncId)(args:List AV)(r:AG):Bool:=facts.all (fun q=>BU q.N q.args q.l q.res q.u)&&BO (F9 l [] facts [] [] []) 20000 200 0 f args [] r []
theorem AbB {facts:List OF}(hf:∀q∈facts,Bx (Ag []) (mpL []) q){f:FuncId}{args:List AV}{r:AG}(h:runM [] facts f args r=true)(hA:Ai (Ag []) noT args=args)(hR:Bi (Ag []) noT r=r):VF f args r:=by unfold runM at h;simp only[zA]at h;have:=Gl (l:=[]) rfl (mu:=[]) rfl h.1 hf Ad Ad Ad h.2;rw[hA,hR]at this;exact this
def asM (c:AV):OF:=⟨110,1,[.iface 168 (.agg [c]),.iface 170 (.ptr 0 0)],[(0,.cells 168 [.int .i64 0])],.ret (.bool true),[(0,some (.cells 168 [c]))]⟩
def asMs:List OF:=(List.range 20).map fun n=>asM (.int .i64 (.ofNat n))
noncomputable def mOk (i:Nat):Bool:=(fun m:MF=>Nat.beq m.f 132||(m.d.all (fun j=>Nat.blt j i)&&runM [] (m.d.map (fun j=>(mAt j).q)++asMs) m.f m.a (.ret m.x))) (mAt i)
noncomputable def Qd (i n:Nat):Bool:=(List.range n).all fun j=>mOk (i+j)
end Go.Ev
end
