/- Laws, part 12. No condition. -/
import Derived.Test.YtdfcjloangkbhaaGreatDoorL04
import Derived.Test.YtdfcjloangkbhaaGreatDoorL05
import Derived.Test.YtdfcjloangkbhaaGreatDoorL09
set_option linter.all false
set_option maxRecDepth 100000
set_option maxHeartbeats 4000000
noncomputable section
set_option maxHeartbeats 4000000
namespace Go.Va
open Go.Proofs
instance (n:Nat):OfNat V n:=⟨.int .i64 (Int.ofNat n)⟩
instance:Neg V:=⟨λ| .int k n=> .int k (-n)|x=>x⟩
abbrev vt:V:= .bool true
abbrev vf:V:= .bool false
abbrev vL (l:List V):V:= .list l
abbrev vA (l:List V):V:= .agg l
abbrev vb (n:Nat):V:= .int .u8 n
abbrev vu (n:Nat):V:= .int .u64 n
def vB (l:List Nat):V:= .list (l.map vb)
def upX:Nat→List Nat|0=>[0]|1=>[0,1]|2=>[0,2]|3=>[0,1,2,3]|4=>[4]|5=>[4,5]|_=>[]
def bX:Nat→Nat→List V
 |0,_=>[]
 |n+1,k=> .bool ((upX (k/64)).any (Nat.beq (k%64)))::bX n (k+1)
def vX:V:= .ptr (vL [vL [],vL [0],vL [0],vL [1,2],vL [],vL [4]]::bX 326 0)
def dv0:V:=vA [(vL [5,6]),(vL [(vA [0,1,1]),(vA [0,1,15]),(vA [0,12,25]),(vA [0,12,26])])]
def dv1:V:=vA [(vL [dv0,(vA [(vL [5,6]),(vL [(vA [0,1,1]),(vA [0,2,15]),(vA [0,12,25]),(vA [0,12,26])])]),(vA [(vL [5,6]),(vL [(vA [0,1,1]),(vA [0,3,15]),(vA [0,12,25]),(vA [0,12,26])])]),(vA [(vL [4,5]),(vL [(vA [0,1,1]),(vA [0,4,15]),(vA [0,12,25]),(vA [0,12,26])])]),(vA [(vL [5,6]),(vL [(vA [0,1,1]),(vA [0,5,15]),(vA [0,12,25]),(vA [0,12,26])])]),(vA [(vL [5,6]),(vL [(vA [0,1,1]),(vA [0,6,15]),(vA [0,12,25]),(vA [0,12,26])])]),(vA [(vL [5,6]),(vL [(vA [0,1,1]),(vA [0,7,15]),(vA [0,12,25]),(vA [0,12,26])])]),(vA [(vL [4,5]),(vL [(vA [0,1,1]),(vA [0,8,15]),(vA [0,12,25]),(vA [0,12,26])])]),(vA [(vL [5,6]),(vL [(vA [0,1,1]),(vA [0,9,15]),(vA [0,12,25]),(vA [0,12,26])])]),(vA [(vL [5,6]),(vL [(vA [0,1,1]),(vA [0,10,15]),(vA [0,12,25]),(vA [0,12,26])])]),(vA [(vL [5,6]),(vL [(vA [0,1,1]),(vA [0,11,15]),(vA [0,12,25]),(vA [0,12,26])])]),(vA [(vL [4,5]),(vL [(vA [0,1,1]),(vA [0,12,15]),(vA [0,12,25]),(vA [0,12,26])])])]),(vL [(vL [12,2,4,18,9,2,6,20,3,100,500,300,800,1000,200,150,50,50,60]),(vL [12,2,4,18,9,2,6,20,3,110,500,300,800,1000,200,150,50,50,60]),(vL [12,2,4,18,9,2,6,20,3,120,500,300,800,1000,200,150,50,50,60]),(vL [12,2,4,18,9,2,6,20,3,130,500,300,800,1000,200,150,50,50,60]),(vL [12,2,4,18,9,2,6,20,3,140,500,300,800,1000,200,150,50,50,60]),(vL [12,2,4,18,9,2,6,20,3,150,500,300,800,1000,200,150,50,50,60]),(vL [12,2,4,18,9,2,6,20,3,160,500,300,800,1000,200,150,50,50,60]),(vL [12,2,4,18,9,2,6,20,3,170,500,300,800,1000,200,150,50,50,60]),(vL [12,2,4,18,9,2,6,20,3,180,500,300,800,1000,200,150,50,50,60]),(vL [12,2,4,18,9,2,6,20,3,190,500,300,800,1000,200,150,50,50,60]),(vL [12,2,4,18,9,2,6,20,3,200,500,300,800,1000,200,150,50,50,60]),(vL [12,2,4,18,9,2,6,20,3,210,500,300,800,1000,200,150,50,50,60])])]
def dv2:V:=vA [1,0,(vL []),(vL [])]
def dv3:V:=vL [(vA [(vL []),1,0,(vL []),(vL [])])]
def dv4:V:=vA [(vL []),dv3]
def dv5:V:=vA [0,36000,0,1,0,1,(-1),0,0,0,0,(vL []),dv3,(vL []),(vL []),0,0,(vL []),(vL [])]
def dv6:V:=vA [1,36500,0,1,0,0,0,0,0,0,0,(vL []),(vL []),(vL []),(vL []),0,0,(vL []),(vL [])]
def dv7:V:=vA [10,36550,0,1,0,0,0,0,0,0,0,(vL []),(vL []),(vL []),(vL []),0,0,(vL []),(vL [])]
def dv8:V:=vA [4,36000,0,1,0,1,0,0,1000,0,0,(vL []),(vL []),(vL []),(vL []),0,0,(vL []),(vL [])]
def dv9:V:=vA [4,36000,0,1,0,1,0,1,1000,0,0,(vL []),(vL []),(vL []),(vL []),0,0,(vL []),(vL [])]
def dv10:V:=vA [4,36550,0,1,0,1,0,2,1000,0,0,(vL []),(vL []),(vL []),(vL []),0,0,(vL []),(vL [])]
def dv11:V:=vL [dv5,dv8,dv9,dv6,dv10,dv7]
def dv12:V:=vA [1,0,36000,36031,36215,100,50,0]
def dv13:V:=vA [1,1,36000,36031,36215,500,250,0]
def dv14:V:=vA [1,2,36550,36582,36764,300,150,0]
def dv15:V:=vA [1,9,36731,36764,36948,150,75,0]
def dv16:V:=vA [1,10,37096,37128,37312,200,100,0]
def dv17:V:=vA [1,11,37461,37492,37676,250,125,0]
def dv18:V:=vA [1,12,37826,37857,38041,300,150,0]
def dv19:V:=vA [1,13,38192,38223,38409,350,175,0]
def dv20:V:=vA [1,14,38557,38588,38773,400,200,0]
def dv21:V:=vA [1,15,38922,38955,39139,450,225,0]
def dv22:V:=vA [1,16,39287,39319,39503,500,250,0]
def dv23:V:=vA [1,17,39653,39684,39868,550,275,0]
def dv24:V:=vA [1,18,40018,40049,40233,600,300,0]
def dv25:V:=vA [1,19,40383,40414,40600,650,325,0]
def dv26:V:=vA [1,20,40748,40779,40964,700,350,0]
def dv27:V:=vA [1,21,41114,41146,41330,750,375,0]
def dv28:V:=vA [1,22,41479,41510,41694,800,400,0]
def dv29:V:=vA [1,23,41844,41875,42059,850,425,0]
def dv30:V:=vA [1,24,42209,42240,42424,900,450,0]
def dv31:V:=vA [1,25,42575,42606,42791,950,475,0]
def dv32:V:=vA [1,26,42940,42973,43157,1000,500,0]
def dv33:V:=vL [dv12,dv13,dv14,dv15,dv16,dv17,dv18,dv19,dv20,dv21,dv22,dv23,dv24,dv25,dv26,dv27,dv28,dv29,dv30,dv31,dv32]
def dv34:V:=vA [1,36550,(vL []),dv3,36500]
def dv35:V:=vA [vf,dv3,0,vf]
def dv36:V:=vA [0,0,36000,1]
def dv37:V:=vA [4,0,(vL []),(vL [dv2,(vA [6,0,(vL []),(vL [dv2])])])]
def dv38:V:=vL [dv36]
def dv39:V:=vL [(vA [1,1,1])]
def dv40:V:=vA [19,35999,9,0,0,0,0,0,0,0,0,(vL []),(vL []),(vL []),(vL []),1,0,(vL []),(vL [])]
def dv41:V:=vL [dv40,dv5,dv8,dv9,dv6,dv10,dv7]
end Go.Va
set_option maxHeartbeats 4000000
namespace Go.Va
open Go.Proofs
def r0:MF:=[(28,[([(vA [(vL []),(vL []),(vL [])])],[0]),
  ([(vA [(vL [1]),(vL []),(vL [])])],[0])]),
 (35,[([],[dv1])]),
 (39,[([dv2],[0])]),
 (114,[([dv6],[0]),
  ([dv7],[0]),
  ([dv8],[0]),
  ([dv9],[0]),
  ([dv10],[0])]),
 (143,[([(vL [36948,37312,37676,38041,38409,38773,39139,39503,39868,40233,40600,40964,41330,41694,42059,42424,42791,43157]),43305],[36948])]),
 (152,[([(vL [1])],[])]),
 (157,[([dv5,dv40],[1])]),
 (201,[([1,dv41],[dv5,vt])]),
 (207,[([(vu 0)],[0])]),
 (209,[([0],[vt]),
  ([4],[vt]),
  ([1],[vt]),
  ([10],[vt])]),
 (216,[([0,0],[0])]),
 (261,[([2000,1],[31,0]),
  ([2000,12],[31,0]),
  ([2000,2],[29,0]),
  ([2000,3],[31,0]),
  ([2000,4],[30,0]),
  ([2000,5],[31,0]),
  ([2000,6],[30,0]),
  ([2000,7],[31,0]),
  ([2000,8],[31,0]),
  ([2000,9],[30,0]),
  ([2000,10],[31,0]),
  ([2000,11],[30,0]),
  ([2001,2],[28,0]),
  ([2001,1],[31,0]),
  ([2001,3],[31,0]),
  ([2001,4],[30,0]),
  ([2001,5],[31,0]),
  ([2001,6],[30,0]),
  ([2001,7],[31,0]),
  ([2001,8],[31,0]),
  ([2001,9],[30,0]),
  ([2001,10],[31,0]),
  ([2001,11],[30,0]),
  ([2001,12],[31,0]),
  ([2002,2],[28,0]),
  ([2002,7],[31,0]),
  ([2002,8],[31,0]),
  ([2003,2],[28,0]),
  ([2003,7],[31,0]),
  ([2003,8],[31,0]),
  ([2004,2],[29,0]),
  ([2004,7],[31,0]),
  ([2004,8],[31,0]),
  ([2005,2],[28,0]),
  ([2005,1],[31,0]),
  ([2005,3],[31,0]),
  ([2005,4],[30,0]),
  ([2005,5],[31,0]),
  ([2005,6],[30,0]),
  ([2005,7],[31,0]),
  ([2005,8],[31,0]),
  ([2005,9],[30,0]),
  ([2005,10],[31,0]),
  ([2005,11],[30,0]),
  ([2005,12],[31,0]),
  ([2006,2],[28,0]),
  ([2006,1],[31,0]),
  ([2006,3],[31,0]),
  ([2006,4],[30,0]),
  ([2006,5],[31,0]),
  ([2006,6],[30,0]),
  ([2006,7],[31,0]),
  ([2006,8],[31,0]),
  ([2006,9],[30,0]),
  ([2006,10],[31,0]),
  ([2006,11],[30,0]),
  ([2006,12],[31,0]),
  ([2007,2],[28,0]),
  ([2007,1],[31,0]),
  ([2007,3],[31,0]),
  ([2007,4],[30,0]),
  ([2007,5],[31,0]),
  ([2007,6],[30,0]),
  ([2007,7],[31,0]),
  ([2007,8],[31,0]),
  ([2007,9],[30,0]),
  ([2007,10],[31,0]),
  ([2007,11],[30,0]),
  ([2007,12],[31,0]),
  ([2008,2],[29,0]),
  ([2008,7],[31,0]),
  ([2008,8],[31,0]),
  ([2009,2],[28,0]),
  ([2009,7],[31,0]),
  ([2009,8],[31,0]),
  ([2010,2],[28,0]),
  ([2010,7],[31,0]),
  ([2010,8],[31,0]),
  ([2011,2],[28,0]),
  ([2011,1],[31,0]),
  ([2011,3],[31,0]),
  ([2011,4],[30,0]),
  ([2011,5],[31,0]),
  ([2011,6],[30,0]),
  ([2011,7],[31,0]),
  ([2011,8],[31,0]),
  ([2011,9],[30,0]),
  ([2011,10],[31,0]),
  ([2011,11],[30,0]),
  ([2011,12],[31,0]),
  ([2012,2],[29,0]),
  ([2012,1],[31,0]),
  ([2012,3],[31,0]),
  ([2012,4],[30,0]),
  ([2012,5],[31,0]),
  ([2012,6],[30,0]),
  ([2012,7],[31,0]),
  ([2012,8],[31,0]),
  ([2012,9],[30,0]),
  ([2012,10],[31,0]),
  ([2012,11],[30,0]),
  ([2012,12],[31,0]),
  ([2013,2],[28,0]),
  ([2013,7],[31,0]),
  ([2013,8],[31,0]),
  ([2014,2],[28,0]),
  ([2014,7],[31,0]),
  ([2014,8],[31,0]),
  ([2015,2],[28,0]),
  ([2015,7],[31,0]),
  ([2015,8],[31,0]),
  ([2016,2],[29,0]),
  ([2016,7],[31,0])])]
def r1:MF:=[(261,[([2016,8],[31,0]),
  ([2017,2],[28,0]),
  ([2017,1],[31,0]),
  ([2017,3],[31,0]),
  ([2017,4],[30,0]),
  ([2017,5],[31,0]),
  ([2017,6],[30,0]),
  ([2017,7],[31,0]),
  ([2017,8],[31,0]),
  ([2017,9],[30,0]),
  ([2017,10],[31,0]),
  ([2017,11],[30,0]),
  ([2017,12],[31,0]),
  ([2018,2],[28,0])]),
 (262,[([(vA [0,12,26]),(vA [0,12,25])],[vt])]),
 (305,[([0],[vf]),
  ([4],[vf]),
  ([1],[vf]),
  ([10],[vf])]),
 (311,[([1,36000,dv11],[vf]),
  ([1,36550,dv11],[vf]),
  ([1,36000,dv41],[vf]),
  ([1,36550,dv41],[vf])]),
 (396,[([1900],[693595])]),
 (425,[([6,(vL [dv37])],[vt])]),
 (428,[([vX,(vL [0])],[(vL [0]),0])]),
 (467,[([(vL []),(vL [0]),(.func 216 [])],[(vL [0])])]),
 (468,[([(vL []),(vL []),(.func 469 [])],[(vL [])])])]
def r2:MF:=[(20,[([vX,(vA [0,0,(vL []),(vL [])]),(vA [(vL []),(vL []),(vL [])])],[vt,0])]),
 (65,[([dv3],[0])]),
 (114,[([dv40],[0])]),
 (152,[([(vL [])],[])]),
 (157,[([dv10,dv6],[1]),
  ([dv6,dv9],[1])]),
 (191,[([dv11],[(vL [1])]),
  ([dv41],[(vL [1])])]),
 (192,[([dv0],[0])]),
 (217,[([dv8],[(vB [8,192,178,4,0,2,0,2,0,0,208,15,0,0]),0]),
  ([dv10],[(vB [8,140,187,4,0,2,0,2,0,4,208,15,0,0]),0]),
  ([dv7],[(vB [20,140,187,4,0,2,0,0,0,0,0,0,0]),0])]),
 (317,[([0,17,dv11],[(vL [])]),
  ([0,6,dv11],[(vL [])]),
  ([0,16,dv11],[(vL [])]),
  ([0,15,dv11],[(vL [])]),
  ([0,17,dv41],[(vL [])]),
  ([0,6,dv41],[(vL [])]),
  ([0,16,dv41],[(vL [])])])]
def r3:MF:=[(317,[([0,15,dv41],[(vL [])])]),
 (319,[([1,dv11],[(vL []),0]),
  ([1,dv41],[(vL []),0])]),
 (320,[([(vA [36731,1])],[36762,0]),
  ([(vA [37096,1])],[37127,0]),
  ([(vA [37461,1])],[37492,0])])]
def r4:MF:=[(320,[([(vA [37826,1])],[37857,0]),
  ([(vA [38192,1])],[38223,0]),
  ([(vA [38557,1])],[38588,0]),
  ([(vA [38922,1])],[38953,0])])]
def r5:MF:=[(320,[([(vA [39287,1])],[39318,0]),
  ([(vA [39653,1])],[39684,0]),
  ([(vA [40018,1])],[40049,0])])]
def r6:MF:=[(320,[([(vA [40383,1])],[40414,0]),
  ([(vA [40748,1])],[40779,0]),
  ([(vA [41114,1])],[41145,0]),
  ([(vA [41479,1])],[41510,0])])]
def r7:MF:=[(320,[([(vA [41844,1])],[41875,0]),
  ([(vA [42209,1])],[42240,0]),
  ([(vA [42575,1])],[42606,0])])]
def r8:MF:=[(320,[([(vA [42940,1])],[42971,0])]),
 (385,[([36000],[(vA [1998,7,26]),0]),
  ([36031],[(vA [1998,8,26]),0]),
  ([36215],[(vA [1999,2,26]),0]),
  ([36550],[(vA [2000,1,27]),0]),
  ([36581],[(vA [2000,2,27]),0]),
  ([36582],[(vA [2000,2,28]),0])])]
def r9:MF:=[(385,[([36764],[(vA [2000,8,28]),0]),
  ([36762],[(vA [2000,8,26]),0]),
  ([36763],[(vA [2000,8,27]),0]),
  ([36948],[(vA [2001,2,28]),0]),
  ([37127],[(vA [2001,8,26]),0]),
  ([37128],[(vA [2001,8,27]),0]),
  ([37312],[(vA [2002,2,27]),0]),
  ([37492],[(vA [2002,8,26]),0])])]
def r10:MF:=[(385,[([37676],[(vA [2003,2,26]),0]),
  ([37857],[(vA [2003,8,26]),0]),
  ([38041],[(vA [2004,2,26]),0]),
  ([38223],[(vA [2004,8,26]),0]),
  ([38407],[(vA [2005,2,26]),0]),
  ([38408],[(vA [2005,2,27]),0]),
  ([38409],[(vA [2005,2,28]),0]),
  ([38588],[(vA [2005,8,26]),0])])]
def r11:MF:=[(385,[([38772],[(vA [2006,2,26]),0]),
  ([38773],[(vA [2006,2,27]),0]),
  ([38953],[(vA [2006,8,26]),0]),
  ([38954],[(vA [2006,8,27]),0]),
  ([38955],[(vA [2006,8,28]),0]),
  ([39139],[(vA [2007,2,28]),0]),
  ([39318],[(vA [2007,8,26]),0]),
  ([39319],[(vA [2007,8,27]),0])])]
def r12:MF:=[(385,[([39503],[(vA [2008,2,27]),0]),
  ([39684],[(vA [2008,8,26]),0]),
  ([39868],[(vA [2009,2,26]),0]),
  ([40049],[(vA [2009,8,26]),0]),
  ([40233],[(vA [2010,2,26]),0]),
  ([40414],[(vA [2010,8,26]),0]),
  ([40598],[(vA [2011,2,26]),0])])]
def r13:MF:=[(385,[([40599],[(vA [2011,2,27]),0]),
  ([40600],[(vA [2011,2,28]),0]),
  ([40779],[(vA [2011,8,26]),0]),
  ([40963],[(vA [2012,2,26]),0]),
  ([40964],[(vA [2012,2,27]),0]),
  ([41145],[(vA [2012,8,26]),0]),
  ([41146],[(vA [2012,8,27]),0]),
  ([41330],[(vA [2013,2,27]),0])])]
def r14:MF:=[(385,[([41510],[(vA [2013,8,26]),0]),
  ([41694],[(vA [2014,2,26]),0]),
  ([41875],[(vA [2014,8,26]),0]),
  ([42059],[(vA [2015,2,26]),0]),
  ([42240],[(vA [2015,8,26]),0]),
  ([42424],[(vA [2016,2,26]),0]),
  ([42606],[(vA [2016,8,26]),0])])]
def r15:MF:=[(385,[([42790],[(vA [2017,2,26]),0]),
  ([42791],[(vA [2017,2,27]),0]),
  ([42971],[(vA [2017,8,26]),0]),
  ([42972],[(vA [2017,8,27]),0]),
  ([42973],[(vA [2017,8,28]),0]),
  ([43157],[(vA [2018,2,28]),0]),
  ([36824],[(vA [2000,10,27]),0]),
  ([43305],[(vA [2018,7,26]),0])])]
def r16:MF:=[(146,[([dv1],[0])])]
def r17:MF:=[(157,[([dv9,dv8],[1]),
  ([dv10,dv7],[(-1)]),
  ([dv7,dv10],[1])]),
 (204,[([dv4],[0])]),
 (318,[([dv0,0,(vL []),0],[vf,0])]),
 (320,[([(vA [36000,1])],[36031,0]),
  ([(vA [36031,6])],[36215,0]),
  ([(vA [36550,1])],[36581,0]),
  ([(vA [36582,6])],[36764,0])])]
def r18:MF:=[(320,[([(vA [36764,6])],[36948,0]),
  ([(vA [37128,6])],[37312,0]),
  ([(vA [37492,6])],[37676,0]),
  ([(vA [37857,6])],[38041,0]),
  ([(vA [38223,6])],[38407,0]),
  ([(vA [38588,6])],[38772,0]),
  ([(vA [38955,6])],[39139,0]),
  ([(vA [39319,6])],[39503,0])])]
def r19:MF:=[(320,[([(vA [39684,6])],[39868,0]),
  ([(vA [40049,6])],[40233,0]),
  ([(vA [40414,6])],[40598,0]),
  ([(vA [40779,6])],[40963,0]),
  ([(vA [41146,6])],[41330,0]),
  ([(vA [41510,6])],[41694,0]),
  ([(vA [41875,6])],[42059,0]),
  ([(vA [42240,6])],[42424,0])])]
def r20:MF:=[(320,[([(vA [42606,6])],[42790,0]),
  ([(vA [42973,6])],[43157,0]),
  ([(vA [36550,9])],[36824,0]),
  ([(vA [36000,240])],[43305,0])]),
 (329,[([vX,dv2,dv2,dv37],[vt,(vA [(vL []),(vL []),(vL [])]),0])]),
 (364,[([36000,24],[36731,0])])]
def r21:MF:=[(364,[([36000,36],[37096,0]),
  ([36000,48],[37461,0]),
  ([36000,60],[37826,0]),
  ([36000,72],[38192,0]),
  ([36000,84],[38557,0]),
  ([36000,96],[38922,0]),
  ([36000,108],[39287,0]),
  ([36000,120],[39653,0])])]
def r22:MF:=[(364,[([36000,132],[40018,0]),
  ([36000,144],[40383,0]),
  ([36000,156],[40748,0]),
  ([36000,168],[41114,0]),
  ([36000,180],[41479,0]),
  ([36000,192],[41844,0]),
  ([36000,204],[42209,0]),
  ([36000,216],[42575,0])])]
def r23:MF:=[(364,[([36000,228],[42940,0])]),
 (377,[([vX,dv2],[(vA [(vL [0]),(vL []),(vL [])]),vt,0])])]
def r24:MF:=[(114,[([dv5],[0])]),
 (150,[([vX,dv4,dv3],[(vL []),0])]),
 (184,[([dv1,0,1,6,36031,dv11],[36215,0]),
  ([dv1,0,1,6,36582,dv11],[36764,0]),
  ([dv1,0,1,6,36031,dv41],[36215,0]),
  ([dv1,0,1,6,36582,dv41],[36764,0])]),
 (245,[([dv1,0,17,36000,dv11],[50,0]),
  ([dv1,0,10,36000,dv11],[500,0]),
  ([dv1,0,11,36550,dv11],[300,0]),
  ([dv1,0,17,36550,dv11],[50,0]),
  ([dv1,0,8,36000,dv11],[3,0]),
  ([dv1,0,7,36000,dv11],[20,0]),
  ([dv1,0,17,36000,dv41],[50,0])])]
def r25:MF:=[(245,[([dv1,0,10,36000,dv41],[500,0]),
  ([dv1,0,11,36550,dv41],[300,0]),
  ([dv1,0,17,36550,dv41],[50,0]),
  ([dv1,0,8,36000,dv41],[3,0]),
  ([dv1,0,7,36000,dv41],[20,0])]),
 (246,[([dv0,0,1,dv11,(vA [36000,1])],[36031,0]),
  ([dv0,0,1,dv11,(vA [36550,1])],[36582,0]),
  ([dv0,0,1,dv41,(vA [36000,1])],[36031,0]),
  ([dv0,0,1,dv41,(vA [36550,1])],[36582,0])])]
def r26:MF:=[(157,[([dv8,dv5],[1])]),
 (184,[([dv1,0,1,7,36000,dv11],[43305,0]),
  ([dv1,0,1,7,36000,dv41],[43305,0])])]
def r27:MF:=[(243,[([dv1,dv5,dv11],[dv33])])]
def r28:MF:=[(243,[([dv1,dv5,dv41],[dv33])])]
def r29:MF:=[(110,[([dv11],[dv11]),
  ([dv41],[dv41])]),
 (241,[([dv11],[dv11]),
  ([dv41],[dv41])])]
def r30:MF:=[(149,[([1,dv11],[(vL [1]),0]),
  ([1,dv41],[(vL [1]),0])]),
 (180,[([dv1,1,dv11],[dv33,0]),
  ([dv1,1,dv41],[dv33,0])]),
 (182,[([dv1,dv12,dv11],[36000,vt,0]),
  ([dv1,dv13,dv11],[36000,vt,0]),
  ([dv1,dv14,dv11],[36550,vt,0]),
  ([dv1,dv15,dv11],[0,vf,0]),
  ([dv1,dv16,dv11],[0,vf,0]),
  ([dv1,dv17,dv11],[0,vf,0]),
  ([dv1,dv18,dv11],[0,vf,0])])]
def r31:MF:=[(182,[([dv1,dv19,dv11],[0,vf,0]),
  ([dv1,dv20,dv11],[0,vf,0]),
  ([dv1,dv21,dv11],[0,vf,0]),
  ([dv1,dv22,dv11],[0,vf,0]),
  ([dv1,dv23,dv11],[0,vf,0]),
  ([dv1,dv24,dv11],[0,vf,0]),
  ([dv1,dv25,dv11],[0,vf,0]),
  ([dv1,dv26,dv11],[0,vf,0]),
  ([dv1,dv27,dv11],[0,vf,0])])]
def r32:MF:=[(182,[([dv1,dv28,dv11],[0,vf,0]),
  ([dv1,dv29,dv11],[0,vf,0]),
  ([dv1,dv30,dv11],[0,vf,0]),
  ([dv1,dv31,dv11],[0,vf,0]),
  ([dv1,dv32,dv11],[0,vf,0]),
  ([dv1,dv12,dv41],[36000,vt,0]),
  ([dv1,dv13,dv41],[36000,vt,0]),
  ([dv1,dv14,dv41],[36550,vt,0])])]
def r33:MF:=[(182,[([dv1,dv15,dv41],[0,vf,0]),
  ([dv1,dv16,dv41],[0,vf,0]),
  ([dv1,dv17,dv41],[0,vf,0]),
  ([dv1,dv18,dv41],[0,vf,0]),
  ([dv1,dv19,dv41],[0,vf,0]),
  ([dv1,dv20,dv41],[0,vf,0]),
  ([dv1,dv21,dv41],[0,vf,0]),
  ([dv1,dv22,dv41],[0,vf,0])])]
def r34:MF:=[(182,[([dv1,dv23,dv41],[0,vf,0]),
  ([dv1,dv24,dv41],[0,vf,0]),
  ([dv1,dv25,dv41],[0,vf,0]),
  ([dv1,dv26,dv41],[0,vf,0]),
  ([dv1,dv27,dv41],[0,vf,0]),
  ([dv1,dv28,dv41],[0,vf,0]),
  ([dv1,dv29,dv41],[0,vf,0]),
  ([dv1,dv30,dv41],[0,vf,0])])]
def r35:MF:=[(182,[([dv1,dv31,dv41],[0,vf,0]),
  ([dv1,dv32,dv41],[0,vf,0])]),
 (185,[([1,dv11],[0]),
  ([1,dv41],[0])]),
 (272,[([vX,dv1,1,dv2,dv11],[dv36,0]),
  ([vX,dv1,1,dv2,dv41],[dv36,0])])]
def r36:MF:=[(104,[([vX,dv1,1,36600,dv11],[dv34,0])])]
def r37:MF:=[(104,[([vX,dv1,1,36600,dv41],[dv34,0])])]
def r38:MF:=[(140,[([vX,dv1,1,131072,dv11],[dv35,0])])]
def r39:MF:=[(140,[([vX,dv1,1,131072,dv41],[dv35,0])])]
def r40:MF:=[(62,[([vX,dv1,1,36600,dv11],[(vA [1,1,0,dv3,dv38,(vL []),dv39,(vL [])]),0])])]
def r41:MF:=[(62,[([vX,dv1,1,36600,dv41],[(vA [1,1,0,dv3,dv38,(vL [0]),dv39,(vL [])]),0])])]
def r42:MF:=[(18,[([],[vt])])]
def r43:MF:=[(311,[([1,36731,dv11],[vf]),([1,37096,dv11],[vf]),([1,37461,dv11],[vf]),([1,37826,dv11],[vf]),([1,38192,dv11],[vf]),([1,38557,dv11],[vf]),([1,38922,dv11],[vf]),([1,39287,dv11],[vf]),([1,39653,dv11],[vf]),([1,40018,dv11],[vf]),([1,40383,dv11],[vf]),([1,40748,dv11],[vf]),([1,41114,dv11],[vf]),([1,41479,dv11],[vf]),([1,41844,dv11],[vf]),([1,42209,dv11],[vf]),([1,42575,dv11],[vf]),([1,42940,dv11],[vf])])]
def r44:MF:=[(311,[([1,36731,dv41],[vf]),([1,37096,dv41],[vf]),([1,37461,dv41],[vf]),([1,37826,dv41],[vf]),([1,38192,dv41],[vf]),([1,38557,dv41],[vf]),([1,38922,dv41],[vf]),([1,39287,dv41],[vf]),([1,39653,dv41],[vf]),([1,40018,dv41],[vf]),([1,40383,dv41],[vf]),([1,40748,dv41],[vf]),([1,41114,dv41],[vf]),([1,41479,dv41],[vf]),([1,41844,dv41],[vf]),([1,42209,dv41],[vf]),([1,42575,dv41],[vf]),([1,42940,dv41],[vf])])]
end Go.Va
set_option maxHeartbeats 4000000
namespace Go.Va
open Go.Proofs
def PrL:Prims:=λf args h=>match f,args with
 |291,[.func fid [.ref r 0]]=>bif Nat.beq fid 292||Nat.beq fid 325 then (match h[r]? with
   |some (.cells [.v .nilm])=>some ([.v (.list [])],[.dead,.dead,.dead])
   |some (.cells [.mref m])=>match h[m]? with
    |some (.map [] [] _)=>some ([.v (.list [])],[.dead,.dead,.dead])
    |some (.map [(.int .i64 k,_)] [_] _)=>some ([.v (.list [.int .i64 k])],[.dead,.dead,.dead])
    |_=>none
   |_=>none) else none
 |_,_=>none
def c1:V:=vL [vA [vL [],1,0,vL [],vL []]]
def rB:MF:=[(4,[([],[vX])]),(19,[([c1,0],[vL [vA [1,0,vL [],vL []]],0])]),(466,[([vL [],vL []],[vL [],0])]),(67,[([vL [vL [],vL []]],[vL []])]),(492,[([vL [vL [],vL []]],[vL []]),([vL [vL [],vL [0]]],[vL [0]]),([vL [vL [0],vL []]],[vL [0]])]),
 (160,[([dv5],[vt]),([dv6],[vt]),([dv7],[vt]),([dv8],[vt]),([dv9],[vt]),([dv10],[vt]),([dv40],[vt])])]
end Go.Va
namespace Go.Va
open Go.Proofs
theorem p4t:FSp Tryz.prog GLx 4 [] [] [.ref 0 0] [txR (fillN 6 zb)]:=by
 refine fsp_low (Zkk 4) rfl (by simp) ?_ ?_ ?_
 ·intro row hrow;simp only[List.mem_singleton]at hrow;subst hrow;simp only[txR,Row.low];refine lts_all λd hd=>?_;rcases List.mem_cons.1 hd with rfl|hd
  ·rfl
  ·obtain⟨b,-,rfl⟩:=List.mem_map.1 hd;rfl
 ·intro d hd;simp only[List.mem_singleton]at hd;subst hd;rfl
 have q1:=p16.fsp;have q2:=p46;have e:parentsV= .list (par6.map (nums .i64)):=rfl;rw[e]at q1;have hJ:∃J,rowsF (fillN 6 zb) (tfs 6) (tfs 6)=[txR (fillN 6 zb)]++J:=⟨_,rfl⟩;generalize rowsF (fillN 6 zb) (tfs 6) (tfs 6)=HH at*;generalize txR (fillN 6 zb)=TX at*;generalize par6=par at*;simp at q1 hJ;simp only[Zga 4,awp_seq,awp_reg,awp_cond,Zge 4 0,Zge 4 1,entryD];simp;refine⟨_,_,(q1 _),?_⟩;simp;refine⟨_,_,q2,?_⟩;simp[Zge 4 2,awp_skip,Zge 4 4,awp_ret,Zgr 4,hJ]
theorem Inv.row1 {g:Gh} {w:World} {μ:List Nat} {t:Nat→D} {u:Nat→Value} {ds:List D} {O:Nat→Prop} (hi:Inv g w μ t u [.cells ds] O) (k:Nat):Inv g w μ t u [.cells ((ds.map D.copy).take k)] O:=by
 have hblk:∀p b,blk t u [.cells ((ds.map D.copy).take k)] w μ p=some b→blk t u [.cells ds] w μ p=some b:=by
  intro p b hp;cases p with
  |tmp n k=>exact hp
  |cell r j=>
   exfalso;simp only[blk,cellD]at hp;cases r with
   |zero=>
    simp only[List.getElem?_cons_zero,List.getElem?_take,List.getElem?_map]at hp;split at hp
    ·cases hd:ds[j]? with
     |none=>rw[hd]at hp;simp[own1]at hp
     |some d=>
      rw[hd]at hp;simp only[Option.map_some,Option.getD_some,own1_copy]at hp;cases hp
    ·simp[own1]at hp
   |succ r=>simp[own1]at hp
 refine⟨hi.agree,hi.olt,hi.rep,by have:=hi.len;simpa using this,λr row b hr hb=>?_,hi.nod,hi.mo,λp q b hp hq=>hi.uniq p q b (hblk p b hp) (hblk q b hq),λp b hp=>hi.sep p b (hblk p b hp)⟩;cases r with
 |zero=>
  simp only[List.getElem?_cons_zero,Option.some.injEq]at hr;subst hr;obtain⟨vs,T,hb',ha,h1,hg⟩:=hi.rows 0 _ b rfl hb;refine⟨vs,T,hb',⟨?_,λi x v hx hv=>?_⟩,h1,hg⟩
  ·have:=ha.1;simp only[List.length_take,List.length_map];omega
  ·rw[List.getElem?_take]at hx;split at hx
   ·rw[List.getElem?_map,Option.map_eq_some_iff]at hx;obtain⟨y,hy,rfl⟩:=hx;have h2:=ha.2 i y v hy hv;cases y with
    |own e s xs=>exact(RepD.copy (μ:=μ) (w:=w) (d:= .own e s xs) h2)
    |pend b e s xs=>trivial
    |tup ds=>trivial
    |_=>exact h2
   ·cases hx
 |succ r=>simp at hr
theorem FSp.row1 {P:Program} {GL:Globals} {f:Nat} {args rets:List D} {h:List Row} {ds:List D} (hf:FSp P GL f args h rets [.cells ds]) (k:Nat):FSp P GL f args h rets [.cells ((ds.map D.copy).take k)]:=by
 refine⟨hf.1,λg w μ us O hinv hgl hall htame=>(hf.2 g w μ us O hinv hgl hall htame).mono ?_⟩;rintro e w' ⟨v,g',μ',rfl,h3,h4⟩;exact⟨v,g',μ',rfl,h3.row1 k,h4⟩
def vXs:List V:=vL [vL [],vL [0],vL [0],vL [1,2],vL [],vL [4]]::bX 326 0
theorem vX_eq:V.beqs (.list (par6.map (nums .i64))::((fillN 6 zb).take 326).map .bool) vXs=true:=by kernel_rfl
theorem p4v:PSp Tryz.prog GLx 4 [] [vX]:=by
 have h1:=p4t.row1 327;have e:((parD::(fillN 6 zb).map bv).map D.copy).take 327=vXs.map .v:=by
  rw[←V.beqs_eq vX_eq];have:parD.copy= .v (.list (par6.map (nums .i64))):=rfl;rw[List.map_cons,this,List.take_succ_cons,List.map_cons,List.map_map,List.map_map,←List.map_take];generalize (fillN 6 zb).take 326=l
  congr 1
 have h2:FSp Tryz.prog GLx 4 [] [] [.ref 0 0] [.cells (vXs.map .v)]:=by rw[←e];exact h1
 have h3:=h2.ptrR (cs:=vXs) rfl;refine psp_of_fsp (args:=[]) (rets:=[vX]) ?_;exact FSp.trim (h':=[]) (J:=[.dead]) h3 (Nat.le_refl _) (by intro row h;cases h) (by intro d hd;simp at hd;subst hd;rfl)
theorem run64 (h:List Row) (C B:Row) (e0:Env) (h6:find e0 6= .ref (h.length+1) 0):∀(l pre:List F),pre.length+l.length≤2^20→
  RunY Tryz.prog GLx (h.length+3) (l.map F.V) (X64 h C B e0 (pre.map F.V) .ready) true (X64 h C B e0 ((pre++l).map F.V) .ready)
 |[],pre,_=>⟨rfl,by rw[List.append_nil]⟩
 |g::l,pre,hn=>by
  have hn':pre.length+(l.length+1)≤2^20:=hn;refine⟨true,X64 h C B e0 ((pre++[g]).map F.V) .ready,by simp[X64],λJ=>⟨[.cells g.cells],y64 h C B e0 h6 pre (by omega) g J⟩,?_⟩;have:=run64 h C B e0 h6 l (pre++[g]) (by rw[List.length_append];simp;omega);rw[List.append_assoc]at this;exact this
theorem al64l (k:Nat) (acc:List (List F)):mfind false [0] (.int .i64 k) (entN 0 (acc.map λl=>V.list (l.map F.V)))=some (if k <acc.length then some k else none):=by
 rw[mfindN false];simp
set_option maxRecDepth 100000 in
theorem l64a (H:List Row) (r6 mx:Nat) (acc:List (List F)) (hmx:H[mx]?=some (mapN (acc.map λl=>V.list (l.map F.V)))) (refs:List Int) (hrefs:∀r∈refs,0≤r∧r <acc.length) (hrn:refs.length≤8) (bl:List F) (h6:H[r6]?=some (.cells [.own 71 4 (bl.map F.V)]))
  (hb:∀r∈refs,∀a∈(acc[r.toNat]?).getD [],∀b∈bl,(mkA a b).ok∧formE (mkA a b)=0) (U:Nat→List F) (hU:∀k,U k=(refs.take k).flatMap λr=>((acc[r.toNat]?).getD []).flatMap λa=>bl.map (mkA a)) (hlen:∀k,k≤refs.length→(U k).length≤64)
  (haln:∀r∈refs,((acc[r.toNat]?).getD []).length≤64) (hbl:bl.length≤64) (J:List Row) (Q:AExit→St→Prop)
  (hQ:∀J' e,find e 7= .own 71 4 ((U refs.length).map F.V)→Q (.exit 2) ⟨e,H++J'⟩):
  awp Tryz.prog GLx (.loop (lG 37 1)) Q ⟨[(1,.mref mx),(6,.ref r6 0),(7,.own 71 4 []),(37,.v (nums .i64 refs)),(38,.v (.int .i64 refs.length)),(39,.v (.int .i64 (0:Nat)))],H++J⟩:=by
 have hU0:U 0=[]:=by rw[hU];simp
 have hUs:∀k r,refs[k]?=some r→U (k+1)=U k++((acc[r.toNat]?).getD []).flatMap λa=>bl.map (mkA a):=by
  intro k r h;rw[hU,hU,List.take_add_one,h];simp
 refine awp_loop_I refs.length (λk s=>∃J',s.h=H++J'∧find s.e 1= .mref mx∧find s.e 6= .ref r6 0∧find s.e 7= .own 71 4 ((U k).map F.V)∧find s.e 37= .v (nums .i64 refs)∧find s.e 38= .v (.int .i64 refs.length)∧find s.e 39= .v (.int .i64 k)) ⟨J,rfl,rfl,rfl,by simp[hU0],rfl,rfl,rfl⟩ ?_;rintro k ⟨se,sh⟩ hk ⟨J',rfl,f1,f6,f7,f37,f38,f39⟩;simp only at f1 f6 f7 f37 f38 f39;have h6':=λZ=>get_old Z h6;have hmx':∀Z,(H++Z)[mx]?=some (.map (entN 0 (acc.map λl=>V.list (l.map F.V))) (List.range (acc.map λl=>V.list (l.map F.V)).length) (acc.map λl=>V.list (l.map F.V)).length):=λZ=>get_old Z hmx;simp only[Zgl 37 1,awp_seq,awp_reg,awp_block,awp_cond,Zge 37 8];simp[f1,f6,f7,f37,f38,f39,nums];by_cases hkl:k <refs.length
 ·obtain⟨r,hr⟩:∃r,refs[k]?=some r:=⟨_,List.getElem?_eq_getElem hkl⟩;have hrm:=List.mem_of_getElem? hr;have hrr:=hrefs r hrm;have w1:IntKind.i64.wrap ((k:Int)+1)=k+1:=wrap_i64 (by omega) (by omega);obtain⟨j,rfl⟩:∃j:Nat,r=j:=⟨r.toNat,by omega⟩;obtain⟨al,hal⟩:∃al,acc[j]?=some al:=⟨_,List.getElem?_eq_getElem (by omega)⟩;have hgd:(acc[((j:Int)).toNat]?).getD []=al:=by simp[hal]
  have hls:=hlen (k+1) hkl;have hbb:=hb _ hrm;have haa:=haln _ hrm;rw[hUs k _ hr]at hls ⊢;rw[hgd]at hls hbb haa ⊢;have hf:mfind false [0] (.int .i64 j) (entN 0 (acc.map λl=>V.list (l.map F.V)))=some (some j):=by rw[al64l,if_pos (by omega)]
  have hgv:(entN 0 (acc.map λl=>V.list (l.map F.V)))[j]?=some (.int .i64 j,.list (al.map F.V)):=by
   have:=entN_get (acc.map λl=>V.list (l.map F.V)) 0 j (.list (al.map F.V)) (by simp[hal]);simpa using this
  have hfl:((al.flatMap λa=>bl.map (mkA a))).length=al.length*bl.length:=by
   clear hls hbb haa hal hgd hgv;induction al with
   |nil=>simp
   |cons x l ih=>rw[List.flatMap_cons,List.length_append,ih,List.length_map,List.length_cons,Nat.succ_mul];omega
  rw[List.length_append,hfl]at hls;have hc:=λd37 d38 d39 J Q=>l64b H r6 al bl (U k) h6 hbb hls (by omega) (.mref mx) d37 d38 d39 J Q;generalize U k=R at*;rw[if_pos (by omega),awp_skip];simp only[Zge 37 9];simp[hr];simp only[Zge 37 10];simp[hmx',keyOK,V.eqL,V.eq1,hf,hgv,lookD];have hmb:al.length*bl.length≤64:=by omega
  have w2:IntKind.i64.wrap ((al.length:Int)*bl.length)=((al.length*bl.length:Nat):Int):=by
   rw[←Int.natCast_mul];exact wrap_i64 (by omega) (by omega)
  have w3:IntKind.i64.wrap ((R.length:Int)+((al.length*bl.length:Nat):Int))=((R.length+al.length*bl.length:Nat):Int):=by
   rw[←Int.natCast_add];exact wrap_i64 (by omega) (by omega)
  have hgt:¬(64 <R.length+al.length*bl.length):=by omega
  simp only[Zge 37 11];generalize al.length*bl.length=m at*;simp[h6',w2,w3];rw[if_neg (by omega),awp_skip];simp only[Zge 37 13];simp;simp at hc;refine hc _ _ _ _ _ ?_;intro J2 e g1 g6 g7 g37 g38 g39;simp[Zge 37 25,g1,g6,g7,g37,g38,g39,w1,hkl]
 ·have hk2:k=refs.length:=by omega
  subst hk2;rw[if_neg (by omega),awp_exit];exact hQ _ _ (by simp)
set_option maxRecDepth 100000 in
theorem p64 (h:List Row) (hl:Low h) (c:Clm) (hok:c.body.ok) (htl:c.body.tops.length≤64) (mx:Nat) (acc:List (List F)) (hmx:h[mx]?=some (mapN (acc.map λl=>V.list (l.map F.V)))) (hrefs:∀r∈c.refs,0≤r∧r <acc.length) (hrn:c.refs.length≤8)
  (hb:∀r∈c.refs,∀a∈(acc[r.toNat]?).getD [],∀b∈c.body.tops,(mkA a b).ok∧formE (mkA a b)=0) (hlen:∀k,k≤c.refs.length→((c.refs.take k).flatMap λr=>((acc[r.toNat]?).getD []).flatMap λa=>c.body.tops.map (mkA a)).length≤64)
  (haln:∀r∈c.refs,((acc[r.toNat]?).getD []).length≤64):
  FSp Tryz.prog GLx 37 [.v c.V,.mref mx] h [if c.refs=[] then .v (.list ((altC acc c).map F.V)) else .own 71 4 ((altC acc c).map F.V),.v (.bool true)] h:=by
 have hd:∀d∈[if c.refs=[] then D.v (.list ((altC acc c).map F.V)) else .own 71 4 ((altC acc c).map F.V),.v (.bool true)],D.lt h.length d=true:=by
  intro d hd;simp only[List.mem_cons,List.not_mem_nil,or_false]at hd;rcases hd with rfl|rfl
  ·split<;>rfl
  ·rfl
 refine fsp_low (Zkk 37) rfl (Nat.le_refl _) hl hd ?_;obtain⟨U,hU⟩:∃U:Nat→List F,∀k,U k=(c.refs.take k).flatMap λr=>((acc[r.toNat]?).getD []).flatMap λa=>c.body.tops.map (mkA a):=⟨_,λ_=>rfl⟩;have hUn:U c.refs.length=altC acc c∨c.refs=[]:=by
  by_cases h0:c.refs=[]
  ·exact .inr h0
  ·left;rw[hU,List.take_length];unfold altC;rw[if_neg h0]
 have hlo:=λ(H:List Row) r6 hm6 h6 J Q=>l64a H r6 mx acc hm6 c.refs hrefs hrn c.body.tops h6 hb U hU (λk hk=>by rw[hU];exact hlen k hk) haln htl J Q;have q139:=λZ=>p139 c.body (h++Z);obtain⟨refs,body⟩:=c;simp only at*;generalize hT:body.tops=T at*;have hmx':=λZ=>get_old Z hmx;simp only[Zga 37,awp_seq,awp_reg,awp_block,awp_cond,Zge 37 0,entryD];simp[Clm.V];simp only[Zge 37 1];simp;simp only[Zge 37 2];simp;have hbv:body.V= .agg [.int .i64 body.op,.int .i64 body.n,.list (body.ins.map Ivl.V),.list (body.kids.map F.V)]:=by obtain⟨a,b,c,d⟩:=body;exact F.V_eq ..
 have q:=q139 [.cells [.v (nums .i64 refs),.v (.int .i64 body.op),.v (.int .i64 body.n),.v (.list (body.ins.map Ivl.V)),.v (.list (body.kids.map F.V))],.cells [.own 71 4 []]];rw[hbv]at q;refine⟨_,_,q,?_⟩;simp;obtain⟨e0,he0⟩:∃e0,e0=cpE [(1,D.mref mx),(2,.ref h.length 0),(6,.ref (h.length+1) 0),(7,.own 71 4 []),(20,.func 117 [.ref (h.length+2) 0])]:=⟨_,rfl⟩;obtain⟨C,hC⟩:∃C,C=Row.cells [.v (nums .i64 refs),.v (.int .i64 body.op),.v (.int .i64 body.n),.v (.list (body.ins.map Ivl.V)),.v (.list (body.kids.map F.V))]:=⟨_,rfl⟩;have hrun:=run64 h C (.cells body.cells) e0 (by rw[he0];simp[cpE]) T [] (by simp;omega);rw[←hT]at hrun;obtain⟨JJ,hp⟩:=p242 body hok (h.length+3) (h.length+2) _ true _ hrun (by simp[X64]);refine awp_range_at (h.length+3) (by simp) 117 [.ref (h.length+2) 0] [] _ _ .ready rfl ?_ hp ?_ ?_
 ·rw[hC,he0];simp[X64]
 ·rw[he0];simp[X64]
 ·have hloop:=λJ Q=>hlo (h++[C,.cells [.own 71 4 (T.map F.V)],.cells body.cells,.dead]) (h.length+1) (get_old _ hmx) (by simp) J Q;rw[hT];simp[rangeEnd,X64];simp at hloop;rw[hC]at hloop ⊢;by_cases hr0:refs=[]
  ·subst hr0;simp only[Zge 37 5];simp[nums];simp only[awp_regD,Zge 37 6];simp[awp_ret,Zgr 37,altC,hT]
   try omega
  ·have hrp:¬(refs.length:Int)=0:=by cases refs with|nil=>exact absurd rfl hr0|cons=>simp;omega
   have hUn':=hUn.resolve_right hr0;simp only[Zge 37 5];simp[nums,hr0,awp_skip];simp only[Zge 37 7];simp;simp[nums]at hloop;refine hloop _ _ ?_;intro J' e g7;rw[hUn']at g7;simp[Zge 37 26,g7,awp_ret,Zgr 37]
structure AltOK (T:List Clm):Prop where
 len:T.length≤32
 body:∀c∈T,c.body.ok∧c.body.tops.length≤64∧c.refs.length≤8
 low:∀(k:Nat) (c:Clm),T[k]?=some c→∀r∈c.refs,0≤r∧r <(k:Int)
 mka:∀(k:Nat) (c:Clm),T[k]?=some c→(∀r∈c.refs,∀a∈((altL (T.take k))[r.toNat]?).getD [],∀b∈c.body.tops,(mkA a b).ok∧formE (mkA a b)=0)
 pre:∀(k:Nat) (c:Clm),T[k]?=some c→∀j,j≤c.refs.length→((c.refs.take j).flatMap λr=>(((altL (T.take k))[r.toNat]?).getD []).flatMap λa=>c.body.tops.map (mkA a)).length≤64
 one:∀(k:Nat) (c:Clm),T[k]?=some c→∀r∈c.refs,(((altL (T.take k))[r.toNat]?).getD []).length≤64
def altV (l:List F):V:= .list (l.map F.V)
set_option maxRecDepth 100000 in
theorem l24 (T:List Clm) (hT:AltOK T) (h:List Row) (hl:Low h) (d1:V) (m:Nat) (hm:m≤T.length) (Q:AExit→St→Prop)
  (hQ:∀e J,find e 1= .v d1→find e 7= .mref h.length→Q (.exit 0) ⟨e,h++mapN ((altL (T.take m)).map altV)::J⟩):
  awp Tryz.prog GLx (.loop (lG 19 0)) Q ⟨[(1,.v d1),(7,.mref h.length),(24,.v (.list ((T.take m).map Clm.V))),(25,.v (.int .i64 m)),(26,.v (.int .i64 (0:Nat)))],h++[mapN []]⟩:=by
 refine awp_loop_I m (λk s=>∃J,Lows J∧s=⟨[(1,.v d1),(7,.mref h.length),(24,.v (.list ((T.take m).map Clm.V))),(25,.v (.int .i64 m)),(26,.v (.int .i64 k))],h++mapN ((altL (T.take k)).map altV)::J⟩) ⟨[],Lows.nil,by simp[altL]⟩ ?_;rintro k s hk ⟨J,hJ,rfl⟩;simp only[Zgl 19 0,awp_seq,awp_reg,awp_block,awp_cond,Zge 19 6];simp;by_cases hkl:k <m
 ·obtain⟨c,hc⟩:∃c,T[k]?=some c:=⟨_,List.getElem?_eq_getElem (by omega)⟩;have hcm:=List.mem_of_getElem? hc;have hTl:=hT.len;have w1:IntKind.i64.wrap ((k:Int)+1)=k+1:=wrap_i64 (by omega) (by omega);have hat:=altL_take T hc;have hal:(altL (T.take k)).length=k:=by rw[altL_len,List.length_take];omega
  have hcv:((T.take m).map Clm.V)[k]?=some c.V:=by simp[hkl,hc]
  obtain⟨hb1,hb2,hb3⟩:=hT.body c hcm;have hlc:∀n,Row.low n (.cells [.v (nums .i64 c.refs),.v (.int .i64 c.body.op),.v (.int .i64 c.body.n),.v (.list (c.body.ins.map Ivl.V)),.v (.list (c.body.kids.map F.V))])=true:=λn=>rfl;have q:=p64 (h++mapN ((altL (T.take k)).map altV)::(J++[.cells [.v (nums .i64 c.refs),.v (.int .i64 c.body.op),.v (.int .i64 c.body.n),.v (.list (c.body.ins.map Ivl.V)),.v (.list (c.body.kids.map F.V))]]))
   (hl.lows (by
    intro row hrow n;rcases List.mem_cons.1 hrow with rfl|hrow
    ·rfl
    ·exact(hJ.app hlc) row hrow n)) c hb1 hb2 h.length (altL (T.take k)) (by simp;rfl) (λr hr=>by have:=hT.low k c hc r hr;omega) hb3 (hT.mka k c hc) (hT.pre k c hc) (hT.one k c hc)
  have hput:=mapN_put ((altL (T.take k)).map altV) (altV (altC (altL (T.take k)) c));rw[List.length_map,hal,←List.map_singleton (f:=altV),←List.map_append]at hput;have hmf:mfind false [0] (.int .i64 k) (entN 0 ((altL (T.take k)).map altV))=some none:=by
   rw[mfindN false,if_neg (by simp;omega)]
  have hmr:mapN ((altL (T.take k)).map altV)= .map (entN 0 ((altL (T.take k)).map altV)) (List.range k) k:=by unfold mapN;rw[List.length_map,hal]
  rw[hat,←hput];rw[hmr]at q ⊢;generalize altC (altL (T.take k)) c=R at*;generalize entN 0 ((altL (T.take k)).map altV)=E at*;have hRV:altV R= .list (R.map F.V):=rfl;rw[hRV];obtain⟨refs,body⟩:=c;simp only[Clm.V,nums]at*;simp at hcv;rw[if_pos (by omega),awp_skip];simp only[Zge 19 7];simp[hcv,putL];simp only[Zge 19 8];simp;by_cases hr0:refs=[]
  ·rw[if_pos hr0]at q;refine⟨_,_,q,?_⟩;simp[Zge 19 9,Zge 19 10,keyOK,V.eqL,V.eq1,hmf,Zge 19 11,w1,hkl];exact hJ.app hlc
  ·rw[if_neg hr0]at q;refine⟨_,_,q,?_⟩;simp[Zge 19 9,Zge 19 10,keyOK,V.eqL,V.eq1,hmf,Zge 19 11,w1,hkl];exact hJ.app hlc
 ·have hk2:k=m:=by omega
  subst hk2;rw[if_neg (by omega),awp_exit];exact hQ _ _ rfl rfl
set_option maxRecDepth 100000 in
theorem p24 (T:List Clm) (hT:AltOK T) (hok:∀c∈T,c.ok) (hz:clmsE T=0) (i:Nat) (hi:i <T.length):PSp Tryz.prog GLx 19 [.list (T.map Clm.V),.int .i64 i] [.list ((altAt T i).map F.V),.int .i64 0]:=by
 refine psp_of_fsp (args:=[_,_]) (rets:=[_,_]) ?_;refine fsp_low (Zkk 19) rfl (Nat.le_refl _) (by intro row h;cases h) (by simp[D.lt]) ?_;have hlen:=hT.len;have q1:=(p63 T hok (by omega) hz i hi).fsp;have hloop:=l24 T hT [] (by intro row h;cases h) (.int .i64 i) (i+1) hi;have w1:IntKind.i64.wrap ((i:Int)+1)=i+1:=wrap_i64 (by omega) (by omega);have e1:((i:Int)+1).toNat=i+1:=by omega
 have hho:=ho_clm T;obtain⟨f,hf⟩:∃f,(altL T)[i]?=some f:=⟨_,List.getElem?_eq_getElem (by rw[altL_len];exact hi)⟩;have hf2:(altL (T.take (i+1)))[i]?=some f:=by
  rw[altL_pre T (i+1) hi,List.getElem?_take,if_pos (by omega)];exact hf
 have hfa:altAt T i=f:=by unfold altAt;simp[hf]
 have hn:((altL (T.take (i+1))).map altV).length=i+1:=by rw[List.length_map,altL_len,List.length_take];omega
 have hm:mfind false [0] (.int .i64 i) (entN 0 ((altL (T.take (i+1))).map altV))=some (some i):=by
  rw[mfindN false,if_pos (by rw[hn];omega)];simp
 have hg:(entN 0 ((altL (T.take (i+1))).map altV))[i]?=some (.int .i64 i,.list (f.map F.V)):=by
  have:=entN_get ((altL (T.take (i+1))).map altV) 0 i (altV f) (by simp[hf2]);simpa[altV]using this
 rw[hfa];unfold mapN at hloop;generalize (altL (T.take (i+1))).map altV=es at*;simp only[Zga 19,awp_seq,awp_reg,awp_block,awp_cond,Zge 19 0,entryD];simp;simp only[Zge 19 1];simp;refine⟨_,_,q1 _,?_⟩;simp[Zge 19 2,awp_skip,Zge 19 4];simp only[Zge 19 5];simp[w1,e1,hho,show 0≤(i:Int)+1 by omega,show i+1≤T.length from hi];simp[entN]at hloop;refine hloop _ ?_;intro e J g1 g7;simp[Zge 19 12,g1,g7,keyOK,V.eqL,V.eq1,hm,hg,lookD,Zge 19 13,Zge 19 15,awp_ret,Zgr 19]
theorem CsP.altOK {T:List Clm} (h:CsP T):AltOK T:=by
 have hk2:∀(k:Nat) (c:Clm),T[k]?=some c→k≤2:=λk c hk=>by
  have:=(List.getElem?_eq_some_iff.1 hk).1;have:=h.n;omega
 have hlB:∀k,k≤2→lB k≤32:=λk hk=>by
  have:=lB_le hk;have e2:lB 2=32:=by decide
  omega
 refine⟨by have:=h.n;omega,λc hc=>?_,h.low,?_,?_,?_⟩
 ·have hcp:=h.cp c hc;exact⟨(hcp.body.ok (by decide) (by decide)).1,by have:=hcp.nt;omega,by have:=hcp.lr;omega⟩
 ·intro k c hk r hr a ha b hb;have h0:c.refs≠[]:=λe=>by rw[e]at hr;cases hr
  have hmem:mkA a b∈altC (altL (T.take k)) c:=by
   unfold altC;rw[if_neg h0];exact List.mem_flatMap.2 ⟨r,hr,List.mem_flatMap.2 ⟨a,ha,List.mem_map.2 ⟨b,hb,rfl⟩⟩⟩
  have h2:=(altC_ok T h.cp h.low k c hk).2 _ hmem;have hkk:=hk2 k c hk;have:=h2.all.ok (by omega) (by omega);exact⟨this.1,this.2.1⟩
 ·intro k c hk j hj;by_cases h0:c.refs=[]
  ·simp[h0]
  ·have h1:=(altC_ok T h.cp h.low k c hk).1;have hkk:=hlB k (hk2 k c hk);have e:altC (altL (T.take k)) c=c.refs.flatMap λr=>(((altL (T.take k))[r.toNat]?).getD []).flatMap λa=>c.body.tops.map λb=>mkA a b:=by
    unfold altC;rw[if_neg h0]
   rw[e]at h1;have hle:((c.refs.take j).flatMap λr=>(((altL (T.take k))[r.toNat]?).getD []).flatMap λa=>c.body.tops.map (mkA a)).length≤(c.refs.flatMap λr=>(((altL (T.take k))[r.toNat]?).getD []).flatMap λa=>c.body.tops.map λb=>mkA a b).length:=by
    conv=>rhs;rw[←List.take_append_drop j c.refs,List.flatMap_append,List.length_append]
    exact Nat.le_add_right _ _
   omega
 ·intro k c hk r hr;have hrl:=h.low k c hk r hr;have hkk:=hk2 k c hk;have hkl:=(List.getElem?_eq_some_iff.1 hk).1;obtain⟨c',hc'⟩:∃c',T[r.toNat]?=some c':=⟨_,List.getElem?_eq_getElem (by omega)⟩;have h2:=altL_at T hc' k (by omega) (by omega);rw[h2,Option.getD_some];have h1:=(altC_ok T h.cp h.low r.toNat c' hc').1;have:=hlB r.toNat (by omega);omega
theorem p24c {T:List Clm} (h:CsP T) (i:Nat) (hi:i <T.length):PSp Tryz.prog GLx 19 [.list (T.map Clm.V),.int .i64 i] [.list ((altAt T i).map F.V),.int .i64 0]:=
 p24 T h.altOK (λc hc=>(h.tiny c hc).ok) h.z i hi
open Go.Proofs
open Go.Proofs
def ps6:List V:=par6.map (nums .i64)
def bs6:List Bool:=fillN 6 zb
theorem bs6_len:bs6.length=4096:=by unfold bs6;rw[fillN_len,zb_len]
theorem KYr {fid r:Nat} {h:List Row} {ks:List Int} (hK:KY fid r h (ks.map (.int .i64))):
  FSp Tryz.prog GLx 291 [.func fid [.ref r 0]] h [.v (.list (ks.map (.int .i64)))] (h++[.dead,.dead,.dead]):=pK291 hK
theorem PrL_ok:Snp Tryz.prog GLx PrL:=by
 intro f args h x hx t hk;unfold PrL at hx;split at hx
 ·rename_i fid r;cases hf:(Nat.beq fid 292||Nat.beq fid 325)with
  |false=>rw[hf]at hx;cases hx
  |true=>
   rw[hf,cond_true]at hx;have hf':fid=292∨fid=325:=by
    rcases Bool.or_eq_true_iff.1 hf with h|h
    ·exact .inl (Nat.eq_of_beq_eq_true h)
    ·exact .inr (Nat.eq_of_beq_eq_true h)
   split at hx
   ·rename_i hr;have hr':=hk.get (P:=Tryz.prog) (GL:=GLx) hr (by simp);simp only[Option.some.injEq]at hx;subst hx;exact KYr (ks:=[]) ⟨hf',.inl ⟨rfl,hr'⟩⟩
   ·rename_i m hr;have hr':=hk.get (P:=Tryz.prog) (GL:=GLx) hr (by simp);split at hx
    ·rename_i ck hm;have hm':=hk.get (P:=Tryz.prog) (GL:=GLx) hm (by simp);simp only[Option.some.injEq]at hx;subst hx;exact KYr (ks:=[]) ⟨hf',.inr (.inl ⟨rfl,m,ck,hr',hm'⟩)⟩
    ·rename_i k v c ck hm;have hm':=hk.get (P:=Tryz.prog) (GL:=GLx) hm (by simp);simp only[Option.some.injEq]at hx;subst hx;exact KYr (ks:=[k]) ⟨hf',.inr (.inr ⟨_,v,m,c,ck,rfl,hr',hm'⟩)⟩
    ·cases hx
   ·cases hx
 ·cases hx
theorem p492 (L:List (List Int)) (hL:L.length≤2^20) (hn:L.flatten.length≤2^30):PSp Tryz.prog GLx 492 [.list (L.map λl=> .list (l.map (.int .i64)))] [.list (L.flatten.map (.int .i64))]:=by
 refine psp_of_awp (Zkk 492) rfl ?_;have hh:∀l:List Int,headOK 1 (l.map (.int .i64))=true:=headOK_int .i64;have q:=p516 L.flatten.length hn [];obtain⟨U,hU⟩:∃U:Nat→List Int,∀k,U k=(L.take k).flatten:=⟨_,λ_=>rfl⟩;have hU0:U 0=[]:=by rw[hU];rfl
 have hUn:U L.length=L.flatten:=by rw[hU,List.take_length]
 have hUs:∀k l,L[k]?=some l→U (k+1)=U k++l:=by
  intro k l h;rw[hU,hU,List.take_add_one,h];simp
 have hUl:∀k,(U k).length≤L.flatten.length:=by
  intro k;rw[hU];conv=>rhs;rw[←List.take_append_drop k L,List.flatten_append,List.length_append]
  omega
 rw[←hUn]at q hUl ⊢;rw[←hUn]at hn;simp only[Zga 492,awp_seq,awp_reg,awp_block,Zge 492 0,Zge 492 1,Zge 492 2,entry];simp;refine awp_loop_nat0 L.length (λk=>⟨[(0,.v (.list (L.map λl=> .list (l.map (.int .i64))))),(3,.v (.int .i64 (U k).length)),(9,.v (.list (L.map λl=> .list (l.map (.int .i64))))),(10,.v (.int .i64 L.length)),(11,.v (.int .i64 k))],[]⟩) (by simp[hU0]) ?_;intro k hk;simp only[Zgl 492 0,awp_seq,awp_reg,awp_block,awp_cond,Zge 492 3];simp;by_cases h1:k <L.length
 ·obtain⟨l,hl⟩:∃l,L[k]?=some l:=⟨_,List.getElem?_eq_getElem h1⟩;have w1:IntKind.i64.wrap ((k:Int)+1)=k+1:=wrap_i64 (by omega) (by omega);have hle:=hUl (k+1);rw[hUs k l hl,List.length_append]at hle;rw[hUs k l hl,List.length_append];generalize (U k).length=s at*;have w2:IntKind.i64.wrap ((s:Int)+l.length)=s+l.length:=wrap_i64 (by omega) (by omega);have w3:¬((s:Int)+l.length <0):=by omega
  rw[if_pos (by omega),awp_skip];simp only[Zge 492 4,Zge 492 5,Zge 492 6];have hl':L[k]'h1=l:=by have:=List.getElem?_eq_getElem h1;rw[hl]at this;exact(Option.some.inj this).symm
  simp[hl',w2,w3,awp_skip,Zge 492 8,w1,h1]
 ·have hk2:k=L.length:=by omega
  subst hk2;rw[if_neg (by omega),awp_exit];simp only[Zge 492 9];simp;refine⟨_,_,q,?_⟩;simp[Zge 492 10];refine awp_loop_nat0 L.length (λk=>⟨[(6,.own 3 1 ((U k).map (.int .i64))),(25,.v (.list (L.map λl=> .list (l.map (.int .i64))))),(26,.v (.int .i64 L.length)),(27,.v (.int .i64 k))],[]⟩) (by simp[hU0]) ?_;intro k hk;simp only[Zgl 492 1,awp_seq,awp_reg,awp_block,awp_cond,Zge 492 11];simp;by_cases h1:k <L.length
  ·obtain⟨l,hl⟩:∃l,L[k]?=some l:=⟨_,List.getElem?_eq_getElem h1⟩;have w1:IntKind.i64.wrap ((k:Int)+1)=k+1:=wrap_i64 (by omega) (by omega);have hle:=hUl (k+1);rw[hUs k l hl,List.length_append]at hle;rw[hUs k l hl,List.map_append];generalize U k=s at*;have hroom:roomy (s.length+l.length) 8=true:=by simp[roomy];omega
   rw[if_pos (by omega),awp_skip];simp only[Zge 492 12,Zge 492 13];have hl':L[k]'h1=l:=by have:=List.getElem?_eq_getElem h1;rw[hl]at this;exact(Option.some.inj this).symm
   simp[hl',hh,hroom,Zge 492 14,w1,h1]
  ·have hk3:k=L.length:=by omega
   subst hk3;rw[if_neg (by omega),awp_exit];simp[Zge 492 15,awp_ret,Zgr 492]
def tlS:TL:=[te 207,te 287,te 491,te 515,te 526]
theorem tlS_ok:tlS.all ck=true:=by kernel_rfl
theorem s491:(evn npL (λ_ _=>none) (λf=>lookT tlS f) noP 400).Pf 491 [.list [],.func 475 []]=some []:=by kernel_rfl
theorem p466:PSp Tryz.prog GLx 466 [vL [],vL []] [vL [],0]:=by
 have q:=(psp_of_evn (lookT_ok tlS_ok) noP_ok (λ_ _ _ h=>by cases h) s491).fsp;refine psp_of_awp (Zkk 466) rfl ?_;simp only[Zga 466,awp_seq,awp_reg,awp_block,Zge 466 0,Zge 466 1,Zge 466 2,entry];simp;refine awp_loop_end ?_;simp only[Zgl 466 0,awp_seq,awp_reg,awp_block,awp_cond,Zge 466 3];simp[awp_exit,Zge 466 7,Zge 466 8];refine awp_loop_end ?_;simp only[Zgl 466 1,awp_seq,awp_reg,awp_block,awp_cond,Zge 466 9];simp[awp_exit,Zge 466 20];refine awp_loop_end ?_;simp only[Zgl 466 2,awp_seq,awp_reg,awp_block,awp_cond,Zge 466 21,awpOps_plain,awpI];refine .inr ⟨1,0,0,[],[],[],rfl,rfl,rfl,?_,?_⟩
 ·intro _;simp[awp_exit,Zge 466 24];refine⟨_,_,q _,?_⟩;simp[Zge 466 25,awp_ret,Zgr 466];rfl
 ·intro i y kv h;simp at h
def F1:F:= .mk 1 0 [] []
def C1:Clm:=⟨[],F1⟩
theorem F1_FP:FP 1 1 F1:=by
 unfold F1;refine⟨λg hg=>?_,by rw[F.size_eq];simp,by simp[F.depth,F.depths]⟩;rw[F.nodes_eq]at hg;have:g= .mk 1 0 [] []:=by simpa using hg
 subst this;refine⟨⟨by simp[F.op,i64],by simp[F.n,i64],by simp[F.ins],by simp[F.ins]⟩,by simp[formedF,F.op,F.n,F.ins,F.kids],by simp[okC,F.op,F.n]⟩
theorem C1_CP:CP C1:=by
 have ht:C1.body.tops=[F1]:=by
  show F.tops (.mk 1 0 [] [])=_;rw[F.tops_eq,if_neg (by decide)];rfl
 refine⟨by simp[C1],F1_FP.mono (by decide) (by decide),by rw[ht];simp,?_⟩;rw[ht];intro p hp;rw[List.mem_singleton.1 hp];exact F1_FP.mono (by decide) (by decide)
theorem C1_CsP:CsP [C1]:=by
 refine⟨by simp,by simpa using C1_CP,?_,?_,?_⟩
 ·intro k c hk r hr
  match k with
  |0=>simp at hk;subst hk;simp[C1]at hr
  |k+1=>simp at hk
 ·kernel_rfl
 ·intro c hc;simp at hc;subst hc;exact⟨by simp[C1],by simp[C1],(tiny_node (m:=0) (by simp[i64]) (by simp)).mono (by simp)⟩
theorem alt1:altAt [C1] 0=[F1]:=by kernel_rfl
theorem b160:([dv5,dv6,dv7,dv8,dv9,dv10,dv40].all λx=>match x with| .agg a=>a.length==19&&bareOK a|_=>false)=true:=by kernel_rfl
theorem rB_ok:rB.ok Tryz.prog GLx:=by
 intro x hx y hy;unfold rB at hx;simp only[List.mem_cons,List.not_mem_nil,or_false]at hx;rcases hx with rfl|rfl|rfl|rfl|rfl|rfl
 ·simp only[List.mem_singleton]at hy;subst hy;exact p4v
 ·simp only[List.mem_singleton]at hy;subst hy;have:=p24c C1_CsP 0 (by simp);rw[show ((0:Nat):Int)=0 from rfl,alt1]at this;exact this
 ·simp only[List.mem_singleton]at hy;subst hy;exact p466
 ·simp only[List.mem_singleton]at hy;subst hy;exact p140 [[],[]] (by decide) (by decide)
 ·simp only[List.mem_cons,List.not_mem_nil,or_false]at hy;rcases hy with rfl|rfl|rfl
  ·exact p492 [[],[]] (by decide) (by decide)
  ·exact p492 [[],[0]] (by decide) (by decide)
  ·exact p492 [[0],[]] (by decide) (by decide)
 ·have hb:∀d∈[dv5,dv6,dv7,dv8,dv9,dv10,dv40],PSp Tryz.prog GLx 160 [d] [vt]:=by
   intro d hd;have h:=List.all_eq_true.1 b160 d hd;split at h
   ·rename_i a;simp only[Bool.and_eq_true,beq_iff_eq]at h;exact bare_ok a h.1 h.2
   ·cases h
  simp only[List.mem_cons,List.not_mem_nil,or_false]at hy;rcases hy with rfl|rfl|rfl|rfl|rfl|rfl|rfl<;>exact hb _ (by simp)
end Go.Va
