import Derived.Test.YtmdkejaglfokaaaGreatVAAF
import Derived.Test.YtmdkejaglfokaaaGreatVAAG
import GoSem.Extern.BytealgCompare
set_option maxHeartbeats 8000000
set_option linter.unusedSimpArgs false
set_option linter.unusedVariables false
open Go Go.Ev Go.Proofs Go.RowKit
namespace HS
set_option maxRecDepth 100000
theorem tys:ldL lookM 56=some (true,9) /\
 zqL lookM 56=some (AV.toC (.agg [(.int .i64 (0)),.nilSl,(.int .i64 (0)),(.int .i64 (0)),(.int .i64 (0)),(.int .i64 (0)),.nilSl,.nilSl,.nilSl]),9) /\
 lookM.size 56=some 9 /\
 bsL lookM 54=some (91,16384,.bag 16384 0) /\
 foL lookM 56 2=some 8 /\
 ldL lookM 54=some (false,1) /\
 apL lookM [54,54]=some (91,16384,16384) /\
 lookM.size 54=some 1 /\
 bsL lookM 35=some (3,1,(.int .i64 (0))) /\
 foL lookM 56 1=some 7 /\
 ldL lookM 35=some (false,1) /\
 apL lookM [35,35]=some (3,1,8) /\
 lookM.size 35=some 1 /\
 ixL lookM 22=some (none,7) /\
 ldL lookM 32=some (true,7) /\
 ixL lookM 47=some (none,1) /\
 ldL lookM 4=some (false,1) /\
 zqL lookM 53=some (AV.toC (.agg [(.int .i64 (0)),.nilSl,(.int .i64 (0)),(.int .i64 (0)),(.int .i64 (0)),(.int .i64 (0)),.nilSl]),7) /\
 lookM.size 53=some 7 /\
 ldL lookM 53=some (true,7) /\
 lookM.size 63=some 8 /\
 foL lookM 32 6=some 6 /\
 ldL lookM 30=some (false,1) /\
 lookM.size 32=some 7 /\
 zqL lookM 37=some (AV.toC (.agg [(.int .i64 (0)),.nilSl,.nilSl]),3) /\
 lookM.size 37=some 3 /\
 zqL lookM 74=some (AV.toC (.agg [(.int .i64 (0)),(.str ⟨#[]⟩),(.str ⟨#[]⟩),(.int .i64 (0)),(.int .i64 (0)),.nilSl,.nilSl]),7) /\
 lookM.size 74=some 7 /\
 ldL lookM 74=some (true,7) /\
 foL lookM 32 0=some 0 /\
 ldL lookM 3=some (false,1) /\
 foL lookM 32 1=some 1 /\
 ldL lookM 9=some (false,1) /\
 zqL lookM 84=some (AV.toC (.agg [(.int .i64 (0)),(.str ⟨#[]⟩),(.int .i64 (0)),(.int .i64 (0)),.nilSl,(.int .i64 (0)),(.int .i64 (0)),(.int .u8 (0)),(.int .u8 (0)),(.int .u8 (0)),(.int .u8 (0)),(.int .u8 (0)),(.int .u8 (0)),(.int .u8 (0)),(.int .u8 (0)),(.int .u8 (0)),(.int .u8 (0)),(.int .u8 (0)),(.int .u8 (0)),(.int .u8 (0)),(.int .u8 (0)),(.int .u8 (0)),(.int .u8 (0)),(.int .u8 (0)),(.int .u8 (0)),(.int .u8 (0)),(.int .u8 (0)),(.int .u8 (0)),(.int .u8 (0)),(.int .u8 (0)),(.int .u8 (0)),(.int .u8 (0)),(.int .u8 (0)),(.int .u8 (0)),(.int .u8 (0)),(.int .u8 (0)),(.int .u8 (0)),(.int .u8 (0)),(.int .u8 (0)),(.int .i64 (0)),(.int .i64 (0)),(.int .i64 (0)),(.int .i64 (0)),(.int .i64 (0))]),44) /\
 lookM.size 84=some 44 /\
 ldL lookM 84=some (true,44) /\
 foL lookM 84 0=some 0 /\
 foL lookM 63 0=some 0 /\
 foL lookM 63 1=some 7 /\
 ldL lookM 61=some (false,1) /\
 foL lookM 53 1=some 1 /\
 ldL lookM 49=some (false,1) /\
 ixL lookM 49=some (none,44) /\
 foL lookM 84 1=some 1 /\
 foL lookM 84 2=some 2 /\
 foL lookM 84 3=some 3 /\
 foL lookM 84 8=some 42 /\
 foL lookM 84 9=some 43 /\
 foL lookM 56 0=some 0 /\
 foL lookM 32 5=some 5 /\
 ldL lookM 29=some (false,1) /\
 ixL lookM 29=some (none,1) /\
 foL lookM 32 2=some 2 /\
 zqL lookM 103=some (AV.toC (.agg [(.bool false),(.bool false),(.bool false),(.bool false),(.bool false),(.bool false)]),6) /\
 lookM.size 103=some 6 /\
 foL lookM 32 3=some 3 /\
 foL lookM 32 4=some 4 /\
 foL lookM 103 0=some 0 /\
 foL lookM 103 1=some 1 /\
 foL lookM 103 2=some 2 /\
 foL lookM 103 3=some 3 /\
 foL lookM 103 4=some 4 /\
 foL lookM 103 5=some 5 /\
 foL lookM 74 0=some 0 /\
 zqL lookM 32=some (AV.toC (.agg [(.int .i64 (0)),(.str ⟨#[]⟩),(.str ⟨#[]⟩),(.int .i64 (0)),(.int .i64 (0)),.nilSl,.nilSl]),7) /\
 foL lookM 53 0=some 0 /\
 zqL lookM 91=some (zC lookM 91,16384) /\
 lookM.size 91=some 16384 /\
 ixL lookM 91=some (some 64,256) /\
 apL lookM [30,30]=some (5,1,1) /\
 ldL lookM 89=some (true,256) /\
 ixL lookM 54=some (none,16384) /\
 ldL lookM 91=some (true,16384) /\
 zqL lookM 100=some (zC lookM 100,16384) /\
 lookM.size 100=some 16384 /\
 ixL lookM 100=some (some 64,256) /\
 zqL lookM 123=some (zC lookM 123,150) /\
 lookM.size 123=some 150 /\
 ixL lookM 123=some (some 25,6) /\
 ldL lookM 103=some (true,6) /\
 lookM.size 110=some 51 /\
 foL lookM 110 0=some 0 /\
 foL lookM 110 1=some 7 /\
 lookM.size 112=some 44 /\
 foL lookM 112 0=some 0 /\
 lookM.size 113=some 51 /\
 foL lookM 113 1=some 7 /\
 foL lookM 113 0=some 0 /\
 ldL lookM 100=some (true,16384) /\
 zqL lookM 3=some (AV.toC (.int .i64 (0)),1) /\
 lookM.size 3=some 1 /\
 lookM.size 89=some 256 /\
 ixL lookM 35=some (none,1) /\
 lookM.size 9=some 1 /\
 zqL lookM 89=some (zC lookM 89,256) /\
 lookM.size 30=some 1 /\
 foL lookM 84 4=some 4 /\
 foL lookM 82 1=some 1 /\
 ldL lookM 82=some (true,35) /\
 lookM.size 82=some 35 /\
 apL lookM [49,49]=some (84,44,152) /\
 lookM.size 49=some 1 /\
 foL lookM 84 6=some 40 /\
 foL lookM 53 3=some 6 /\
 foL lookM 53 2=some 2 /\
 ldL lookM 51=some (true,4) /\
 bsL lookM 78=some (161,2,(.agg [(.int .i64 (0)),(.int .i64 (0))])) /\
 foL lookM 82 0=some 0 /\
 ldL lookM 78=some (false,1) /\
 apL lookM [78,78]=some (161,2,16) /\
 lookM.size 78=some 1 /\
 bsL lookM 49=some (84,44,(.agg [(.int .i64 (0)),(.str ⟨#[]⟩),(.int .i64 (0)),(.int .i64 (0)),.nilSl,(.int .i64 (0)),(.int .i64 (0)),(.int .u8 (0)),(.int .u8 (0)),(.int .u8 (0)),(.int .u8 (0)),(.int .u8 (0)),(.int .u8 (0)),(.int .u8 (0)),(.int .u8 (0)),(.int .u8 (0)),(.int .u8 (0)),(.int .u8 (0)),(.int .u8 (0)),(.int .u8 (0)),(.int .u8 (0)),(.int .u8 (0)),(.int .u8 (0)),(.int .u8 (0)),(.int .u8 (0)),(.int .u8 (0)),(.int .u8 (0)),(.int .u8 (0)),(.int .u8 (0)),(.int .u8 (0)),(.int .u8 (0)),(.int .u8 (0)),(.int .u8 (0)),(.int .u8 (0)),(.int .u8 (0)),(.int .u8 (0)),(.int .u8 (0)),(.int .u8 (0)),(.int .u8 (0)),(.int .i64 (0)),(.int .i64 (0)),(.int .i64 (0)),(.int .i64 (0)),(.int .i64 (0))])) /\
 foL lookM 84 5=some 39 /\
 foL lookM 84 7=some 41 /\
 lookM.size 51=some 4 /\
 foL lookM 51 0=some 0 /\
 foL lookM 51 2=some 2 /\
 foL lookM 51 3=some 3 /\
 foL lookM 51 1=some 1 /\
 foL lookM 82 2=some 2 /\
 foL lookM 82 3=some 3 /\
 ldL lookM 80=some (true,32) /\
 lookM.size 107=some 7 /\
 foL lookM 107 0=some 0 /\
 zqL lookM 82=some (AV.toC (.agg [.nilSl,(.int .i64 (0)),(.int .i64 (0)),(.int .u8 (0)),(.int .u8 (0)),(.int .u8 (0)),(.int .u8 (0)),(.int .u8 (0)),(.int .u8 (0)),(.int .u8 (0)),(.int .u8 (0)),(.int .u8 (0)),(.int .u8 (0)),(.int .u8 (0)),(.int .u8 (0)),(.int .u8 (0)),(.int .u8 (0)),(.int .u8 (0)),(.int .u8 (0)),(.int .u8 (0)),(.int .u8 (0)),(.int .u8 (0)),(.int .u8 (0)),(.int .u8 (0)),(.int .u8 (0)),(.int .u8 (0)),(.int .u8 (0)),(.int .u8 (0)),(.int .u8 (0)),(.int .u8 (0)),(.int .u8 (0)),(.int .u8 (0)),(.int .u8 (0)),(.int .u8 (0)),(.int .u8 (0))]),35) /\
 lookM.size 4=some 1 /\
 lookM.size 190=some 1 /\
 ikL lookM 153=some .u64 /\
 ikL lookM 3=some .i64 /\
 apL lookM [49,3]=none /\
 ldL lookM 190=some (false,1) /\
 zqL lookM 51=some (AV.toC (.agg [(.int .i64 (0)),(.int .i64 (0)),(.int .i64 (0)),(.int .i64 (0))]),4) /\
 lookM.size 108=some 7 /\
 foL lookM 108 0=some 0:=by repeat' (first|kernel_rfl|apply qa)
theorem fI {f:Nat}{args:List AV}{H:AH}{R:AV->AH->Prop}{b:Code}{c:C2}{rs:List ResultVar}(g:Func) (h:RC lookM c [] (zub args 0 .nil) H (FnQ lookM rs R))
  (e0:lookM.func f=some g:=by kernel_rfl) (e1:g.body=some b:=by rfl) (e2:g.results=rs.toArray:=by rfl) (e3:Nat.ble (len args) g.ntmps=true:=by rfl) (e6:lookM.ext f=none:=by rfl)
  (e4:comp lookM b=cT lookM b:=by kernel_rfl) (e5:cT lookM b=c:=by (simp only [↓pq1,pq2,tys,qp1,qy5,qk2,qk1,qi3,qz6,qa7,qc4,qi2,qc6,Nat.reduceAdd]<;>rfl)):FnE lookM f args H R:=by
 refine zud (nt:=g.ntmps) (c:=c) (rs:=rs) ?_ e6 e3 h;unfold fnF;rw [e0];simp only [e1,e4,e5,e2]
theorem rc_l {s:List Kf}{T:Tr AV}{H:AH}{Q:PostC}{i:Inhabited Code}{c:C2}(I:Nat->Tr AV->AH->Prop) (n:Nat) (h0:I n T H) (h:∀n T H,I n T H->RC lookM c [] T H (LpR lookM s Q I n))
  (e4:comp lookM i.default=cT lookM i.default:=by kernel_rfl) (e5:cT lookM i.default=c:=by (simp only [↓pq1,pq2,tys,qp1,qy5,qk2,qk1,qi3,qz6,qa7,qc4,qi2,qc6,Nat.reduceAdd]<;>rfl)):RC lookM lpI s T H Q:=rc_lq I n h0 h e4 e5
theorem fJ {f:Nat}{args:List AV}{H:AH}{R:AV->AH->Prop}{b:Code}{c:C2}{rs:List ResultVar}(g:Func) (ov:Ov) (h:RC lookM c [] (zub args 0 .nil) H (FnQ lookM rs R))
  (e0:lookM.func f=some g:=by kernel_rfl) (e1:g.body=some b:=by rfl) (e2:g.results=rs.toArray:=by rfl) (e3:Nat.ble (len args) g.ntmps=true:=by rfl) (e6:lookM.ext f=none:=by rfl)
  (e4:comp lookM b=cTo lookM ov b:=by kernel_rfl) (e5:cTo lookM ov b=c:=by (simp only [↓po1,po2,reduceIte,Nat.reduceEqDiff,↓pq1,pq2,tys,qp1,qy5,qk2,qk1,qi3,qz6,qa7,qc4,qi2,qc6,Nat.reduceAdd]<;>rfl)):FnE lookM f args H R:=by
 refine zud (nt:=g.ntmps) (c:=c) (rs:=rs) ?_ e6 e3 h;unfold fnF;rw [e0];simp only [e1,e4,e5,e2]
theorem rc_j {s:List Kf}{T:Tr AV}{H:AH}{Q:PostC}{i:Inhabited Code}{c:C2}(ov:Ov) (I:Nat->Tr AV->AH->Prop) (n:Nat) (h0:I n T H) (h:∀n T H,I n T H->RC lookM c [] T H (LpR lookM s Q I n))
  (e4:comp lookM i.default=cTo lookM ov i.default:=by kernel_rfl) (e5:cTo lookM ov i.default=c:=by (simp only [↓po1,po2,reduceIte,Nat.reduceEqDiff,↓pq1,pq2,tys,qp1,qy5,qk2,qk1,qi3,qz6,qa7,qc4,qi2,qc6,Nat.reduceAdd]<;>rfl)):RC lookM lpI s T H Q:=rc_lq I n h0 h e4 e5
abbrev o18:Ov:= [(3, [(0,0, []),(1,0, []),(2,0, []),(3,0, []),(4,0, []),(5,0, []),(6,0, []),(7,0, []),(8,1, [7]),(9,0, []),(10,0, []),(11,0, [])])]
abbrev o32:Ov:= [(13, [(0,0, []),(1,0, []),(2,0, []),(3,0, []),(4,0, []),(5,0, []),(6,1, [64]),(7,0, [])]),(15, [(0,0, []),(1,0, []),(2,0, []),(3,0, []),(4,0, []),(5,0, []),(6,1, [74]),(7,0, [])]),(17, [(0,0, []),(1,0, []),(2,0, []),(3,0, []),(4,0, []),(5,0, []),(6,1, [84]),(7,0, [])]),(19, [(0,0, []),(1,0, []),(2,0, []),(3,0, []),(4,0, []),(5,0, []),(7,0, []),(8,0, []),(6,1, [100,94]),(9,1, [94]),(10,0, [])])]
abbrev o33:Ov:= [(7, [(0,0, []),(1,0, []),(2,0, []),(3,0, []),(4,0, []),(5,0, []),(6,1, [36]),(7,1, [36]),(8,0, []),(9,0, []),(10,0, []),(11,0, [])])]
abbrev o40:Ov:= [(8, [(0,0, []),(1,0, []),(2,0, []),(3,0, []),(4,0, []),(5,0, []),(6,0, []),(7,0, []),(8,1, [36]),(9,0, [])]),(17, [(0,0, []),(2,0, []),(1,0, []),(3,0, []),(4,0, []),(5,0, []),(6,0, []),(7,0, []),(8,0, []),(9,0, []),(10,0, []),(12,0, []),(13,0, []),(11,1, [95]),(14,0, []),(15,0, [])])]
abbrev o47:Ov:= [(2, [(0,0, []),(1,0, []),(2,0, []),(3,0, []),(4,0, []),(5,0, []),(6,0, []),(7,1, []),(8,0, [])])]
abbrev o82:Ov:= [(1, [(0,0, []),(1,0, []),(2,0, []),(3,1, [3]),(4,0, []),(5,0, []),(6,0, []),(7,0, []),(8,0, []),(9,0, [])])]
abbrev o83:Ov:= [(1, [(0,0, []),(1,0, []),(2,0, []),(3,1, [4]),(4,0, []),(5,0, []),(6,1, [4]),(7,0, []),(8,0, []),(9,0, []),(10,0, []),(11,0, []),(12,0, []),(13,0, [])])]
abbrev o97:Ov:= [(8, [(0,0, []),(1,0, []),(2,0, []),(3,0, []),(4,0, []),(5,0, []),(6,0, []),(7,0, []),(9,0, []),(10,0, []),(11,0, []),(8,0, []),(12,0, []),(13,0, []),(14,0, [])])]
abbrev o132:Ov:= [(20, [(0,0, []),(1,0, []),(2,0, []),(3,0, []),(4,0, []),(5,0, []),(6,0, []),(7,0, []),(8,0, []),(9,0, []),(10,0, []),(11,0, []),(12,0, []),(13,0, []),(14,0, []),(15,0, []),(16,1, [121,119]),(17,0, [])])]
abbrev o140:Ov:= [(1, [(0,0, []),(1,0, []),(2,0, []),(4,0, []),(3,1, [3]),(5,0, []),(6,0, []),(7,0, []),(8,0, []),(9,0, [])])]
abbrev o141:Ov:= [(1, [(0,0, []),(1,0, []),(2,0, []),(8,0, []),(3,1, [4]),(4,0, []),(5,0, []),(6,1, [4]),(7,0, []),(9,0, []),(10,0, []),(11,0, []),(12,0, []),(13,0, [])])]
abbrev o148:Ov:= [(13, [(0,0, []),(1,0, []),(2,0, []),(3,0, []),(4,0, []),(5,0, []),(7,0, []),(8,0, []),(9,0, []),(6,1, [61,2,55,1]),(10,0, []),(11,0, []),(12,0, [])])]
abbrev o150:Ov:= [(10, [(0,0, []),(1,0, []),(2,0, []),(3,0, []),(4,0, []),(5,0, []),(7,0, []),(8,0, []),(9,0, []),(6,1, [54,3,48,2]),(10,0, []),(11,0, []),(12,0, [])])]
abbrev o151:Ov:= [(11, [(0,0, []),(1,0, []),(2,0, []),(3,0, []),(4,0, []),(5,0, []),(6,0, []),(7,0, []),(8,0, []),(9,0, []),(10,0, []),(11,0, []),(12,0, []),(13,0, []),(14,1, [61,58,53]),(15,0, []),(16,0, []),(17,0, []),(18,0, []),(19,0, []),(20,0, [])])]
abbrev o162:Ov:= [(2, [(0,0, []),(1,0, []),(2,0, []),(3,0, []),(4,0, []),(5,0, []),(6,0, []),(7,1, []),(8,0, []),(9,0, []),(10,0, []),(11,0, [])])]
abbrev o201:Ov:= [(6, [(0,0, []),(1,0, []),(2,0, []),(3,0, []),(4,0, []),(5,0, []),(6,0, []),(7,0, []),(8,0, []),(9,0, []),(10,1, [30]),(11,0, []),(12,0, []),(13,0, []),(14,0, [])])]
theorem J2 {a b:Prop}(x:a) (y:b):a/\b:=⟨x,y⟩
theorem J3 {a b c:Prop}(x0:a) (x1:b) (x2:c):a/\b/\c:=⟨x0,J2 x1 x2⟩
theorem J4 {a b c d:Prop}(x0:a) (x1:b) (x2:c) (x3:d):a/\b/\c/\d:=⟨x0,J3 x1 x2 x3⟩
theorem J5 {a b c d e:Prop}(x0:a) (x1:b) (x2:c) (x3:d) (x4:e):a/\b/\c/\d/\e:=⟨x0,J4 x1 x2 x3 x4⟩
theorem J6 {a b c d e f:Prop}(x0:a) (x1:b) (x2:c) (x3:d) (x4:e) (x5:f):a/\b/\c/\d/\e/\f:=⟨x0,J5 x1 x2 x3 x4 x5⟩
theorem J7 {a b c d e f g:Prop}(x0:a) (x1:b) (x2:c) (x3:d) (x4:e) (x5:f) (x6:g):a/\b/\c/\d/\e/\f/\g:=⟨x0,J6 x1 x2 x3 x4 x5 x6⟩
theorem J8 {a b c d e f g h:Prop}(x0:a) (x1:b) (x2:c) (x3:d) (x4:e) (x5:f) (x6:g) (x7:h):a/\b/\c/\d/\e/\f/\g/\h:=⟨x0,J7 x1 x2 x3 x4 x5 x6 x7⟩
theorem J9 {a b c d e f g h i:Prop}(x0:a) (x1:b) (x2:c) (x3:d) (x4:e) (x5:f) (x6:g) (x7:h) (x8:i):a/\b/\c/\d/\e/\f/\g/\h/\i:=⟨x0,J8 x1 x2 x3 x4 x5 x6 x7 x8⟩
theorem J10 {a b c d e f g h i j:Prop}(x0:a) (x1:b) (x2:c) (x3:d) (x4:e) (x5:f) (x6:g) (x7:h) (x8:i) (x9:j):a/\b/\c/\d/\e/\f/\g/\h/\i/\j:=⟨x0,J9 x1 x2 x3 x4 x5 x6 x7 x8 x9⟩
theorem J11 {a b c d e f g h i j k:Prop}(x0:a) (x1:b) (x2:c) (x3:d) (x4:e) (x5:f) (x6:g) (x7:h) (x8:i) (x9:j) (x10:k):a/\b/\c/\d/\e/\f/\g/\h/\i/\j/\k:=⟨x0,J10 x1 x2 x3 x4 x5 x6 x7 x8 x9 x10⟩
theorem J12 {a b c d e f g h i j k l:Prop}(x0:a) (x1:b) (x2:c) (x3:d) (x4:e) (x5:f) (x6:g) (x7:h) (x8:i) (x9:j) (x10:k) (x11:l):a/\b/\c/\d/\e/\f/\g/\h/\i/\j/\k/\l:=⟨x0,J11 x1 x2 x3 x4 x5 x6 x7 x8 x9 x10 x11⟩
theorem J13 {a b c d e f g h i j k l m:Prop}(x0:a) (x1:b) (x2:c) (x3:d) (x4:e) (x5:f) (x6:g) (x7:h) (x8:i) (x9:j) (x10:k) (x11:l) (x12:m):a/\b/\c/\d/\e/\f/\g/\h/\i/\j/\k/\l/\m:=⟨x0,J12 x1 x2 x3 x4 x5 x6 x7 x8 x9 x10 x11 x12⟩
theorem J14 {a b c d e f g h i j k l m n:Prop}(x0:a) (x1:b) (x2:c) (x3:d) (x4:e) (x5:f) (x6:g) (x7:h) (x8:i) (x9:j) (x10:k) (x11:l) (x12:m) (x13:n):a/\b/\c/\d/\e/\f/\g/\h/\i/\j/\k/\l/\m/\n:=⟨x0,J13 x1 x2 x3 x4 x5 x6 x7 x8 x9 x10 x11 x12 x13⟩
theorem J15 {a b c d e f g h i j k l m n o:Prop}(x0:a) (x1:b) (x2:c) (x3:d) (x4:e) (x5:f) (x6:g) (x7:h) (x8:i) (x9:j) (x10:k) (x11:l) (x12:m) (x13:n) (x14:o):a/\b/\c/\d/\e/\f/\g/\h/\i/\j/\k/\l/\m/\n/\o:=⟨x0,J14 x1 x2 x3 x4 x5 x6 x7 x8 x9 x10 x11 x12 x13 x14⟩
theorem J16 {a b c d e f g h i j k l m n o p:Prop}(x0:a) (x1:b) (x2:c) (x3:d) (x4:e) (x5:f) (x6:g) (x7:h) (x8:i) (x9:j) (x10:k) (x11:l) (x12:m) (x13:n) (x14:o) (x15:p):a/\b/\c/\d/\e/\f/\g/\h/\i/\j/\k/\l/\m/\n/\o/\p:=⟨x0,J15 x1 x2 x3 x4 x5 x6 x7 x8 x9 x10 x11 x12 x13 x14 x15⟩
theorem uT {p q:Prop}(h:q) (e:p=q:=by simp (maxSteps:=1000000) (disch:=first|assumption|omega|rfl|(simp only [nx];omega)|(simp only [lens]<;>omega)) only [rq,rq2,zsi,lsE_s,qz3,qu3,Nat.reduceEqDiff,Nat.reduceAdd,reduceIte,reduceCtorEq,ne_eq,qb3,qu2,qh5,qb5,F]<;>rfl):p:=e.mpr h
theorem vT {p:Prop}(e:p:=by simp (maxSteps:=1000000) (disch:=first|assumption|omega|rfl|(simp only [nx];omega)|(simp only [lens]<;>omega)) only [rq,rq2,zsi,lsE_s,qz3,qu3,Nat.reduceEqDiff,Nat.reduceAdd,reduceIte,reduceCtorEq,ne_eq,qb3,qu2,qh5,qb5,F]):p:=e
theorem wT {p:Prop}(e:p:=by simp (maxSteps:=1000000) (disch:=first|assumption|omega|rfl|(simp only [nx];omega)|(simp only [lens]<;>omega)) only [rq,rq2,zsi,lsE_s,qz3,qu3,Nat.reduceEqDiff,Nat.reduceAdd,reduceIte,reduceCtorEq,ne_eq,qb3,qu2,qh5,qb5,F]<;>rfl):p:=e
theorem uT0 {p q:Prop}(h:q) (e:p=q:=by simp (maxSteps:=1000000) (disch:=first|assumption|omega|rfl|(simp only [nx];omega)|(simp only [lens]<;>omega)) only [rq,rq2,zsi,lsE_s,qz3,qu3,Nat.reduceEqDiff,Nat.reduceAdd,reduceIte,reduceCtorEq,ne_eq,qb3,qu2,qh5,qb5]<;>rfl):p:=e.mpr h
theorem vT0 {p:Prop}(e:p:=by simp (maxSteps:=1000000) (disch:=first|assumption|omega|rfl|(simp only [nx];omega)|(simp only [lens]<;>omega)) only [rq,rq2,zsi,lsE_s,qz3,qu3,Nat.reduceEqDiff,Nat.reduceAdd,reduceIte,reduceCtorEq,ne_eq,qb3,qu2,qh5,qb5]):p:=e
theorem wT0 {p:Prop}(e:p:=by simp (maxSteps:=1000000) (disch:=first|assumption|omega|rfl|(simp only [nx];omega)|(simp only [lens]<;>omega)) only [rq,rq2,zsi,lsE_s,qz3,qu3,Nat.reduceEqDiff,Nat.reduceAdd,reduceIte,reduceCtorEq,ne_eq,qb3,qu2,qh5,qb5]<;>rfl):p:=e
theorem uX {p q:Prop}(h:q) (e:p=q:=by simp (maxSteps:=1000000) (disch:=first|assumption|omega|rfl|(simp only [nx];omega)|(simp only [lens]<;>omega)) only [rq,rq2,zsi,lsE_s,qz3,qu3,Nat.reduceEqDiff,Nat.reduceAdd,reduceIte,reduceCtorEq,ne_eq,qb3,qu2,qh5,qb5,qj1,qk1,qy1,qk2,qq2,ql3,qp2,ztg,cF_in,F]<;>rfl):p:=e.mpr h
theorem uX0 {p q:Prop}(h:q) (e:p=q:=by simp (maxSteps:=1000000) (disch:=first|assumption|omega|rfl|(simp only [nx];omega)|(simp only [lens]<;>omega)) only [rq,rq2,zsi,lsE_s,qz3,qu3,Nat.reduceEqDiff,Nat.reduceAdd,reduceIte,reduceCtorEq,ne_eq,qb3,qu2,qh5,qb5,qj1,qk1,qy1,qk2,qq2,ql3,qp2,ztg,cF_in]<;>rfl):p:=e.mpr h
theorem uI {p q:Prop}(h:q) (e:p=q:=by simp (maxSteps:=1000000) (disch:=first|assumption|omega|rfl|(simp only [nx];omega)|(simp only [lens]<;>omega)) only [rq,rq2,zsi,lsE_s,qz3,qu3,Nat.reduceEqDiff,Nat.reduceAdd,reduceIte,reduceCtorEq,ne_eq,qb3,qu2,qh5,qb5,qj,qg,qj1,F]<;>rfl):p:=e.mpr h
theorem hxt {H H':AH}(h:HX H H':=by (repeat' (first|exact HX.refl _|refine HX.trans ?_ (HX.new _ _)|(refine HX.put ?_ (by first|omega|(simp only [nx];omega)) _)))):HX H H':=h
theorem hxk {H H':AH}(h:HX H H':=by (repeat' (first|exact HX.refl _|refine HX.trans ?_ (HX.new _ _)|refine HX.trans ?_ K|(refine HX.put ?_ (by first|omega|(simp only [nx];omega)) _)))):HX H H':=h
theorem fin {p:Prop}(h:p:=by first|((repeat' (first|exact HX.refl _|refine HX.trans ?_ (HX.new _ _)|assumption|(refine HX.put ?_ (by first|omega|(simp only [nx];omega)) _)|refine HX.trans ?_ (by assumption)));done)|(refine ⟨?_,?_⟩<;>first|rfl|((repeat' (first|exact HX.refl _|refine HX.trans ?_ (HX.new _ _)|assumption|(refine HX.put ?_ (by first|omega|(simp only [nx];omega)) _)|refine HX.trans ?_ (by assumption)));done)|(simp [F];done))):p:=h
theorem fin0 {p:Prop}(h:p:=by first|((repeat' (first|exact HX.refl _|refine HX.trans ?_ (HX.new _ _)|assumption|(refine HX.put ?_ (by first|omega|(simp only [nx];omega)) _)|refine HX.trans ?_ (by assumption)));done)|(refine ⟨?_,?_⟩<;>first|rfl|((repeat' (first|exact HX.refl _|refine HX.trans ?_ (HX.new _ _)|assumption|(refine HX.put ?_ (by first|omega|(simp only [nx];omega)) _)|refine HX.trans ?_ (by assumption)));done)|(simp [];done))):p:=h
open HS.Md
theorem uN9:lookM.under 9=some .string:=kR
theorem len_str {L:Lk}{t:Nat}(ht:L.under t=some .string) (s:ByteArray) (H:AH):fstO (zea .len L [t] [.str s] H)=some (.int .i64 s.size):=by
 show fstO (match evLen L t (.str s) H with|some v=>some (v,H)|none=>none)=_
 unfold evLen;rw [ht];rfl
theorem zom1 {L:Lk}{t:Nat}(ht:L.under t=some .string) (s:ByteArray) (k:IntKind) (n:Nat) (h:n<s.size):zvd L t (.str s) (.int k n)=some (.int .u8 (s.data[n]'h).toNat):=by
 unfold zvd natOf;rw [ht];show (match s[n]? with|some b=>some (AV.int .u8 b.toNat)|none=>none)=_
 rw [show s[n]? =some (s[n]'h) from getElem?_pos s n h]
 rfl
theorem ls9 {s:ByteArray}{H:AH}:fstO (zea .len lookM [9] [.str s] H)=some (.int .i64 s.size):=len_str uN9 s H
def ixI (s:ByteArray) (c:Int):Int:=match (List.range s.size).find? fun i=>s[i]! == c.toNat.toUInt8 with|some i=>(i:Int)|none=> -1
theorem ibs (s:ByteArray) (c:Int) (H:AH):FnX lookM 105 [.str s,.int .u8 c] H (.int .i64 (ixI s c)) H:=.ok (zcm (show lookM.ext 105=some zwh from rfl) rfl)
theorem slIxB (s:ByteArray) (c:Int) (H:AH):FnX lookM 99 [.str s,.int .u8 c] H (.int .i64 (ixI s c)) H:=by
 refine fI Tryz.f99 ?_;have h:= @FnX.p _ _ _ _ (ibs s c);have F:=@h;exact vT
theorem stIxB (s:ByteArray) (c:Int) (H:AH):FnX lookM 87 [.str s,.int .u8 c] H (.int .i64 (ixI s c)) H:=by
 refine fI Tryz.f87 ?_;have h:= @FnX.p _ _ _ _ (slIxB s c);have F:=@h;exact vT
theorem ix3 (c:Int) (h0:0<=c) (h1:c<256):ixI ⟨#[46,45,95]⟩ c=if c=46 then 0 else if c=45 then 1 else if c=95 then 2 else -1:=by
 obtain ⟨n,rfl⟩:=qh7 h0;have hn:n<256:=oM
 exact (by decide +kernel:∀n:Fin 256,ixI ⟨#[46,45,95]⟩ ((n.val:Nat):Int)=if ((n.val:Nat):Int)=46 then 0 else if ((n.val:Nat):Int)=45 then 1 else if ((n.val:Nat):Int)=95 then 2 else -1) ⟨n,hn⟩
theorem ztz (s:ByteArray) (H:AH):FnX lookM 71 [.str s] H (.bool (partB s)) H:=by
 refine fI Tryz.f71 ?_;have hl:=fun s H=> @ls9 s H
 by_cases h1:s.size<1
 ·have F:=@hl;refine uT ?_;clear F
  simp [partB];omega
 by_cases h2:20<s.size
 ·have F:=@hl;refine uT ?_;clear F
  simp [partB];omega
 have F:=@hl;refine uT ?_;clear F;have e1:decide (1<=s.size)=true:=by rw [qs];omega
 have e2:decide (s.size<=20)=true:=by rw [qs];omega
 have ep:partB s=zpe s 0 s.size:=by rw [partB,e1,e2];rfl
 clear e1 e2 h1;rw [ep];clear ep;generalize hz:zpe s 0 s.size=z;refine rc_l (fun n T H'=> ∃q,n+q=s.size/\zpe s q n=z/\gT T 0= .str s/\gT T 15= .int .i64 s.size/\gT T 16= .int .i64 q/\H'=H) s.size ?_ ?_
 ·exact ⟨0,rfl,hz,by exact vT0,by exact vT0,by refine uT0 ?_;rfl,rfl⟩
 ·rintro n T H' ⟨q,hn,ha,g0,g15,g16,rfl⟩
  cases n with
  |zero =>
   have F:=J3 @g0 @g15 @g16;refine uT ?_;clear F;rw [← ha];rfl
  |succ n =>
   have hq:q<s.size:=oM
   have hix:=zom1 uN9 s .i64 q hq;have hc:((s.data[q]'hq).toNat:Int)=byA s q:=by
    unfold byA;rw [qm1,qs1 hq];rfl
   rw [hc] at hix;have hc0:0<=byA s q:=by unfold byA;omega
   have hc1:byA s q<256:=by unfold byA;have:=(s.data.getD q 0).toNat_lt;omega
   have hib:=fun H=>stIxB ⟨#[46,45,95]⟩ (byA s q) H
   rw [ix3 _ hc0 hc1] at hib;have ha':(okB q (byA s q) && zpe s (q+1) n)=z:=ha;clear ha hc hz;generalize byA s q=c at *
   have hcall:= @FnX.p _ _ _ _ hib;clear hib;have hgo:okB q c=true-> ∃n',n'<n+1/\ ∃q',n'+q'=s.size/\zpe s q' n'=z/\AV.int .i64 ((q:Int)+1)= .int .i64 q':=fun h=>⟨n,oM,q+1,oM,by rw [h] at ha';simpa using ha',by push_cast;rfl⟩
   have hno:okB q c=false->AV.bool false=AV.bool z:=fun h=>by rw [h] at ha';simp at ha';rw [ha']
   clear ha';unfold okB at hgo hno
   (repeat' (first|simp (maxSteps:=1000000) (disch:=first|assumption|omega|rfl|(simp only [nx];omega)|(simp only [lens]<;>omega)) only [rq,rq2,qz3,qu3,Nat.reduceEqDiff,Nat.reduceAdd,reduceIte,reduceCtorEq,ne_eq,qb3,qu2,qh5,qb5,g0,g15,g16,hix,hcall]|((first|refine gR_if ?_ ?_|refine bR_if ?_ ?_|refine gZ_if ?_ ?_)<;>intro hb<;>(try simp only [qs,qa4,qh4,qr5] at hb))))
   all_goals first|(refine hno ?_;simp;omega)|(refine hgo ?_;simp;omega)|trace_state
theorem zzn (s:ByteArray) (H:AH):FnX lookM 54 [.str s] H (.bool (partB s)) H:=by
 refine fI Tryz.f54 ?_;have h:= @FnX.p _ _ _ _ (ztz s);have F:=@h;exact vT
theorem zti1 (a b:ByteArray):strEq a b=decide (a=b):=by
 by_cases h:a=b
 ·subst h;rw [zop,qo rfl]
 ·rw [qp h]
  cases h2:strEq a b with
  |false=>rfl
  |true=>exact absurd (zfs h2) h
theorem zkg {L:Lk}{t:Nat}{xo yo:Operand}(a b:ByteArray):binF .eql (evBin L .eql t xo yo) (.str a) (.str b)=some (.bool (decide (a=b))):=by
 show some (AV.bool (strEq a b))=_
 rw [zti1]
theorem zsd {L:Lk}{t:Nat}{xo yo:Operand}(a b:ByteArray):binF .neq (evBin L .neq t xo yo) (.str a) (.str b)=some (.bool (!decide (a=b))):=by
 show some (AV.bool (!strEq a b))=_
 rw [zti1]
theorem zui1 {L:Lk}{t:Nat}{xo yo:Operand}(a b:ByteArray):binF .lss (evBin L .lss t xo yo) (.str a) (.str b)=some (.bool (ltS a b)):=by
 show some (AV.bool (Op.bytesLess a.toList b.toList))=_
 rw [ByteArray.toList_eq,ByteArray.toList_eq];rfl
theorem zyt {L:Lk}{t:Nat}{xo yo:Operand}(a b:ByteArray) (h:a.size+b.size<=9223372036854775807):binF .add (evBin L .add t xo yo) (.str a) (.str b)=some (.str (a ++ b)):=by
 show (match Nat.ble (a.size+b.size) 9223372036854775807 with|true=>some (AV.str (a ++ b))|false=>none)=_
 rw [qh h]
theorem zvj {s:ByteArray}(h:partB s=true):s.size<=20:=by
 unfold partB at h;simp only [qm,qs] at h;exact h.2.1
theorem sls_hi {L:Lk}{t:Nat}(ht:L.under t=some .string) (s:ByteArray) (k:IntKind) (n:Nat) (h:n<=s.size):zxa L t false true false [.str s,.int k n]=some (.str (s.extract 0 n)):=by
 show zfb L t (.str s) none (some (.int k n)) none=_
 unfold zfb;simp only [maxOk,bndOf,ht,natOf];rw [show Nat.ble 0 n=true from qh (qh2 _),show Nat.ble n s.size=true from qh h]
 rfl
theorem sls_lo {L:Lk}{t:Nat}(ht:L.under t=some .string) (s:ByteArray) (k:IntKind) (n:Nat) (h:n<=s.size):zxa L t true false false [.str s,.int k n]=some (.str (s.extract n s.size)):=by
 show zfb L t (.str s) (some (.int k n)) none none=_
 unfold zfb;simp only [maxOk,bndOf,ht,natOf];rw [show Nat.ble n s.size=true from qh h,show Nat.ble s.size s.size=true from qh (qn _)]
 rfl
theorem zuz {s:ByteArray}{i:Nat}(h:at64 s=some i):ixI s 64=i:=by
 unfold ixI;have:((List.range s.size).find? fun i=>s[i]! == (64:Int).toNat.toUInt8)=some i:=h
 rw [this]
theorem zpm1 {s:ByteArray}(h:at64 s=none):ixI s 64= -1:=by
 unfold ixI;have:((List.range s.size).find? fun i=>s[i]! == (64:Int).toNat.toUInt8)=none:=h
 rw [this]
theorem zvi1 {s:ByteArray}{i:Nat}(h:at64 s=some i):i<s.size:=qc3.1 (qb7.1 h).2.1
theorem zze1:at64 sign=some 0:=by decide +kernel
theorem zqm1 (s:ByteArray) (H:AH):FnX lookM 106 [.str s,.str ⟨#[64]⟩] H (.int .i64 (ixI s 64)) H:=by
 refine fI Tryz.f106 ?_;have hl:=fun s H=> @ls9 s H
 have h:= @FnX.p _ _ _ _ (slIxB s 64);have hix:zvd lookM 9 (.str ⟨#[64]⟩) (.int .i64 0)=some (.int .u8 64):=kR
 have hsz:(⟨#[64]⟩:ByteArray).size=1:=rfl;by_cases e:(⟨#[64]⟩:ByteArray)=s
 ·have hd:decide ((⟨#[64]⟩:ByteArray)=s)=true:=qo e
  have hr:ixI s 64=0:=zuz (by rw [← e];exact zze1)
  rw [hr];have F:=J6 @hl @hsz @zkg @hd @h @hix;exact vT
 ·have hd:decide ((⟨#[64]⟩:ByteArray)=s)=false:=qp e
  have F:=J6 @hl @hsz @zkg @hd @h @hix;exact vT
theorem cutl_ok (s:ByteArray) (hs:s.size<=1000000) (H:AH):FnX lookM 100 [.str s,.str ⟨#[64]⟩] H (.tup [.str (cutA s),.str (cutB s),.bool (cutF s)]) H:=by
 refine fI Tryz.f100 ?_;have h:= @FnX.p _ _ _ _ (zqm1 s);have hl1:∀H:AH,fstO (zea .len lookM [9] [.str ⟨#[64]⟩] H)=some (.int .i64 1):=fun H=>ls9
 unfold cutA cutB cutF;cases ha:at64 s with
 |none =>
  rw [zpm1 ha] at h;have F:=J2 @hl1 @h;refine uT ?_;rfl
 |some i =>
  rw [zuz ha] at h;have hi:=zvi1 ha;have h1:=sls_hi uN9 s .i64 i oM
  have h2:=sls_lo uN9 s .i64 (i+1) oM
  have e:((i+1:Nat):Int)=(i:Int)+1:=by push_cast;rfl
  rw [e] at h2;have F:=J4 @hl1 @h @h1 @h2;refine uT ?_;rfl
theorem zrm1 (s:ByteArray) (hs:s.size<=1000000) (H:AH):FnX lookM 88 [.str s,.str ⟨#[64]⟩] H (.tup [.str (cutA s),.str (cutB s),.bool (cutF s)]) H:=by
 refine fI Tryz.f88 ?_;have h:= @FnX.p _ _ _ _ (cutl_ok s hs);have F:=@h;exact vT
theorem zlg (s:ByteArray) (hs:s.size<=1000000) (H:AH):FnX lookM 72 [.str s] H (.tup [.str (splA s),.str (splB s),.bool (snapB s)]) H:=by
 refine fI Tryz.f72 ?_;have h:= @FnX.p _ _ _ _ (zrm1 s hs);have hv:= @FnX.p _ _ _ _ (zzn (cutA s));have hp:= @FnX.p _ _ _ _ (ztz (cutB s));unfold splA splB snapB;cases hc:cutF s<;>cases ha:partB (cutA s)<;>cases hb:partB (cutB s)<;>rw [hc] at h<;>rw [ha] at hv<;>rw [hb] at hp<;>(have F:=J3 @h @hv @hp;exact wT)
theorem zzt (s:ByteArray) (hs:s.size<=1000000) (H:AH):FnX lookM 55 [.str s] H (.bool (snapB s)) H:=by
 refine fI Tryz.f55 ?_;have h:= @FnX.p _ _ _ _ (zlg s hs);have F:=@h;exact vT
theorem join_ok (a b:ByteArray) (H:AH):FnX lookM 161 [.str a,.str b] H (.tup [.str (joinB a b),.bool (partB a && partB b)]) H:=by
 refine fI Tryz.f161 ?_;have hv:= @FnX.p _ _ _ _ (zzn a);have hp:= @FnX.p _ _ _ _ (ztz b);unfold joinB;cases ha:partB a with
 |false=>rw [ha] at hv;have F:=J2 @hv @hp;refine uT ?_;rfl
 |true =>
  cases hb:partB b with
  |false=>rw [ha] at hv;rw [hb] at hp;have F:=J2 @hv @hp;refine uT ?_;rfl
  |true =>
   rw [ha] at hv;rw [hb] at hp;have h1:=zvj ha;have h2:=zvj hb;have e1:(a ++ (⟨#[64]⟩:ByteArray)).size=a.size+1:=qm4;have k1:=fun t xo yo=> @zyt lookM t xo yo a ⟨#[64]⟩ (by show a.size+1<=_;omega)
   have k2:=fun t xo yo=> @zyt lookM t xo yo (a ++ ⟨#[64]⟩) b oM
   have F:=J4 @hv @hp @k1 @k2;refine uT ?_;rfl
end HS
namespace HS.Md
open Go
theorem bl_at:∀(i:Nat){x y:List UInt8}{a b:UInt8},x[i]? =some a->y[i]? =some b->(∀j,j<i->x[j]? =y[j]?)->a≠b->Op.bytesLess x y=decide (a.toNat<b.toNat)
 |0, [],_,a,b,hx,_,_,_=>by cases hx
 |0,_::_, [],a,b,_,hy,_,_=>by cases hy
 |0,c::x,d::y,a,b,hx,hy,_,hne=>by
  cases hx;cases hy
  rw [ql2,bl_cons,qs];have:¬c.toNat=d.toNat:=fun e=>hne (u8_eq.2 e)
  exact ⟨fun h=>h.elim id fun h=>absurd h.1 this,.inl⟩
 |i+1, [],_,a,b,hx,_,_,_=>by cases hx
 |i+1,_::_, [],a,b,_,hy,_,_=>by cases hy
 |i+1,c::x,d::y,a,b,hx,hy,hj,hne=>by
  have h0:=hj 0 (qm7 _);have e:c=d:=by simpa using h0
  subst e;have ih:=bl_at i (x:=x) (y:=y) (by simpa using hx) (by simpa using hy) (fun j h=>by simpa using hj (j+1) oM) hne
  rw [← ih,ql2,bl_cons];exact ⟨fun h=>h.elim (fun h=>absurd h (qu5 _)) (·.2),fun h=>.inr ⟨rfl,h⟩⟩
theorem zsm1:∀{x y:List UInt8},(∀j,j<x.length->j<y.length->x[j]? =y[j]?)->Op.bytesLess x y=decide (x.length<y.length)/\(x.length=y.length->x=y)
 | [], [],_=>⟨by simp [Op.bytesLess],fun _=>rfl⟩
 | [],_::y,_=>⟨by simp [Op.bytesLess],fun h=>by cases h⟩
 |_::_, [],_=>⟨by simp [Op.bytesLess],fun h=>by cases h⟩
 |c::x,d::y,h=>by
  have h0:=h 0 (qm7 _) (qm7 _);have e:c=d:=by simpa using h0
  subst e;obtain ⟨h1,h2⟩:=zsm1 (x:=x) (y:=y) fun j hx hy=>by simpa using h (j+1) (by simpa using hx) (by simpa using hy)
  refine ⟨?_,fun hl=>by rw [h2 (by simpa using hl)]⟩
  rw [ql2,bl_cons,h1,qs,qs];simp only [qi2];constructor
  ·rintro (h|⟨_,h⟩)
   ·exact absurd h (qu5 _)
   ·exact Nat.succ_lt_succ h
  ·intro h;exact Or.inr ⟨trivial,Nat.lt_of_succ_lt_succ h⟩
theorem zmw {s:ByteArray}{i:Nat}(h:i<s.size):s.data.toList[i]? =some s[i]! :=by
 rw [getElem!_pos s i h,qy3,qs1 (show i<s.data.size from h)]
 rfl
theorem zvz (s:ByteArray):s.data.toList.length=s.size:=qq6
theorem cmp_eq (a b:ByteArray):Extern.BytealgCompare.cmp a b=if ltS a b=true then -1 else if ltS b a=true then 1 else 0:=by
 unfold Extern.BytealgCompare.cmp;cases hf:(List.range (min a.size b.size)).find? fun i=>a[i]! != b[i]! with
 |some i =>
  obtain ⟨h1,h2,h3⟩:=qb7.1 hf;have h2:=qc3.1 h2;have hne:a[i]! ≠b[i]! :=by simpa using h1
  have ha:=zmw (s:=a) (i:=i) oM
  have hb:=zmw (s:=b) (i:=i) oM
  have hpre:∀j,j<i->a.data.toList[j]? =b.data.toList[j]? :=fun j hj=>by
   have:=h3 j hj;rw [zmw oM,zmw oM]
   have e:a[j]! =b[j]! :=by simpa using this
   rw [e]
  have e1:ltS a b=decide (a[i]!.toNat<b[i]!.toNat):=bl_at i ha hb hpre hne;have e2:ltS b a=decide (b[i]!.toNat<a[i]!.toNat):=bl_at i hb ha (fun j hj=>(hpre j hj).symm) (fun e=>hne e.symm)
  have hnn:a[i]!.toNat≠b[i]!.toNat:=fun e=>hne (u8_eq.2 e)
  rw [e1,e2];simp only [qs,u8_lt];by_cases h:a[i]!.toNat<b[i]!.toNat
  ·rw [qj h,qj h]
  ·rw [qg h,qg h,qj oM]
 |none =>
  rw [List.find?_eq_none] at hf;have hpre:∀j,j<a.data.toList.length->j<b.data.toList.length->a.data.toList[j]? =b.data.toList[j]? :=fun j h1 h2=>by
   rw [zvz] at h1 h2;have:=hf j (qc3.2 oM)
   rw [zmw h1,zmw h2];have e:a[j]! =b[j]! :=by simpa using this
   rw [e]
  have e1:ltS a b=decide (a.size<b.size):=by have:=(zsm1 hpre).1;rw [zvz,zvz] at this;exact this
  have e2:ltS b a=decide (b.size<a.size):=by have:=(zsm1 fun j h1 h2=>(hpre j h2 h1).symm).1;rw [zvz,zvz] at this;exact this
  rw [e1,e2];simp only [qs,gt_iff_lt]
end HS.Md
namespace HS
set_option maxRecDepth 100000
open HS.Md
def cmpI (a b:ByteArray):Int:=if ltS a b=true then -1 else if ltS b a=true then 1 else 0
theorem cms_ok (a b:ByteArray) (H:AH):FnX lookM 197 [.str a,.str b] H (.int .i64 (cmpI a b)) H:=by
 have h:FnX lookM 197 [.str a,.str b] H (.int .i64 (Extern.BytealgCompare.cmp a b)) H:=.ok (zcm (show lookM.ext 197=some zpn from rfl) rfl)
 rw [cmp_eq] at h;exact h
theorem cmb_ok (a b:ByteArray) (H:AH):FnX lookM 193 [.str a,.str b] H (.int .i64 (cmpI a b)) H:=by
 refine fI Tryz.f193 ?_;have h:= @FnX.p _ _ _ _ (cms_ok a b);have F:=@h;exact vT
theorem ztm1 (a b:ByteArray) (H:AH):FnX lookM 185 [.str a,.str b] H (.int .i64 (cmpI a b)) H:=by
 refine fI Tryz.f185 ?_;have h:= @FnX.p _ _ _ _ (cmb_ok a b);have F:=@h;exact vT
theorem sl_len2 {j:Nat}{H:AH}:fstO (zea .len lookM [35] [.sl j 0 2 2 false] H)=some (.int .i64 2):=rfl
theorem or_ok {j:Nat}{a b:Int}(H:AH) (h0:ld1 (.ptr j 0) H=some (.int .i64 a)) (h1:ld1 (.ptr j 1) H=some (.int .i64 b)) :
  FnX lookM 186 [.sl j 0 2 2 false] H (.int .i64 (if a=0 then b else a)) H:=by
 refine fI Tryz.f186 ?_;have hl:=fun H=> @sl_len2 j H
 have i0:ixS 1 (.sl j 0 2 2 false) (.int .i64 0)=some (.ptr j 0):=rfl;have i1:ixS 1 (.sl j 0 2 2 false) (.int .i64 1)=some (.ptr j 1):=rfl;have F:=@hl;refine uT ?_;clear F;refine rc_l (fun n T H'=>gT T 6= .sl j 0 2 2 false/\gT T 7= .int .i64 2/\gT T 3= .int .i64 0/\H'=H/\((n=2/\gT T 8= .int .i64 0)\/(n=1/\gT T 8= .int .i64 1/\a=0)\/(n=0/\gT T 8= .int .i64 2/\a=0/\b=0))) 2 ?_ ?_
 ·exact ⟨by exact vT0,by exact vT0,by exact vT0,rfl,.inl ⟨rfl,by exact vT0⟩⟩
 ·rintro n T H' ⟨g6,g7,g3,rfl,⟨rfl,g8⟩|⟨rfl,g8,ha⟩|⟨rfl,g8,ha,hb⟩⟩
  ·by_cases ha:a=0
   ·have hd:decide (a≠0)=false:=by simp [ha]
    have F:=J7 @g6 @g7 @g3 @g8 @i0 @h0 @hd;refine uT ?_;clear F;exact ⟨1,oM,.inr (.inl ⟨rfl,rfl,ha⟩)⟩
   ·have hd:decide (a≠0)=true:=by simp [ha]
    have F:=J7 @g6 @g7 @g3 @g8 @i0 @h0 @hd;refine uT ?_;clear F;rw [qg ha]
  ·by_cases hb:b=0
   ·have hd:decide (b≠0)=false:=by simp [hb]
    have F:=J7 @g6 @g7 @g3 @g8 @i1 @h1 @hd;refine uT ?_;clear F;exact ⟨0,oM,.inr (.inr ⟨rfl,rfl,ha,hb⟩)⟩
   ·have hd:decide (b≠0)=true:=by simp [hb]
    have F:=J7 @g6 @g7 @g3 @g8 @i1 @h1 @hd;refine uT ?_;clear F;rw [qj ha]
  ·have F:=J4 @g6 @g7 @g3 @g8;refine uT ?_;clear F
   rw [qj ha,hb]
def sgn (b:Bool):ByteArray:=if b then ⟨#[64]⟩ else ⟨#[]⟩
theorem sgn_ok (b:Bool) (H:AH):FnX lookM 184 [.bool b] H (.str (sgn b)) H:=by
 refine fI Tryz.f184 ?_;cases b with
 |true=>refine uT0 ?_;rfl
 |false=>refine uT0 ?_;rfl
theorem zwj (a:ByteArray):cmpI a a=0:=by unfold cmpI;rw [zdz];rfl
theorem zum1 (a b:ByteArray):decide ((if cmpI (cutA a) (cutA b)=0 then (if cmpI (sgn (cutF a)) (sgn (cutF b))=0 then cmpI (cutB a) (cutB b) else cmpI (sgn (cutF a)) (sgn (cutF b))) else cmpI (cutA a) (cutA b))<0)=lessB a b:=by
 have s1:cmpI (sgn false) (sgn true)= -1:=by decide +kernel
 have s2:cmpI (sgn true) (sgn false)=1:=by decide +kernel
 have key:∀x y:ByteArray,decide (cmpI x y<0)=ltS x y:=fun x y=>by
  unfold cmpI;cases h:ltS x y with
  |true=>rfl
  |false=>cases h2:ltS y x<;>rfl
 unfold lessB;by_cases e:cutA a=cutA b
 ·rw [qj e,e,zwj,qj rfl]
  cases ha:cutF a<;>cases hb:cutF b
  ·rw [zwj,qj rfl,zqj ha,zqj hb,zwj];rfl
  ·rw [s1];rfl
  ·rw [s2];rfl
  ·rw [zwj,qj rfl];exact key _ _
 ·rw [qg e,qg,key]
  intro h;unfold cmpI at h;cases h1:ltS (cutA a) (cutA b) with
  |true=>rw [h1] at h;cases h
  |false =>
   cases h2:ltS (cutA b) (cutA a) with
   |true=>rw [h1,h2] at h;cases h
   |false=>exact e (zez h1 h2)
theorem bs2 (a b:Int) (H:AH):bsF 1 2 (.int .i64 0) 3 (zipF [0,1] [.int .i64 a,.int .i64 b]) H=some (.sl H.next 0 2 2 false,H.new (.cells (.lst [.int .i64 a,.int .i64 b]) 3 1 false false)):=by
 have h:bsF 1 2 (.int .i64 0) 3 (zipF [0,1] [.int .i64 a,.int .i64 b]) H=hNew (.cells (.lst [.int .i64 a,.int .i64 b]) 3 1 false false) (fun m H'=>some (.sl m 0 2 2 false,H')) H:=kR
 rw [h,zsh]
theorem bu3 (a b c:Int):zua lookM 199 (zipF [0,1,2] [.int .i64 a,.int .i64 b,.int .i64 c])=some (.agg [.int .i64 a,.int .i64 b,.int .i64 c]):=kR
theorem ix30 (a b c:Int):zvd lookM 199 (.agg [.int .i64 a,.int .i64 b,.int .i64 c]) (.int .i64 0)=some (.int .i64 a):=kR
theorem ix31 (a b c:Int):zvd lookM 199 (.agg [.int .i64 a,.int .i64 b,.int .i64 c]) (.int .i64 1)=some (.int .i64 b):=kR
theorem ix32 (a b c:Int):zvd lookM 199 (.agg [.int .i64 a,.int .i64 b,.int .i64 c]) (.int .i64 2)=some (.int .i64 c):=kR
theorem or2 (a b:Int) (H:AH) [hn:HN H]:FnX lookM 186 [.sl H.next 0 2 2 false] (H.new (.cells (.lst [.int .i64 a,.int .i64 b]) 3 1 false false)) (.int .i64 (if a=0 then b else a)) (H.new (.cells (.lst [.int .i64 a,.int .i64 b]) 3 1 false false)) :=
 or_ok _ (by rw [ld1_q,get_new,qj (show hEq _ _ from rfl)];rfl) (by rw [ld1_q,get_new,qj (show hEq _ _ from rfl)];rfl)
theorem or20 (b:Int) (H:AH) [hn:HN H]:FnX lookM 186 [.sl H.next 0 2 2 false] (H.new (.cells (.lst [.int .i64 0,.int .i64 b]) 3 1 false false)) (.int .i64 b) (H.new (.cells (.lst [.int .i64 0,.int .i64 b]) 3 1 false false)):=or2 0 b H
theorem zwz (a b:ByteArray) (ha:a.size<=1000000) (hb:b.size<=1000000) (H:AH) [hn:HN H]:FnE lookM 174 [.str a,.str b] H fun r H'=>r= .bool (lessB a b)/\HX H H':=by
 refine fI Tryz.f174 ?_;have h1:= @FnX.p _ _ _ _ (zrm1 a ha);have h2:= @FnX.p _ _ _ _ (zrm1 b hb);have h3:= @FnX.p _ _ _ _ (ztm1 (cutA a) (cutA b));have h4:= @FnX.p _ _ _ _ (sgn_ok (cutF a));have h5:= @FnX.p _ _ _ _ (sgn_ok (cutF b));have h6:= @FnX.p _ _ _ _ (ztm1 (sgn (cutF a)) (sgn (cutF b)));have h7:= @FnX.p _ _ _ _ (ztm1 (cutB a) (cutB b));have hl:=zum1 a b;have F:=J8 @h1 @h2 @h3 @h4 @h5 @h6 @h7 @bu3;refine uX ?_;clear F;generalize cmpI (cutA a) (cutA b)=x at *
 generalize cmpI (sgn (cutF a)) (sgn (cutF b))=y at *
 generalize cmpI (cutB a) (cutB b)=z at *
 clear h1 h2 h3 h4 h5 h6 h7;refine rc_l (fun n T H'=>HX H H'/\gT T 40= .agg [.int .i64 x,.int .i64 y,.int .i64 z]/\gT T 12= .int .i64 0/\((n=3/\gT T 41= .int .i64 0)\/(n=2/\gT T 41= .int .i64 1/\x=0)\/(n=1/\gT T 41= .int .i64 2/\x=0/\y=0)\/(n=0/\gT T 41= .int .i64 3/\x=0/\y=0/\z=0))) 3 ?_ ?_
 ·exact ⟨HX.refl _,by exact vT0,by exact vT0,.inl ⟨rfl,by exact vT0⟩⟩
 ·rintro n T H' ⟨hx,g40,g12,⟨rfl,g41⟩|⟨rfl,g41,hx0⟩|⟨rfl,g41,hx0,hy0⟩|⟨rfl,g41,hx0,hy0,hz0⟩⟩
  ·haveI:=hx.hn
   have ho:= @FnX.c _ _ _ _ _ _ (or20 x H');have hx2:HX H (H'.new (.cells (.lst [.int .i64 0,.int .i64 x]) 3 1 false false)):=hx.trans (HX.new _ _);by_cases h:x=0
   ·have hd:decide (x≠0)=false:=by simp [h]
    have F:=J7 @g40 @g12 @g41 @ix30 @bs2 @ho @hd;refine uT ?_;clear F;exact ⟨2,oM,hx2,by rw [h],.inr (.inl ⟨rfl,rfl,h⟩)⟩
   ·have hd:decide (x≠0)=true:=by simp [h]
    have F:=J7 @g40 @g12 @g41 @ix30 @bs2 @ho @hd;refine uT ?_;clear F;rw [qg h] at hl;exact ⟨by rw [hl],hx2⟩
  ·haveI:=hx.hn
   have ho:= @FnX.c _ _ _ _ _ _ (or20 y H');have hx2:HX H (H'.new (.cells (.lst [.int .i64 0,.int .i64 y]) 3 1 false false)):=hx.trans (HX.new _ _);rw [qj hx0] at hl;by_cases h:y=0
   ·have hd:decide (y≠0)=false:=by simp [h]
    have F:=J7 @g40 @g12 @g41 @ix31 @bs2 @ho @hd;refine uT ?_;clear F;exact ⟨1,oM,hx2,by rw [h],.inr (.inr (.inl ⟨rfl,rfl,hx0,h⟩))⟩
   ·have hd:decide (y≠0)=true:=by simp [h]
    have F:=J7 @g40 @g12 @g41 @ix31 @bs2 @ho @hd;refine uT ?_;clear F;rw [qg h] at hl;exact ⟨by rw [hl],hx2⟩
  ·haveI:=hx.hn
   have ho:= @FnX.c _ _ _ _ _ _ (or20 z H');have hx2:HX H (H'.new (.cells (.lst [.int .i64 0,.int .i64 z]) 3 1 false false)):=hx.trans (HX.new _ _);rw [qj hx0,qj hy0] at hl;by_cases h:z=0
   ·have hd:decide (z≠0)=false:=by simp [h]
    have F:=J7 @g40 @g12 @g41 @ix32 @bs2 @ho @hd;refine uT ?_;clear F;exact ⟨0,oM,hx2,by rw [h],.inr (.inr (.inr ⟨rfl,rfl,hx0,hy0,h⟩))⟩
   ·have hd:decide (z≠0)=true:=by simp [h]
    have F:=J7 @g40 @g12 @g41 @ix32 @bs2 @ho @hd;refine uT ?_;clear F;exact ⟨by rw [hl],hx2⟩
  ·rw [qj hx0,qj hy0,hz0] at hl
   have F:=J3 @g40 @g12 @g41;refine uT ?_;clear F;exact ⟨by rw [← hl];rfl,hx⟩
theorem uRs:lookM.under 49=some (.slice 84):=kR
theorem ix44 {H:AH}{v:AV}{n q:Nat}{z:Nat}(h:IsSl H v n) (hq:q<n):ixS z v (.int .i64 (q:Int))=some (elA z v q):=by
 have:=ix_el (z:=z) (k:=.i64) h (Int.natCast_nonneg q) (by exact_mod_cast hq)
 rwa [qg2] at this
def posI (n m:Nat):Int:=if n<m then (n:Int) else -1
abbrev rcs (l:List (AV×Rc)):List Rc:=l.map (·.2)
theorem zau {H:AH}[hn:HN H]{v:AV}{l:List (AV×Rc)}{p:Rc->Bool}{g:Nat}{caps:List AV}(hsl:SlRc H v l) (hlen:l.length<=1000000)
  (hp:∀H1,HX H H1-> ∀(k:Nat) (r:AV×Rc),l[k]? =some r->FnE lookM g (.agg (rcL r)::caps) H1 fun r' H'=>r'= .bool (p r.2)/\HX H1 H') :
  FnE lookM 85 [v,.fn (.func g) [] caps] H fun r H'=>r= .int .i64 (posI (upto (fun r=> !p r) (rcs l)) l.length)/\HX H H':=by
 refine fI Tryz.f85 ?_;have hl:=fun H'=>zwc (H':=H') uRs hsl.is
 have F:=@hl;refine uT ?_;refine rc_l (fun n T H'=> ∃q,n+q=l.length/\HX H H'/\gT T 0=v/\gT T 1= .fn (.func g) [] caps/\gT T 7= .int .i64 l.length/\gT T 8= .int .i64 q/\(∀(j:Nat) (r:Rc),j<q->(rcs l)[j]? =some r->p r=false)) l.length ?_ ?_
 ·exact ⟨0,rfl,HX.refl _,by exact vT0,by exact vT0,by exact vT0,by refine uT0 ?_;rfl,fun j r h=>absurd h (qb4 _)⟩
 ·rintro n T H' ⟨q,hnq,hx,g0,g1,g7,g8,hall⟩
  cases n with
  |zero =>
   have F:=J4 @g0 @g1 @g7 @g8;refine uT ?_;refine ⟨?_,hx⟩;have e:upto (fun r=> !p r) (rcs l)=l.length:=zxd _ (by simp) (fun i r hi hr=>by rw [hall i r oM hr];rfl) (fun r hr=>by simp at hr)
   rw [e];unfold posI;rw [qg (qu5 _)]
  |succ n =>
   have hq:q<l.length:=oM
   have hk:l[q]? =some l[q]:=qr hq;have hix:=ix44 (z:=44) (q:=q) (hsl.hx hx).is hq;have hld:=(hsl.hx hx).agg hk;have hc:=hp H' hx q _ hk;have hk2:(rcs l)[q]? =some l[q].2:=by rw [qi1,hk];rfl
   generalize l[q]=r at *
   have F:=J6 @g0 @g1 @g7 @g8 @hix @hld;refine uX ?_;refine cR_f hc ?_;rintro r' H2 ⟨rfl,hx2⟩;have hx3:=hx.trans hx2;cases hpr:p r.2 with
   |true =>
    have F:=J4 @g0 @g1 @g7 @g8;refine uT ?_;refine ⟨?_,hx3⟩;have e:upto (fun r=> !p r) (rcs l)=q:=zxd _ (by simp;omega) (fun i r hi hr=>by rw [hall i r hi hr];rfl) (fun r hr=>by rw [hk2] at hr;cases hr;rw [hpr];rfl)
    rw [e];unfold posI;rw [qj hq]
   |false =>
    have F:=J4 @g0 @g1 @g7 @g8;refine uT ?_;refine ⟨n,oM,q+1,oM,hx3,by push_cast;rfl,fun j r2 hj hr=> ?_⟩
    rcases qf2 j q with h|h
    ·exact hall j r2 h hr
    ·have:j=q:=oM
     subst this;rw [hk2] at hr;cases hr;exact hpr
theorem zra (p:AV×Rc):AV.toC (.agg (rcL p))= .lst (rcL p):=rfl
theorem rc_1 (p:AV×Rc):nth (rcL p) 1=some (.str p.2.nm):=rfl
theorem zvm1 {H:AH}[hn:HN H](p:AV×Rc){b:Nat}{s:ByteArray}(hb:b<H.next) (hg:H.get b=some (.cells (.lst [.str s]) 9 1 false false)) :
  FnE lookM 86 [.agg (rcL p),.ptr b 0] H fun r H'=>r= .bool (decide (p.2.nm=s))/\HX H H':=by
 refine fI Tryz.f86 ?_;have he:=hEq_f (oM:b≠H.next)
 have hn0:∀v:AV,nth [v] 0=some v:=fun _=>rfl
 have F:=J6 @zra @rc_1 @hg @he @zkg @hn0;refine uT ?_;exact HX.new _ _
abbrev tbA (nn:Int) (v lv:AV):AV:=.agg [.int .i64 nn,v,.int .i64 0,.int .i64 0,.int .i64 0,.int .i64 0,lv]
theorem fnd_eq (s:ByteArray) (l:List Rc):upto (fun r=> !decide (r.nm=s)) l=fnd s l:=by
 unfold fnd;congr 1;funext r;by_cases h:r.nm=s
 ·simp [h]
 ·simp [h]
theorem zxz {H:AH}[hn:HN H]{nn:Int}{v lv:AV}{l:List (AV×Rc)}{s:ByteArray}(hsl:SlRc H v l) (hlen:l.length<=1000000) :
  FnE lookM 68 [tbA nn v lv,.str s] H fun r H'=>r= .tup [.int .i64 (fndI s (rcs l):Nat),.bool (hasB s (rcs l))]/\HX H H':=by
 refine fI Tryz.f68 ?_;have hT:AV.toC (tbA nn v lv)= .lst [.int .i64 nn,v,.int .i64 0,.int .i64 0,.int .i64 0,.int .i64 0,lv]:=rfl;have n1:nth [.int .i64 nn,v,.int .i64 0,.int .i64 0,.int .i64 0,.int .i64 0,lv] 1=some v:=rfl;have he:=hEq_f (oM:H.next≠H.next+1)
 have ht:=hEq_t (rfl:H.next=H.next);have f0:∀x:AV,zln 0 [x]= []:=fun _=>rfl
 have r0:∀x:AV,restN 0 [x]= [x]:=fun _=>rfl
 have F:=J6 @hT @n1 @he @ht @f0 @r0;refine uT ?_;have hx2:HX H ((H.new (.cells (.lst [.int .i64 nn,v,.int .i64 0,.int .i64 0,.int .i64 0,.int .i64 0,lv]) 53 7 false false)).new (.cells (.lst [.str s]) 9 1 false false)):=(HX.new _ _).trans (HX.new _ _);refine cR_f (zau (p:=fun r=>decide (r.nm=s)) (hsl.hx hx2) hlen ?_) ?_
 ·intro H1 hx k r hk
  haveI:=hx.hn;refine zvm1 r (qa1 (qc1 _) hx.next) ?_;refine (hx.get (i:=H.next+1) (by show H.next+1<H.next+1+1;omega)).trans ?_
  rw [get_new];exact qj (show hEq _ _ from rfl)
 ·rintro r H3 ⟨rfl,hx3⟩
  rw [fnd_eq];have hx4:=hx2.trans hx3;have hm:∀H:AH,∀n:Int,fstO (zea .max lookM [3,3] [.int .i64 n,.int .i64 0] H)=some (.int .i64 (if n<0 then 0 else n)):=fun H n=>rfl
  have hll:(rcs l).length=l.length:=by simp
  by_cases h:fnd s (rcs l)<l.length
  ·have e1:posI (fnd s (rcs l)) l.length=(fnd s (rcs l):Int):=by unfold posI;rw [qj h]
   have e2:fndI s (rcs l)=fnd s (rcs l):=by unfold fndI;rw [hll,qj h]
   have e3:hasB s (rcs l)=true:=by unfold hasB;rw [hll,qo h]
   rw [e1,e2,e3];have c1:¬((fnd s (rcs l):Int)<0):=oM
   have c2:decide ((0:Int)<=(fnd s (rcs l):Int))=true:=by rw [qs];omega
   have F:=J3 @hm @c1 @c2;refine uT ?_;exact hx4
  ·have e1:posI (fnd s (rcs l)) l.length= -1:=by unfold posI;rw [qg h]
   have e2:fndI s (rcs l)=0:=by unfold fndI;rw [hll,qg h]
   have e3:hasB s (rcs l)=false:=by unfold hasB;rw [hll,qp h]
   rw [e1,e2,e3];have c1:((-1:Int)<0):=oM
   have F:=J2 @hm @c1;refine uT ?_;exact ⟨rfl,hx4⟩
theorem wi_d (n a b:Int):wi n a b=(decide (a<=n) && decide (n<=b)):=by unfold wi;rw [ql2];simp
theorem zaf1 (n a b:Int) (H:AH):FnX lookM 177 [.int .i64 n,.int .i64 a,.int .i64 b] H (.bool (wi n a b)) H:=by
 refine fI Tryz.f177 ?_;rw [wi_d];by_cases h1:a<=n
 ·by_cases h2:n<=b
  ·have d1:decide (a<=n)=true:=qo h1
   have d2:decide (n<=b)=true:=qo h2;have F:=J2 @d1 @d2;refine uT ?_;rfl
  ·have d1:decide (a<=n)=true:=qo h1
   have d2:decide (n<=b)=false:=qp h2;have F:=J2 @d1 @d2;refine uT ?_;rfl
 ·have d1:decide (a<=n)=false:=qp h1
  have F:=@d1;refine uT ?_;rfl
theorem zyz (n:Int) (H:AH):FnX lookM 144 [.int .i64 n] H (.bool (wi n 1 64)) H:=by
 refine fI Tryz.f144 ?_;rw [wi_d];by_cases h1:1<=n
 ·by_cases h2:n<=64
  ·have d1:decide (1<=n)=true:=qo h1
   have d2:decide (n<=64)=true:=qo h2;have F:=J2 @d1 @d2;refine uT ?_;rfl
  ·have d1:decide (1<=n)=true:=qo h1
   have d2:decide (n<=64)=false:=qp h2;have F:=J2 @d1 @d2;refine uT ?_;rfl
 ·have d1:decide (1<=n)=false:=qp h1
  have F:=@d1;refine uT ?_;rfl
theorem zzz (n:Int) (H:AH):FnX lookM 165 [.int .i64 n] H (.bool (wi n 0 64)) H:=by
 refine fI Tryz.f165 ?_;rw [wi_d];by_cases h1:0<=n
 ·by_cases h2:n<=64
  ·have d1:decide (0<=n)=true:=qo h1
   have d2:decide (n<=64)=true:=qo h2;have F:=J2 @d1 @d2;refine uT ?_;rfl
  ·have d1:decide (0<=n)=true:=qo h1
   have d2:decide (n<=64)=false:=qp h2;have F:=J2 @d1 @d2;refine uT ?_;rfl
 ·have d1:decide (0<=n)=false:=qp h1
  have F:=@d1;refine uT ?_;rfl
theorem zao (H:AH):FnX lookM 145 [.int .i64 1] H (.bool true) H:=by
 refine fI Tryz.f145 ?_;exact vT0
theorem zaa1 (s:ByteArray) (hs:s.size<=1000000) (H:AH):FnX lookM 156 [.str s] H (.bool (partB s || snapB s)) H:=by
 refine fI Tryz.f156 ?_;have h1:= @FnX.p _ _ _ _ (zzn s);have h2:= @FnX.p _ _ _ _ (zzt s hs);cases ha:partB s with
 |true=>rw [ha] at h1;have F:=J2 @h1 @h2;refine uT ?_;rfl
 |false=>rw [ha] at h1;have F:=J2 @h1 @h2;refine uT ?_;rfl
theorem zwm1 {H:AH}[hn:HN H]{v:AV}{l:List (AV×Rc)}{p:Rc->Bool}{g:Nat}{caps:List AV}(hsl:SlRc H v l) (hlen:l.length<=1000000)
  (hp:∀H1,HX H H1-> ∀(k:Nat) (r:AV×Rc),l[k]? =some r->FnE lookM g (.agg (rcL r)::caps) H1 fun r' H'=>r'= .bool (p r.2)/\HX H1 H') :
  FnE lookM 152 [v,.fn (.func g) [] caps] H fun r H'=>r= .bool (decide (upto (fun r=> !p r) (rcs l)<l.length))/\HX H H':=by
 refine fI Tryz.f152 ?_;refine uT0 ?_;refine cR_f (zau hsl hlen hp) ?_;rintro r H2 ⟨rfl,hx⟩;by_cases h:upto (fun r=> !p r) (rcs l)<l.length
 ·have e:posI (upto (fun r=> !p r) (rcs l)) l.length=(upto (fun r=> !p r) (rcs l):Int):=by unfold posI;rw [qj h]
  have c:decide ((0:Int)<=(upto (fun r=> !p r) (rcs l):Int))=true:=by rw [qs];omega
  rw [e,qo h];have F:=@c;refine uT ?_;exact hx
 ·have e:posI (upto (fun r=> !p r) (rcs l)) l.length= -1:=by unfold posI;rw [qg h]
  rw [e,qp h];refine uT0 ?_;exact hx
abbrev tbL (nn:Int) (v lv:AV):List AV:= [.int .i64 nn,v,.int .i64 0,.int .i64 0,.int .i64 0,.int .i64 0,lv]
theorem tb_sb {nn:Int}{v lv:AV}{e z:Nat}{op ro:Bool}:sbB (some (.cells (.lst (tbL nn v lv)) e z op ro)) 0 7=some (tbA nn v lv):=zah rfl
theorem room_ok {H:AH}[hn:HN H]{it:Nat}{nn:Int}{v lv:AV}{l:List (AV×Rc)}{s:ByteArray}(hit:it<H.next)
  (hg:H.get it=some (.cells (.lst (tbL nn v lv)) 53 7 false false)) (hsl:SlRc H v l) (hlen:l.length<=1000000) :
  FnE lookM 146 [.ptr it 0,.str s] H fun r H'=>r= .int .i64 (roomE ⟨nn,rcs l⟩ s)/\HX H H':=by
 refine fI Tryz.f146 ?_;have t1:nth (tbL nn v lv) 1=some v:=rfl;have t0:nth (tbL nn v lv) 0=some (.int .i64 nn):=rfl;have hll:(rcs l).length=l.length:=by simp
 have F:=J2 @hg @tb_sb;refine uT ?_;refine cR_f (zxz hsl hlen) ?_;rintro r H2 ⟨rfl,hx⟩;have hg2:=(hx.get hit).trans hg;have hl:=fun H'=>zwc (H':=H') uRs hsl.is
 cases hh:hasB s (rcs l) with
 |true =>
  refine uT0 ?_;refine ⟨?_,hx⟩;unfold roomE;rw [qj hh]
 |false =>
  by_cases h1:(16:Int)<=(l.length:Int)
  ·have d1:decide ((16:Int)<=(l.length:Int))=true:=qo h1
   have F:=J5 @hg2 @t1 @t0 @hl @d1;refine uT ?_;refine ⟨?_,hx⟩;unfold roomE;rw [hh,qg dC,qj (.inl (by rw [hll];omega))]
  ·have d1:decide ((16:Int)<=(l.length:Int))=false:=qp h1
   by_cases h2:(2147483648:Int)<=nn
   ·have d2:decide ((2147483648:Int)<=nn)=true:=qo h2
    have F:=J6 @hg2 @t1 @t0 @hl @d1 @d2;refine uT ?_;refine ⟨?_,hx⟩;unfold roomE;rw [hh,qg dC,qj (.inr h2)]
   ·have d2:decide ((2147483648:Int)<=nn)=false:=qp h2
    have F:=J6 @hg2 @t1 @t0 @hl @d1 @d2;refine uT ?_;refine ⟨?_,hx⟩;unfold roomE;rw [hh,qg dC,qg (by rw [hll];rintro (h|h);omega;exact h2 h)]
theorem sz3:lookM.size 84=some 44:=kR
abbrev roA (a:AV):AV:=.agg (roL a)
theorem zwi {H:AH}{a:AV}{n:Nat}(h:IsSl H a n):a.oneCell=true:=by
 rcases h with ⟨rfl,_⟩|⟨i,o,c,op,rfl,_⟩<;>rfl
theorem znw {H:AH}{a:AV}{n:Nat}(h:IsSl H a n):AV.toC (roA a)= .lst (roL a):=by
 rcases h with ⟨rfl,_⟩|⟨i,o,c,op,rfl,_⟩<;>rfl
theorem ro_0 (a:AV):nth (roL a) 0=some a:=rfl
theorem ro_1 (a:AV):nth (roL a) 1=some (.int .i64 0):=rfl
theorem ro_2 (a:AV):nth (roL a) 2=some (.int .i64 0):=rfl
theorem ro_sum (a:AV) (e z:Nat) (op ro:Bool):sbB (some (.cells (.lst (roL a)) e z op ro)) 3 32=some (.agg z32):=by rw [sbB_l];rfl
theorem zbf1 (a:AV) (e z:Nat) (op ro:Bool):sbB (some (.cells (.lst (roL a)) e z op ro)) 0 35=some (roA a):=zah rfl
theorem id0:zua lookM 80 (zipF [] [])=some (.agg z32):=kR
theorem idq (xo yo:Operand):binF .eql (evBin lookM .eql 80 xo yo) (.agg z32) (.agg z32)=some (.bool true):=kR
theorem zba1 {H:AH}[hn:HN H]{a:AV}(ha:IsSl H a 0):FnE lookM 199 [roA a] H fun r H'=>r= .bool true/\HX H H':=by
 refine fI Tryz.f199 ?_;have hc:=znw ha;have F:=J6 @hc @ro_1 @ro_2 @ro_sum @id0 @idq;refine uT ?_
 (exact fin0)
theorem hole_ok {H:AH}[hn:HN H]{a:AV}(ha:IsSl H a 0):FnE lookM 195 [roA a] H fun r H'=>r= .bool true/\HX H H':=by
 refine fI Tryz.f195 ?_;have hc:=znw ha;have hl:=fun H'=>zwc (L:=lookM) (t:=78) (e:=161) (H':=H') kR ha
 have F:=J4 @hc @ro_0 @zbf1 @hl;refine uT ?_;refine cR_f (zba1 (ha.hx (HX.new _ _))) ?_;rintro r H2 ⟨rfl,hx⟩;refine uT0 ?_
 (exact fin0)
theorem zcf1 {H:AH}[hn:HN H]{a:AV}(ha:IsSl H a 0):FnE lookM 190 [roA a] H fun r H'=>r= .bool true/\HX H H':=by
 refine fI Tryz.f190 ?_;have hc:=znw ha;have F:=J2 @hc @zbf1;refine uT ?_;refine cR_f (hole_ok (ha.hx (HX.new _ _))) ?_;rintro r H2 ⟨rfl,hx⟩;refine uT0 ?_
 (exact fin0)
theorem rc_0 (p:AV×Rc):nth (rcL p) 0=some (.int .i64 p.2.id):=rfl
theorem rc_2 (p:AV×Rc):nth (rcL p) 2=some (.int .i64 p.2.kd):=rfl
theorem rc_3 (p:AV×Rc):nth (rcL p) 3=some (.int .i64 p.2.sz):=rfl
theorem rc_4 (p:AV×Rc):nth (rcL p) 4=some p.1:=rfl
theorem rc_5 (p:AV×Rc):nth (rcL p) 5=some (.int .i64 0):=rfl
theorem rc_39 (p:AV×Rc):nth (rcL p) 39=some (.int .i64 p.2.md):=rfl
theorem rc_40 (p:AV×Rc):nth (rcL p) 40=some (.int .i64 p.2.ow):=rfl
theorem rc_41 (p:AV×Rc):nth (rcL p) 41=some (.int .i64 p.2.og):=rfl
theorem rc_42 (p:AV×Rc):nth (rcL p) 42=some (.int .i64 p.2.qu):=rfl
theorem rc_43 (p:AV×Rc):nth (rcL p) 43=some (.int .i64 p.2.rs):=rfl
theorem rc_ro (p:AV×Rc) (e z:Nat) (op ro:Bool):sbB (some (.cells (.lst (rcL p)) e z op ro)) 4 35=some (roA p.1):=by rw [sbB_l];rfl
theorem zzd (p:AV×Rc) (e z:Nat) (op ro:Bool):sbB (some (.cells (.lst (rcL p)) e z op ro)) 0 44=some (.agg (rcL p)):=zah rfl
theorem wi_ok (n a b:Int){H:AH}{d:Nat}{k:K2}{s:List Kf}{T:Tr AV}{Q:PostC}:cR false lookM 177 [.int .i64 n,.int .i64 a,.int .i64 b] H d k s T Q=RK lookM k s (pS d (.bool (wi n a b)) T) H Q:=FnX.p (zaf1 n a b)
theorem zxm1 {H:AH}[hn:HN H]{p:AV×Rc}(ha:IsSl H p.1 0) (hs:p.2.nm.size<=1000000):FnE lookM 181 [.agg (rcL p)] H fun r H'=>r= .bool (aloneB p.2)/\HX H H':=by
 refine fI Tryz.f181 ?_;have hv:= @FnX.p _ _ _ _ (zzn p.2.nm);have hsn:= @FnX.p _ _ _ _ (zzt p.2.nm hs);cases h1:wi p.2.id 1 2147483647 with
 |false=>have F:=J4 @zra @rc_0 @wi_ok @h1;refine uT ?_;(have F:=J3 aloneB.eq_1 maxN.eq_1 @h1;exact fin)
 |true =>
 cases h2:wi p.2.sz 1 64 with
 |false=>have F:=J6 @zra @rc_0 @rc_3 @wi_ok @h1 @h2;refine uT ?_;(have F:=J4 aloneB.eq_1 maxN.eq_1 @h1 @h2;exact fin)
 |true =>
 cases h3:wi p.2.md 1 2147483648 with
 |false=>have F:=J8 @zra @rc_0 @rc_3 @rc_39 @wi_ok @h1 @h2 @h3;refine uT ?_;(have F:=J5 aloneB.eq_1 maxN.eq_1 @h1 @h2 @h3;exact fin)
 |true =>
 have F:=J9 @zra @rc_0 @rc_3 @rc_39 @rc_ro @wi_ok @h1 @h2 @h3;refine uT ?_;refine cR_f (zcf1 (ha.hx (HX.new _ _))) ?_;rintro r H2 ⟨rfl,hx⟩;have hg:=(hx.get (i:=H.next) (qc1 _)).trans ((get_new _ _ _).trans (qj (show hEq _ _ from rfl)))
 by_cases k1:p.2.kd=1
 ·have d1:decide (p.2.kd=1)=true:=qo k1
  have ea:aloneB p.2=(partB p.2.nm && (decide (p.2.ow=0) && (wi p.2.og 0 2147483647 && (wi p.2.qu 0 64 && wi p.2.rs 0 64)))):=by
   unfold aloneB;simp only [maxN];rw [h1,h2,h3,qj k1];rfl
  rw [ea];cases a1:partB p.2.nm with
  |false=>have F:=J11 @hg @rc_1 @rc_2 @rc_40 @rc_41 @rc_42 @rc_43 @hv @wi_ok @d1 @a1;refine uT ?_;(have F:=@a1;exact fin)
  |true =>
  cases a2:decide (p.2.ow=0) with
  |false=>have F:=J12 @hg @rc_1 @rc_2 @rc_40 @rc_41 @rc_42 @rc_43 @hv @wi_ok @d1 @a1 @a2;refine uT ?_;(have F:=J2 @a1 @a2;exact fin)
  |true =>
  cases a3:wi p.2.og 0 2147483647 with
  |false=>have F:=J13 @hg @rc_1 @rc_2 @rc_40 @rc_41 @rc_42 @rc_43 @hv @wi_ok @d1 @a1 @a2 @a3;refine uT ?_;(have F:=J3 @a1 @a2 @a3;exact fin)
  |true =>
  cases a4:wi p.2.qu 0 64 with
  |false=>have F:=J14 @hg @rc_1 @rc_2 @rc_40 @rc_41 @rc_42 @rc_43 @hv @wi_ok @d1 @a1 @a2 @a3 @a4;refine uT ?_;(have F:=J4 @a1 @a2 @a3 @a4;exact fin)
  |true =>
  have F:=J14 @hg @rc_1 @rc_2 @rc_40 @rc_41 @rc_42 @rc_43 @hv @wi_ok @d1 @a1 @a2 @a3 @a4;refine uT ?_
  (have F:=J4 @a1 @a2 @a3 @a4;exact fin)
 ·have d1:decide (p.2.kd=1)=false:=qp k1
  by_cases k2:p.2.kd=2
  ·have d2:decide (p.2.kd=2)=true:=qo k2
   have ea:aloneB p.2=(snapB p.2.nm && (wi p.2.ow 1 2147483647 && (decide (p.2.og=0) && (decide (p.2.qu=0) && (decide (p.2.rs=0) && decide (0<=p.2.md)))))):=by
    unfold aloneB;simp only [maxN];rw [h1,h2,h3,qg k1,qj k2];rfl
   rw [ea];cases a1:snapB p.2.nm with
   |false=>have F:=J14 @hg @rc_1 @rc_2 @rc_5 @rc_39 @rc_40 @rc_41 @rc_42 @rc_43 @hsn @wi_ok @d1 @d2 @a1;refine uT ?_;(have F:=@a1;exact fin)
   |true =>
   cases a2:wi p.2.ow 1 2147483647 with
   |false=>have F:=J15 @hg @rc_1 @rc_2 @rc_5 @rc_39 @rc_40 @rc_41 @rc_42 @rc_43 @hsn @wi_ok @d1 @d2 @a1 @a2;refine uT ?_;(have F:=J2 @a1 @a2;exact fin)
   |true =>
   cases a3:decide (p.2.og=0) with
   |false=>have F:=J16 @hg @rc_1 @rc_2 @rc_5 @rc_39 @rc_40 @rc_41 @rc_42 @rc_43 @hsn @wi_ok @d1 @d2 @a1 @a2 @a3;refine uT ?_;(have F:=J3 @a1 @a2 @a3;exact fin)
   |true =>
   cases a4:decide (p.2.qu=0) with
   |false=>have F:=J16 @hg @rc_1 @rc_2 @rc_5 @rc_39 @rc_40 @rc_41 @rc_42 @rc_43 @hsn @wi_ok @d1 @d2 @a1 @a2 (J2 @a3 @a4);refine uT ?_;(have F:=J4 @a1 @a2 @a3 @a4;exact fin)
   |true =>
   cases a5:decide (p.2.rs=0) with
   |false=>have F:=J16 @hg @rc_1 @rc_2 @rc_5 @rc_39 @rc_40 @rc_41 @rc_42 @rc_43 @hsn @wi_ok @d1 @d2 @a1 @a2 (J3 @a3 @a4 @a5);refine uT ?_;(have F:=J5 @a1 @a2 @a3 @a4 @a5;exact fin)
   |true =>
   have F:=J16 @hg @rc_1 @rc_2 @rc_5 @rc_39 @rc_40 @rc_41 @rc_42 @rc_43 @hsn @wi_ok @d1 @d2 @a1 @a2 (J3 @a3 @a4 @a5);refine uT ?_
   (have F:=J5 @a1 @a2 @a3 @a4 @a5;exact fin)
  ·have d2:decide (p.2.kd=2)=false:=qp k2
   have ea:aloneB p.2=false:=by unfold aloneB;simp only [maxN];rw [h1,h2,h3,qg k1,qg k2];rfl
   rw [ea];have F:=J4 @hg @rc_2 @d1 @d2;refine uT ?_
   (exact fin0)
theorem uIs:lookM.under 35=some (.slice 3):=kR
abbrev Lv (H:AH) (lv:AV):Prop:=SlI H lv [0,0]
theorem lv_0 {H:AH}{lv:AV}(h:Lv H lv):ld1 (elA 1 lv 0) H=some (.int .i64 0):=h.el 0 (by show 0<2;omega)
theorem lv_1 {H:AH}{lv:AV}(h:Lv H lv):ld1 (elA 1 lv 1) H=some (.int .i64 0):=h.el 1 (by show 1<2;omega)
theorem zym1 {H H':AH}{lv:AV}(h:Lv H lv):fstO (zea .len lookM [35] [lv] H')=some (.int .i64 2):=zwc uIs h.is
theorem lv_i0 {H:AH}{lv:AV}(h:Lv H lv):ixS 1 lv (.int .i64 0)=some (elA 1 lv 0):=ix_el (z:=1) (k:=.i64) h.is (Int.le_refl 0) dC
theorem lv_i1 {H:AH}{lv:AV}(h:Lv H lv):ixS 1 lv (.int .i64 1)=some (elA 1 lv 1):=ix_el (z:=1) (k:=.i64) h.is dC dC
theorem chk1_ok (H:AH):FnX lookM 180 [.int .i64 0] H (.bool false) H:=by
 refine fI Tryz.f180 ?_;have e:wi 0 0 2147483647=true:=dC
 have F:=J2 @wi_ok @e;exact vT
theorem idxi_ok {H:AH}{lv:AV}(h:Lv H lv):FnX lookM 189 [lv,.fn (.func 180) [] []] H (.int .i64 (-1)) H:=by
 refine fI Tryz.f189 ?_;have hl:=fun H'=>zym1 (H':=H') h
 have hc:= @FnX.p _ _ _ _ chk1_ok;have i0:=lv_i0 h;have i1:=lv_i1 h;have e0:=lv_0 h;have e1:=lv_1 h;have F:=@hl;refine uT ?_;clear F;refine rc_l (fun n T H'=>H'=H/\gT T 0=lv/\gT T 1= .fn (.func 180) [] []/\gT T 7= .int .i64 2/\((n=2/\gT T 8= .int .i64 0)\/(n=1/\gT T 8= .int .i64 1)\/(n=0/\gT T 8= .int .i64 2))) 2 ?_ ?_
 ·exact ⟨rfl,by exact vT0,by exact vT0,by exact vT0,.inl ⟨rfl,by exact vT0⟩⟩
 ·rintro n T H' ⟨rfl,g0,g1,g7,⟨rfl,g8⟩|⟨rfl,g8⟩|⟨rfl,g8⟩⟩
  ·have F:=J7 @g0 @g1 @g7 @g8 @i0 @e0 @hc;refine uX ?_;clear F
   exact ⟨1,oM,.inr (.inl ⟨rfl,rfl⟩)⟩
  ·have F:=J7 @g0 @g1 @g7 @g8 @i1 @e1 @hc;refine uX ?_;clear F
   exact ⟨0,oM,.inr (.inr ⟨rfl,rfl⟩)⟩
  ·have F:=J4 @g0 @g1 @g7 @g8;exact vT
theorem zzm1 {H:AH}{lv:AV}(h:Lv H lv):FnX lookM 179 [lv,.fn (.func 180) [] []] H (.bool false) H:=by
 refine fI Tryz.f179 ?_;have hc:= @FnX.c _ _ _ _ _ _ (idxi_ok h);have F:=@hc;exact vT
theorem zca1 (f:Rc->Bool) (l:List Rc):l.all f= !decide (upto f l<l.length):=by
 rw [ql2,qb1];constructor
 ·intro h
  have:¬upto f l<l.length:=fun hlt=>by
   have h1:=zst f (qr hlt);rw [h _ (List.getElem_mem hlt)] at h1;cases h1
  simp [this]
 ·intro h x hx
  obtain ⟨i,hi⟩:=qz.1 hx;have h2:¬upto f l<l.length:=by simpa using h
  have:=(qq.1 hi).1;exact zfz f oM hi
theorem zda1 (p:Rc->Bool) (l:List Rc):l.any p=decide (upto (fun r=> !p r) l<l.length):=by
 have h1:=zca1 (fun r=> !p r) l
 have h2:l.any p= !(l.all fun r=> !p r):=by rw [List.not_all_eq_any_not];simp
 rw [h2,h1,Bool.not_not]
theorem zwi1 (n m:Nat):decide ((0:Int)<=posI n m)=decide (n<m):=by
 unfold posI;by_cases h:n<m
 ·rw [qj h,qo h,qs];omega
 ·rw [qg h,qp h];rfl
theorem zjr {H:AH}{p:AV×Rc}{n:Nat}(h:IsSl H p.1 n):(rcL p).all AV.oneCell=true:=zbc p (zwi h)
theorem rel1_ok {H:AH}[hn:HN H](p:AV×Rc){b:Nat}{q:AV×Rc}(hb:b<H.next) (hg:H.get b=some (.cells (.lst (rcL q)) 84 44 false false)) :
  FnE lookM 191 [.agg (rcL p),.ptr b 0] H fun r H'=>r= .bool (decide (p.2.id=q.2.id))/\HX H H':=by
 refine fI Tryz.f191 ?_;have he:=hEq_f (oM:b≠H.next)
 have F:=J4 @zra @rc_0 @hg @he;refine uT ?_;clear F
 (exact fin0)
theorem rel2_ok {H:AH}[hn:HN H](p:AV×Rc){b:Nat}{q:AV×Rc}(hb:b<H.next) (hg:H.get b=some (.cells (.lst (rcL q)) 84 44 false false)) :
  FnE lookM 192 [.agg (rcL p),.ptr b 0] H fun r H'=>r= .bool (decide (p.2.id=q.2.og) && decide (p.2.kd=2))/\HX H H':=by
 refine fI Tryz.f192 ?_;have he:=hEq_f (oM:b≠H.next)
 cases a1:decide (p.2.id=q.2.og) with
 |false=>have F:=J7 @zra @rc_0 @rc_2 @rc_41 @hg @he @a1;refine uT ?_;clear F;(have F:=@a1;exact fin)
 |true =>
 have F:=J7 @zra @rc_0 @rc_2 @rc_41 @hg @he @a1;refine uT ?_;clear F
 (have F:=@a1;exact fin)
theorem zxi {l:List (AV×Rc)}{i:Nat}{p:AV×Rc}(h:l[i]? =some p):get (rcs l) i=p.2:=zeh (by rw [qi1,h];rfl)
theorem zkb (l:List (AV×Rc)):(rcs l).length=l.length:=by simp
theorem zea1 {H:AH}[hn:HN H]{nn:Int}{v lv:AV}{l:List (AV×Rc)}{i:Nat}(hsl:SlRc H v l) (hlv:Lv H lv) (hlen:l.length<=1000000) (hi:i<l.length) (hs:∀p,p∈l->p.2.nm.size<=1000000) :
  FnE lookM 182 [tbA nn v lv,.int .i64 (i:Int)] H fun r H'=>r= .bool (relB ⟨nn,rcs l⟩ i)/\HX H H':=by
 refine fI Tryz.f182 ?_;have hlo:=hn.lo;have hT:AV.toC (tbA nn v lv)= .lst (tbL nn v lv):=rfl;have t1:nth (tbL nn v lv) 1=some v:=rfl;have t0:nth (tbL nn v lv) 0=some (.int .i64 nn):=rfl;obtain ⟨p,hk⟩:∃p,l[i]? =some p:=⟨_,qr hi⟩
 have hmem:p∈l:=qz.2 ⟨i,hk⟩;have hix:=ix44 (z:=44) (q:=i) hsl.is hi;have hx1:HX H (H.new (.cells (.lst (tbL nn v lv)) 53 7 false false)):=HX.new _ _;have hld:=(hsl.hx hx1).agg hk;have hp1:=zjr (hsl.holeAt hk);have hgp:=zxi hk;obtain ⟨v',hpre,hsl'⟩:=hsl.pre uRs sz3 hi;have hne:=hEq_f (oM:H.next≠H.next+1)
 have ht:=hEq_t (rfl:H.next+1=H.next+1);have F:=J9 @hT @t1 @t0 @hix @hld @zra @hpre @hne @ht;refine uT ?_;clear F;refine cR_at (fun H3=>HX H H3/\H3.next=H.next+2/\H3.get (H.next+1)=some (.cells (.lst (rcL p)) 84 44 false false)/\H3.get H.next=some (.cells (.lst (tbL nn v lv)) 53 7 false false)) ?_ ?_
 ·exact ⟨hxt,rfl,by rw [zfa],by rw [zgc _ oM,zmf _ (oM:H.next≠H.next+1),zaa]⟩
 rintro H3 ⟨hx3,hn3,hgx,hgt⟩;haveI:=hx3.hn;refine cR_f (zau (p:=fun r=>decide (r.id=p.2.id)) (hsl'.hx hx3) (by rw [qd1];omega) fun H4 hx4 k r hr=> ?_) ?_
 ·haveI:=hx4.hn
  exact rel1_ok r (by have:=hx4.next;omega) ((hx4.get oM).trans hgx)
 rintro r1 H4 ⟨rfl,hx4⟩;haveI:=hx4.hn;have hg4x:=(hx4.get oM).trans hgx
 have hg4t:=(hx4.get oM).trans hgt
 have hx04:=hx3.trans hx4;have erel:relB ⟨nn,rcs l⟩ i=(!decide (upto (fun r=> !decide (r.id=p.2.id)) (rcs (l.take i))<(l.take i).length) && (decide (p.2.id<nn) && kinB (rcs l) p.2)):=by
  unfold relB;simp only [hgp];have e1:(rcs l).take i=rcs (l.take i):=by show (l.map _).take i=(l.take i).map _;rw [qm5]
  have e2:(fun y:Rc=>decide (y.id≠p.2.id))=fun r=> !decide (r.id=p.2.id):=by funext y;simp
  rw [e1,e2,zca1,zkb]
 rw [erel];have hpg:=zwi1 (upto (fun r=> !decide (r.id=p.2.id)) (rcs (l.take i))) (l.take i).length
 generalize posI (upto (fun r=> !decide (r.id=p.2.id)) (rcs (l.take i))) (l.take i).length=z at hpg ⊢
 rw [← hpg];clear erel hpg;cases a1:decide (0<=z) with
 |true=>have F:=@a1;refine uT ?_;clear F;(exact fin0)
 |false =>
 have elt:decide (nn<=p.2.id)= !decide (p.2.id<nn):=by rw [ql2];simp
 cases a2:decide (p.2.id<nn) with
 |false=>rw [a2] at elt;have F:=J6 @a1 @hg4x @hg4t @rc_0 @t0 @elt;refine uT ?_;clear F;(exact fin0)
 |true =>
 rw [a2] at elt;unfold kinB;by_cases k2:p.2.kd=2
 ·rw [qj k2]
  have d2:decide (p.2.kd=2)=true:=qo k2;have hsp:= @FnX.p _ _ _ _ (zlg p.2.nm (hs p hmem));have htb:∀e z op ro,sbB (some (.cells (.lst (tbL nn v lv)) e z op ro)) 0 7=some (tbA nn v lv):=fun e z op ro=>tb_sb
  have F:=J11 @a1 @hg4x @hg4t @rc_0 @rc_1 @rc_2 @t0 @elt @d2 @hsp @htb;refine uT ?_;clear F;refine cR_f (zxz (hsl.hx hx04) hlen) ?_;rintro r2 H5 ⟨rfl,hx5⟩;have hg5x:=(hx5.get (by have:=hx4.next;omega)).trans hg4x
  have hg5t:=(hx5.get (by have:=hx4.next;omega)).trans hg4t
  have hx05:=hx04.trans hx5;cases a3:hasB (splA p.2.nm) (rcs l) with
  |false=>refine uT0 ?_;(exact fin0)
  |true =>
   obtain ⟨m1,m2⟩:=zeb a3;rw [zkb] at m1;obtain ⟨q,hq⟩:∃q,l[fndI (splA p.2.nm) (rcs l)]? =some q:=⟨_,qr m1⟩
   have hqx:=ix44 (z:=44) (q:=fndI (splA p.2.nm) (rcs l)) hsl.is m1;have hqf:=fa_el hsl.is m1 44 0;have hqd:=(hsl.hx hx05).fld hq (j:=0) (x:=.int .i64 q.2.id) rfl;have hqg:=zxi hq;rw [hqg];have F:=J7 @hg5x @hg5t @t1 @rc_40 @hqx @hqf @hqd;refine uT ?_;clear F
   (exact fin0)
 ·rw [qg k2]
  have d2:decide (p.2.kd=2)=false:=qp k2;cases a3:decide (p.2.og=0) with
  |true=>have F:=J10 @a1 @hg4x @hg4t @rc_0 @rc_2 @rc_41 @t0 @elt @d2 @a3;refine uT ?_;clear F;(exact fin0)
  |false =>
   have F:=J11 @a1 @hg4x @hg4t @rc_0 @rc_2 @rc_41 @t0 @t1 @elt @d2 @a3;refine uT ?_;clear F;refine cR_f (zau (p:=fun y=>decide (y.id=p.2.og) && decide (y.kd=2)) (hsl.hx hx04) hlen fun H5 hx5 k r hr=> ?_) ?_
   ·haveI:=hx5.hn
    exact rel2_ok r (by have:=hx4.next;have:=hx5.next;omega) ((hx5.get (by have:=hx4.next;omega)).trans hg4x)
   rintro r2 H5 ⟨rfl,hx5⟩;have hx05:=hx04.trans hx5;have hpg:=zwi1 (upto (fun y=> !(decide (y.id=p.2.og) && decide (y.kd=2))) (rcs l)) l.length
   rw [zda1,zkb,← hpg];generalize posI (upto (fun y=> !(decide (y.id=p.2.og) && decide (y.kd=2))) (rcs l)) l.length=z2
   refine uT0 ?_
   (exact fin0)
abbrev cu0:List AV:= [.int .i64 0,.int .i64 0,.int .i64 0,.int .i64 0]
theorem cu_one:cu0.all AV.oneCell=true:=rfl
theorem tb_cu {nn:Int}{v lv:AV}(e z:Nat) (op ro:Bool):sbB (some (.cells (.lst (tbL nn v lv)) e z op ro)) 2 4=some (.agg cu0):=by rw [sbB_l];rfl
theorem cu_all (e z:Nat) (op ro:Bool):sbB (some (.cells (.lst cu0) e z op ro)) 0 4=some (.agg cu0):=zah rfl
theorem cu_bu:zua lookM 51 (zipF [] [])=some (.agg cu0):=kR
theorem cu_q (xo yo:Operand):binF .eql (evBin lookM .eql 51 xo yo) (.agg cu0) (.agg cu0)=some (.bool true):=kR
theorem zba (nn:Int) (v lv:AV):AV.toC (tbA nn v lv)= .lst (tbL nn v lv):=rfl
theorem tb_0 (nn:Int) (v lv:AV):nth (tbL nn v lv) 0=some (.int .i64 nn):=rfl
theorem tb_1 (nn:Int) (v lv:AV):nth (tbL nn v lv) 1=some v:=rfl
theorem tb_6 (nn:Int) (v lv:AV):nth (tbL nn v lv) 6=some lv:=rfl
theorem zda (nn:Int) (v lv:AV) (e z:Nat) (op ro:Bool):sbB (some (.cells (.lst (tbL nn v lv)) e z op ro)) 0 7=some (tbA nn v lv):=tb_sb
theorem zow {H:AH}[hn:HN H]{nn:Int}{v lv:AV}:FnE lookM 178 [tbA nn v lv] H fun r H'=>r= .bool true/\HX H H':=by
 refine fI Tryz.f178 ?_;have hlo:=hn.lo;have h1:=cu_one;have hne:=hEq_f (oM:H.next≠H.next+1)
 have F:=J6 @zba @tb_cu @cu_all @cu_bu @cu_q @hne;refine uT ?_
 (exact fin0)
theorem chk_f1 {t:Tb}{q:Nat}(hq:q<t.rs.length) (h:(aloneB (get t.rs q) && ordB t.rs q)=false):ztb t=false:=by
 rw [qf3];intro hc;have hk:=checkB_ok.1 hc;rw [hk.alone q hq,hk.ord q hq] at h;cases h
theorem chk_f2 {t:Tb}{q:Nat}(hq:q<t.rs.length) (h:relB t q=false):ztb t=false:=by
 rw [qf3];intro hc;rw [(checkB_ok.1 hc).rel q hq] at h;cases h
theorem chk_t {t:Tb}(h0:headB t=true) (h1:∀q,q<t.rs.length->(aloneB (get t.rs q) && ordB t.rs q)=true) (h2:∀q,q<t.rs.length->relB t q=true):ztb t=true:=by
 unfold headB wi at h0;simp only [qm,qs] at h0 h1;exact checkB_ok.2 ⟨⟨h0.1.1,h0.1.2⟩,h0.2,fun i hi=>(h1 i hi).1,fun i hi=>(h1 i hi).2,h2⟩
theorem chk_h {t:Tb}(h:headB t=false):ztb t=false:=by unfold ztb;rw [h];rfl
def chkI (t:Tb):Int:=if ztb t then 0 else 2
theorem zan1 {H:AH}[hn:HN H]{nn:Int}{v lv:AV}{l:List (AV×Rc)}(hsl:SlRc H v l) (hlv:Lv H lv) (hlen:l.length<=1000000) (hs:∀p,p∈l->p.2.nm.size<=1000000) :
  FnE lookM 167 [tbA nn v lv] H fun r H'=>r= .int .i64 (chkI ⟨nn,rcs l⟩)/\HX H H':=by
 refine fI Tryz.f167 ?_;have hlo:=hn.lo;have hl:=fun H'=>zwc (H':=H') uRs hsl.is
 have hll:=fun H'=>zym1 (H':=H') hlv
 have hw2:wi 2 2 8=true:=dC
 have hhd:headB ⟨nn,rcs l⟩=(wi nn 1 2147483648 && !decide (16<(l.length:Int))):=by
  unfold headB;simp only [zkb];congr 1;rw [ql2];simp;omega
 cases a1:wi nn 1 2147483648 with
 |false =>
  have hc:chkI ⟨nn,rcs l⟩=2:=by unfold chkI;rw [chk_h (by rw [hhd,a1];rfl)];rfl
  rw [hc];have F:=J4 @zba @tb_0 @wi_ok @a1;refine uT ?_;(exact fin0)
 |true =>
 by_cases a2:(16:Int)<(l.length:Int)
 ·have hc:chkI ⟨nn,rcs l⟩=2:=by unfold chkI;rw [chk_h (by rw [hhd,qo a2];simp)];rfl
  rw [hc];have d2:decide ((16:Int)<(l.length:Int))=true:=qo a2;have F:=J7 @zba @tb_0 @tb_1 @hl @wi_ok @a1 @d2;refine uT ?_;(exact fin0)
 have d2:decide ((16:Int)<(l.length:Int))=false:=qp a2;have hh:headB ⟨nn,rcs l⟩=true:=by rw [hhd,a1,d2];rfl
 have F:=J11 @zba @tb_0 @tb_1 @tb_6 @zda @hl @hll @wi_ok @a1 @d2 @hw2;refine uT ?_;refine cR_f zow ?_;rintro r1 H1 ⟨rfl,hx1⟩;have hg1:=(hx1.get (i:=H.next) (qc1 _)).trans (zaa _);have hx01:=(HX.new H (.cells (.lst (tbL nn v lv)) 53 7 false false)).trans hx1;have hn1:H.next+1<=H1.next:=hx1.next;haveI:=hx01.hn;have hci:= @FnX.c _ _ _ _ _ _ (zzm1 (hlv.hx hx01));have F:=J5 @hg1 @tb_1 @tb_6 @hci @hl;refine uT ?_;refine rc_l (fun n T H'=> ∃q,n+q=l.length/\HX H1 H'/\gT T 1= .ptr H.next 0/\gT T 32=v/\gT T 33= .int .i64 l.length/\gT T 34= .int .i64 q/\(∀j,j<q->(aloneB (get (rcs l) j) && ordB (rcs l) j)=true)) l.length ?_ ?_
 ·exact ⟨0,rfl,HX.refl _,by exact vT0,by exact vT0,by exact vT0,by refine uT0 ?_;rfl,fun j h=>absurd h (qb4 _)⟩
 rintro n T H2 ⟨q,hnq,hx2,g1,g32,g33,g34,hall⟩;have hx02:=hx01.trans hx2;have hg2:=(hx2.get oM).trans hg1
 haveI:=hx02.hn;have hlo2:=(HN.lo:H2.lo<=H2.next);have hn2:=hx2.next;cases n with
 |zero =>
  have hall':∀j,j<l.length->(aloneB (get (rcs l) j) && ordB (rcs l) j)=true:=fun j hj=>hall j oM
  have hge:=hEq_f (oM:H.next≠H2.next)
  have F:=J7 @g1 @g32 @g33 @g34 @hg2 @tb_1 @hl;refine uT ?_;refine rc_l (fun n T H'=> ∃q,n+q=l.length/\HX H2 H'/\gT T 1= .ptr H.next 0/\gT T 62= .int .i64 l.length/\gT T 63= .int .i64 q/\(∀j,j<q->relB ⟨nn,rcs l⟩ j=true)) l.length ?_ ?_
  ·exact ⟨0,rfl,HX.refl _,by have F:=@g1;exact vT,by exact vT0,by refine uT0 ?_;rfl,fun j h=>absurd h (qb4 _)⟩
  rintro n T H3 ⟨q,hnq,hx3,g1,g62,g63,hall3⟩;have hx03:=hx02.trans hx3;have hg3:=(hx3.get oM).trans hg2
  haveI:=hx03.hn;cases n with
  |zero =>
   have hc:chkI ⟨nn,rcs l⟩=0:=by
    unfold chkI;rw [chk_t hh (fun j hj=>hall' j (by rwa [zkb] at hj)) (fun j hj=>hall3 j (by rw [zkb] at hj;omega))];rfl
   rw [hc];have F:=J3 @g1 @g62 @g63;refine uT ?_
   (exact fin0)
  |succ n =>
   have hq:q<l.length:=oM
   have F:=J5 @g1 @g62 @g63 @hg3 @zda;refine uT ?_;refine cR_f (zea1 (hsl.hx hx03) (hlv.hx hx03) hlen hq hs) ?_;rintro r4 H4 ⟨rfl,hx4⟩;cases a3:relB ⟨nn,rcs l⟩ q with
   |false =>
    have hc:chkI ⟨nn,rcs l⟩=2:=by unfold chkI;rw [chk_f2 (by rw [zkb];exact hq) a3];rfl
    rw [hc];refine uT0 ?_;exact hx03.trans hx4
   |true =>
    have F:=J3 @g1 @g62 @g63;refine uT ?_;refine ⟨n,oM,q+1,oM,hx3.trans hx4,by push_cast;rfl,fun j hj=> ?_⟩
    rcases qf2 j q with h|h
    ·exact hall3 j h
    ·have:j=q:=oM
     subst this;exact a3
 |succ n =>
  have hq:q<l.length:=oM
  obtain ⟨p,hk⟩:∃p,l[q]? =some p:=⟨_,qr hq⟩
  have hmem:p∈l:=qz.2 ⟨q,hk⟩;have hix:=ix44 (z:=44) (q:=q) hsl.is hq;have hld:=(hsl.hx hx02).agg hk;have hp1:=zjr (hsl.holeAt hk);have hgp:=zxi hk;have hgo:=hall;have F:=J8 @g1 @g32 @g33 @g34 @hix @hld @zra @zzd;refine uT ?_;refine cR_at (fun H3=>HX H2 H3/\H3.next=H2.next+1/\H3.get H2.next=some (.cells (.lst (rcL p)) 84 44 false false)) ?_ ?_
  ·exact ⟨hxt,rfl,by rw [zfa]⟩
  rintro H3 ⟨hx3,hn3,hg3x⟩;have hx03:=hx02.trans hx3;haveI:=hx03.hn;refine cR_f (zxm1 ((hsl.hx hx03).holeAt hk) (hs p hmem)) ?_;rintro r4 H4 ⟨rfl,hx4⟩;have hx04:=hx03.trans hx4;have hx14:=(hx2.trans hx3).trans hx4;have hn4:=hx4.next;have hg4:=((hx3.trans hx4).get oM).trans hg2
  have hg4x:=(hx4.get oM).trans hg3x
  haveI:=hx04.hn;have next:∀{H5:AH},HX H1 H5->aloneB p.2=true->ordB (rcs l) q=true-> ∃n',n'<n+1/\ ∃q',n'+q'=l.length/\HX H1 H5/\AV.int .i64 ((q:Int)+1)= .int .i64 (q':Int)/\(∀j,j<q'->(aloneB (get (rcs l) j) && ordB (rcs l) j)=true):=by
   intro H5 hx5 e1 e2;refine ⟨n,oM,q+1,oM,hx5,by push_cast;rfl,fun j hj=> ?_⟩
   rcases qf2 j q with h|h
   ·exact hall j h
   ·have:j=q:=oM
    subst this;rw [hgp,e1,e2];rfl
  cases a3:aloneB p.2 with
  |false =>
   have hc:chkI ⟨nn,rcs l⟩=2:=by unfold chkI;rw [chk_f1 (q:=q) (by rw [zkb];exact hq) (by show (aloneB (get (rcs l) q) && _)=false;rw [hgp,a3];rfl)];rfl
   rw [hc];have F:=J6 @g1 @g32 @g33 @g34 @hg4 @hg4x;refine uT ?_;exact hx04
  |true =>
  rcases qp3 q with h0|h0
  ·subst h0
   have e0:decide ((0:Int)<((0:Nat):Int))=false:=rfl;have F:=J7 @g1 @g32 @g33 @g34 @hg4 @hg4x @e0;refine uT ?_;exact next hx14 a3 rfl
  ·obtain ⟨m,rfl⟩:∃m,q=m+1:=⟨q - 1,oM⟩
   have e0:decide ((0:Int)<((m+1:Nat):Int))=true:=qo oM
   have e1:((m+1:Nat):Int) - 1=(m:Int):=oM
   have hm:m<l.length:=oM
   obtain ⟨p',hk'⟩:∃p,l[m]? =some p:=⟨_,qr hm⟩
   have hmem':p'∈l:=qz.2 ⟨m,hk'⟩;have hix':=ix44 (z:=44) (q:=m) hsl.is hm;have hqf:=fa_el hsl.is hm 44 1;have hqd:=(hsl.hx hx04).fld hk' (j:=1) (x:=.str p'.2.nm) rfl;have eo:ordB (rcs l) (m+1)=lessB p'.2.nm p.2.nm:=by
    unfold ordB;rw [qy6,zxi hk',hgp];simp
   have F:=J13 @g1 @g32 @g33 @g34 @hg4 @hg4x @e0 @e1 @tb_1 @rc_1 @hix' @hqf @hqd;refine uT ?_;refine cR_f (zwz _ _ (hs p' hmem') (hs p hmem) _) ?_;rintro r5 H5 ⟨rfl,hx5⟩;cases a4:lessB p'.2.nm p.2.nm with
   |false =>
    have hc:chkI ⟨nn,rcs l⟩=2:=by unfold chkI;rw [chk_f1 (q:=m+1) (by rw [zkb];exact hq) (by show (aloneB (get (rcs l) (m+1)) && ordB (rcs l) (m+1))=false;rw [eo,a4,ql3])];rfl
    rw [hc];have F:=J4 @g1 @g32 @g33 @g34;refine uT ?_;exact hx04.trans hx5
   |true =>
    have F:=J4 @g1 @g32 @g33 @g34;refine uT ?_;exact next (hx14.trans hx5) a3 (by rw [eo,a4])
noncomputable def zoc:Code:=bodyN lookM 175
noncomputable def f175c:C2:=(.seq (.reg (m_ (.con .nilSl) 6<| .done))
 (.seq (.reg (m_ (tO 0) 10<|m_ (tO 1) 11<|ls_ (fun xs _=>zxa lookM 49 true false false xs) [(tO 10),(tO 11)] (opN zoc 1 2) 12<| .done))
 (.seq (.reg (m_ (tO 2) 13<|le_ lookM 49 (tO 13) 14<|m_ (tO 14) 7<| .done))
 (.seq (.seq (.reg (m_ (tO 7) 15<|b_ lookM .eql 3 (.tmp 15) (.const (.int .i64 (0))) 16<| .done))
 (.cond (tO 16) (.seq (.reg (m_ (tO 0) 17<|m_ (tO 17) 6<| .done))
 .ret) .skip))
 (.seq (.reg (m_ (tO 0) 18<|le_ lookM 49 (tO 18) 19<|m_ (tO 19) 8<| .done))
 (.seq (.seq (.reg (m_ (tO 1) 20<|m_ (tO 8) 21<|b_ lookM .eql 3 (.tmp 20) (.tmp 21) 22<| .done))
 (.cond (tO 22) (.seq (.reg (m_ (tO 0) 23<|m_ (tO 2) 24<|hn_ false (appX 84 44 152) [(tO 23),(tO 24)] 25<|m_ (tO 25) 6<| .done))
 .ret) .skip))
 (.seq (.seq (.reg (m_ (tO 8) 26<|m_ (tO 7) 27<|b_ lookM .add 3 (.tmp 26) (.tmp 27) 28<|m_ (tO 0) 29<|n_ (fun xs H=>fstO (zea .cap lookM [49] xs H)) [(tO 29)] 30<|b_ lookM .gtr 3 (.tmp 28) (.tmp 30) 31<| .done))
 (.cond (tO 31) (.seq (.reg (m_ (tO 0) 32<|m_ (tO 1) 33<|ls_ (fun xs _=>zxa lookM 49 false true false xs) [(tO 32),(tO 33)] (opN zoc 9 2) 34<|m_ (tO 8) 35<|m_ (tO 7) 36<|b_ lookM .add 3 (.tmp 35) (.tmp 36) 37<|m_ (tO 1) 38<|b_ lookM .sub 3 (.tmp 37) (.tmp 38) 39<|hn_ false (zea .append lookM [49,3]) [(tO 34),(tO 39)] 40<|m_ (tO 40) 9<| .done))
 (.seq (.reg (m_ (tO 9) 41<|m_ (tO 1) 42<|ls_ (fun xs _=>zxa lookM 49 true false false xs) [(tO 41),(tO 42)] (opN zoc 10 2) 43<|m_ (tO 2) 44<|hn_ false (zea .copy lookM [49,49]) [(tO 43),(tO 44)] 45<| .done))
 (.seq (.reg (m_ (tO 9) 46<|m_ (tO 1) 47<|m_ (tO 7) 48<|b_ lookM .add 3 (.tmp 47) (.tmp 48) 49<|n_ (fun xs _=>zxa lookM 49 true false false xs) [(tO 46),(tO 49)] 50<|m_ (tO 0) 51<|m_ (tO 1) 52<|n_ (fun xs _=>zxa lookM 49 true false false xs) [(tO 51),(tO 52)] 53<|hn_ false (zea .copy lookM [49,49]) [(tO 50),(tO 53)] 54<| .done))
 (.seq (.reg (m_ (tO 9) 55<|m_ (tO 55) 6<| .done))
 .ret)))) .skip))
 (.seq (.reg (m_ (tO 0) 56<|m_ (tO 8) 57<|m_ (tO 7) 58<|b_ lookM .add 3 (.tmp 57) (.tmp 58) 59<|ls_ (fun xs _=>zxa lookM 49 false true false xs) [(tO 56),(tO 59)] (opN zoc 13 4) 60<|m_ (tO 60) 0<| .done))
 (.seq (.seq (.reg (m_ (tO 2) 61<|m_ (tO 0) 62<|m_ (tO 1) 63<|m_ (tO 7) 64<|b_ lookM .add 3 (.tmp 63) (.tmp 64) 65<|ls_ (fun xs _=>zxa lookM 49 true false false xs) [(tO 62),(tO 65)] (opN zoc 14 5) 66<|cl_ false 187 [(tO 61),(tO 66)] 67<|nt_ (tO 67) 68<| .done))
 (.cond (tO 68) (.seq (.reg (m_ (tO 0) 69<|m_ (tO 1) 70<|m_ (tO 7) 71<|b_ lookM .add 3 (.tmp 70) (.tmp 71) 72<|n_ (fun xs _=>zxa lookM 49 true false false xs) [(tO 69),(tO 72)] 73<|m_ (tO 0) 74<|m_ (tO 1) 75<|n_ (fun xs _=>zxa lookM 49 true false false xs) [(tO 74),(tO 75)] 76<|hn_ false (zea .copy lookM [49,49]) [(tO 73),(tO 76)] 77<| .done))
 (.seq (.reg (m_ (tO 0) 78<|m_ (tO 1) 79<|ls_ (fun xs _=>zxa lookM 49 true false false xs) [(tO 78),(tO 79)] (opN zoc 16 2) 80<|m_ (tO 2) 81<|hn_ false (zea .copy lookM [49,49]) [(tO 80),(tO 81)] 82<| .done))
 (.seq (.reg (m_ (tO 0) 83<|m_ (tO 83) 6<| .done))
 .ret))) .skip))
 (.seq (.reg (m_ (tO 0) 84<|m_ (tO 8) 85<|ls_ (fun xs _=>zxa lookM 49 true false false xs) [(tO 84),(tO 85)] (opN zoc 18 2) 86<|m_ (tO 2) 87<|hn_ false (zea .copy lookM [49,49]) [(tO 86),(tO 87)] 88<| .done))
 (.seq (.reg (m_ (tO 0) 89<|m_ (tO 1) 90<|ls_ (fun xs _=>zxa lookM 49 true false false xs) [(tO 89),(tO 90)] (opN zoc 19 2) 91<|m_ (tO 7) 92<|cl_ false 188 [(tO 91),(tO 92)] 93<| .done))
 (.seq (.reg (m_ (tO 0) 94<|m_ (tO 94) 6<| .done))
 .ret))))))))))))
theorem zvt:fnF lookM 175=some ⟨95,f175c, [.tmp 6]⟩:=kR
end HS
