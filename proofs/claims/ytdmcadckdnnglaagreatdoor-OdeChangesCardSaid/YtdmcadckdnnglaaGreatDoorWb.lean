/- Part. -/
import Derived.Test.YtdmcadckdnnglaaGreatDoorVb
set_option linter.all false
namespace Go.Sy
open Go Go.Proofs Tryz Ord
def cd0:Tr:=bX 1 1 3 12 (bX 1 1 3 14 (ez 5 0 2 0 3 15 16 (eO 120 [W 4 0,W 6 0] [some 3,none] [13,17] [2,2] 90 false (lZ 207 3 0 3 1 3 2 0 5 0 6 0 7 22 24 (lZ 36 7 0 7 1 7 2 9 0 9 1 9 2 21 25 (iz 10 10 1 10 2))))))
def au6:aO prog f131 cT [.v (some 9),.v none,.v none,.v (some 3)]=cd0:=aT
def be4:Tr:=WV 34 (De 19 266 35 0 (dK 20 9 185 36 (eO 131 [.agg [U 21 0,U 21 1,U 21 2,U 21 3,U 21 4,U 21 5,U 21 6,U 21 7,U 21 8],W 1 0,W 2 0,G3 3] [some 3] [37,38,39,40] [185,3,3,39] 39 false (lZ 167 18 0 18 1 18 2 22 0 22 1 22 2 33 41 (lZ 207 17 0 17 1 17 2 23 0 23 1 23 2 32 42 (iz 24 24 1 24 2))))))
def cc2:Tr:=eO 203 [G3 11,W 1 0] [some 3] [23,24] [39,3] 39 true (lZ 207 7 0 7 1 7 2 12 0 12 1 12 2 18 25 (WV 27 (De 14 266 28 3 (dK 15 3 39 29 (yD 36 16 16 1 16 2 13 13 1 13 2 30 31 (Dc 68 1 3 39 be4))))))
def ca7:Tr:=ez 1 0 2 0 3 14 15 (AM 203 3 5 13 16 (yD 36 4 4 1 4 2 6 6 1 6 2 12 17 (WV 19 (De 8 266 20 0 (De 9 185 21 1 (dK 10 3 39 22 cc2))))))
def ce3:Tr:=Om 209 1 2 3 10 11 3 3 39 ca7
def bc6:aO prog f133 cT [.v none,.v none,.v none,.v (some 3)]=ce3:=aT
def cP(aB:Rat)(n d:Int)(r:Rat):Rat:=((n+1:Int):Rat)/((n+1-d:Int):Rat)*(r/aB)
def MG(a:j1)(aB:Rat)(n0:Nat):Nat->Rat
 | 0=>0
 | k+1=>lA [MG a aB n0 k,(a.getD (n0+k) 0).abs*aB^(n0+k)] 2
def fM(b aB:Rat)(n d:Nat)(r:Rat):Rat:=b*(((bB n d:Int):Rat)*r^(n-d)/aB^n)/(((1:Int):Rat)-cP aB n d r)
abbrev ar9(a:List aE)(aB:Rat)(st:Int):List aE:=a++qC aB++[.int .i64 st]
def au9(a0 a1 a2 a3 a4:aE)(aB:Rat)(st:Int)(n d:Int)(r:Rat)(B:Nat)(h0:aB≠0)(hr:Fit B r)(hrho:Fit B aB)(hn1:-1099511627776<=n:=by omega)(hn2:n<1099511627776:=by omega)(hd1:-1099511627776<=d:=by omega)(hd2:d<1099511627776:=by omega)(hnd:n+1-d≠0:=by omega)(hB:B<=8589934592:=by omega):aK prog 131 [(.agg (ar9 [a0,a1,a2,a3,a4] aB st):aF),(.one (.int .i64 n):aF),(.one (.int .i64 d):aF),(qT r:aF)] (.ret [qT (cP aB n d r)]):=by
 refine dB func131 au6 ?_;apply vn aC;apply vn aC;apply vn aL;dsimp only[aP,aQ];have ho:=bU0 (n+1) (n+1-d);rw[aD hnd,aD hnd]at ho;apply aA ho;apply aA (uO r aB B B h0 hr hrho);apply aA (cr _ _ 128 (B+B) ((iU).div (iU)) (hr.div hrho));exact aN
def YG{x:Rat}(h:x<1):((1:Int):Rat)-x≠0:=fun e=>by
 have:x=1:=e9
 rw[this]at h;exact absurd h dO
structure oj(B:Nat)(aB:Rat)(n d:Nat)(r:Rat):Prop where
 ff:∀j,j<=d->Fit B ((bB n j:Int):Rat)
 fr:∀j,j<=2*n+1->Fit B (r^j)
 fo:∀j,j<=2*n+1->Fit B (aB^j)
def oj.r1{B:Nat}{aB:Rat}{n d:Nat}{r:Rat}(h:oj B aB n d r):Fit B r:=by have:=h.fr 1 O;rwa[bE,bQ,kZ]at this
def oj.o1{B:Nat}{aB:Rat}{n d:Nat}{r:Rat}(h:oj B aB n d r):Fit B aB:=by have:=h.fo 1 O;rwa[bE,bQ,kZ]at this
def oj.sh{B:Nat}{aB:Rat}{n d:Nat}{r:Rat}(h:oj B aB n d r)(hn:n<4611686018427387904)(hd:d<4611686018427387904):Fit (128+(B+B)) (cP aB n d r):=
 ((iU (n:=(n:Int)+1)).div (iU (n:=(n:Int)+1-d))).mul (h.r1.div h.o1)
abbrev Zi(ar:List aE)(aB:Rat)(st:Int)(y a:j1)(b:Rat):List aE:=(ar++qC aB++[.int .i64 st])++[sQ y,sQ a]++qC b
set_option maxHeartbeats 1000000 in
def EX(a0 a1 a2 a3 a4:aE)(aB:Rat)(st:Int)(y a:j1)(b:Rat)(n d:Nat)(r:Rat)(B:Nat)(C:oj B aB n d r)(h0:aB≠0)(hb:Fit B b)(hs1:cP aB n d r<1)(hn:n<1099511627776:=by omega)(h64:64<=B:=by omega)(hd:d<=n:=by omega)(hB:B<=2147483648:=by omega):aK prog 133 [(.one (.aW (Zi [a0,a1,a2,a3,a4] aB st y a b)):aF),(.one (.int .i64 n):aF),(.one (.int .i64 d):aF),(qT r:aF)] (.ret [qT (fM b aB n d r)]):=by
 refine dB func133 bc6 ?_;have hff:=C.ff d (ah _);have hfr:=C.fr (n-d) O;have hfo:=C.fo n O;have hsh:=C.sh O O;have hp0:=xe h0 n;apply aA (lT (n:Int) d B h64 (fun j hj=>C.ff j hj));apply vn aL;dsimp only[aP,aQ];rw[show(n:Int)-(d:Int)=((n-d:Nat):Int) by omega];apply aA (kU r (n-d) B (fun j hj=>C.fr j O));apply aA (cr _ _ B B hff hfr);apply vn PM;apply vn (jE ae3 dO);apply vn (jE bt0 dO);apply vn (ay mq dO bY (.inl rfl));apply aA (kU aB n B (fun j hj=>C.fo j O));apply aA (uO _ _ (B+B) B hp0 (hff.mul hfr) hfo);dsimp only[aP,aQ];apply vn PM;apply vn (jE bn8 dO);apply vn (ay mq dO bY (.inl rfl));apply aA (cr _ _ B (B+B+B) hb ((hff.mul hfr).div hfo));apply aA (ph 1);apply vn PM;apply vn (jE ae3 dO);apply vn (ay bA7 dO bY (.inl rfl));dsimp only[aP,aQ];apply aA (au9 a0 a1 a2 a3 a4 aB st n d r B h0 C.r1 C.o1);apply aA (Rp _ _ 64 (128+(B+B)) (Fit.int O O) hsh);apply aA (uO _ _ (B+(B+B+B)) (64+(128+(B+B))+1) (YG hs1) (hb.mul ((hff.mul hfr).div hfo)) ((Fit.int O O).sub hsh));exact aN
open Go Go.Proofs Go.RowKit Tryz Ord
attribute [local go_sem] Oper.semAt_some
abbrev LR(e:Int):Value:=.iface 261 (.agg #[.int .i64 e])
def Nk:∃fs,prog.underlying 261=some (.struct fs):=by
 have hd:(prog.underlying 261).any (fun d=>match d with | .struct _=>true | _=>false)=true:=aT
 cases hu:prog.underlying 261 with
 | none=>rw[hu]at hd;cases hd
 | some d=>
   rw[hu]at hd;cases d<;>first | (cases hd;done) | exact⟨_,rfl⟩
def Xa(e:Int)(T:TypeId)(w:World):(Instr.typeAssert (LR e) T 261 true).run prog w=.ok (.tuple #[.agg #[.int .i64 e],.bool true]) w:=by
 obtain⟨fs,hu⟩:=Nk;simp[Instr.typeAssert,fB hu]
set_option maxRecDepth 100000 in
def Nw(b:Nat)(e:Int)(w:World)(hb:w.heap[b]?=some (.cells #[.int .i64 0] 55 (0,0))) :
  CallsD prog 201 #[.pointer (some ⟨b,0,none⟩)] (.panicking [{ v:=LR e,recovered:=false }]) w fun r u' w'=>r=.returned (.tuple #[])/\u'=.panicking [{ v:=LR e,recovered:=true }]/\w.grownBy w' (some b)/\w'.heap[b]?=some (.cells #[.int .i64 e] 55 (0,0)):=by
 have cb:w.cell? ⟨b,0,none⟩=some (.int .i64 0):=aH hb rfl;have fb:w.frozen? ⟨b,0,none⟩=false:=by simp[World.frozen?,hb]
 refine callsD_of_wpS func201 rfl fun c₀ cs hu=>?_;apply wpS_seq;apply Gf;simp[wpOpsS,go_sem,recoverD,hu,ntmps201,Exit.thenS];apply wpS_seq;apply Gf;simp[wpOpsS,go_sem,Exit.thenS];refine wpS_cond (t:=true) (by simp[Act.eval,Array.replicate]) ?_;simp only[bZ];have hlt:b<w.heap.size:=(cf.1 hb).1;have hb1:(w.alloc (.cells #[.int .i64 e] 261)).heap[b]?=some (.cells #[.int .i64 0] 55 (0,0)):=by rw[bJ _ _ _ hlt];exact hb
 have cb1:(w.alloc (.cells #[.int .i64 e] 261)).cell? ⟨b,0,none⟩=some (.int .i64 0):=aH hb1 rfl;have fb1:(w.alloc (.cells #[.int .i64 e] 261)).frozen? ⟨b,0,none⟩=false:=by simp[World.frozen?,hb1]
 refine wpS_of_wp ?_;have hta:=fun T w=>Xa e T w;simp only[fX,fW,fS,fU,List.nil_append,List.cons_append,List.setIfInBounds_toArray,AG,AD]
 go_wp2
 rw[xM w b 0 _ _ _ _ hb,show(#[Value.int .i64 0].setIfInBounds 0 (.int .i64 e))=#[Value.int .i64 e]from rfl];have hs:(w.setRow b #[.int .i64 e]).heap.size=w.heap.size:=by simp[World.setRow]
 have hg:w.grownBy ((w.setRow b #[.int .i64 e]).alloc (.cells #[.int .i64 e] 261)) (some b):=by
  refine⟨rfl,rfl,rfl,by rw[br,hs];omega,fun k hk hne=>?_⟩;rw[bJ _ _ _ (by rw[hs];exact hk),du _ _ _ _ (fun e=>hne (by rw[e]))]
 have hh:((w.setRow b #[.int .i64 e]).alloc (.cells #[.int .i64 e] 261)).heap[b]?=some (.cells #[.int .i64 e] 55 (0,0)):=by
  rw[bJ _ _ _ (by rw[hs];exact hlt)];exact dP _ _ _ _ _ _ hb
 generalize (w.setRow b #[.int .i64 e]).alloc (.cells #[.int .i64 e] 261)=W at *;cases c₀
 simp_all[bodyPostS,results,show f201.results=#[]from rfl]
def Hf(g:FuncId)(caps:l7)(w:World)(e:Int)(Pw:World->Prop)(eg:∀args w,(callFunc g args).run prog w=.ok (.enter g args) w)
  (h:Calls prog g caps (w.alloc (.cells #[.int .i64 0] 55)) fun r w'=>r=.panicked [{ v:=LR e,recovered:=false }]/\w'.heap[w.heap.size]?=some (.cells #[.int .i64 0] 55 (0,0))/\Pw w') :
  Calls prog 121 #[.func (.func g) #[] caps] w fun r w'=>r=.returned (.int .i64 e)/\∃w1,Pw w1/\w1.grownBy w' (some w.heap.size):=by
 have hmf:=AC
 go_enter_defers func121,ntmps121
 go_wp2
 refine h.mono ?_;rintro r w1 ⟨rfl,hb,hP⟩;refine leaves_cons (f:=201) (args:=#[.pointer (some ⟨w.heap.size,0,none⟩)]) bY (by simp[go_sem]) ?_;refine(Nw w.heap.size e _ hb).mono ?_;rintro r u' w2 ⟨rfl,rfl,hg,hb2⟩;have cb2:w2.cell? ⟨w.heap.size,0,none⟩=some (.int .i64 e):=aH hb2 rfl;simp[Leaves,settle,results,show f121.results=#[.cell 2 55]from rfl,go_sem,cb2];exact⟨w1,hP,hg⟩
end Go.Sy
namespace Go.Sy
open Go Go.Proofs Go.RowKit Tryz Ord
attribute [local go_sem] Oper.semAt_some
def bE0{M:j2}{w:World}{e:Int}{r:Ending}(h:uF M w (.pan (zI e)) r):r=.panicked [{ v:=LR e,recovered:=false }]:=by
 obtain⟨v,rfl,hv⟩:=h;rw[show v=LR e from hv.1]
end Go.Sy
namespace Go.Sy
open Go Go.Proofs Tryz Ord
def cd6(aB:Rat)(st:Int)(n d:Int)(r:Rat):Prop:=0<=d/\d<=4/\0<=r.num.sign/\mF (r+r) aB<=0/\st<=n/\n<=1500/\d<n
instance (aB:Rat) (st n d:Int) (r:Rat):Decidable (cd6 aB st n d r):=inferInstanceAs (Decidable (_/\_))
abbrev fC(e:j0)(c:Rat)(y:j1):List aE:=[eQ e]++qC c++[sQ y]
open Go Go.Proofs Go.RowKit Tryz Ord
attribute [local go_sem] Oper.semAt_some
end Go.Sy
