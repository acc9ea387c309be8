/- Part. -/
import Derived.Test.YtdmcadckdnnglaaGreatDoorVb
set_option linter.all false
namespace Go.Sy
open Go Go.Proofs Tryz Ord
def bp6:Tr:=bD 1 1 3 12 (bD 1 1 3 14 (da 5 0 2 0 3 15 16 (No 120 4 6 0 3 13 17 2 2 90 (iQ 207 3 0 3 1 3 2 0 5 0 6 0 7 22 24 (iQ 36 7 0 7 1 7 2 9 0 9 1 9 2 21 25 (fW 10 10 1 10 2))))))
def WT:aM prog f131 bZ [.v (some 9),.v none,.v none,.v (some 3)]=bp6:=by kernel_rfl
def as9:Tr:=Rt 34 (Lm 19 266 35 0 (dB 20 9 185 36 (dV 131 [(.agg [(U 21 0),(U 21 1),(U 21 2),(U 21 3),(U 21 4),(U 21 5),(U 21 6),(U 21 7),(U 21 8)]),(W 1 0),(W 2 0),(G3 3)] [(some 3)] [37,38,39,40] [185,3,3,39] 39 false (iQ 167 18 0 18 1 18 2 22 0 22 1 22 2 33 41 (iQ 207 17 0 17 1 17 2 23 0 23 1 23 2 32 42 (fW 24 24 1 24 2))))))
def bo8:Tr:=dV 203 [(G3 11),(W 1 0)] [(some 3)] [23,24] [39,3] 39 true (iQ 207 7 0 7 1 7 2 12 0 12 1 12 2 18 25 (Rt 27 (Lm 14 266 28 3 (dB 15 3 39 29 (uQ 36 16 16 1 16 2 13 13 1 13 2 30 31 (DR 68 1 3 39 as9))))))
def bn5:Tr:=da 1 0 2 0 3 14 15 (xZ 203 3 5 13 16 (uQ 36 4 4 1 4 2 6 6 1 6 2 12 17 (Rt 19 (Lm 8 266 20 0 (Lm 9 185 21 1 (dB 10 3 39 22 bo8))))))
def br0:Tr:=HN 209 1 2 3 10 11 3 3 39 bn5
def aq9:aM prog f133 bZ [.v none,.v none,.v none,.v (some 3)]=br0:=by kernel_rfl
def bh(aB:Rat)(n d:Int)(r:Rat):Rat:=((n+1:Int):Rat)/((n+1-d:Int):Rat)*(r/aB)
def JW(a:List Rat)(aB:Rat)(n0:Nat):Nat->Rat
 | 0=>0
 | k+1=>gZ [JW a aB n0 k,(a.getD (n0+k) 0).abs*aB^(n0+k)] 2
def eI(b aB:Rat)(n d:Nat)(r:Rat):Rat:=b*(((aq n d:Int):Rat)*r^(n-d)/aB^n)/(((1:Int):Rat)-bh aB n d r)
abbrev ar9(a:List aE)(aB:Rat)(st:Int):List aE:=a++qC aB++[.int .i64 st]
def WX(a0 a1 a2 a3 a4:aE)(aB:Rat)(st:Int)(n d:Int)(r:Rat)(B:Nat)(h0:aB≠0)(hr:Fit B r)(hrho:Fit B aB)(hn1:-1099511627776<=n:=by omega)(hn2:n<1099511627776:=by omega)(hd1:-1099511627776<=d:=by omega)(hd2:d<1099511627776:=by omega)(hnd:n+1-d≠0:=by omega)(hB:B<=8589934592:=by omega):aL prog 131 [(.agg (ar9 [a0,a1,a2,a3,a4] aB st):aG),(.one (.int .i64 n):aG),(.one (.int .i64 d):aG),(qT r:aG)] (.ret [qT (bh aB n d r)]):=by
 refine bw func131 WT ?_;apply vn aC;apply vn aC;apply vn aJ;dsimp only[aO,aP];have ho:=aA5 (n+1) (n+1-d);rw[if_neg hnd,if_neg hnd]at ho;apply aA ho;apply aA (qa r aB B B h0 hr hrho);apply aA (bg _ _ 128 (B+B) ((eW).div (eW)) (hr.div hrho));exact aK
def RO{x:Rat}(h:x<1):((1:Int):Rat)-x≠0:=fun e=>by
 have:x=1:=by grind
 rw[this]at h;exact absurd h (by decide)
structure lS(B:Nat)(aB:Rat)(n d:Nat)(r:Rat):Prop where
 ff:∀j,j<=d->Fit B ((aq n j:Int):Rat)
 fr:∀j,j<=2*n+1->Fit B (r^j)
 fo:∀j,j<=2*n+1->Fit B (aB^j)
def lS.r1{B:Nat}{aB:Rat}{n d:Nat}{r:Rat}(h:lS B aB n d r):Fit B r:=by have:=h.fr 1 O;rwa[gM,ej,iB]at this
def lS.o1{B:Nat}{aB:Rat}{n d:Nat}{r:Rat}(h:lS B aB n d r):Fit B aB:=by have:=h.fo 1 O;rwa[gM,ej,iB]at this
def lS.sh{B:Nat}{aB:Rat}{n d:Nat}{r:Rat}(h:lS B aB n d r)(hn:n<4611686018427387904)(hd:d<4611686018427387904):Fit (128+(B+B)) (bh aB n d r):=
 ((eW (n:=(n:Int)+1)).div (eW (n:=(n:Int)+1-d))).mul (h.r1.div h.o1)
abbrev SX(ar:List aE)(aB:Rat)(st:Int)(y a:List Rat)(b:Rat):List aE:=(ar++qC aB++[.int .i64 st])++[sQ y,sQ a]++qC b
set_option maxHeartbeats 1000000 in
def Br(a0 a1 a2 a3 a4:aE)(aB:Rat)(st:Int)(y a:List Rat)(b:Rat)(n d:Nat)(r:Rat)(B:Nat)(C:lS B aB n d r)(h0:aB≠0)(hb:Fit B b)(hs1:bh aB n d r<1)(hn:n<1099511627776:=by omega)(h64:64<=B:=by omega)(hd:d<=n:=by omega)(hB:B<=2147483648:=by omega):aL prog 133 [(.one (.aj (SX [a0,a1,a2,a3,a4] aB st y a b)):aG),(.one (.int .i64 n):aG),(.one (.int .i64 d):aG),(qT r:aG)] (.ret [qT (eI b aB n d r)]):=by
 refine bw func133 aq9 ?_;have hff:=C.ff d (aY _);have hfr:=C.fr (n-d) O;have hfo:=C.fo n O;have hsh:=C.sh O O;have hp0:=tq h0 n;apply aA (iv (n:Int) d B h64 (fun j hj=>C.ff j hj));apply vn aJ;dsimp only[aO,aP];rw[show(n:Int)-(d:Int)=((n-d:Nat):Int) by omega];apply aA (iC r (n-d) B (fun j hj=>C.fr j O));apply aA (bg _ _ B B hff hfr);apply vn Jm;apply vn (lk TV (by decide));apply vn (lk aG8 (by decide));apply vn (bB ov (by decide) (by simp) (.inl rfl));apply aA (iC aB n B (fun j hj=>C.fo j O));apply aA (qa _ _ (B+B) B hp0 (hff.mul hfr) hfo);dsimp only[aO,aP];apply vn Jm;apply vn (lk aB5 (by decide));apply vn (bB ov (by decide) (by simp) (.inl rfl));apply aA (bg _ _ B (B+B+B) hb ((hff.mul hfr).div hfo));apply aA (mN 1);apply vn Jm;apply vn (lk TV (by decide));apply vn (bB aO0 (by decide) (by simp) (.inl rfl));dsimp only[aO,aP];apply aA (WX a0 a1 a2 a3 a4 aB st n d r B h0 C.r1 C.o1);apply aA (KE _ _ 64 (128+(B+B)) (Fit.int O O) hsh);apply aA (qa _ _ (B+(B+B+B)) (64+(128+(B+B))+1) (RO hs1) (hb.mul ((hff.mul hfr).div hfo)) ((Fit.int O O).sub hsh));exact aK
open Go Go.Proofs Go.RowKit Tryz Ord
attribute [local go_sem] Oper.semAt_some
abbrev QS(e:Int):Value:=.iface 261 (.agg #[.int .i64 e])
def Ha:∃fs,prog.underlying 261=some (.struct fs):=by
 have hd:(prog.underlying 261).any (fun d=>match d with | .struct _=>true | _=>false)=true:=by kernel_rfl
 cases hu:prog.underlying 261 with
 | none=>rw[hu]at hd;cases hd
 | some d=>
   rw[hu]at hd;cases d<;>first | (cases hd;done) | exact⟨_,rfl⟩
def Qq(e:Int)(T:TypeId)(w:World):(Instr.typeAssert (QS e) T 261 true).run prog w=.ok (.tuple #[.agg #[.int .i64 e],.bool true]) w:=by
 obtain⟨fs,hu⟩:=Ha;simp[Instr.typeAssert,dy hu]
set_option maxRecDepth 100000 in
def Hh(b:Nat)(e:Int)(w:World)(hb:w.heap[b]?=some (.cells #[.int .i64 0] 55 (0,0))) :
  CallsD prog 201 #[.pointer (some ⟨b,0,none⟩)] (.panicking [{ v:=QS e,recovered:=false }]) w fun r u' w'=>r=.returned (.tuple #[])/\u'=.panicking [{ v:=QS e,recovered:=true }]/\w.grownBy w' (some b)/\w'.heap[b]?=some (.cells #[.int .i64 e] 55 (0,0)):=by
 have cb:w.cell? ⟨b,0,none⟩=some (.int .i64 0):=aD hb rfl;have fb:w.frozen? ⟨b,0,none⟩=false:=by simp[World.frozen?,hb]
 refine callsD_of_wpS func201 rfl fun c₀ cs hu=>?_;apply wpS_seq;apply wpS_region;simp[wpOpsS,go_sem,recoverD,hu,ntmps201,Exit.thenS];apply wpS_seq;apply wpS_region;simp[wpOpsS,go_sem,Exit.thenS];refine wpS_cond (t:=true) (by simp[Act.eval,Array.replicate]) ?_;simp only[bR];have hlt:b<w.heap.size:=(cK.1 hb).1;have hb1:(w.alloc (.cells #[.int .i64 e] 261)).heap[b]?=some (.cells #[.int .i64 0] 55 (0,0)):=by rw[bM _ _ _ hlt];exact hb
 have cb1:(w.alloc (.cells #[.int .i64 e] 261)).cell? ⟨b,0,none⟩=some (.int .i64 0):=aD hb1 rfl;have fb1:(w.alloc (.cells #[.int .i64 e] 261)).frozen? ⟨b,0,none⟩=false:=by simp[World.frozen?,hb1]
 refine wpS_of_wp ?_;have hta:=fun T w=>Qq e T w;simp only[dw,dv,du,dz,List.nil_append,List.cons_append,List.setIfInBounds_toArray,List.set_cons_zero,List.set_cons_succ]
 go_wp2
 rw[tn w b 0 _ _ _ _ hb,show(#[Value.int .i64 0].setIfInBounds 0 (.int .i64 e))=#[Value.int .i64 e]from rfl];have hs:(w.setRow b #[.int .i64 e]).heap.size=w.heap.size:=by simp[World.setRow]
 have hg:w.grownBy ((w.setRow b #[.int .i64 e]).alloc (.cells #[.int .i64 e] 261)) (some b):=by
  refine⟨rfl,rfl,rfl,by rw[bL,hs];omega,fun k hk hne=>?_⟩;rw[bM _ _ _ (by rw[hs];exact hk),dC _ _ _ _ (fun e=>hne (by rw[e]))]
 have hh:((w.setRow b #[.int .i64 e]).alloc (.cells #[.int .i64 e] 261)).heap[b]?=some (.cells #[.int .i64 e] 55 (0,0)):=by
  rw[bM _ _ _ (by rw[hs];exact hlt)];exact cJ _ _ _ _ _ _ hb
 generalize (w.setRow b #[.int .i64 e]).alloc (.cells #[.int .i64 e] 261)=W at *;cases c₀
 simp_all[bodyPostS,results,show f201.results=#[]from rfl]
def PG(g:FuncId)(caps:Array Value)(w:World)(e:Int)(Pw:World->Prop)(eg:∀args w,(callFunc g args).run prog w=.ok (.enter g args) w)
  (h:Calls prog g caps (w.alloc (.cells #[.int .i64 0] 55)) fun r w'=>r=.panicked [{ v:=QS e,recovered:=false }]/\w'.heap[w.heap.size]?=some (.cells #[.int .i64 0] 55 (0,0))/\Pw w') :
  Calls prog 121 #[.func (.func g) #[] caps] w fun r w'=>r=.returned (.int .i64 e)/\∃w1,Pw w1/\w1.grownBy w' (some w.heap.size):=by
 have hmf:∀(fn:Fn)(first cap:Array Value)(w:World),(Instr.makeFunc fn first cap).run prog w=.ok (.func fn first cap) w:=fun _ _ _ _=>rfl
 go_enter_defers func121,ntmps121
 go_wp2
 refine h.mono ?_;rintro r w1 ⟨rfl,hb,hP⟩;refine leaves_cons (f:=201) (args:=#[.pointer (some ⟨w.heap.size,0,none⟩)]) (by simp) (by simp[go_sem]) ?_;refine(Hh w.heap.size e _ hb).mono ?_;rintro r u' w2 ⟨rfl,rfl,hg,hb2⟩;have cb2:w2.cell? ⟨w.heap.size,0,none⟩=some (.int .i64 e):=aD hb2 rfl;simp[Leaves,settle,results,show f121.results=#[.cell 2 55]from rfl,go_sem,cb2];exact⟨w1,hP,hg⟩
end Go.Sy
namespace Go.Sy
open Go Go.Proofs Go.RowKit Tryz Ord
attribute [local go_sem] Oper.semAt_some
def bv8{M:Nat->Prop}{w:World}{e:Int}{r:Ending}(h:qM M w (.pan (CD e)) r):r=.panicked [{ v:=QS e,recovered:=false }]:=by
 obtain⟨v,rfl,hv⟩:=h;rw[show v=QS e from hv.1]
end Go.Sy
namespace Go.Sy
open Go Go.Proofs Tryz Ord
def bq2(aB:Rat)(st:Int)(n d:Int)(r:Rat):Prop:=0<=d/\d<=4/\0<=r.num.sign/\ku (r+r) aB<=0/\st<=n/\n<=1500/\d<n
instance (aB:Rat) (st n d:Int) (r:Rat):Decidable (bq2 aB st n d r):=inferInstanceAs (Decidable (_/\_))
abbrev fC(e:List (List Rat))(c:Rat)(y:List Rat):List aE:=[eQ e]++qC c++[sQ y]
open Go Go.Proofs Go.RowKit Tryz Ord
attribute [local go_sem] Oper.semAt_some
end Go.Sy
