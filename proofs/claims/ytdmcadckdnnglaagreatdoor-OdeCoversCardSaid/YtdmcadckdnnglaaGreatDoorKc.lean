/- Part. -/
import Derived.Test.YtdmcadckdnnglaaGreatDoorKb
set_option linter.all false
set_option maxHeartbeats 4000000
namespace Go.Sy
open Go Go.Proofs Go.RowKit Tryz Ord
attribute [local go_sem] Oper.semAt_some
def aS7:Tr:=dV 170 [(G5 0),(G6 1),(W 2 0)] [(some 12)] [4,5,6] [42,123,3] 233 true (.fail 4)
def Wr:aM prog f169 bZ [.ref 5,.ref 6,.ref 1,.ref 12]=aS7:=by kernel_rfl
def AD:Tr:=.retr [] 5
def Bg:Tr:=.need (.strow 3 12 (.k (.int .i64 (0))) 0 [(.u 4 0),(.u 4 1),(.u 4 2),(.u 4 3),(.u 4 4),(.u 4 5),(.u 4 6),(.u 4 7),(.u 4 8),(.u 4 9),(.u 4 10),(.u 4 11)]) (.store 233 (.tmp 3) (.tmp 7)) 0 false AD
def Aw:Tr:=.need (.call 170 [(.agg [(U 0 0),(U 0 1),(U 0 2),(U 0 3),(U 0 4)]),(.agg [(U 1 0),(U 1 1),(U 1 2),(U 1 3),(U 1 4),(U 1 5)]),(W 2 0)] [(some 12)]) (.call ⟨.value (.func 170),#[(.tmp 4),(.tmp 5),(.tmp 6)],#[42,123,3]⟩) 233 true Bg
def HB:Sv prog f169 (fun _=>none) [.ref 5,.ref 6,.ref 1] 233 12=Aw:=by kernel_rfl
def Xi:Tr:=.ret [(.agg [tN,(tE (.bool false)),tN,tN,(tE (.bool false)),tN]),(.agg [tN,(tE (.bool false)),tN,tN,(tE (.bool false)),tN]),(WK 2)]
def bb3:Tr:=aH 6 0 Xi (dV 121 [(.one (.jO 169 [(.ref 0 [(.u 0 0),(.u 0 1),(.u 0 2),(.u 0 3),(.u 0 4)]),(.ref 0 [(.u 1 0),(.u 1 1),(.u 1 2),(.u 1 3),(.u 1 4),(.u 1 5)]),(.ref 0 [(.u 2 0)]),(.ref 0 [(.k (.slice none 0 0)),(.k (.bool false)),(.k (.slice none 0 0)),(.k (.slice none 0 0)),(.k (.bool false)),(.k (.slice none 0 0)),(.k (.slice none 0 0)),(.k (.bool false)),(.k (.slice none 0 0)),(.k (.slice none 0 0)),(.k (.bool false)),(.k (.slice none 0 0))])]))] [none] [20] [1] 55 true (aK5 0 (dB 8 6 123 22 (aK5 1 (dB 10 6 123 24 (.fail 1000))))))
def bq3:Tr:=dV 21 [(G5 0)] [none] [10] [42] 55 false (lP 3 55 11 (aH 4 0 Xi (dV 168 [(G6 1)] [none] [14] [123] 4 false (jX 5 0 15 bb3))))
def al5:aM prog f83 bZ [.v (some 5),.v (some 6),.v none]=bq3:=by kernel_rfl
def Kw:Tr:=.fail 2
def KG:Tr:=.need (.prim [(W 4 0)] (some 6)) (.load 123 (.tmp 7)) 123 false Kw
def Ln:Tr:=.need (.prim [(W 3 0)] (some 6)) (.load 123 (.tmp 6)) 123 false KG
def GH:Tr:=.fail 2
def GG:Tr:=.need (.prim [(W 4 0)] (some 6)) (.load 123 (.tmp 7)) 123 false GH
def Jz:Tr:=.need (.prim [(W 3 0)] (some 6)) (.load 123 (.tmp 6)) 123 false GG
def Hg:Tr:=.ret [(.one (.ref 0 [(.u 0 0),(.u 0 1),(.u 0 2),(.u 0 3),(.u 0 4)])),(.one (.ref 0 [(.u 1 0),(.u 1 1),(.u 1 2),(.u 1 3),(.u 1 4),(.u 1 5)])),(.one (.ref 0 [(.u 2 0)])),(W 3 0),(W 4 0),(W 5 0)]
def KP:Tr:=.split (.u 9 0) Jz Hg
def LL:Tr:=.need (.prim [(W 8 0)] none) (.unOp .not 4 (.tmp 15)) 4 false KP
def Ko:Tr:=.need (.call 168 [(.agg [(U 1 0),(U 1 1),(U 1 2),(U 1 3),(U 1 4),(U 1 5)])] [none]) (.call ⟨.value (.func 168),#[(.tmp 14)],#[123]⟩) 4 false LL
def JP:Tr:=.split (.u 7 0) Ln Ko
def Ke:Tr:=.need (.prim [(W 6 0),(WK (0))] none) (.binOp .neq 55 (.tmp 11) (.const (I3 (0))) 55) 4 false JP
def KV:Tr:=.need (.call 21 [(.agg [(U 0 0),(U 0 1),(U 0 2),(U 0 3),(U 0 4)])] [none]) (.call ⟨.value (.func 21),#[(.tmp 10)],#[42]⟩) 55 false Ke
def Rc:kr prog 27 (fun _=>none) (cd [1] (dr f83)) [(3,.ref 5),(4,.ref 6),(5,.ref 1),(6,.v none),(7,.v none),(8,.v none)] ([3,4,5,6,7,8].map ResultVar.tmp) (some 0) false=KV:=by kernel_rfl
def bw7(t:Array Value)(h:t.size=27):t=#[t.getD 0 undef,t.getD 1 undef,t.getD 2 undef,t.getD 3 undef,t.getD 4 undef,t.getD 5 undef,t.getD 6 undef,t.getD 7 undef,t.getD 8 undef,t.getD 9 undef,t.getD 10 undef,t.getD 11 undef,t.getD 12 undef,t.getD 13 undef,t.getD 14 undef,t.getD 15 undef,t.getD 16 undef,t.getD 17 undef,t.getD 18 undef,t.getD 19 undef,t.getD 20 undef,t.getD 21 undef,t.getD 22 undef,t.getD 23 undef,t.getD 24 undef,t.getD 25 undef,t.getD 26 undef]:=(pX t 27 h).trans rfl
abbrev uY:List aE:=[.exact (.slice none 0 0),.bool false,.exact (.slice none 0 0),.exact (.slice none 0 0),.bool false,.exact (.slice none 0 0),.exact (.slice none 0 0),.bool false,.exact (.slice none 0 0),.exact (.slice none 0 0),.bool false,.exact (.slice none 0 0)]
def XK{P:Program}{W:World}{b T:Nat}{c0 c1 c2 c3 c4 c5 u0 u1 u2 u3 u4 u5:Value}(h:W.heap[b]?=some (.cells #[c0,c1,c2,c3,c4,c5] T (0,0)))(o0:u0.oneCell'=true)(o1:u1.oneCell'=true)(o2:u2.oneCell'=true)(o3:u3.oneCell'=true)(o4:u4.oneCell'=true)(o5:u5.oneCell'=true) :
  (((store ⟨b,0,none⟩ u0).run P W).andThen fun _ w'=>((store ⟨b,1,none⟩ u1).run P w').andThen fun _ w'=>((store ⟨b,2,none⟩ u2).run P w').andThen fun _ w'=>((store ⟨b,3,none⟩ u3).run P w').andThen fun _ w'=>((store ⟨b,4,none⟩ u4).run P w').andThen fun _ w'=>(store ⟨b,5,none⟩ u5).run P w')=.ok () (W.setRow b #[u0,u1,u2,u3,u4,u5]):=by
 rw[gE h (by simp) o0,dK,gE (cJ W b _ _ T (0,0) h) (by simp) o1,dK,jF,gE (cJ W b _ _ T (0,0) h) (by simp) o2,dK,jF,gE (cJ W b _ _ T (0,0) h) (by simp) o3,dK,jF,gE (cJ W b _ _ T (0,0) h) (by simp) o4,dK,jF,gE (cJ W b _ _ T (0,0) h) (by simp) o5,jF];rfl
def NN(E:List (List Rat))(X:Rat)(Y:List Rat)(a b:Rat)(k er:Int)(h:aL prog 170 [fT E X Y,ow a b,.one (.int .i64 k)] (.pan (CD er))):aL prog 169 [(.one (.aj (fC E X Y)):aG),(.one (.aj (dG a b)):aG),(.one (.aj ([.int .i64 k])):aG),(.one (.aj (uY)):aG)] (.pan (CD er)):=by
 refine dvr (ins:=[.ref (fC E X Y),.ref (dG a b),.ref ([.int .i64 k]),.ref (uY)]) func169 Wr ?_;exact vcp h rfl
def OW(E:List (List Rat))(X:Rat)(Y:List Rat)(a b:Rat)(k:Int)(p q:Rat×Rat)(h:aL prog 170 [fT E X Y,ow a b,.one (.int .i64 k)] (.ret [.agg (dG p.1 p.2++dG q.1 q.2)])):tS prog 169 233 [(.one (.aj (fC E X Y)):aG),(.one (.aj (dG a b)):aG),(.one (.aj ([.int .i64 k])):aG)] (uY) [] (dG p.1 p.2++dG q.1 q.2):=by
 refine Oj (a1:=[.ref 5,.ref 6,.ref 1]) (i1:=[.ref (fC E X Y),.ref (dG a b),.ref ([.int .i64 k])]) (n:=12) (hints:=(fun _=>none)) fo func169 ⟨rfl,rfl,rfl,trivial⟩ rfl rfl ?_;rw[HB];dsimp only[List.map,In.env,aO,aP];apply aA h;refine yx (ts:=[uY]) (us:=[dG p.1 p.2++dG q.1 q.2]) rfl rfl O (cells:=uY) rfl rfl ?_;dsimp only[aO,aP];exact xH rfl rfl
def Wp(E:List (List Rat))(X:Rat)(Y:List Rat)(a b:Rat)(k:Int)(hck:aL prog 21 [fT E X Y] (.ret [.one (.int .i64 0)]))(ha:Fit 513 a)(hb:Fit 513 b)(hno:¬a<=b):aL prog 83 [(fT E X Y:aG),(ow a b:aG),(.one (.int .i64 k):aG)] (.ret [ow 0 0,ow 0 0,.one (.int .i64 2)]):=by
 refine bw func83 al5 ?_;apply aA hck;apply vn gN;refine lR false rfl (fun h=>by cases h) (fun _=>?_);have hv:=CP a b 513 ha hb;rw[mO hno]at hv;apply aA hv;apply vn lf;refine lR true rfl (fun _=>?_) (fun h=>by cases h);exact dJ ⟨Pm,Pm,aG.Sub.same,trivial⟩
def bD4(v6 v7:Value)(E:List (List Rat))(X:Rat)(Y:List Rat)(a b:Rat)(k:Int)(hck:aL prog 21 [fT E X Y] (.ret [.one (.int .i64 0)]))(hva:aL prog 168 [ow a b] (.ret [.one (.bool true)])):vc prog (fun o=>ep o (.ret [.one (.aj (fC E X Y)),.one (.aj (dG a b)),.one (.aj [.int .i64 k]),.one (.exact v6),.one (.exact v7),.one (.int .i64 0)])) (kr prog 27 (fun _=>none) (cd [1] (dr f83)) [(3,.ref 5),(4,.ref 6),(5,.ref 1),(6,.v none),(7,.v none),(8,.v none)] ([3,4,5,6,7,8].map ResultVar.tmp) (some 0) false) ([.ref (fC E X Y),.ref (dG a b),.ref ([.int .i64 k]),.v (.one (.exact v6)),.v (.one (.exact v7)),.v (.one (.int .i64 0))].map In.env) []:=by
 rw[Rc];dsimp only[List.map,In.env,aO,aP];apply aA hck;apply vn gN;refine lR false rfl (fun h=>by cases h) (fun _=>?_);apply aA hva;apply vn lf;refine lR false rfl (fun h=>by cases h) (fun _=>?_);exact aK
set_option maxRecDepth 100000 in
def Uz(M:Nat->Prop)(w:World)(hM:cX M w)(E:List (List Rat))(X:Rat)(Y:List Rat)(a b:Rat)(k er:Int)(cs':List aE)(hck:aL prog 21 [fT E X Y] (.ret [.one (.int .i64 0)]))(hva:aL prog 168 [ow a b] (.ret [.one (.bool true)]))
  (hcl:(cs'=uY/\aL prog 169 [.one (.aj (fC E X Y)),.one (.aj (dG a b)),.one (.aj [.int .i64 k]),.one (.aj uY)] (.pan (CD er)))\/(er=0/\tS prog 169 233 [.one (.aj (fC E X Y)),.one (.aj (dG a b)),.one (.aj [.int .i64 k])] uY [] cs')) (hc1:cs'.length=12)
  (u0 u1 u2 u3 u4 s0 s1 s2 s3 s4 s5:Value) (hf:ab M w (fC E X Y) [u0,u1,u2,u3,u4]) (hs:ab M w (dG a b) [s0,s1,s2,s3,s4,s5]) :
  Calls prog 83 #[.agg #[u0,u1,u2,u3,u4],.agg #[s0,s1,s2,s3,s4,s5],.int .i64 k] w fun e w'=>Below w.heap.size w w'/\∃c0 c1 c2 c3 c4 c5 c6 c7 c8 c9 c10 c11,e=.returned (.tuple #[.agg #[c0,c1,c2,c3,c4,c5],.agg #[c6,c7,c8,c9,c10,c11],.int .i64 er])/\ab M w' cs' [c0,c1,c2,c3,c4,c5,c6,c7,c8,c9,c10,c11]:=by
 have hmf:∀(fn:Fn)(first cap:Array Value)(w:World),(Instr.makeFunc fn first cap).run prog w=.ok (.func fn first cap) w:=fun _ _ _ _=>rfl;obtain⟨n0,hn0⟩:∃n0,w.heap.size=n0:=⟨_,rfl⟩
 obtain⟨o0,o1,o2,o3,o4⟩:u0.oneCell'=true/\u1.oneCell'=true/\u2.oneCell'=true/\u3.oneCell'=true/\u4.oneCell'=true:=by have:=hf.one;exact⟨this _ (by simp),this _ (by simp),this _ (by simp),this _ (by simp),this _ (by simp)⟩
 obtain⟨p0,p1,p2,p3,p4,p5⟩:s0.oneCell'=true/\s1.oneCell'=true/\s2.oneCell'=true/\s3.oneCell'=true/\s4.oneCell'=true/\s5.oneCell'=true:=by have:=hs.one;exact⟨this _ (by simp),this _ (by simp),this _ (by simp),this _ (by simp),this _ (by simp),this _ (by simp)⟩
 refine iE func83 rfl ?_;simp only[ntmps83,dW,List.length_cons,bq,Nat.reduceAdd,Nat.reduceSub,dw,dv,du,dz,List.nil_append,List.cons_append];refine wp_seq ?_;generalize hK:Exit.then _ _=K
 go_wp2
 rw[<-hK];clear hK K;obtain⟨W1,hW1⟩:∃W1,(((((w.alloc (.cells #[u0,u1,u2,u3,u4] 42)).alloc (.cells #[s0,s1,s2,s3,s4,s5] 123)).alloc (.cells #[.int .i64 k] 3)).alloc (.cells #[.slice none 0 0,.bool false,.slice none 0 0,.slice none 0 0,.bool false,.slice none 0 0] 123)).alloc (.cells #[.slice none 0 0,.bool false,.slice none 0 0,.slice none 0 0,.bool false,.slice none 0 0] 123))=W1:=⟨_,rfl⟩
 have hs1:W1.heap.size=n0+5:=by rw[<-hW1];simp[hn0]
 have hB1:Below w.heap.size w W1:=by rw[<-hW1];exact(((((cF _ w).alloc (aY _) _).alloc (by simp) _).alloc (by simp;omega) _).alloc (by simp;omega) _).alloc (by simp;omega) _
 have hF1:W1.heap[n0]?=some (.cells #[u0,u1,u2,u3,u4] 42 (0,0)):=by rw[<-hW1,bM _ _ _ (by simp;omega),bM _ _ _ (by simp;omega),bM _ _ _ (by simp;omega),bM _ _ _ (by simp;omega),<-hn0];exact bG w _
 have hS1:W1.heap[n0+1]?=some (.cells #[s0,s1,s2,s3,s4,s5] 123 (0,0)):=by
  rw[<-hW1,bM _ _ _ (by simp;omega),bM _ _ _ (by simp;omega),bM _ _ _ (by simp;omega)];have:=bG (w.alloc (.cells #[u0,u1,u2,u3,u4] 42)) (.cells #[s0,s1,s2,s3,s4,s5] 123)
  rwa[bL,hn0]at this
 have hK1:W1.heap[n0+2]?=some (.cells #[.int .i64 k] 3 (0,0)):=by
  rw[<-hW1,bM _ _ _ (by simp;omega),bM _ _ _ (by simp;omega)];have:=bG ((w.alloc (.cells #[u0,u1,u2,u3,u4] 42)).alloc (.cells #[s0,s1,s2,s3,s4,s5] 123)) (.cells #[.int .i64 k] 3)
  rwa[bL,bL,hn0]at this
 have hV1:W1.heap[n0+3]?=some (.cells #[.slice none 0 0,.bool false,.slice none 0 0,.slice none 0 0,.bool false,.slice none 0 0] 123 (0,0)):=by
  rw[<-hW1,bM _ _ _ (by simp;omega)];have:=bG (((w.alloc (.cells #[u0,u1,u2,u3,u4] 42)).alloc (.cells #[s0,s1,s2,s3,s4,s5] 123)).alloc (.cells #[.int .i64 k] 3)) (.cells #[.slice none 0 0,.bool false,.slice none 0 0,.slice none 0 0,.bool false,.slice none 0 0] 123)
  rwa[bL,bL,bL,hn0]at this
 have hL1:W1.heap[n0+4]?=some (.cells #[.slice none 0 0,.bool false,.slice none 0 0,.slice none 0 0,.bool false,.slice none 0 0] 123 (0,0)):=by
  rw[<-hW1];have:=bG ((((w.alloc (.cells #[u0,u1,u2,u3,u4] 42)).alloc (.cells #[s0,s1,s2,s3,s4,s5] 123)).alloc (.cells #[.int .i64 k] 3)).alloc (.cells #[.slice none 0 0,.bool false,.slice none 0 0,.slice none 0 0,.bool false,.slice none 0 0] 123)) (.cells #[.slice none 0 0,.bool false,.slice none 0 0,.slice none 0 0,.bool false,.slice none 0 0] 123)
  rwa[bL,bL,bL,bL,hn0]at this
 rw[hW1];clear hW1;obtain⟨M0,hM0⟩:∃M0:Nat->Prop,∀b,M0 b↔(M b\/b=n0+3\/b=n0+4):=⟨fun b=>M b\/b=n0+3\/b=n0+4,fun _=>Iff.rfl⟩
 have hk01:bP M w M0 W1:=fun b o hb ho _=>by
  have hl:=(cK.1 ho).1;exact⟨fun h=>by rw[hM0]at h;exact h.elim hb (fun e=>O),(hB1.block b hl).trans ho⟩
 have hM1:cX M0 W1:=⟨fun b h=>by
  rw[hM0]at h;rcases h with h | h
  ·have:=hM.1 b h;omega
  ·omega,hM.2.gj hk01⟩
 have nM:∀j,n0<=j->j<n0+3->¬M0 j:=fun j hj hj2 h=>by
  rw[hM0]at h;rcases h with h | h
  ·have:=hM.1 j h;omega
  ·omega
 show Code.wp _ _ _ _ _
 refine FZ (n:=0) (ins:=[(3,.ref 5),(4,.ref 6),(5,.ref 1),(6,.v none),(7,.v none),(8,.v none)]) (xs:=[.ref (fC E X Y),.ref (dG a b),.ref [.int .i64 k],.v (.one (.exact (.pointer (some ⟨n0+1+1+1,0,none⟩)))),.v (.one (.exact (.pointer (some ⟨n0+1+1+1+1,0,none⟩)))),.v (.one (.int .i64 0))]) fo ⟨rfl,rfl,rfl,rfl,rfl,rfl,trivial⟩
  (bD4 _ _ E X Y a b k hck hva) (by kernel_rfl) hM1 rfl rfl
  ⟨⟨n0,0,_,_,_,rfl,nM _ O O,hF1,hf.mono hk01⟩,⟨n0+1,0,_,_,_,rfl,nM _ O O,hS1,hs.mono hk01⟩,⟨n0+2,0,_,_,_,rfl,nM _ O O,hK1,⟨⟨rfl,rfl⟩,trivial⟩⟩,⟨rfl,rfl⟩,⟨rfl,rfl⟩,⟨rfl,rfl⟩,trivial⟩ ?_ (by intro c v a' w' h;cases h)
 intro e a' W2 rs us hrs hex hB2 hsz hdf hrun hus;cases hrs;cases e with
 | exit id=>cases hex
 | ret=>cases hex
 | normal=>
 have huse:=jJ hrun;subst huse;have h3:(aE.aj (fC E X Y)).rep M0 W2 (a'.tmps.getD 3 undef):=hus.1;have h4:(aE.aj (dG a b)).rep M0 W2 (a'.tmps.getD 4 undef):=hus.2.1;have h5:(aE.aj [.int .i64 k]).rep M0 W2 (a'.tmps.getD 5 undef):=hus.2.2.1;have h6:a'.tmps.getD 6 undef=.pointer (some ⟨n0+1+1+1,0,none⟩):=hus.2.2.2.1.1;have h7:a'.tmps.getD 7 undef=.pointer (some ⟨n0+1+1+1+1,0,none⟩):=hus.2.2.2.2.1.1;have h8:a'.tmps.getD 8 undef=.int .i64 0:=hus.2.2.2.2.2.1.1;clear hus hrun hex;obtain⟨t,ds⟩:=a';have hds:ds=[]:=hdf;subst hds;have hsz:t.size=27:=hsz;show Code.wp _ (ry 0 _) _ _ _;simp only[ry];rw[bw7 t hsz];simp only[]at h3 h4 h5 h6 h7 h8;rw[h6,h7,h8];generalize t.getD 3 undef=v3 at *;generalize t.getD 4 undef=v4 at *;generalize t.getD 5 undef=v5 at *;have hM2:cX M0 W2:=⟨fun b hb=>Nat.lt_of_lt_of_le (hM1.1 b hb) hB2.size,hM1.2.below rfl hB2⟩
 obtain⟨A,hA⟩:∃A,W2.heap.size=A:=⟨_,rfl⟩
 obtain⟨W3,hW3⟩:∃W3,W2.alloc (.cells #[.slice none 0 0,.bool false,.slice none 0 0,.slice none 0 0,.bool false,.slice none 0 0,.slice none 0 0,.bool false,.slice none 0 0,.slice none 0 0,.bool false,.slice none 0 0] 233)=W3:=⟨_,rfl⟩
 have hs2:=hB2.size;have hA3:W3.heap[A]?=some (.cells #[.slice none 0 0,.bool false,.slice none 0 0,.slice none 0 0,.bool false,.slice none 0 0,.slice none 0 0,.bool false,.slice none 0 0,.slice none 0 0,.bool false,.slice none 0 0] 233 (0,0)):=by rw[<-hW3,<-hA];exact bG W2 _
 have hs3:W3.heap.size=A+1:=by rw[<-hW3,bL,hA]
 have hB13:Below W1.heap.size W1 W3:=by rw[<-hW3];exact hB2.alloc O _
 have hk23:bP M0 W2 (fun b=>M0 b\/b=A) W3:=fun b o hb ho _=>by
  have hl:=(cK.1 ho).1;exact⟨fun h=>h.elim hb O,by rw[<-hW3];exact(bM _ _ _ hl).trans ho⟩
 have hM3:cX (fun b=>M0 b\/b=A) W3:=⟨fun b hb=>by
  rcases hb with h | h
  ·have:=hM2.1 b h;omega
  ·omega,hM2.2.gj hk23⟩
 have hMA:¬M0 A:=fun h=>by have:=hM2.1 _ h;omega
 have hca:=CZ 169 (bJ (by kernel_rfl)) M0 W3 A 233 _ uY cs' [.one (.aj (fC E X Y)),.one (.aj (dG a b)),.one (.aj [.int .i64 k])] [v3,v4,v5] er hM3 hMA hA3
  ⟨aE.mono _ hk23 h3,aE.mono _ hk23 h4,aE.mono _ hk23 h5,trivial⟩ (fun _ _=>⟨⟨rfl,rfl⟩,⟨rfl,rfl⟩,⟨rfl,rfl⟩,⟨rfl,rfl⟩,⟨rfl,rfl⟩,⟨rfl,rfl⟩,⟨rfl,rfl⟩,⟨rfl,rfl⟩,⟨rfl,rfl⟩,⟨rfl,rfl⟩,⟨rfl,rfl⟩,⟨rfl,rfl⟩,trivial⟩) hcl
 simp only[aO,aP]at hca;refine wp_seq ?_;generalize hK:Exit.then _ _=K
 go_wp2
 rw[<-hK];clear hK K
 go_wp2_with (go_at_call 121;refine hca.mono ?_)
 rintro e w4 ⟨rfl,hg,us,hus,hrus⟩;obtain⟨c0,c1,c2,c3,c4,c5,c6,c7,c8,c9,c10,c11,hcc⟩:=KO (by have:=hrus.length;rw[hc1]at this;exact this.symm);have hcur:us=#[c0,c1,c2,c3,c4,c5,c6,c7,c8,c9,c10,c11]:=by rw[<-Array.toArray_toList (xs:=us),hcc]
 rw[hcc]at hrus;subst hcur;have d0:w4.cell? ⟨A,0,none⟩=some c0:=aD hus rfl;have d1:w4.cell? ⟨A,1,none⟩=some c1:=aD hus rfl;have d2:w4.cell? ⟨A,2,none⟩=some c2:=aD hus rfl;have d3:w4.cell? ⟨A,3,none⟩=some c3:=aD hus rfl;have d4:w4.cell? ⟨A,4,none⟩=some c4:=aD hus rfl;have d5:w4.cell? ⟨A,5,none⟩=some c5:=aD hus rfl;have d6:w4.cell? ⟨A,6,none⟩=some c6:=aD hus rfl;have d7:w4.cell? ⟨A,7,none⟩=some c7:=aD hus rfl;have d8:w4.cell? ⟨A,8,none⟩=some c8:=aD hus rfl;have d9:w4.cell? ⟨A,9,none⟩=some c9:=aD hus rfl;have d10:w4.cell? ⟨A,10,none⟩=some c10:=aD hus rfl;have d11:w4.cell? ⟨A,11,none⟩=some c11:=aD hus rfl;have q:=fun i (hi:i∈[c0,c1,c2,c3,c4,c5,c6,c7,c8,c9,c10,c11])=>hrus.one i hi;have q0:=q c0 (by simp);have q1:=q c1 (by simp);have q2:=q c2 (by simp);have q3:=q c3 (by simp);have q4:=q c4 (by simp);have q5:=q c5 (by simp);have q6:=q c6 (by simp);have q7:=q c7 (by simp);have q8:=q c8 (by simp);have q9:=q c9 (by simp);have q10:=q c10 (by simp);have q11:=q c11 (by simp);clear q;have hg1:=hg.size;have hV4:w4.heap[n0+3]?=some (.cells #[.slice none 0 0,.bool false,.slice none 0 0,.slice none 0 0,.bool false,.slice none 0 0] 123 (0,0)):=(hg.block _ O (fun e=>by simp only[aI]at e;omega)).trans ((hB13.block _ O).trans hV1);have hL4:w4.heap[n0+4]?=some (.cells #[.slice none 0 0,.bool false,.slice none 0 0,.slice none 0 0,.bool false,.slice none 0 0] 123 (0,0)):=(hg.block _ O (fun e=>by simp only[aI]at e;omega)).trans ((hB13.block _ O).trans hL1);have st1:=XK (P:=prog) (W:=w4.drew) (b:=n0+3) hV4 q0 q1 q2 q3 q4 q5;have hL5:(w4.drew.setRow (n0+3) #[c0,c1,c2,c3,c4,c5]).heap[n0+4]?=some (.cells #[.slice none 0 0,.bool false,.slice none 0 0,.slice none 0 0,.bool false,.slice none 0 0] 123 (0,0)):=(dC _ _ _ _ O).trans hL4;have st2:=XK (P:=prog) (W:=w4.drew.setRow (n0+3) #[c0,c1,c2,c3,c4,c5]) (b:=n0+4) hL5 q6 q7 q8 q9 q10 q11
 have e6:∀j v,w4.cell? ⟨A,j,none⟩=some v->(w4.drew.setRow (n0+3) #[c0,c1,c2,c3,c4,c5]).cell? ⟨A,j,none⟩=some v:=fun j v h=>by
  rw[wZ (w:=w4.drew) (a:=⟨A,j,none⟩) (dC _ _ _ _ (show A≠n0+3 by omega))];exact h
 have g6:=e6 _ _ d6;have g7:=e6 _ _ d7;have g8:=e6 _ _ d8;have g9:=e6 _ _ d9;have g10:=e6 _ _ d10;have g11:=e6 _ _ d11;clear e6
 go_wp2
 go_region
 obtain⟨W9,hW9⟩:∃W9,(w4.drew.setRow (n0+3) #[c0,c1,c2,c3,c4,c5]).setRow (n0+4) #[c6,c7,c8,c9,c10,c11]=W9:=⟨_,rfl⟩
 have hl9:W9.heap[n0+4]?=some (.cells #[c6,c7,c8,c9,c10,c11] 123 (0,0)):=by rw[<-hW9];exact cJ _ _ _ _ _ _ hL5
 have hv9:W9.heap[n0+3]?=some (.cells #[c0,c1,c2,c3,c4,c5] 123 (0,0)):=by rw[<-hW9];exact(dC _ _ _ _ O).trans (cJ _ _ _ _ _ _ (show w4.drew.heap[n0+3]?=_ from hV4))
 have ho9:∀j,j≠n0+3->j≠n0+4->W9.heap[j]?=w4.heap[j]?:=fun j h1 h2=>by
  rw[<-hW9,dC _ _ _ _ h2,dC _ _ _ _ h1];rfl
 have hs9:W9.heap.size=w4.heap.size:=by rw[<-hW9];simp[World.setRow]
 have hB3w:Below w.heap.size w W3:=hB1.trans (hB13.mono hB1.size)
 have hb9:Below w.heap.size w W9:=⟨by rw[<-hW9];show w4.os=_;rw[hg.os,hB3w.os],by rw[<-hW9];show w4.tape=_;rw[hg.tape,hB3w.tape],by rw[<-hW9];show w4.output=_;rw[hg.output,hB3w.output],O,fun j hj=>by
  rw[ho9 j O O,hg.block j O (fun e=>by simp only[aI]at e;omega),hB3w.block j hj]⟩
 have hr9:=hrus.mono (M':=M) (w':=W9) fun b o hb ho _=>⟨fun h=>hb (.inl ((hM0 b).2 (.inl h))),by
  rw[ho9 b (fun e=>hb (.inl ((hM0 b).2 (.inr (.inl e))))) (fun e=>hb (.inl ((hM0 b).2 (.inr (.inr e)))))];exact ho⟩
 rw[hW9];clear hW9 hrus st1 st2;have k0:W9.cell? ⟨n0+3,0,none⟩=some c0:=aD hv9 rfl;have k1:W9.cell? ⟨n0+3,1,none⟩=some c1:=aD hv9 rfl;have k2:W9.cell? ⟨n0+3,2,none⟩=some c2:=aD hv9 rfl;have k3:W9.cell? ⟨n0+3,3,none⟩=some c3:=aD hv9 rfl;have k4:W9.cell? ⟨n0+3,4,none⟩=some c4:=aD hv9 rfl;have k5:W9.cell? ⟨n0+3,5,none⟩=some c5:=aD hv9 rfl;have k6:W9.cell? ⟨n0+4,0,none⟩=some c6:=aD hl9 rfl;have k7:W9.cell? ⟨n0+4,1,none⟩=some c7:=aD hl9 rfl;have k8:W9.cell? ⟨n0+4,2,none⟩=some c8:=aD hl9 rfl;have k9:W9.cell? ⟨n0+4,3,none⟩=some c9:=aD hl9 rfl;have k10:W9.cell? ⟨n0+4,4,none⟩=some c10:=aD hl9 rfl;have k11:W9.cell? ⟨n0+4,5,none⟩=some c11:=aD hl9 rfl
 go_wp2
 simp[bodyPost,results,show f83.results=#[.cell 6 123,.cell 7 123,.tmp 8]from rfl,go_sem,k0,k1,k2,k3,k4,k5,k6,k7,k8,k9,k10,k11];exact⟨hb9,c0,c1,c2,c3,c4,c5,c6,c7,c8,c9,c10,c11,⟨⟨rfl,rfl,rfl,rfl,rfl,rfl⟩,⟨rfl,rfl,rfl,rfl,rfl,rfl⟩⟩,hr9⟩
def Pa(e:Except Int (Nat->Rat×Rat)):(Rat×Rat)×(Rat×Rat)×Int:=match e with
 | .ok F=>(F 0,F 1,0)
 | .error er=>((0,0),(0,0),er)
def ap1(E:List (List Rat))(X:Rat)(Y:List Rat)(a b:Rat)(k:Int)(en:Except Int (Nat->Rat×Rat))(hck:aL prog 21 [fT E X Y] (.ret [.one (.int .i64 0)]))(ha:Fit 513 a)(hb:Fit 513 b)(hab:a<=b)(hen:aL prog 170 [fT E X Y,ow a b,.one (.int .i64 k)] (Ry en)) :
  aL prog 83 [fT E X Y,ow a b,.one (.int .i64 k)] (.ret [ow (Pa en).1.1 (Pa en).1.2,ow (Pa en).2.1.1 (Pa en).2.1.2,.one (.int .i64 (Pa en).2.2)]):=by
 have hva:=CP a b 513 ha hb;rw[iV hab]at hva;refine⟨bJ (by kernel_rfl),fun M w vs hM hv=>?_⟩
 match vs,hv with
 | [fv,sv,kv],hv=>
   obtain⟨us,rfl,hus⟩:=hv.1;obtain⟨u0,u1,u2,u3,u4,rfl⟩:=aB0 hus;obtain⟨ss,rfl,hss⟩:=hv.2.1;obtain⟨s0,s1,s2,s3,s4,s5,rfl⟩:=by5 hss;have hkv:kv=.int .i64 k:=hv.2.2.1.1;subst hkv;cases en with
   | ok F=>
     refine(Uz M w hM E X Y a b k 0 (dG (F 0).1 (F 0).2++dG (F 1).1 (F 1).2) hck hva (.inr ⟨rfl,OW E X Y a b k (F 0) (F 1) hen⟩) rfl u0 u1 u2 u3 u4 s0 s1 s2 s3 s4 s5 hus hss).mono ?_;rintro r w' ⟨hb1,c0,c1,c2,c3,c4,c5,c6,c7,c8,c9,c10,c11,rfl,hr⟩;exact⟨hb1,[.agg #[c0,c1,c2,c3,c4,c5],.agg #[c6,c7,c8,c9,c10,c11],.int .i64 0],rfl,⟨_,rfl,hr.1,hr.2.1,hr.2.2.1,hr.2.2.2.1,hr.2.2.2.2.1,hr.2.2.2.2.2.1,trivial⟩,⟨_,rfl,hr.2.2.2.2.2.2⟩,⟨rfl,rfl⟩,trivial⟩
   | error er=>
     refine(Uz M w hM E X Y a b k er uY hck hva (.inl ⟨rfl,NN E X Y a b k er hen⟩) rfl u0 u1 u2 u3 u4 s0 s1 s2 s3 s4 s5 hus hss).mono ?_;rintro r w' ⟨hb1,c0,c1,c2,c3,c4,c5,c6,c7,c8,c9,c10,c11,rfl,hr⟩;have z:=Pm;exact⟨hb1,[.agg #[c0,c1,c2,c3,c4,c5],.agg #[c6,c7,c8,c9,c10,c11],.int .i64 er],rfl,Pm.rep ⟨_,rfl,hr.1,hr.2.1,hr.2.2.1,hr.2.2.2.1,hr.2.2.2.2.1,hr.2.2.2.2.2.1,trivial⟩,Pm.rep ⟨_,rfl,hr.2.2.2.2.2.2⟩,⟨rfl,rfl⟩,trivial⟩
 | [],hv=>exact hv.elim
 | [_],hv=>exact hv.2.elim
 | [_,_],hv=>exact hv.2.2.elim
 | _::_::_::_::_,hv=>exact hv.2.2.2.elim
end Go.Sy
namespace Go.Sy
open Go Go.Proofs Tryz Ord
def bo0:Tr:=Td 0 0 1 2 10 (Td 0 3 4 5 16 (.ret [(.agg [(U 1 0),(U 1 1),(U 1 2),(U 3 0),(U 3 1),(U 3 2)]),(.agg [(U 2 0),(U 2 1),(U 2 2),(U 2 3),(U 4 0),(U 4 1),(U 4 2),(U 4 3)])]))
def Jp:aM prog f82 bZ [.v (some 6)]=bo0:=by kernel_rfl
def bn6:Tr:=No 120 0 1 0 3 8 9 2 2 90 (fW 2 2 1 2 2)
def bu8:aM prog f84 bZ [.v none,.v none]=bn6:=by kernel_rfl
abbrev bP2(l h:bH):aG:=.agg (nC l++nC h)
def LZ(l h:bH)(hl:l.In)(hh:h.In):aL prog 82 [(bP2 l h:aG)] (.ret [ow l.v h.v,bW2 (.of l.v) (.of h.v)]):=by
 refine bw func82 Jp ?_;apply aA (Cj l hl);apply aA (Cj h hh);exact aK
def bD6(n d:Int)(h1:-9223372036854775808<=n:=by omega)(h2:n<9223372036854775808:=by omega)(h3:-9223372036854775808<=d:=by omega)(h4:d<9223372036854775808:=by omega)(h0:d≠0:=by omega):aL prog 84 [(.one (.int .i64 n):aG),(.one (.int .i64 d):aG)] (.ret [qT ((n:Rat)/(d:Rat))]):=by
 refine bw func84 bu8 ?_;have ho:=aA5 n d h1 h2 h3 h4;rw[if_neg h0,if_neg h0]at ho;apply aA ho;exact aK
structure rJ(D:Nat)(x:Rat):Prop where
 d:x.den∣D
 b:Wi 999 x
def rJ.up{D:Nat}{x:Rat}(h:rJ D x)(k:Nat):rJ (D*k) x:=⟨Ca h.d (qL _ _),h.b⟩
def OF{D:Nat}{z:Rat}(h0:D≠0)(h:z.den∣D):(an z).den∣D*2:=by
 have h1:Bd D z.num.natAbs z:=⟨h,Nat.le_mul_of_pos_right _ z.den_pos⟩
 exact(h1.mul h0 (by decide) (show Bd 2 1 (mkRat 1 (2^1)) by decide)).1
def rJ.mid{D:Nat}{x y:Rat}(h0:D≠0)(h:rJ D x)(k:rJ D y):rJ (D*2) (an (x+y)):=by
 refine⟨OF h0 (den_add h.d k.d h0),?_⟩;have e:=kU (x+y);obtain⟨h1,h2⟩:=h.b;obtain⟨k1,k2⟩:=k.b;generalize an (x+y)=z at *
 constructor<;>grind
def Se(x:Rat):(-x).den=x.den:=rfl
def rJ.rad{D:Nat}{x y:Rat}(h0:D≠0)(h:rJ D x)(k:rJ D y):(an (y-x)).den∣D*2/\Wi 999 (an (y-x)):=by
 refine⟨OF h0 ?_,?_⟩
 ·rw[Rat.sub_eq_add_neg];exact den_add k.d (by rw[Se];exact h.d) h0
 ·have e:=kU (y-x);obtain⟨h1,h2⟩:=h.b;obtain⟨k1,k2⟩:=k.b;generalize an (y-x)=z at *
  constructor<;>grind
def BA{D:Nat}{x:Rat}(h0:D≠0)(hD:D<=2^36)(hd:x.den∣D)(hm:Wi 999 x):jg x:=by
 refine⟨Nat.le_trans (BE (pQ h0) hd) (Nat.le_trans hD (by decide)),wU.2 ?_⟩;obtain⟨h1,h2⟩:=hm;have e:(((2000:Nat):Int):Rat)=2000:=by decide +kernel
 rw[e];constructor<;>grind
def rJ.Pr{D:Nat}{x:Rat}(h:rJ D x)(h0:D≠0)(hD:D<=2^36):jg x:=BA h0 hD h.d h.b
def bH.UM{x:bH}(h:x.short=true):x.v.den<=999/\Wi 999 x.v:=by
 obtain⟨h1,h2⟩:=bH.xx h;have:=wU.1 h2;have e:(((999:Nat):Int):Rat)=999:=by decide +kernel
 rw[e]at this;exact⟨h1,this⟩
def XF{l h:bH}(hl:l.short=true)(hh:h.short=true):∃D,D≠0/\D<=2^20/\rJ D l.v/\rJ D h.v:=by
 obtain⟨l1,l2⟩:=bH.UM hl;obtain⟨h1,h2⟩:=bH.UM hh;exact⟨l.v.den*h.v.den,Nat.mul_ne_zero (iy _) (iy _),Nat.le_trans (cV l1 h1) (by decide),⟨qL _ _,l2⟩,⟨tj _ _,h2⟩⟩
def QW{E:List (List Rat)}{m:Nat}{a b:Rat}{Y:Nat->Rat}{V:Nat->Rat×Rat}(g:zO E m a Y b V){i:Nat}(hi:i<m):(V i).1<=(V i).2:=by
 obtain⟨lam,S,n,_,_,g⟩:=g;obtain⟨w,_,h⟩:=g 1 (by decide +kernel);exact cq (h i hi).1 (h i hi).2
def QZ{E:List (List Rat)}{m j:Nat}{a c x:Rat}{Y:Nat->Rat}{V:Nat->Rat×Rat}(g:Oc E m j a Y c x V){i:Nat}(hi:i<j):(V i).1<=(V i).2:=by
 obtain⟨lam,S,n,_,_,g⟩:=g;obtain⟨w,u,_,_,h⟩:=g 1 (by decide +kernel);exact cq (h i hi).1 (h i hi).2
def YB{s t:Rat×Rat}(h1:s.1<=s.2)(h2:t.1<=t.2)(h3:s.1<=t.2)(h4:t.1<=s.2):MK s t=true:=by
 unfold MK;rw[dx,xN,xJ];split<;>split<;>assumption
def uz{E:List (List Rat)}{a c x r aB:Rat}{st n:Nat}{k k':Int}{y:List Rat}{w V:VS}(ha:gT E a)(hy:y.length=E.length-1)(hw:fh E x k' 64 a (y.map fun y=>(y,y))=some w)(hV:fh E c k 64 a (y.map fun y=>(y,y))=some V)
  (hR:Wv E c aB st) (h2:r+r<=aB) (hn:dm E c aB st r 1 k=some n) (ht:Bo r (x-c)):∀d,d<E.length-1->d<2->MK (w.getD d (0,0)) (kG (aV E c) (E.length-1) (aF E c) aB st r k V n d)=true:=by
 have g1:=uj (a:=a) 64 a _ w ha (iH.left a x) (by rw[aR,hy]) (EW E a y) hw;have g2:=uj (a:=a) 64 a _ V ha (iH.left a c) (by rw[aR,hy]) (EW E a y) hV;have g3:=Yw (k:=k) hR h2 (Mn hn) ht g2;intro d h1 h3;obtain⟨m1,m2⟩:=bx0 g1 g3 d h1 h3;exact YB (QW g1 h1) (QZ g3 h3) m1 m2
def ak3{E:List (List Rat)}{c r:Rat}{k:Int}{v:Option VS}{F:Nat->Rat×Rat}(h:uX E c r k v=.ok F):∃V aB st n,v=some V/\ba (aV E c) (E.length-1) (aF E c)=some (aB,st)/\r+r<=aB/\dm E c aB st r 1 k=some n/\F=kG (aV E c) (E.length-1) (aF E c) aB st r k V n:=by
 cases v with
 | none=>cases h
 | some V=>
   obtain⟨o,ho⟩:∃o,ba (aV E c) (E.length-1) (aF E c)=o:=⟨_,rfl⟩
   cases o with
   | none=>rw[vE ho]at h;cases h
   | some z=>
     obtain⟨aB,st⟩:=z;by_cases hle:r+r<=aB
     ·rw[um ho hle]at h;obtain⟨o2,ho2⟩:∃o,dm E c aB st r 1 k=o:=⟨_,rfl⟩
      rw[ho2]at h;cases o2 with
      | none=>cases h
      | some n=>cases h;exact⟨V,aB,st,n,rfl,ho,hle,ho2,rfl⟩
     ·rw[xy ho hle]at h;cases h
def UP{E:List (List Rat)}{c r:Rat}{k:Int}{v:Option VS}{er:Int}(h:uX E c r k v=.error er):er=5\/er=14:=by
 cases v with
 | none=>cases h;exact .inl rfl
 | some V=>
   obtain⟨o,ho⟩:∃o,ba (aV E c) (E.length-1) (aF E c)=o:=⟨_,rfl⟩
   cases o with
   | none=>rw[vE ho]at h;cases h;exact .inl rfl
   | some z=>
     obtain⟨aB,st⟩:=z;by_cases hle:r+r<=aB
     ·rw[um ho hle]at h;obtain⟨o2,ho2⟩:∃o,dm E c aB st r 1 k=o:=⟨_,rfl⟩
      rw[ho2]at h;cases o2 with
      | none=>cases h;exact .inl rfl
      | some n=>cases h
     ·rw[xy ho hle]at h;cases h;exact .inr rfl
def ai0{q:List (List Rat)}{m:Nat}{lead aB:Rat}{st:Nat}{r:Rat}{n B BS G W:Nat}{k:Int}{V:VS}(C:ae5 q m lead aB st r n B BS G)(hk:k<=256)(hVl:V.length=m)(hV:∀p∈V,Fit W p.1/\Fit W p.2){d:Nat}(hd:d<=1){Q:Nat}(hQ:m*(W+(BS+G+1)+1)+1+257+257<=Q)(hW1:1<=W:=by omega) :
  Fit Q (kG q m lead aB st r k V n d).1/\Fit Q (kG q m lead aB st r k V n d).2:=by
 obtain⟨h1,h2⟩:=pZ (M:=fun l=>V.getD l (0,0)) (v:=cH q m lead aB st r n d) (m:=m) (H:=W) (W:=BS+G+1) hW1 (fun l hl=>hV _ (bc (dD (v:=V)))) (fun l hl=>⟨((C.fs l hl d hd (n-d) (aY _)).1.add (C.ft l hl d hd).neg),((C.fs l hl d hd (n-d) (aY _)).2.add (C.ft l hl d hd))⟩) m (aY _);exact⟨(FJ h1).mono hQ,(MX h2).mono hQ⟩
def uC:Tr:=hx163Q 
def at1:Tr:=aH 44 0 (oY (bI 45)) (oZ 35 0 1 118 131 (dB 45 6 123 132 (dV 73 [(G6 46),(G6 24)] [none] [133,134] [123,123] 4 false (aH 47 0 (oY (bI 48)) uC))))
def aD0:Tr:=aH 39 0 (oZ 35 0 0 118 120 (dB 40 6 123 121 (dV 73 [(G6 41),(G6 23)] [none] [122,123] [123,123] 4 false (aH 42 0 (au 35 0 127 118 (iJ 43 0 2 3 128 at1)) uC)))) uC
def al6:Tr:=aH 46 0 (oY (bI 47)) (oZ 37 0 1 118 131 (dB 47 6 123 132 (dV 73 [(G6 48),(G6 24)] [none] [133,134] [123,123] 4 false (aH 49 0 (oY (bI 50)) uC))))
def ao7:Tr:=aH 41 0 (oZ 37 0 0 118 120 (dB 42 6 123 121 (dV 73 [(G6 43),(G6 23)] [none] [122,123] [123,123] 4 false (aH 44 0 (au 37 0 127 118 (iJ 45 0 2 3 128 al6)) uC)))) uC
def Sk:Tr:=lP 38 55 113 (aH 39 0 (oY (bI 40)) (au 37 0 116 118 (fL 40 0 0 3 117 ao7)))
def az0:Tr:=gI 33 0 96 (aH 34 0 (ae2 12 (lP 36 55 113 (aH 37 0 (oY (bI 38)) (au 35 0 116 118 (fL 38 0 0 3 117 aD0))))) (dV 38 [(G3 32),(.agg [(U 12 3),(U 12 4),(U 12 5)])] [none] [99,101] [39,39] 3 false (fL 35 0 0 3 102 (aH 36 0 (ae2 12 Sk) (ae2 32 Sk)))))
def aC2:Tr:=dV 80 [(G6 12)] [(some 3)] [87] [123] 39 false (zd 2 0 9 89 (fM 28 5 2 90 (.need (.call 84 [(W 29 0),(WK 8)] [(some 3)]) (.call ⟨.value (.func 84),#[(tT 91),(.const (I3 8))],#[2,2]⟩) 39 false (iQ 36 27 0 27 1 27 2 30 0 30 1 30 2 88 92 (iQ 64 12 0 12 1 12 2 31 0 31 1 31 2 86 93 (zd 2 0 9 95 az0))))))
def aE4:Tr:=aH 21 0 (oY (bI 22)) (xX 56 3 76 3 3 (dV 83 [(G5 10),(G6 12),(W 22 0)] [(some 6),(some 6),none] [74,75,77] [42,123,3] 150 false (lP 25 55 82 (aH 26 0 (oY (bI 27)) aC2))))
def am4:Tr:=jX 16 0 53 (aH 17 0 (oY (bI 18)) (dV 70 [(.agg [(U 13 4),(U 13 5),(U 13 6),(U 13 7)]),(.agg [(U 11 1),(U 11 2),(U 11 3),(U 11 4)])] [none] [58,60] [49,49] 4 false (jX 18 0 61 (aH 19 0 (oY (bI 20)) (dV 58 [(W 11 0),(.agg [(U 11 1),(U 11 2),(U 11 3),(U 11 4)])] [none] [66,68] [44,49] 4 false (jX 20 0 69 aE4))))))
def aJ2:Tr:=dV 17 [(G8 0)] [(some 5),(some 6)] [36] [29] 53 false (dV 82 [(G6 1)] [(some 6),(some 8)] [41] [147] 148 false (dV 21 [(G5 10)] [none] [45] [42] 55 false (lP 14 55 46 (aH 15 0 (oY (bI 16)) (dV 70 [(G4 13),(.agg [(U 11 1),(U 11 2),(U 11 3),(U 11 4)])] [none] [50,52] [49,49] 4 false am4)))))
def bg3:Tr:=jX 6 0 25 (aH 7 0 (oY (bI 8)) (uP 39 1 3 4 5 30 26 4 (jX 8 0 31 (aH 9 0 (oY (bI 10)) aJ2))))
def bl2:Tr:=dV 15 [(G8 0)] [none] [19] [29] 4 false (jX 4 0 20 (aH 5 0 (oY (bI 6)) (uP 39 1 0 1 2 24 26 4 bg3)))
def Me:aM prog f12 bZ [.v (some 8),.v (some 6),.v none,.v none]=bl2:=by kernel_rfl
def bE5{m:Nat}(h:m<=4):m*(768021200+(40000000+211000000+1)+1)+1+257+257<=4200000000:=O
def SF{D k:Nat}(h:D<=2^20)(hk:k<=8:=by omega):D*k<=2^36:=Nat.le_trans (cV h hk) (by decide)
def YE{a b:Rat}{p:Nat}(hab:a<=b)(hp:p<=8):a<=a+(b-a)*(((p:Int):Rat)/((8:Int):Rat))/\a+(b-a)*(((p:Int):Rat)/((8:Int):Rat))<=b:=by
 have h0:(0:Rat)<=((p:Int):Rat):=qJ.2 O;have h8:((p:Int):Rat)<=((8:Int):Rat):=PR.2 O;have e8:((8:Int):Rat)=8:=by decide +kernel
 have hq:((p:Int):Rat)/((8:Int):Rat)*((8:Int):Rat)=((p:Int):Rat):=pH (by rw[e8];decide +kernel);rw[e8]at h8 hq|-;generalize ((p:Int):Rat)/8=q at *;generalize ((p:Int):Rat)=z at *;have q0:0<=q:=by grind
 have q1:q<=1:=by grind
 have g1:=gX (a:=b-a) (b:=q) (by grind) q0;have g2:=gX (a:=b-a) (b:=1-q) (by grind) (by grind)
 constructor<;>grind
def Qw{D p:Nat}{z:Rat}(h0:D≠0)(h:z.den∣D):(z*(((p:Int):Rat)/((8:Int):Rat))).den∣D*8:=by
 have h1:Bd D z.num.natAbs z:=⟨h,Nat.le_mul_of_pos_right _ z.den_pos⟩
 have e:((p:Int):Rat)/((8:Int):Rat)=mkRat p 8:=by rw[qm];rfl
 have h2:Bd 8 p (((p:Int):Rat)/((8:Int):Rat)):=by
  rw[e];have:=Bd.mk (D:=8) (S:=p) (n:=(p:Int)) (by decide) (by simp;omega);exact this
 exact(h1.mul h0 (by decide) h2).1
def QC{a b x:Rat}(h1:a<=x)(h2:x<=b):Bo (an (b-a)) (x-an (a+b)):=by
 have e1:=kU (b-a);have e2:=kU (a+b);generalize an (b-a)=r at *;generalize an (a+b)=c at *
 constructor<;>grind
def LN(c:bA)(h:c.In)(l hi:bH)(hl:l.In)(hh:hi.In)(p:Nat)(k:Int)(hp:p<256:=by omega):aL prog 12 [(caT c:aG),(bP2 l hi:aG),(.one (.int .u8 p):aG),(.one (.int .i64 k):aG)] (.ret [.one (.bool true)]):=by
 refine bw func12 Me ?_;have hS:=Xz c h;have hB:=fun hs=>aH2 c h hs;apply aA hS;apply vn lf;refine lR (!c.small) rfl (fun h2=>?_) (fun h2=>?_)
 ·apply aA dR;exact aK
 have hs0:c.small=true:=by cases hh:c.small<;>simp_all
 have hC:=PX h hs0;apply aA (vy l hl);apply vn lf;refine lR (!l.short) rfl (fun h7=>?_) (fun h7=>?_)
 ·apply aA dR;exact aK
 have hls:l.short=true:=by cases hh:l.short<;>simp_all
 apply aA (vy hi hh);apply vn lf;refine lR (!hi.short) rfl (fun h12=>?_) (fun h12=>?_)
 ·apply aA dR;exact aK
 have hhs:hi.short=true:=by cases hh:hi.short<;>simp_all
 obtain⟨D,hD0,hD,el,eh⟩:=XF hls hhs;have hlf:Fit 513 l.v:=hl.ay0;have hhf:Fit 513 hi.v:=hh.ay0;apply aA (hB hs0);apply aA (LZ l hi hl hh);dsimp only[aO,aP];by_cases hok:okF c.E c.X c.Y=true
 rotate_left
 ·apply aA (Vc hC (by simpa using hok));apply vn gN;refine lR true rfl (fun _=>?_) (fun h=>by cases h);apply aA dR;exact aK
 apply aA (CE hC hok);apply vn gN;refine lR false rfl (fun h=>by cases h) (fun _=>?_);apply aA (Tn (.of l.v) c.XR (hlf.mono O) (by rw[hC.x];exact hC.xb.fit.mono O)) rfl;apply vn lf;refine lR (!Mr (.of l.v) c.XR) rfl (fun h24=>?_) (fun h24=>?_)
 ·apply aA dR;exact aK
 apply aA (Tn (.of hi.v) c.XR (hhf.mono O) (by rw[hC.x];exact hC.xb.fit.mono O)) rfl;apply vn lf;refine lR (!Mr (.of hi.v) c.XR) rfl (fun h29=>?_) (fun h29=>?_)
 ·apply aA dR;exact aK
 apply aA (ad1 c.E c.ER c.X c.XR hC.toSmallX (JT hok));apply vn lf;dsimp only[aO,aP];refine lR (!decide ((jW c.E c.X).2<=24)) rfl (fun h34=>?_) (fun h34=>?_)
 ·apply aA dR;exact aK
 obtain⟨g,hg⟩:∃g,g=Jo k:=⟨_,rfl⟩
 have hg2:g<=256:=by rw[hg];exact aj2 k
 apply aA (aE1 k);rw[<-hg];dsimp only[aO,aP];by_cases hab:l.v<=hi.v
 rotate_left
 ·apply aA (Wp c.E c.X c.Y l.v hi.v g (CE hC hok) hlf hhf hab);apply vn gN;refine lR true rfl (fun _=>?_) (fun h=>by cases h);apply aA dR;exact aK
 obtain⟨l2,l5,hyl,_,_⟩:=wE hok;have hrg:=JT hok;have hD2:D*2<=2^36:=SF hD;have hD0':D*2≠0:=O
 obtain⟨er1,er2⟩:=rJ.rad hD0 el eh;have hrn:0<=an (hi.v-l.v):=by have:=kU (hi.v-l.v);grind
 have F0:=xq hs0 hok ((rJ.mid hD0 el eh).Pr hD0' hD2);have hen:=hC.toSmallX.bS8 hg2 F0 (BA hD0' hD2 er1 er2).t hrn hlf hhf hyl (fun y hy=>(hC.yf y hy).mono O);have hov:=ap1 c.E c.X c.Y l.v hi.v g _ (CE hC hok) hlf hhf hab hen;cases hef:uX c.E (an (l.v+hi.v)) (an (hi.v-l.v)) g (fh c.E (an (l.v+hi.v)) g 64 c.X (Ww c.Y))with
 | error er=>
   rw[hef]at hov;apply aA hov;apply vn gN;refine lR true (by rcases UP hef with rfl | rfl<;>rfl) (fun _=>?_) (fun h=>by cases h);apply aA dR;exact aK
 | ok F=>
 rw[hef]at hov;obtain⟨V,aB,st,n,hV,hrv,hle,hn,hF⟩:=ak3 hef;have hI:=TF (hC.toSmallX.bs5 F0 hg2) 64 _ _ (Wl.first F0 (v0:=Ww c.Y) (by rw[aR];exact hyl) (fun p hp=>by obtain⟨y,hy,rfl⟩:=gn.1 hp;exact⟨(hC.yf y hy).mono O,(hC.yf y hy).mono O⟩)) hV;obtain⟨gg,hI⟩:=hI;have hR:Wv c.E (an (l.v+hi.v)) aB st:=⟨hI.reg,hrv⟩
 have hcc:=hC.toSmallX.at F0.xb;have hSt:kq c.E (an (l.v+hi.v)) aB st (an (hi.v-l.v)) g:=Sf hI.reg hrv (BA hD0' hD2 er1 er2).t (by unfold Rat.abs;rw[if_pos hrn];grind) hg2
 have hEC:=hcc.bL8 hI.reg hSt hrn (Mn hn) (by
  have L:=hcc.TC hI.reg hSt (d:=1) (aY 1);exact(L.some n hn).2)
 have hm4:c.E.length-1<=4:=O
 have hFf:∀d,d<=1->Fit 4200000000 (F d).1/\Fit 4200000000 (F d).2:=fun d hd=>by
  rw[hF];refine ai0 hEC hg2 hI.vl (fun p hp=>⟨(hI.vf p hp).1.mono oe.2,(hI.vf p hp).2.mono oe.2⟩) hd ?_;exact bE5 hm4
 subst hF;generalize hFF:kG (aV c.E (an (l.v+hi.v))) (c.E.length-1) (aF c.E (an (l.v+hi.v))) aB st (an (hi.v-l.v)) g V n=F at *;apply aA hov;apply vn gN;refine lR false rfl (fun h=>by cases h) (fun _=>?_);have hel:∀d,d<=1->True:=fun _ _=>trivial;apply aA (sg l.v hi.v 513 513 hlf hhf);apply vn dd;apply vn (ri ⟨_,un5⟩ YD);apply aA (bD6 ((p%9:Nat):Int) 8);dsimp only[aO,aP];obtain⟨pi1,pi2⟩:=YE hab (show p%9<=8 by omega);have hw8:Fit 128 ((((p%9:Nat):Int):Rat)/((8:Int):Rat)):=(eW).div (eW);have hwd:Fit 1027 (hi.v-l.v):=(hhf.sub hlf).mono O;apply aA (bg (hi.v-l.v) _ 1027 128 hwd hw8);apply aA (iU l.v _ 513 1155 hlf ((hwd.mul hw8).mono O));apply vn dd;apply vn bK;refine vs _ rfl ?_ ?_<;>intro h51
 ·obtain⟨eA,wA⟩:=vX hC (k:=20) O (xq hs0 hok (rJ.Pr el hD0 (Nat.le_trans hD (by decide)))) hok fun a ha=>(hC.yf a ha).mono O;apply aA eA;generalize hw:fh c.E (l.v) 20 64 c.X (Ww c.Y)=wo at *;apply vn gN;dsimp only[aO,aP];cases wo with
  | none=>
    refine lR true rfl (fun _=>?_) (fun h=>by cases h);apply aA dR;exact aK
  | some w=>
  have hco:=uz hrg hyl hw hV hR hle hn (QC cr hab);rw[hFF]at hco;have hwe:(Wu (some w)).1.length=w.length:=rfl;obtain⟨hwl,hwf⟩:=wA w rfl;refine lR false rfl (fun h=>by cases h) (fun _=>?_);apply vn (aU ju (aR _));apply vn dZ;dsimp only[aO,aP];rw[iV (show(0:Int)<(((Wu (some w)).1.length:Nat):Int) by show(0:Int)<((w.length:Nat):Int);omega)];refine lR true rfl (fun _=>?_) (fun h=>by cases h);apply vn (aZ ju (dD (v:=w) (l:=0)) (cS 0));apply vn (bB sq (by decide) (by simp) (.inl rfl));dsimp only[aO,aP];obtain⟨w1,w2⟩:=hwf _ (bc (dD (v:=w) (l:=0)));have hcm:=mJ (w.getD 0 (0,0)) (F 0) 4200000000 (w1.mono O) (w2.mono O) (hFf 0 O).1 (hFf 0 O).2 (hco 0 O O);apply aA hcm;refine lR true rfl (fun _=>?_) (fun h=>by cases h);apply vn (aU ju (aR _));apply vn ak;refine vs _ rfl ?_ ?_<;>intro h66
  ·apply aA dR;exact aK
  apply vn (aZ ju (dD (v:=w) (l:=1)) (cS 1));apply vn (bB sq (by decide) (by simp) (.inl rfl));dsimp only[aO,aP];obtain⟨x1,x2⟩:=hwf _ (bc (dD (v:=w) (l:=1)));have hcm1:=mJ (w.getD 1 (0,0)) (F 1) 4200000000 (x1.mono O) (x2.mono O) (hFf 1 O).1 (hFf 1 O).2 (hco 1 O O);apply aA hcm1;refine lR true rfl (fun _=>?_) (fun h=>by cases h);apply aA dR;exact aK
 apply aA (pN _ hi.v 1669 513 ((hlf.add (hwd.mul hw8)).mono O) hhf);apply vn dZ;refine vs _ rfl ?_ ?_<;>intro h80
 ·obtain⟨eA,wA⟩:=vX hC (k:=20) O (xq hs0 hok (rJ.Pr el hD0 (Nat.le_trans hD (by decide)))) hok fun a ha=>(hC.yf a ha).mono O;apply aA eA;generalize hw:fh c.E (l.v) 20 64 c.X (Ww c.Y)=wo at *;apply vn gN;dsimp only[aO,aP];cases wo with
  | none=>
    refine lR true rfl (fun _=>?_) (fun h=>by cases h);apply aA dR;exact aK
  | some w=>
  have hco:=uz hrg hyl hw hV hR hle hn (QC cr hab);rw[hFF]at hco;have hwe:(Wu (some w)).1.length=w.length:=rfl;obtain⟨hwl,hwf⟩:=wA w rfl;refine lR false rfl (fun h=>by cases h) (fun _=>?_);apply vn (aU ju (aR _));apply vn dZ;dsimp only[aO,aP];rw[iV (show(0:Int)<(((Wu (some w)).1.length:Nat):Int) by show(0:Int)<((w.length:Nat):Int);omega)];refine lR true rfl (fun _=>?_) (fun h=>by cases h);apply vn (aZ ju (dD (v:=w) (l:=0)) (cS 0));apply vn (bB sq (by decide) (by simp) (.inl rfl));dsimp only[aO,aP];obtain⟨w1,w2⟩:=hwf _ (bc (dD (v:=w) (l:=0)));have hcm:=mJ (w.getD 0 (0,0)) (F 0) 4200000000 (w1.mono O) (w2.mono O) (hFf 0 O).1 (hFf 0 O).2 (hco 0 O O);apply aA hcm;refine lR true rfl (fun _=>?_) (fun h=>by cases h);apply vn (aU ju (aR _));apply vn ak;refine vs _ rfl ?_ ?_<;>intro h95
  ·apply aA dR;exact aK
  apply vn (aZ ju (dD (v:=w) (l:=1)) (cS 1));apply vn (bB sq (by decide) (by simp) (.inl rfl));dsimp only[aO,aP];obtain⟨x1,x2⟩:=hwf _ (bc (dD (v:=w) (l:=1)));have hcm1:=mJ (w.getD 1 (0,0)) (F 1) 4200000000 (x1.mono O) (x2.mono O) (hFf 1 O).1 (hFf 1 O).2 (hco 1 O O);apply aA hcm1;refine lR true rfl (fun _=>?_) (fun h=>by cases h);apply aA dR;exact aK
 obtain⟨eA,wA⟩:=vX hC (k:=20) O (xq hs0 hok (BA (D:=D*8) O (SF hD) (den_add (el.up 8).d (Qw hD0 (by rw[Rat.sub_eq_add_neg];exact den_add eh.d (by rw[Se];exact el.d) hD0))) ⟨cq el.b.1 pi1,cq pi2 eh.b.2⟩)) hok fun a ha=>(hC.yf a ha).mono O;apply aA eA;generalize hw:fh c.E (l.v+(hi.v-l.v)*((((p%9:Nat):Int):Rat)/((8:Int):Rat))) 20 64 c.X (Ww c.Y)=wo at *;apply vn gN;dsimp only[aO,aP];cases wo with
 | none=>
   refine lR true rfl (fun _=>?_) (fun h=>by cases h);apply aA dR;exact aK
 | some w=>
 have hco:=uz hrg hyl hw hV hR hle hn (QC pi1 pi2);rw[hFF]at hco;have hwe:(Wu (some w)).1.length=w.length:=rfl;obtain⟨hwl,hwf⟩:=wA w rfl;refine lR false rfl (fun h=>by cases h) (fun _=>?_);apply vn (aU ju (aR _));apply vn dZ;dsimp only[aO,aP];rw[iV (show(0:Int)<(((Wu (some w)).1.length:Nat):Int) by show(0:Int)<((w.length:Nat):Int);omega)];refine lR true rfl (fun _=>?_) (fun h=>by cases h);apply vn (aZ ju (dD (v:=w) (l:=0)) (cS 0));apply vn (bB sq (by decide) (by simp) (.inl rfl));dsimp only[aO,aP];obtain⟨w1,w2⟩:=hwf _ (bc (dD (v:=w) (l:=0)));have hcm:=mJ (w.getD 0 (0,0)) (F 0) 4200000000 (w1.mono O) (w2.mono O) (hFf 0 O).1 (hFf 0 O).2 (hco 0 O O);apply aA hcm;refine lR true rfl (fun _=>?_) (fun h=>by cases h);apply vn (aU ju (aR _));apply vn ak;refine vs _ rfl ?_ ?_<;>intro h121
 ·apply aA dR;exact aK
 apply vn (aZ ju (dD (v:=w) (l:=1)) (cS 1));apply vn (bB sq (by decide) (by simp) (.inl rfl));dsimp only[aO,aP];obtain⟨x1,x2⟩:=hwf _ (bc (dD (v:=w) (l:=1)));have hcm1:=mJ (w.getD 1 (0,0)) (F 1) 4200000000 (x1.mono O) (x2.mono O) (hFf 1 O).1 (hFf 1 O).2 (hco 1 O O);apply aA hcm1;refine lR true rfl (fun _=>?_) (fun h=>by cases h);apply aA dR;exact aK
end Go.Sy
