/- Part. -/
import Derived.Test.YtdmcadckdnnglaaGreatDoorKa
set_option linter.all false
set_option maxHeartbeats 4000000
set_option maxRecDepth 100000
namespace Go.Sy
open Go Go.Proofs Go.RowKit Tryz Ord
attribute [local go_sem] Oper.semAt_some
def tA(t:Array Value)(h:t.size=146):t=#[t.getD 0 undef,t.getD 1 undef,t.getD 2 undef,t.getD 3 undef,t.getD 4 undef,t.getD 5 undef,t.getD 6 undef,t.getD 7 undef,t.getD 8 undef,t.getD 9 undef,t.getD 10 undef,t.getD 11 undef,t.getD 12 undef,t.getD 13 undef,t.getD 14 undef,t.getD 15 undef,t.getD 16 undef,t.getD 17 undef,t.getD 18 undef,t.getD 19 undef,t.getD 20 undef,t.getD 21 undef,t.getD 22 undef,t.getD 23 undef,t.getD 24 undef,t.getD 25 undef,t.getD 26 undef,t.getD 27 undef,t.getD 28 undef,t.getD 29 undef,t.getD 30 undef,t.getD 31 undef,t.getD 32 undef,t.getD 33 undef,t.getD 34 undef,t.getD 35 undef,t.getD 36 undef,t.getD 37 undef,t.getD 38 undef,t.getD 39 undef,t.getD 40 undef,t.getD 41 undef,t.getD 42 undef,t.getD 43 undef,t.getD 44 undef,t.getD 45 undef,t.getD 46 undef,t.getD 47 undef,t.getD 48 undef,t.getD 49 undef,t.getD 50 undef,t.getD 51 undef,t.getD 52 undef,t.getD 53 undef,t.getD 54 undef,t.getD 55 undef,t.getD 56 undef,t.getD 57 undef,t.getD 58 undef,t.getD 59 undef,t.getD 60 undef,t.getD 61 undef,t.getD 62 undef,t.getD 63 undef,t.getD 64 undef,t.getD 65 undef,t.getD 66 undef,t.getD 67 undef,t.getD 68 undef,t.getD 69 undef,t.getD 70 undef,t.getD 71 undef,t.getD 72 undef,t.getD 73 undef,t.getD 74 undef,t.getD 75 undef,t.getD 76 undef,t.getD 77 undef,t.getD 78 undef,t.getD 79 undef,t.getD 80 undef,t.getD 81 undef,t.getD 82 undef,t.getD 83 undef,t.getD 84 undef,t.getD 85 undef,t.getD 86 undef,t.getD 87 undef,t.getD 88 undef,t.getD 89 undef,t.getD 90 undef,t.getD 91 undef,t.getD 92 undef,t.getD 93 undef,t.getD 94 undef,t.getD 95 undef,t.getD 96 undef,t.getD 97 undef,t.getD 98 undef,t.getD 99 undef,t.getD 100 undef,t.getD 101 undef,t.getD 102 undef,t.getD 103 undef,t.getD 104 undef,t.getD 105 undef,t.getD 106 undef,t.getD 107 undef,t.getD 108 undef,t.getD 109 undef,t.getD 110 undef,t.getD 111 undef,t.getD 112 undef,t.getD 113 undef,t.getD 114 undef,t.getD 115 undef,t.getD 116 undef,t.getD 117 undef,t.getD 118 undef,t.getD 119 undef,t.getD 120 undef,t.getD 121 undef,t.getD 122 undef,t.getD 123 undef,t.getD 124 undef,t.getD 125 undef,t.getD 126 undef,t.getD 127 undef,t.getD 128 undef,t.getD 129 undef,t.getD 130 undef,t.getD 131 undef,t.getD 132 undef,t.getD 133 undef,t.getD 134 undef,t.getD 135 undef,t.getD 136 undef,t.getD 137 undef,t.getD 138 undef,t.getD 139 undef,t.getD 140 undef,t.getD 141 undef,t.getD 142 undef,t.getD 143 undef,t.getD 144 undef,t.getD 145 undef]:=(pX t 146 h).trans rfl
def ap2(v6:Value)(E:List (List Rat))(X:Rat)(Y:List Rat)(a b:Rat)(k:Int)(q:List (List Rat))(m:Nat)(lead aB:Rat)(st:Nat)(V:VS)(ha:Fit 513 a)(hb:Fit 513 b)(hval:aL prog 234 [fT E X Y,qT (an (a+b)),.one (.int .i64 k)] (.pan (CD 5))):vc prog (fun o=>ep o (.pan (CD 5))) (kr prog 146 (fun _=>none) (cd [1] (dr f170)) [(2,.v none),(3,.ref 5),(4,.ref 6),(6,.v none)] ([2,6,8,9,10].map ResultVar.tmp) (some 3) false) ([.v (.one (.int .i64 k)),.ref (fC E X Y),.ref (dG a b),.v (.one (.exact v6))].map In.env) []:=by
 rw[oi];dsimp only[List.map,In.env,aO,aP];apply aA (tH a b 513 ha hb);apply aA (sg a b 513 513 ha hb);apply aA (yt 1);dsimp only[aO,aP];have hw:Fit 1027 (b-a):=(hb.sub ha).mono O;apply aA (bg (b-a) (mkRat 1 (2^1)) 1027 257 hw (eu O));exact vcp hval rfl
def aD1(v6:Value)(E:List (List Rat))(X:Rat)(Y:List Rat)(a b:Rat)(k:Int)(q:List (List Rat))(m:Nat)(lead aB:Rat)(st:Nat)(V:VS)(ha:Fit 513 a)(hb:Fit 513 b)(hval:aL prog 234 [fT E X Y,qT (an (a+b)),.one (.int .i64 k)] (.ret [.one (.slice 6 (vS V))]))(hat:aL prog 100 [.one (eQ E),qT (an (a+b))] (.ret [yZ q m lead]))(hre:aL prog 123 [yZ q m lead] (.pan (CD 5))):vc prog (fun o=>ep o (.pan (CD 5))) (kr prog 146 (fun _=>none) (cd [1] (dr f170)) [(2,.v none),(3,.ref 5),(4,.ref 6),(6,.v none)] ([2,6,8,9,10].map ResultVar.tmp) (some 3) false) ([.v (.one (.int .i64 k)),.ref (fC E X Y),.ref (dG a b),.v (.one (.exact v6))].map In.env) []:=by
 rw[oi];dsimp only[List.map,In.env,aO,aP];apply aA (tH a b 513 ha hb);apply aA (sg a b 513 513 ha hb);apply aA (yt 1);dsimp only[aO,aP];have hw:Fit 1027 (b-a):=(hb.sub ha).mono O;apply aA (bg (b-a) (mkRat 1 (2^1)) 1027 257 hw (eu O));apply aA hval;apply aA hat;exact vcp hre rfl
def aq2(v6:Value)(E:List (List Rat))(X:Rat)(Y:List Rat)(a b:Rat)(k:Int)(q:List (List Rat))(m:Nat)(lead aB:Rat)(st:Nat)(V:VS)(ha:Fit 513 a)(hb:Fit 513 b)(hval:aL prog 234 [fT E X Y,qT (an (a+b)),.one (.int .i64 k)] (.ret [.one (.slice 6 (vS V))]))(hat:aL prog 100 [.one (eQ E),qT (an (a+b))] (.ret [yZ q m lead]))(hre:aL prog 123 [yZ q m lead] (.ret [.agg (vb q m lead aB (st:Nat))]))(hrho:Fit 2097152 aB)(hno:¬an (b-a)+an (b-a)<=aB):vc prog (fun o=>ep o (.pan (CD 14))) (kr prog 146 (fun _=>none) (cd [1] (dr f170)) [(2,.v none),(3,.ref 5),(4,.ref 6),(6,.v none)] ([2,6,8,9,10].map ResultVar.tmp) (some 3) false) ([.v (.one (.int .i64 k)),.ref (fC E X Y),.ref (dG a b),.v (.one (.exact v6))].map In.env) []:=by
 rw[oi];dsimp only[List.map,In.env,aO,aP];apply aA (tH a b 513 ha hb);apply aA (sg a b 513 513 ha hb);apply aA (yt 1);dsimp only[aO,aP];have hw:Fit 1027 (b-a):=(hb.sub ha).mono O;apply aA (bg (b-a) (mkRat 1 (2^1)) 1027 257 hw (eu O));apply aA hval;apply aA hat;apply aA hre;dsimp only[aO,aP];have hh:Fit 1284 (an (b-a)):=yJ hw;apply aA (iU (an (b-a)) (an (b-a)) 1284 1284 hh hh);apply aA (pN _ aB 2569 2097152 ((hh.add hh).mono O) hrho);apply vn iO;dsimp only[aO,aP];rw[show decide (ku (an (b-a)+an (b-a)) aB<=0)=false from mO (fun h=>hno (kM.1 h))];exact vcp (mz 14) rfl
def XI(v6:Value)(E:List (List Rat))(X:Rat)(Y:List Rat)(a b:Rat)(k:Int)(q:List (List Rat))(m:Nat)(lead aB:Rat)(st:Nat)(V:VS)(ha:Fit 513 a)(hb:Fit 513 b)(hval:aL prog 234 [fT E X Y,qT (an (a+b)),.one (.int .i64 k)] (.ret [.one (.slice 6 (vS V))]))(hat:aL prog 100 [.one (eQ E),qT (an (a+b))] (.ret [yZ q m lead]))(hre:aL prog 123 [yZ q m lead] (.ret [.agg (vb q m lead aB (st:Nat))]))(hrho:Fit 2097152 aB)(hle:an (b-a)+an (b-a)<=aB):vc prog (fun o=>ep o (.ret [.one (.int .i64 k),.one (.exact v6),.one (.aj (qC (an (b-a)))),.one (.slice 6 (vS V)),.one (.aj (vb q m lead aB (st:Nat)))])) (kr prog 146 (fun _=>none) (cd [1] (dr f170)) [(2,.v none),(3,.ref 5),(4,.ref 6),(6,.v none)] ([2,6,8,9,10].map ResultVar.tmp) (some 3) false) ([.v (.one (.int .i64 k)),.ref (fC E X Y),.ref (dG a b),.v (.one (.exact v6))].map In.env) []:=by
 rw[oi];dsimp only[List.map,In.env,aO,aP];apply aA (tH a b 513 ha hb);apply aA (sg a b 513 513 ha hb);apply aA (yt 1);dsimp only[aO,aP];have hw:Fit 1027 (b-a):=(hb.sub ha).mono O;apply aA (bg (b-a) (mkRat 1 (2^1)) 1027 257 hw (eu O));apply aA hval;apply aA hat;apply aA hre;dsimp only[aO,aP];have hh:Fit 1284 (an (b-a)):=yJ hw;apply aA (iU (an (b-a)) (an (b-a)) 1284 1284 hh hh);apply aA (pN _ aB 2569 2097152 ((hh.add hh).mono O) hrho);apply vn iO;dsimp only[aO,aP];rw[show decide (ku (an (b-a)+an (b-a)) aB<=0)=true from iV (kM.2 hle)];apply aA (mw 14);exact aK
end Go.Sy
namespace Go.Sy
open Go Go.Proofs Go.RowKit Tryz Ord
attribute [local go_sem] Oper.semAt_some
def EF{cells:List aE}{M:Nat->Prop}{w:World}{v:Value}(h:(aE.aj cells).rep M w v):∃b off us,v=.pointer (some ⟨b,off,none⟩)/\¬M b/\b<w.heap.size/\ab M w cells us/\∀j u,us[j]?=some u->w.cell? ⟨b,off+j,none⟩=some u:=by
 obtain⟨b,off,cs,T,fz,rfl,hb,hh,hr⟩:=h;refine⟨b,off,_,rfl,hb,(cK.1 hh).1,hr,fun j u hj=>?_⟩;rw[eo]at hj;split at hj
 ·rw[List.getElem?_drop]at hj;exact aD hh (by simpa using hj)
 ·cases hj
structure bE3(q:List (List Rat))(m:Nat)(lead aB:Rat)(st:Nat)(r:Rat)(k:Int)(Ns Bs B G BS:Nat)(goal:Rat)(out:Option Nat):Prop where
 hm1:1<=m
 hm4:m<=4
 hk:k<=256
 hgq:mkRat 1 (2^k.toNat)*mkRat 1 (2^2)=goal
 T:zM q m lead aB st r goal 1 B G
 L:uf (Ps q m lead aB st r goal 1) m st out
 EC:∀N,out=some N->ae5 q m lead aB st r N B BS G
 r0:0<=r
 hst15:st<=Ns
 SC:∀l,l<m->gm Bs q m lead (aX m l) Ns
 hNs:Ns<=1073741824
 hN15:1500<=Ns
 hBs:Bs<=4294967296
 h64:64<=Bs
 hql:q.length=m+1
 hp:∀p∈q,p.length<1048576
 hl0:lead≠0
 hw:m+aa q<=st
 hrho:∀j,j<=2*st+1->Fit Bs (aB^j)
def by5{M:Nat->Prop}{w:World}{c0 c1 c2 c3 c4 c5:aE}{vs:List Value}(h:ab M w [c0,c1,c2,c3,c4,c5] vs):∃u0 u1 u2 u3 u4 u5,vs=[u0,u1,u2,u3,u4,u5]:=by
 have hl:=h.length
 match vs,hl with
 | [u0,u1,u2,u3,u4,u5],_=>exact⟨u0,u1,u2,u3,u4,u5,rfl⟩
def KO{α:Type}{l:List α}(h:l.length=12):∃a0 a1 a2 a3 a4 a5 a6 a7 a8 a9 a10 a11,l=[a0,a1,a2,a3,a4,a5,a6,a7,a8,a9,a10,a11]:=by
 match l,h with
 | [a0,a1,a2,a3,a4,a5,a6,a7,a8,a9,a10,a11],_=>exact⟨a0,a1,a2,a3,a4,a5,a6,a7,a8,a9,a10,a11,rfl⟩
def Hv:Tr:=.retr [(.one (.ref 0 [(.u 0 0),(.u 0 1),(.u 0 2),(.u 0 3),(.u 0 4),(.u 0 5),(.u 0 6),(.u 0 7),(.u 0 8),(.u 0 9),(.u 0 10),(.u 0 11)]))] 2
def HG:Tr:=.need (.strow 1 12 (.k (.int .i64 (0))) 0 [(.u 0 0),(.u 0 1),(.u 0 2),(.u 0 3),(.u 0 4),(.u 0 5),(.u 0 6),(.u 0 7),(.u 0 8),(.u 0 9),(.u 0 10),(.u 0 11)]) (.store 233 (.tmp 6) (.tmp 145)) 0 false Hv
def MS:Cz prog 146 (fun _=>none) (cd [1,1,1,1,1,1,1,1,1,1,1,0] (dr f170)) [(16,.ref 12)] 6 233 12 ([16].map ResultVar.tmp)=HG:=by kernel_rfl
def aW7(c d:List aE)(hc:c.length=12)(hd:d.length=12):vc prog (fun o=>o=.retr [.one (.aj c)] ([c])) (Cz prog 146 (fun _=>none) (cd [1,1,1,1,1,1,1,1,1,1,1,0] (dr f170)) [(16,.ref 12)] 6 233 12 ([16].map ResultVar.tmp)) ([.ref (c)].map In.env++[.rows ([d])]) []:=by
 rw[MS];dsimp only[List.map,In.env,aO,aP];obtain⟨a0,a1,a2,a3,a4,a5,a6,a7,a8,a9,a10,a11,rfl⟩:=KO hc;obtain⟨b0,b1,b2,b3,b4,b5,b6,b7,b8,b9,b10,b11,rfl⟩:=KO hd;refine yx (ts:=[[b0,b1,b2,b3,b4,b5,b6,b7,b8,b9,b10,b11]]) (us:=[[a0,a1,a2,a3,a4,a5,a6,a7,a8,a9,a10,a11]]) rfl rfl O (cells:=[b0,b1,b2,b3,b4,b5,b6,b7,b8,b9,b10,b11]) rfl rfl ?_;dsimp only[aO,aP];exact xH rfl rfl
def JL(M:Nat->Prop)(w:World)(V2:Nat->Nat->Rat×Rat)(out:Option Nat)(e:Ending)(w':World):Prop:=Below w.heap.size w w'/\match out with
 | some n=>∃vs:List Value,e=.returned (.agg vs.toArray)/\ab M w' (dG (V2 n 0).1 (V2 n 0).2++dG (V2 n 1).1 (V2 n 1).2) vs
 | none=>e=.panicked [{ v:=QS 5,recovered:=false }]
def au3(V:Nat->Rat×Rat)(i:Nat):List aE:=(if 1<=i then dG (V 0).1 (V 0).2 else dG 0 0)++(if 2<=i then dG (V 1).1 (V 1).2 else dG 0 0)
def ae8{M:Nat->Prop}{W:World}{F:Nat->Rat×Rat}:ab M W (au3 F 0) (#[Value.slice none 0 0,.bool false,.slice none 0 0,.slice none 0 0,.bool false,.slice none 0 0,.slice none 0 0,.bool false,.slice none 0 0,.slice none 0 0,.bool false,.slice none 0 0]:Array Value).toList:=by
 have z:=db;have z1:∀v:Value,v=.slice none 0 0->(aE.exact (.slice none 0 0)).rep M W v:=fun v h=>by subst h;exact⟨rfl,rfl⟩
 have e1:=z.1.rep (z1 _ rfl);have e2:=z.2.1.rep (show(aE.bool false).rep M W (.bool false)from⟨rfl,rfl⟩);have e3:=z.2.2.1.rep (z1 _ rfl);exact⟨e1,e2,e3,e1,e2,e3,e1,e2,e3,e1,e2,e3,trivial⟩
def uO{w w' w2:World}{g:Nat}(h:w.grownBy w' (some g))(k:w'.grownBy w2 (some g)):w.grownBy w2 (some g):=
 ⟨k.os.trans h.os,k.tape.trans h.tape,k.output.trans h.output,Nat.le_trans h.size k.size,fun j hj hp=>(k.block j (Nat.lt_of_lt_of_le hj h.size) hp).trans (h.block j hj hp)⟩
structure bW0(M:Nat->Prop)(w6:World)(g:Nat)(k:Int)(p6:Value)(r:Rat)(V:VS)(C:Nat->List aE)(m N:Nat)(F:Nat->Rat×Rat)(i:Nat)(a:Act)(W:World):Prop where
 sz:a.tmps.size=146
 df:a.defers=[]
 tu:w6.grownBy W (some g)
 t2:a.tmps.getD 2 undef=.int .i64 k
 t6:a.tmps.getD 6 undef=p6
 t8:(aE.aj (qC r)).rep (fun b=>M b\/b=g) W (a.tmps.getD 8 undef)
 t9:(aE.slice 6 (vS V)).rep (fun b=>M b\/b=g) W (a.tmps.getD 9 undef)
 t11:(aE.slice 1 ((List.range m).map fun l=>[aE.aj (C l)])).rep (fun b=>M b\/b=g) W (a.tmps.getD 11 undef)
 t12:a.tmps.getD 12 undef=.int .i64 N
 t13:(aE.slice 6 (vd r N)).rep (fun b=>M b\/b=g) W (a.tmps.getD 13 undef)
 t16:a.tmps.getD 16 undef=.pointer (some ⟨g,0,none⟩)
 t81:a.tmps.getD 81 undef=.int .i64 i
 hg:∃cur:Array Value,W.heap[g]?=some (.cells cur 233 (0,0))/\ab (fun b=>M b\/b=g) W (au3 F i) cur.toList
def GM(M:Nat->Prop)(w:World)(hM:cX M w)(E:List (List Rat))(X:Rat)(Y:List Rat)(a b:Rat)(k:Int)(V:VS)(q:List (List Rat))(m:Nat)(lead aB:Rat)(st:Nat){Ns Bs B G BS:Nat}{goal:Rat}{out:Option Nat}(C:bE3 q m lead aB st (an (b-a)) k Ns Bs B G BS goal out)
  (W:Nat) (hVl:V.length=m) (hV:∀p∈V,Fit W p.1/\Fit W p.2) (ha:Fit 513 a) (hb:Fit 513 b)
  (hval:aL prog 234 [fT E X Y,qT (an (a+b)),.one (.int .i64 k)] (.ret [.one (.slice 6 (vS V))])) (hat:aL prog 100 [.one (eQ E),qT (an (a+b))] (.ret [yZ q m lead])) (hre:aL prog 123 [yZ q m lead] (.ret [.agg (vb q m lead aB (st:Nat))])) (hrho:Fit 2097152 aB) (hle:an (b-a)+an (b-a)<=aB)
  (f0 f1 f2 f3 f4 s0 s1 s2 s3 s4 s5:Value) (hf:ab M w (fC E X Y) [f0,f1,f2,f3,f4]) (hs:ab M w (dG a b) [s0,s1,s2,s3,s4,s5]) (hW1:1<=W:=by omega) (hW:W<=805306368:=by omega) :
  Calls prog 170 #[.agg #[f0,f1,f2,f3,f4],.agg #[s0,s1,s2,s3,s4,s5],.int .i64 k] w (JL M w (kG q m lead aB st (an (b-a)) k V) out):=by
 obtain⟨o0,o1,o2,o3,o4⟩:f0.oneCell'=true/\f1.oneCell'=true/\f2.oneCell'=true/\f3.oneCell'=true/\f4.oneCell'=true:=by have:=hf.one;exact⟨this _ (by simp),this _ (by simp),this _ (by simp),this _ (by simp),this _ (by simp)⟩
 obtain⟨p0,p1,p2,p3,p4,p5⟩:s0.oneCell'=true/\s1.oneCell'=true/\s2.oneCell'=true/\s3.oneCell'=true/\s4.oneCell'=true/\s5.oneCell'=true:=by have:=hs.one;exact⟨this _ (by simp),this _ (by simp),this _ (by simp),this _ (by simp),this _ (by simp),this _ (by simp)⟩
 obtain⟨r,hr⟩:∃r,an (b-a)=r:=⟨_,rfl⟩
 rw[hr]at C hle;refine iE func170 rfl ?_;simp only[ntmps170,dW,List.length_cons,bq,Nat.reduceAdd,Nat.reduceSub,dw,dv,du,dz,List.nil_append,List.cons_append];obtain⟨n0,hn0⟩:∃n0,w.heap.size=n0:=⟨_,rfl⟩
 refine wp_seq ?_;generalize hK:Exit.then _ _=K
 go_wp2
 rw[<-hK];clear hK K;obtain⟨W1,hW1'⟩:∃W1,(((w.alloc (.cells #[f0,f1,f2,f3,f4] 42)).alloc (.cells #[s0,s1,s2,s3,s4,s5] 123)).alloc (.cells #[.slice none 0 0,.bool false,.slice none 0 0,.slice none 0 0,.bool false,.slice none 0 0,.slice none 0 0,.bool false,.slice none 0 0,.slice none 0 0,.bool false,.slice none 0 0] 233))=W1:=⟨_,rfl⟩
 have hs1:W1.heap.size=n0+3:=by rw[<-hW1'];simp[hn0]
 have hB1:Below w.heap.size w W1:=by rw[<-hW1'];exact(((cF _ w).alloc (aY _) _).alloc (by simp) _).alloc (by simp;omega) _
 have hF1:W1.heap[n0]?=some (.cells #[f0,f1,f2,f3,f4] 42 (0,0)):=by rw[<-hW1',bM _ _ _ (by simp;omega),bM _ _ _ (by simp;omega),<-hn0];exact bG w _
 have hS1:W1.heap[n0+1]?=some (.cells #[s0,s1,s2,s3,s4,s5] 123 (0,0)):=by
  rw[<-hW1',bM _ _ _ (by simp;omega)];have:=bG (w.alloc (.cells #[f0,f1,f2,f3,f4] 42)) (.cells #[s0,s1,s2,s3,s4,s5] 123)
  rwa[bL,hn0]at this
 have hR1:W1.heap[n0+1+1]?=some (.cells #[.slice none 0 0,.bool false,.slice none 0 0,.slice none 0 0,.bool false,.slice none 0 0,.slice none 0 0,.bool false,.slice none 0 0,.slice none 0 0,.bool false,.slice none 0 0] 233 (0,0)):=by
  rw[<-hW1'];have:=bG ((w.alloc (.cells #[f0,f1,f2,f3,f4] 42)).alloc (.cells #[s0,s1,s2,s3,s4,s5] 123)) (.cells #[.slice none 0 0,.bool false,.slice none 0 0,.slice none 0 0,.bool false,.slice none 0 0,.slice none 0 0,.bool false,.slice none 0 0,.slice none 0 0,.bool false,.slice none 0 0] 233)
  rwa[bL,bL,hn0]at this
 obtain⟨M0,hM0⟩:∃M0:Nat->Prop,∀b,M0 b↔(M b\/b=n0+1+1):=⟨fun b=>M b\/b=n0+1+1,fun _=>Iff.rfl⟩
 have hk01:bP M w M0 W1:=fun b o hb ho _=>by
  have hl:=(cK.1 ho).1;exact⟨fun h=>by rw[hM0]at h;exact h.elim hb (fun e=>O),(hB1.block b hl).trans ho⟩
 have hM1:cX M0 W1:=⟨fun b h=>by
  rw[hM0]at h;rcases h with h | h
  ·have:=hM.1 b h;omega
  ·omega,hM.2.gj hk01⟩
 rw[hW1']
 have nM:∀j,n0<=j->j<n0+2->¬M0 j:=fun j hj hj2 h=>by
  rw[hM0]at h;rcases h with h | h
  ·have:=hM.1 j h;omega
  ·omega
 show Code.wp _ _ _ _ _
 refine FZ (n:=3) (ins:=[(2,.v none),(3,.ref 5),(4,.ref 6),(6,.v none)]) (xs:=[.v (.one (.int .i64 k)),.ref (fC E X Y),.ref (dG a b),.v (.one (.exact (.pointer (some ⟨n0+1+1,0,none⟩))))]) fo ⟨rfl,rfl,rfl,rfl,trivial⟩
  (XI _ E X Y a b k q m lead aB st V ha hb hval hat hre hrho (by rw[hr];exact hle)) (by kernel_rfl) hM1 rfl rfl
  ⟨⟨rfl,rfl⟩,⟨n0,0,_,_,_,rfl,nM _ O O,hF1,hf.mono hk01⟩,⟨n0+1,0,_,_,_,rfl,nM _ O O,hS1,hs.mono hk01⟩,⟨rfl,rfl⟩,trivial⟩ ?_ (by intro c v a' w' h;cases h)
 intro e a' W2 rs us hrs hex hB2 hsz hdf hrun hus;cases hrs;cases e with
 | exit id=>cases hex
 | ret=>cases hex
 | normal=>
 have huse:=jJ hrun;subst huse;have h2:=hus.1;have h6:=hus.2.1;have h8:=hus.2.2.1;have h9:=hus.2.2.2.1;have h10:=hus.2.2.2.2.1;clear hus hrun hex;rw[hr]at h8;have h2:a'.tmps.getD 2 undef=.int .i64 k:=h2.1;have h6:a'.tmps.getD 6 undef=.pointer (some ⟨n0+1+1,0,none⟩):=h6.1;have h8:(aE.aj (qC r)).rep M0 W2 (a'.tmps.getD 8 undef):=h8;have h9:(aE.slice 6 (vS V)).rep M0 W2 (a'.tmps.getD 9 undef):=h9;have h10:(aE.aj (vb q m lead aB (st:Nat))).rep M0 W2 (a'.tmps.getD 10 undef):=h10;obtain⟨t,ds⟩:=a';have hds:ds=[]:=hdf;subst hds;have hsz:t.size=146:=hsz;show Code.wp _ (ry 3 _) _ _ _;simp only[ry];rw[tA t hsz];simp only[]at h2 h6 h8 h9 h10;rw[h2,h6];generalize hv9:t.getD 9 undef=v9 at *;obtain⟨b8,off8,us8,e8,nb8,lt8,hr8,c8⟩:=EF h8;obtain⟨b10,off10,us10,e10,nb10,lt10,hr10,c10⟩:=EF h10;rw[e8,e10];obtain⟨u0,u1,u2,u3,u4,u5,u6,u7,u8,rfl⟩:=aK8 hr10;obtain⟨x0,x1,x2,rfl⟩:=ZA hr8;have hM2:cX M0 W2:=⟨fun b hb=>Nat.lt_of_lt_of_le (hM1.1 b hb) hB2.size,hM1.2.below rfl hB2⟩
 have hbas:=Na M0 W2 hM2 q m lead aB st Ns Bs C.SC C.hNs (by have:=C.hm4;omega) C.hBs C.h64 C.hql C.hp C.hl0 C.hw C.hrho u0 u1 u2 u3 u4 u5 u6 u7 u8 hr10 (by have:=C.hst15;omega) (by have:=C.hm4;have:=C.hN15;omega);have z0:W2.cell? ⟨b10,off10,none⟩=some u0:=c10 0 u0 rfl;have z1:=c10 1 u1 rfl;have z2:=c10 2 u2 rfl;have z3:=c10 3 u3 rfl;have z4:=c10 4 u4 rfl;have z5:=c10 5 u5 rfl;have z6:=c10 6 u6 rfl;have z7:=c10 7 u7 rfl;have z8:=c10 8 u8 rfl
 go_wp2_with (go_at_call 225;refine hbas.mono ?_)
 rintro e w3 bv rfl ps hpl hb3 I;have hw3:=hb3.size;have hB23:=hB1.trans (hB2.mono hB1.size);have y0:w3.cell? ⟨b8,off8,none⟩=some x0:=(wZ (hb3.block b8 lt8)).trans (c8 0 x0 rfl);have y1:w3.cell? ⟨b8,off8+1,none⟩=some x1:=(wZ (hb3.block b8 lt8)).trans (c8 1 x1 rfl);have y2:w3.cell? ⟨b8,off8+2,none⟩=some x2:=(wZ (hb3.block b8 lt8)).trans (c8 2 x2 rfl);have hps:∀b∈ps,W2.heap.size<=b:=fun b hb=>(I.lo b hb).1
 have hlt:∀b,rI M0 ps bv b->M0 b\/W2.heap.size<=b:=by
  rintro b ((h | h) | h)
  ·exact .inl h
  ·exact .inr (hps b h)
  ·exact .inr (I.sl.lt b h).1
 have hk23:bP M0 W2 (rI M0 ps bv) w3:=fun b o hb ho _=>by
  have hl:=(cK.1 ho).1;exact⟨fun h=>(hlt b h).elim hb O,(hb3.block b hl).trans ho⟩
 have hter:=NL Ns Bs M0 W2 w3 hM2 hb3 q m lead aB st r 1 k B G bv ps C.hm1 C.hk goal C.hgq C.T out C.L I hpl C.hst15 C.SC C.hNs C.hN15 (by have:=C.hm4;omega) C.hBs C.h64 C.hql C.hp C.hl0 x0 x1 x2 (hr8.mono hk23)
 go_wp2_with (go_at_call 226;refine hter.mono ?_)
 ·rename_i K1 KK o1 L1 N L2 hK1 hKK;rintro e w5 rfl tu I5;have hB13:=hB23.trans (hb3.mono (by have:=hB23.size;omega));have hB5:Below w.heap.size w w5:=tu.low hB13 hB13.size (fun b hb=>by have:=hps b hb;have:=hB23.size;omega);have hB15:Below W1.heap.size W1 w5:=tu.low (hB2.trans (hb3.mono hB2.size)) (by have:=hB2.size;omega) (fun b hb=>by have:=hps b hb;have:=hB2.size;omega);have hM5:cX M0 w5:=⟨fun b hb=>Nat.lt_of_lt_of_le (hM1.1 b hb) hB15.size,hM1.2.below rfl hB15⟩
  have hk25:bP M0 W2 M0 w5:=fun b o hb ho _=>by
   have hl:=(cK.1 ho).1;exact⟨hb,(tu.block b O (fun h=>by have:=hps b h;omega)).trans ((hb3.block b hl).trans ho)⟩
  have hbs:=Ie I5 hpl (fun k h=>hM2.1 k h);have EC:=C.EC N rfl;have hKH:Halt _:=hK1;clear hK1
  go_wp2
  refine hKH _ _ ?_
  refine FZ (n:=1) (ins:=[(2,.v none),(6,.v none),(8,.ref 3),(9,.v none),(11,.v none),(12,.v none)]) (xs:=[.v (.one (.int .i64 k)),.v (.one (.exact (.pointer (some ⟨n0+1+1,0,none⟩)))),.ref (qC r),.v (.one (.exact v9)),.v (.one (.exact bv)),.v (.one (.int .i64 N))]) fo ⟨rfl,rfl,rfl,rfl,rfl,rfl,trivial⟩
   (bd5 _ v9 bv r k N B aB (EC.yH 0 O) EC.hB EC.n15) (by kernel_rfl) hM5 rfl rfl
   ⟨⟨rfl,rfl⟩,⟨rfl,rfl⟩,by rw[<-e8];exact aE.mono _ hk25 h8,⟨rfl,aE.one _ h9⟩,⟨rfl,aE.one _ hbs⟩,⟨rfl,rfl⟩,trivial⟩ ?_ (by intro c v a' w' h;cases h)
  intro e a' W6 rs us hrs hex hB6 hsz6 hdf6 hrun6 hus6;cases hrs;cases e with
  | exit id=>cases hex
  | ret=>cases hex
  | normal=>
  have huse:=jJ hrun6;subst huse;have q2:a'.tmps.getD 2 undef=.int .i64 k:=hus6.1.1;have q6:a'.tmps.getD 6 undef=.pointer (some ⟨n0+1+1,0,none⟩):=hus6.2.1.1;have q8:(aE.aj (qC r)).rep M0 W6 (a'.tmps.getD 8 undef):=hus6.2.2.1;have q9:a'.tmps.getD 9 undef=v9:=hus6.2.2.2.1.1;have q11:a'.tmps.getD 11 undef=bv:=hus6.2.2.2.2.1.1;have q12:a'.tmps.getD 12 undef=.int .i64 N:=hus6.2.2.2.2.2.1.1;have q13:(aE.slice 6 (vd r N)).rep M0 W6 (a'.tmps.getD 13 undef):=hus6.2.2.2.2.2.2.1;clear hus6 hrun6 hex;obtain⟨t2,ds⟩:=a';have hds:ds=[]:=hdf6;subst hds;have hsz2:t2.size=146:=hsz6;show Code.wp _ (ry 1 _) _ _ _;simp only[ry];simp only[]at q2 q6 q8 q9 q11 q12 q13;rw[tA t2 hsz2,q2,q6,q9,q11,q12];generalize t2.getD 8 undef=x8 at *;generalize t2.getD 13 undef=x13 at *;refine wp_seq ?_;generalize hK:Exit.then _ _=K
  go_wp2
  rw[<-hK];clear hK K;obtain⟨g,hg⟩:∃g,W6.heap.size=g:=⟨_,rfl⟩
  obtain⟨W7,hW7⟩:∃W7,W6.alloc (.cells #[.slice none 0 0,.bool false,.slice none 0 0,.slice none 0 0,.bool false,.slice none 0 0,.slice none 0 0,.bool false,.slice none 0 0,.slice none 0 0,.bool false,.slice none 0 0] 233)=W7:=⟨_,rfl⟩
  rw[hW7,hg];show Code.wp _ _ _ _ _;refine wp_seq ?_;generalize hK:Exit.then _ _=K;refine wp_seq ?_;generalize hK2:Exit.then _ _=K2
  go_wp2
  rw[<-hK2];clear hK2 K2;show Code.wp _ _ _ _ _;refine wp_block ?_;have hB6':Below w.heap.size w W6:=hB5.trans (hB6.mono hB5.size);have hgw:W6.grownBy W7 (some g):=by rw[<-hW7];exact World.grownBy_alloc W6 _ _
  have hG7:W7.heap[g]?=some (.cells #[.slice none 0 0,.bool false,.slice none 0 0,.slice none 0 0,.bool false,.slice none 0 0,.slice none 0 0,.bool false,.slice none 0 0,.slice none 0 0,.bool false,.slice none 0 0] 233 (0,0)):=by rw[<-hW7,<-hg];exact bG W6 _
  have h56:=hB6.size;have h35:=tu.size;have hwn:=hB23.size;have hB16:Below W1.heap.size W1 W6:=hB15.trans (hB6.mono hB15.size)
  have hkw:∀WW:World,W6.grownBy WW (some g)->bP M0 W1 (fun b=>M0 b\/b=g) WW:=fun WW hgr b o hb ho _=>by
   have hl:=(cK.1 ho).1;have h1:=hB16.size;exact⟨fun h=>h.elim hb (fun e=>O),(hgr.block b O (fun e=>by simp only[aI]at e;omega)).trans ((hB16.block b hl).trans ho)⟩
  have hk5:∀WW:World,W6.grownBy WW (some g)->bP M0 w5 (fun b=>M0 b\/b=g) WW:=fun WW hgr b o hb ho _=>by
   have hl:=(cK.1 ho).1;exact⟨fun h=>h.elim hb (fun e=>O),(hgr.block b O (fun e=>by simp only[aI]at e;omega)).trans ((hB6.block b hl).trans ho)⟩
  have hk6:∀WW:World,W6.grownBy WW (some g)->bP M0 W6 (fun b=>M0 b\/b=g) WW:=fun WW hgr b o hb ho _=>by
   have hl:=(cK.1 ho).1;exact⟨fun h=>h.elim hb (fun e=>O),(hgr.block b O (fun e=>by simp only[aI]at e;omega)).trans ho⟩
  have hgsz:g<W7.heap.size:=(cK.1 hG7).1
  have hfine:∀WW:World,W6.grownBy WW (some g)->W7.heap.size<=WW.heap.size->cX (fun b=>M0 b\/b=g) WW:=fun WW hgr hs7=>⟨fun b h=>by
   have h1:=hB16.size;have h2:=hgr.size;rcases h with h | h
   ·have:=hM1.1 b h;omega
   ·omega,hM1.2.gj (hkw WW hgr)⟩
  have h9':=aE.mono _ (hk5 W7 hgw) (aE.mono _ hk25 h9);have h11':=aE.mono _ (hk5 W7 hgw) hbs;have h8':=aE.mono _ (hk6 W7 hgw) q8;have h13':=aE.mono _ (hk6 W7 hgw) q13;obtain⟨W',hW'⟩:∃W',W=W':=⟨_,rfl⟩
  subst hW'
  refine tV (fun n' a' WW=>∃i,n'=2-i/\i<=2/\W7.heap.size<=WW.heap.size/\bW0 M0 W6 g k (.pointer (some ⟨n0+1+1,0,none⟩)) r V (ga q m lead aB st N) m N (kG q m lead aB st r k V N) i a' WW) (2-0)
   ⟨0,rfl,O,aY _,⟨rfl,rfl,hgw,rfl,rfl,h8',h9',h11',rfl,h13',rfl,rfl,_,hG7,ae8⟩⟩ ?_
  rintro n' a' WW ⟨i,rfl,hi,hs7,J⟩;obtain⟨t3,ds⟩:=a';have hds:ds=[]:=J.df;subst hds;rcases(show i=0\/i=1\/i=2 by omega)with rfl | rfl | rfl
  ·obtain⟨cur,hcg,hcr⟩:=J.hg;have hfin:cX (fun b=>M0 b\/b=g) WW:=hfine WW J.tu hs7;rw[tA t3 J.sz,show t3.getD 2 undef=_ from J.t2,show t3.getD 6 undef=_ from J.t6,show t3.getD 12 undef=_ from J.t12,show t3.getD 16 undef=_ from J.t16,show t3.getD 81 undef=_ from J.t81];have j8:(aE.aj (qC r)).rep (fun b=>M0 b\/b=g) WW (t3.getD 8 undef):=J.t8;have j9:(aE.slice 6 (vS V)).rep (fun b=>M0 b\/b=g) WW (t3.getD 9 undef):=J.t9;have j11:(aE.slice 1 ((List.range m).map fun l=>[aE.aj (ga q m lead aB st N l)])).rep (fun b=>M0 b\/b=g) WW (t3.getD 11 undef):=J.t11;have j13:(aE.slice 6 (vd r N)).rep (fun b=>M0 b\/b=g) WW (t3.getD 13 undef):=J.t13;generalize t3.getD 8 undef=y8 at j8|-;generalize t3.getD 9 undef=y9 at j9|-;generalize t3.getD 11 undef=y11 at j11|-;generalize t3.getD 13 undef=y13 at j13|-;refine wp_seq ?_;generalize hK3:Exit.then _ _=K3
   go_wp2
   rw[<-hK3];clear hK3 K3;show Code.wp _ _ _ _ _;refine wp_seq ?_;generalize hK3:Exit.then _ _=K3
   go_wp2
   rw[<-hK3];clear hK3 K3;show Code.wp _ _ _ _ _;refine wp_seq ?_
   refine yP (N:=146) (t0:=16) (T:=233) (n:=12) (M:=fun b=>M0 b\/b=g) (g:=g) (cur:=cur) (cs:=dG 0 0++dG 0 0) (ins:=[(2,.v none),(6,.v none),(8,.ref 3),(9,.v none),(11,.v none),(12,.v none),(13,.v none),(81,.k (.int .i64 0))])
    (xs:=[.v (.one (.int .i64 k)),.v (.one (.exact (.pointer (some ⟨n0+1+1,0,none⟩)))),.ref (qC r),.v (.one (.slice 6 (vS V))),.v (.one (.slice 1 ((List.range m).map fun l=>[.aj (ga q m lead aB st N l)]))),.v (.one (.int .i64 N)),.v (.one (.slice 6 (vd r N))),.v (.one (.int .i64 0))]) fo ⟨rfl,rfl,rfl,rfl,rfl,rfl,rfl,rfl,trivial⟩
    (aH6 _ q m lead aB st r k V N B BS G W EC C.hm4 C.hk hVl hV hW1 hW C.r0 (0,0)) (by kernel_rfl)
    hfin (.inr rfl) rfl rfl rfl ⟨⟨rfl,rfl⟩,⟨rfl,rfl⟩,j8,j9,j11,⟨rfl,rfl⟩,j13,⟨rfl,rfl⟩,trivial⟩ rfl hcg hcr ?_
   intro a' w' us cur' hg' hsz' hdf' hrun' hh' hres hrep' ht16;have huse:=jJ hrun';subst huse;obtain⟨t4,ds⟩:=a';have hds:ds=[]:=hdf';subst hds;have l2:t4.getD 2 undef=.int .i64 k:=hres.1.1;have l6:t4.getD 6 undef=.pointer (some ⟨n0+1+1,0,none⟩):=hres.2.1.1;have l8:(aE.aj (qC r)).rep (fun b=>M0 b\/b=g) w' (t4.getD 8 undef):=hres.2.2.1;have l9:(aE.slice 6 (vS V)).rep (fun b=>M0 b\/b=g) w' (t4.getD 9 undef):=hres.2.2.2.1;have l11:(aE.slice 1 ((List.range m).map fun l=>[aE.aj (ga q m lead aB st N l)])).rep (fun b=>M0 b\/b=g) w' (t4.getD 11 undef):=hres.2.2.2.2.1;have l12:t4.getD 12 undef=.int .i64 N:=hres.2.2.2.2.2.1.1;have l13:(aE.slice 6 (vd r N)).rep (fun b=>M0 b\/b=g) w' (t4.getD 13 undef):=hres.2.2.2.2.2.2.1;have l81:t4.getD 81 undef=.int .i64 0:=hres.2.2.2.2.2.2.2.1.1;have l16:t4.getD 16 undef=.pointer (some ⟨g,0,none⟩):=ht16;have hsz4:t4.size=146:=hsz';show Code.wp _ _ _ _ _;rw[tA t4 hsz4,l2,l6,l12,l16,l81];generalize t4.getD 8 undef=z8 at l8|-;generalize t4.getD 9 undef=z9 at l9|-;generalize t4.getD 11 undef=z11 at l11|-;generalize t4.getD 13 undef=z13 at l13|-;clear hres hrun' j8 j9 j11 j13
   go_wp2
   exact⟨2-(0+1),O,0+1,rfl,O,Nat.le_trans hs7 hg'.size,⟨rfl,rfl,uO J.tu hg',rfl,rfl,l8,l9,l11,rfl,l13,rfl,rfl,cur',hh',hrep'⟩⟩
  ·obtain⟨cur,hcg,hcr⟩:=J.hg;have hfin:cX (fun b=>M0 b\/b=g) WW:=hfine WW J.tu hs7;rw[tA t3 J.sz,show t3.getD 2 undef=_ from J.t2,show t3.getD 6 undef=_ from J.t6,show t3.getD 12 undef=_ from J.t12,show t3.getD 16 undef=_ from J.t16,show t3.getD 81 undef=_ from J.t81];have j8:(aE.aj (qC r)).rep (fun b=>M0 b\/b=g) WW (t3.getD 8 undef):=J.t8;have j9:(aE.slice 6 (vS V)).rep (fun b=>M0 b\/b=g) WW (t3.getD 9 undef):=J.t9;have j11:(aE.slice 1 ((List.range m).map fun l=>[aE.aj (ga q m lead aB st N l)])).rep (fun b=>M0 b\/b=g) WW (t3.getD 11 undef):=J.t11;have j13:(aE.slice 6 (vd r N)).rep (fun b=>M0 b\/b=g) WW (t3.getD 13 undef):=J.t13;generalize t3.getD 8 undef=y8 at j8|-;generalize t3.getD 9 undef=y9 at j9|-;generalize t3.getD 11 undef=y11 at j11|-;generalize t3.getD 13 undef=y13 at j13|-;refine wp_seq ?_;generalize hK3:Exit.then _ _=K3
   go_wp2
   rw[<-hK3];clear hK3 K3;show Code.wp _ _ _ _ _;refine wp_seq ?_;generalize hK3:Exit.then _ _=K3
   go_wp2
   rw[<-hK3];clear hK3 K3;show Code.wp _ _ _ _ _;refine wp_seq ?_
   refine yP (N:=146) (t0:=16) (T:=233) (n:=12) (M:=fun b=>M0 b\/b=g) (g:=g) (cur:=cur) (cs:=dG (kG q m lead aB st r k V N 0).1 (kG q m lead aB st r k V N 0).2++dG 0 0) (ins:=[(2,.v none),(6,.v none),(8,.ref 3),(9,.v none),(11,.v none),(12,.v none),(13,.v none),(81,.k (.int .i64 1))])
    (xs:=[.v (.one (.int .i64 k)),.v (.one (.exact (.pointer (some ⟨n0+1+1,0,none⟩)))),.ref (qC r),.v (.one (.slice 6 (vS V))),.v (.one (.slice 1 ((List.range m).map fun l=>[.aj (ga q m lead aB st N l)]))),.v (.one (.int .i64 N)),.v (.one (.slice 6 (vd r N))),.v (.one (.int .i64 1))]) fo ⟨rfl,rfl,rfl,rfl,rfl,rfl,rfl,rfl,trivial⟩
    (aC9 _ q m lead aB st r k V N B BS G W EC C.hm4 C.hk hVl hV hW1 hW C.r0 (kG q m lead aB st r k V N 0)) (by kernel_rfl)
    hfin (.inr rfl) rfl rfl rfl ⟨⟨rfl,rfl⟩,⟨rfl,rfl⟩,j8,j9,j11,⟨rfl,rfl⟩,j13,⟨rfl,rfl⟩,trivial⟩ rfl hcg hcr ?_
   intro a' w' us cur' hg' hsz' hdf' hrun' hh' hres hrep' ht16;have huse:=jJ hrun';subst huse;obtain⟨t4,ds⟩:=a';have hds:ds=[]:=hdf';subst hds;have l2:t4.getD 2 undef=.int .i64 k:=hres.1.1;have l6:t4.getD 6 undef=.pointer (some ⟨n0+1+1,0,none⟩):=hres.2.1.1;have l8:(aE.aj (qC r)).rep (fun b=>M0 b\/b=g) w' (t4.getD 8 undef):=hres.2.2.1;have l9:(aE.slice 6 (vS V)).rep (fun b=>M0 b\/b=g) w' (t4.getD 9 undef):=hres.2.2.2.1;have l11:(aE.slice 1 ((List.range m).map fun l=>[aE.aj (ga q m lead aB st N l)])).rep (fun b=>M0 b\/b=g) w' (t4.getD 11 undef):=hres.2.2.2.2.1;have l12:t4.getD 12 undef=.int .i64 N:=hres.2.2.2.2.2.1.1;have l13:(aE.slice 6 (vd r N)).rep (fun b=>M0 b\/b=g) w' (t4.getD 13 undef):=hres.2.2.2.2.2.2.1;have l81:t4.getD 81 undef=.int .i64 1:=hres.2.2.2.2.2.2.2.1.1;have l16:t4.getD 16 undef=.pointer (some ⟨g,0,none⟩):=ht16;have hsz4:t4.size=146:=hsz';show Code.wp _ _ _ _ _;rw[tA t4 hsz4,l2,l6,l12,l16,l81];generalize t4.getD 8 undef=z8 at l8|-;generalize t4.getD 9 undef=z9 at l9|-;generalize t4.getD 11 undef=z11 at l11|-;generalize t4.getD 13 undef=z13 at l13|-;clear hres hrun' j8 j9 j11 j13
   go_wp2
   exact⟨2,rfl,O,Nat.le_trans hs7 hg'.size,⟨rfl,rfl,uO J.tu hg',rfl,rfl,l8,l9,l11,rfl,l13,rfl,rfl,cur',hh',hrep'⟩⟩
  ·skip
   obtain⟨cur,hcg,hcr⟩:=J.hg;have hcl:cur.toList.length=12:=hcr.length.symm;rw[tA t3 J.sz,show t3.getD 6 undef=_ from J.t6,show t3.getD 16 undef=_ from J.t16,show t3.getD 81 undef=_ from J.t81]
   go_wp2
   rw[<-hK];show Code.wp _ _ _ _ _;refine wp_seq ?_;have hgM:¬M0 g:=fun h=>by have:=hM1.1 g h;have:=hB16.size;omega
   have hfW:cX M0 WW:=(hfine WW J.tu hs7).sub fun b h=>.inl h
   have hblk:WW.heap[n0+1+1]?=some (.cells #[.slice none 0 0,.bool false,.slice none 0 0,.slice none 0 0,.bool false,.slice none 0 0,.slice none 0 0,.bool false,.slice none 0 0,.slice none 0 0,.bool false,.slice none 0 0] 233 (0,0)):=by
    have h1:=hB16.size;exact(J.tu.block _ O (fun e=>by simp only[aI]at e;omega)).trans ((hB16.block _ O).trans hR1)
   refine yP (N:=146) (t0:=6) (T:=233) (n:=12) (M:=M0) (g:=n0+1+1) (cs:=dG 0 0++dG 0 0) (ins:=[(16,.ref 12)]) (xs:=[.ref (au3 (kG q m lead aB st r k V N) 2)]) fo ⟨rfl,trivial⟩
    (aW7 (au3 (kG q m lead aB st r k V N) 2) (dG 0 0++dG 0 0) rfl rfl) (by kernel_rfl)
    hfW (by rw[hM0];exact .inr rfl) rfl rfl rfl ⟨⟨g,0,cur,233,(0,0),rfl,hgM,hcg,by
     rw[eF,List.take_of_length_le (by rw[hcl];exact aY _)];exact hcr.mono fun b o hb ho _=>⟨fun h=>hb (.inl h),ho⟩⟩,trivial⟩ rfl hblk (ae8 (F:=fun _=>(0,0))) ?_
   intro a' w' us cur' hg' hsz' hdf' hrun' hh' hres hrep' ht6;obtain⟨t4,ds⟩:=a';have hds:ds=[]:=hdf';subst hds;have l6:t4.getD 6 undef=.pointer (some ⟨n0+1+1,0,none⟩):=ht6;have hsz4:t4.size=146:=hsz';have hc12:=hrep'.length;obtain⟨c0,c1,c2,c3,c4,c5,c6,c7,c8,c9,c10,c11,hcc⟩:=KO hc12.symm;have hcur:cur'=#[c0,c1,c2,c3,c4,c5,c6,c7,c8,c9,c10,c11]:=by rw[<-Array.toArray_toList (xs:=cur'),hcc]
   rw[hcc]at hrep';rw[hcur]at hh'
   have hB9:Below w.heap.size w w':=⟨by rw[hg'.os,J.tu.os,hB6'.os],by rw[hg'.tape,J.tu.tape,hB6'.tape],by rw[hg'.output,J.tu.output,hB6'.output],by have h1:=hg'.size;have h2:=J.tu.size;have h3:=hB6'.size;omega,fun j hj=>by
    have h2:=J.tu.size;have h3:=hB6'.size;rw[hg'.block j O (fun e=>by simp only[aI]at e;omega),J.tu.block j O (fun e=>by simp only[aI]at e;omega),hB6'.block j hj]⟩
   have hrepM:=hrep'.mono (M':=M) (w':=w') fun b o hb ho _=>⟨fun h=>hb ((hM0 b).2 (.inl h)),ho⟩
   have d0:w'.cell? ⟨n0+1+1,0,none⟩=some c0:=aD hh' rfl;have d1:w'.cell? ⟨n0+1+1,1,none⟩=some c1:=aD hh' rfl;have d2:w'.cell? ⟨n0+1+1,2,none⟩=some c2:=aD hh' rfl;have d3:w'.cell? ⟨n0+1+1,3,none⟩=some c3:=aD hh' rfl;have d4:w'.cell? ⟨n0+1+1,4,none⟩=some c4:=aD hh' rfl;have d5:w'.cell? ⟨n0+1+1,5,none⟩=some c5:=aD hh' rfl;have d6:w'.cell? ⟨n0+1+1,6,none⟩=some c6:=aD hh' rfl;have d7:w'.cell? ⟨n0+1+1,7,none⟩=some c7:=aD hh' rfl;have d8:w'.cell? ⟨n0+1+1,8,none⟩=some c8:=aD hh' rfl;have d9:w'.cell? ⟨n0+1+1,9,none⟩=some c9:=aD hh' rfl;have d10:w'.cell? ⟨n0+1+1,10,none⟩=some c10:=aD hh' rfl;have d11:w'.cell? ⟨n0+1+1,11,none⟩=some c11:=aD hh' rfl;show Code.wp _ _ _ _ _;rw[tA t4 hsz4,l6];clear hrep' hres hrun' hcc hcr hcg J hK;rw[hr];have hpost:JL M w (kG q m lead aB st r k V) (some N) (.returned (.agg #[c0,c1,c2,c3,c4,c5,c6,c7,c8,c9,c10,c11])) w':=⟨hB9,_,rfl,hrepM⟩
   generalize JL M w (kG q m lead aB st r k V) (some N)=post at *
   go_wp2
   simp[bodyPost,results,show f170.results=#[.cell 6 233]from rfl,go_sem,d0,d1,d2,d3,d4,d5,d6,d7,d8,d9,d10,d11];exact hpost
 ·rintro e w5 rfl hb5;exact⟨rfl,hB23.trans (hb5.mono (by have:=hB23.size;omega)),rfl⟩
end Go.Sy
namespace Go.Sy
open Go Go.Proofs Go.RowKit Tryz Ord
attribute [local go_sem] Oper.semAt_some
def Ds(M:Nat->Prop)(w:World)(hM:cX M w)(E:List (List Rat))(X:Rat)(Y:List Rat)(a b:Rat)(k er:Int)
  (hvc:∀v6:Value,vc prog (fun o=>ep o (.pan (CD er))) (kr prog 146 (fun _=>none) (cd [1] (dr f170)) [(2,.v none),(3,.ref 5),(4,.ref 6),(6,.v none)] ([2,6,8,9,10].map ResultVar.tmp) (some 3) false) ([.v (.one (.int .i64 k)),.ref (fC E X Y),.ref (dG a b),.v (.one (.exact v6))].map In.env) [])
  (f0 f1 f2 f3 f4 s0 s1 s2 s3 s4 s5:Value) (hf:ab M w (fC E X Y) [f0,f1,f2,f3,f4]) (hs:ab M w (dG a b) [s0,s1,s2,s3,s4,s5]) :
  Calls prog 170 #[.agg #[f0,f1,f2,f3,f4],.agg #[s0,s1,s2,s3,s4,s5],.int .i64 k] w fun e w'=>Below w.heap.size w w'/\e=.panicked [{ v:=QS er,recovered:=false }]:=by
 obtain⟨o0,o1,o2,o3,o4⟩:f0.oneCell'=true/\f1.oneCell'=true/\f2.oneCell'=true/\f3.oneCell'=true/\f4.oneCell'=true:=by have:=hf.one;exact⟨this _ (by simp),this _ (by simp),this _ (by simp),this _ (by simp),this _ (by simp)⟩
 obtain⟨p0,p1,p2,p3,p4,p5⟩:s0.oneCell'=true/\s1.oneCell'=true/\s2.oneCell'=true/\s3.oneCell'=true/\s4.oneCell'=true/\s5.oneCell'=true:=by have:=hs.one;exact⟨this _ (by simp),this _ (by simp),this _ (by simp),this _ (by simp),this _ (by simp),this _ (by simp)⟩
 refine iE func170 rfl ?_;simp only[ntmps170,dW,List.length_cons,bq,Nat.reduceAdd,Nat.reduceSub,dw,dv,du,dz,List.nil_append,List.cons_append];obtain⟨n0,hn0⟩:∃n0,w.heap.size=n0:=⟨_,rfl⟩
 refine wp_seq ?_;generalize hK:Exit.then _ _=K
 go_wp2
 rw[<-hK];clear hK K;obtain⟨W1,hW1'⟩:∃W1,(((w.alloc (.cells #[f0,f1,f2,f3,f4] 42)).alloc (.cells #[s0,s1,s2,s3,s4,s5] 123)).alloc (.cells #[.slice none 0 0,.bool false,.slice none 0 0,.slice none 0 0,.bool false,.slice none 0 0,.slice none 0 0,.bool false,.slice none 0 0,.slice none 0 0,.bool false,.slice none 0 0] 233))=W1:=⟨_,rfl⟩
 have hs1:W1.heap.size=n0+3:=by rw[<-hW1'];simp[hn0]
 have hB1:Below w.heap.size w W1:=by rw[<-hW1'];exact(((cF _ w).alloc (aY _) _).alloc (by simp) _).alloc (by simp;omega) _
 have hF1:W1.heap[n0]?=some (.cells #[f0,f1,f2,f3,f4] 42 (0,0)):=by rw[<-hW1',bM _ _ _ (by simp;omega),bM _ _ _ (by simp;omega),<-hn0];exact bG w _
 have hS1:W1.heap[n0+1]?=some (.cells #[s0,s1,s2,s3,s4,s5] 123 (0,0)):=by
  rw[<-hW1',bM _ _ _ (by simp;omega)];have:=bG (w.alloc (.cells #[f0,f1,f2,f3,f4] 42)) (.cells #[s0,s1,s2,s3,s4,s5] 123)
  rwa[bL,hn0]at this
 have hR1:W1.heap[n0+1+1]?=some (.cells #[.slice none 0 0,.bool false,.slice none 0 0,.slice none 0 0,.bool false,.slice none 0 0,.slice none 0 0,.bool false,.slice none 0 0,.slice none 0 0,.bool false,.slice none 0 0] 233 (0,0)):=by
  rw[<-hW1'];have:=bG ((w.alloc (.cells #[f0,f1,f2,f3,f4] 42)).alloc (.cells #[s0,s1,s2,s3,s4,s5] 123)) (.cells #[.slice none 0 0,.bool false,.slice none 0 0,.slice none 0 0,.bool false,.slice none 0 0,.slice none 0 0,.bool false,.slice none 0 0,.slice none 0 0,.bool false,.slice none 0 0] 233)
  rwa[bL,bL,hn0]at this
 obtain⟨M0,hM0⟩:∃M0:Nat->Prop,∀b,M0 b↔(M b\/b=n0+1+1):=⟨fun b=>M b\/b=n0+1+1,fun _=>Iff.rfl⟩
 have hk01:bP M w M0 W1:=fun b o hb ho _=>by
  have hl:=(cK.1 ho).1;exact⟨fun h=>by rw[hM0]at h;exact h.elim hb (fun e=>O),(hB1.block b hl).trans ho⟩
 have hM1:cX M0 W1:=⟨fun b h=>by
  rw[hM0]at h;rcases h with h | h
  ·have:=hM.1 b h;omega
  ·omega,hM.2.gj hk01⟩
 rw[hW1']
 have nM:∀j,n0<=j->j<n0+2->¬M0 j:=fun j hj hj2 h=>by
  rw[hM0]at h;rcases h with h | h
  ·have:=hM.1 j h;omega
  ·omega
 show Code.wp _ _ _ _ _
 refine FZ (n:=3) (ins:=[(2,.v none),(3,.ref 5),(4,.ref 6),(6,.v none)]) (xs:=[.v (.one (.int .i64 k)),.ref (fC E X Y),.ref (dG a b),.v (.one (.exact (.pointer (some ⟨n0+1+1,0,none⟩))))]) fo ⟨rfl,rfl,rfl,rfl,trivial⟩
  (hvc _) (by kernel_rfl) hM1 rfl rfl
  ⟨⟨rfl,rfl⟩,⟨n0,0,_,_,_,rfl,nM _ O O,hF1,hf.mono hk01⟩,⟨n0+1,0,_,_,_,rfl,nM _ O O,hS1,hs.mono hk01⟩,⟨rfl,rfl⟩,trivial⟩ (fun e a' w' rs us h=>by cases h) ?_
 intro c v a' w' h hdf hB2 hv;cases h;have hv:v=QS er:=hv.1;subst hv;exact⟨hdf,hB1.trans (hB2.mono hB1.size),rfl⟩
def uX(E:List (List Rat))(c r:Rat)(k:Int)(v:Option VS):Except Int (Nat->Rat×Rat):=match v with
 | none=>.error 5
 | some V=>match ba (aV E c) (E.length-1) (aF E c)with
   | none=>.error 5
   | some (aB,st)=>if r+r<=aB then(match dm E c aB st r 1 k with
     | none=>.error 5
     | some n=>.ok (kG (aV E c) (E.length-1) (aF E c) aB st r k V n))
     else .error 14
def Hr{E:List (List Rat)}{c:Rat}(h:ba (aV E c) (E.length-1) (aF E c)=none):km E c=.pan (CD 5):=by unfold km;rw[h]
def Gm{E:List (List Rat)}{c aB:Rat}{st:Nat}(h:ba (aV E c) (E.length-1) (aF E c)=some (aB,st)):km E c=.ret [.agg (vb (aV E c) (E.length-1) (aF E c) aB (st:Nat))]:=by unfold km;rw[h]
def vE{E:List (List Rat)}{c r:Rat}{k:Int}{V:VS}(h:ba (aV E c) (E.length-1) (aF E c)=none):uX E c r k (some V)=.error 5:=by unfold uX;rw[h]
def xy{E:List (List Rat)}{c r aB:Rat}{st:Nat}{k:Int}{V:VS}(h:ba (aV E c) (E.length-1) (aF E c)=some (aB,st))(hle:¬r+r<=aB):uX E c r k (some V)=.error 14:=by unfold uX;rw[h];exact if_neg hle
theorem um{E:List (List Rat)}{c r aB:Rat}{st:Nat}{k:Int}{V:VS}(h:ba (aV E c) (E.length-1) (aF E c)=some (aB,st))(hle:r+r<=aB):uX E c r k (some V)=(match dm E c aB st r 1 k with
        | none=>.error 5
        | some n=>.ok (kG (aV E c) (E.length-1) (aF E c) aB st r k V n)):=by unfold uX;rw[h];exact if_pos hle
def Ry:Except Int (Nat->Rat×Rat)->Out
 | .ok F=>.ret [.agg (dG (F 0).1 (F 0).2++dG (F 1).1 (F 1).2)]
 | .error e=>.pan (CD e)
section
variable{E:List (List Rat)}{ER:List (List RQ)}{X:Rat}{XR:RQ}
def SmallX.bW7(h:SmallX E ER X XR)(hr:gT E X){aB r:Rat}{st:Nat}{k:Int}(S:kq E X aB st r k)(hr0:0<=r) :
  bE3 (aV E X) (E.length-1) (aF E X) aB st r k 4096 (Oe) 200000000 211000000 40000000 (qD k) (dm E X aB st r 1 k):=by
 have C:=h.WC hr S;obtain⟨hl2,h5,hld,_⟩:=hr.facts;have T:=h.ag8 hr S;have L:=h.TC hr S (d:=1) (aY 1);have ha:r.abs=r:=by unfold Rat.abs;rw[if_pos hr0]
 rw[ha]at T L;exact⟨C.hm1,O,C.hk,C.hgq,T,L,fun N hN=>h.bL8 hr S hr0 (L.some N hN).1 (L.some N hN).2,hr0,C.hst15,C.SC,C.hNs,C.hN15,C.hBs,C.h64,C.hql,C.hp,C.hl0,C.hw,C.hrho⟩
def TF{E:List (List Rat)}{x:Rat}{k:Int}{H W:Nat}{Inv:Nat->Rat->VS->Prop}(P:Mh E x k H W Inv){w:VS}:∀f c v,Inv f c v->fh E x k f c v=some w->∃g,Inv g x w:=by
 intro f
 induction f with
 | zero=>
   intro c v hI h;by_cases hc:c=x
   ·subst hc;rw[qE]at h;obtain rfl:=lL h;exact⟨_,hI⟩
   ·rw[qR hc]at h;cases h
 | succ f ih=>
   intro c v hI h;by_cases hc:c=x
   ·subst hc;rw[qE]at h;obtain rfl:=lL h;exact⟨_,hI⟩
   ·cases hm:uF E x k c with
    | none=>rw[qW _ hc hm]at h;cases h
    | some z=>
      obtain⟨t,M⟩:=z;rw[qk f hc hm]at h;exact ih _ _ (P.next f c v t M hI hc hm) h
def SmallX.bS8(h:SmallX E ER X XR){Y:List Rat}{a b:Rat}{k:Int}(hk:k<=256)(F:Wg E X (an (a+b)))(hrt:rK (an (b-a)))(hr0:0<=an (b-a))(ha:Fit 513 a)(hb:Fit 513 b)(hyl:Y.length=E.length-1)(hyf:∀y∈Y,Fit 2000 y) :
  aL prog 170 [fT E X Y,ow a b,.one (.int .i64 k)] (Ry (uX E (an (a+b)) (an (b-a)) k (fh E (an (a+b)) k 64 X (Ww Y)))):=by
 obtain⟨l2,l5,_,_⟩:=F.hr.facts;have P:=h.bs5 F hk;have I0:=Wl.first F (v0:=Ww Y) (by rw[aR];exact hyl) (fun p hp=>by obtain⟨y,hy,rfl⟩:=gn.1 hp;exact⟨hyf y hy,hyf y hy⟩);have hval:=Ja E X Y (an (a+b)) k 12000000 768021200 _ P hk l2 l5 (F.xb.fit.mono O) I0;refine⟨bJ (by kernel_rfl),fun M w vs hM hv=>?_⟩
 match vs,hv with
 | [fv,sv,kv],hv=>
   obtain⟨us,rfl,hus⟩:=hv.1;obtain⟨u0,u1,u2,u3,u4,rfl⟩:=aB0 hus;obtain⟨ss,rfl,hss⟩:=hv.2.1;obtain⟨s0,s1,s2,s3,s4,s5,rfl⟩:=by5 hss;have hkv:kv=.int .i64 k:=hv.2.2.1.1;subst hkv
   have pan:∀er:Int,(∀v6:Value,vc prog (fun o=>ep o (.pan (CD er))) (kr prog 146 (fun _=>none) (cd [1] (dr f170)) [(2,.v none),(3,.ref 5),(4,.ref 6),(6,.v none)] ([2,6,8,9,10].map ResultVar.tmp) (some 3) false) ([.v (.one (.int .i64 k)),.ref (fC E X Y),.ref (dG a b),.v (.one (.exact v6))].map In.env) []) ->
     Calls prog 170 #[.agg #[u0,u1,u2,u3,u4],.agg #[s0,s1,s2,s3,s4,s5],.int .i64 k] w fun e w'=>Below w.heap.size w w'/\qM M w' (Ry (.error er)) e:=fun er hvc=>
    (Ds M w hM E X Y a b k er hvc u0 u1 u2 u3 u4 s0 s1 s2 s3 s4 s5 hus hss).mono fun e w' hp=>⟨hp.1,QS er,hp.2,rfl,rfl⟩
   cases hv:fh E (an (a+b)) k 64 X (Ww Y)with
   | none=>
     rw[hv]at hval;exact pan 5 fun v6=>ap2 v6 E X Y a b k [] 0 0 0 0 [] ha hb hval
   | some V=>
     rw[hv]at hval;obtain⟨g,hI⟩:=TF P 64 _ _ I0 hv;have hc:=h.at (hI.on.Pr F.xd h.xb F.xb);have hat:=yE hc hI.reg;have hre:=qd hc hI.reg;have hVW:∀p∈V,Fit 768021200 p.1/\Fit 768021200 p.2:=fun p hp=>⟨(hI.vf p hp).1.mono oe.2,(hI.vf p hp).2.mono oe.2⟩
     have hVl:=hI.vl;obtain⟨o,hrv⟩:∃o,ba (aV E (an (a+b))) (E.length-1) (aF E (an (a+b)))=o:=⟨_,rfl⟩
     cases o with
     | none=>
       rw[Hr hrv]at hre;rw[vE hrv];exact pan 5 fun v6=>aD1 v6 E X Y a b k _ _ _ 0 0 V ha hb hval hat hre
     | some z=>
       obtain⟨aB,st⟩:=z;rw[Gm hrv]at hre;obtain⟨hh,hh62,hrho,_,_⟩:=eO hrv;have hrf:Fit 2097152 aB:=by rw[hrho];exact(eJ hrt hh62 (n:=1) (d:=0) O O (aY _)).o1
       by_cases hle:an (b-a)+an (b-a)<=aB
       ·have S:kq E (an (a+b)) aB st (an (b-a)) k:=Sf hI.reg hrv hrt (by
         unfold Rat.abs;rw[if_pos hr0];grind) hk
        have K:=hc.bW7 hI.reg S hr0;have hin:=GM M w hM E X Y a b k V _ _ _ aB st K 768021200 hVl hVW ha hb hval hat hre hrf hle u0 u1 u2 u3 u4 s0 s1 s2 s3 s4 s5 hus hss;refine hin.mono ?_;rintro e w' ⟨hb1,h2⟩;refine⟨hb1,?_⟩;rw[um hrv hle];cases ht:dm E (an (a+b)) aB st (an (b-a)) 1 k with
        | none=>
          rw[ht]at h2;exact⟨QS 5,h2,rfl,rfl⟩
        | some n=>
          rw[ht]at h2;obtain⟨vs,rfl,hr⟩:=h2;exact⟨[.agg vs.toArray],rfl,⟨vs,rfl,hr⟩,trivial⟩
       ·rw[xy hrv hle];exact pan 14 fun v6=>aq2 v6 E X Y a b k _ _ _ aB st V ha hb hval hat hre hrf hle
 | [],hv=>exact hv.elim
 | [_],hv=>exact hv.2.elim
 | [_,_],hv=>exact hv.2.2.elim
 | _::_::_::_::_,hv=>exact hv.2.2.2.elim
end
end Go.Sy
