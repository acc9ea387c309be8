/- Steps. -/
import Derived.Test.YtdmcadckdnnglaaGreatDoorHa
import Derived.Test.YtdmcadckdnnglaaGreatDoorGb
set_option linter.unusedVariables false
set_option linter.unusedSimpArgs false
namespace Go.Sy
open Go Go.Proofs Go.RowKit Tryz Ord
attribute [local go_sem] Oper.semAt_some
def DT:Tr:=.retr [(W 0 0),(W 1 0),(W 2 0),(W 3 0)] 9
def Eu:Tr:=.need (.strow 4 14 (.k (.int .i64 (0))) 10 [(.u 8 0)]) (.store 40 (.tmp 66) (.tmp 64)) 0 false DT
def DL:Tr:=.need (.call 101 [(.agg [(U 5 0),(U 5 1),(U 5 2),(U 5 3),(U 5 4)]),(W 6 0),(W 7 0)] [none]) (.call ⟨.value (.func 101),#[(.tmp 58),(.tmp 62),(.tmp 63)],#[171,40,3]⟩) 40 true Eu
def Ey:Tr:=.need (.prim [(W 0 0)] none) (.load 3 (.tmp 10)) 3 false DL
def Eo:Tr:=.need (.ldrow 4 (.k (.int .i64 (0))) 9 1 false) (.load 40 (.tmp 61)) 40 false Ey
def DX:Tr:=.need (.ldrow 4 (.k (.int .i64 (0))) 0 5 true) (.load 171 (.tmp 57)) 171 false Eo
theorem Ju:Qo prog 69 (fun _=>none) (gS [1,1,1,1,1,1,0,1,0,0,1,1,0,0,1] (oX f226)) [(10, .v none),(47, .v none),(48, .v none),(49, .v none)] 15 266 14 ([10,47,48,49].map ResultVar.tmp)=DX:=by kernel_rfl
def DR:Tr:=.ret [(W 0 0),(.one (.ref 0 [(.u 1 0),(.u 1 1),(.u 1 2)])),(.one (.ref 0 [(.u 2 0)])),(.one (.ref 0 [(.u 6 0),(.u 6 1),(.u 6 2)]))]
def Ew:Tr:=.need (.call 36 [(.agg [(U 4 0),(U 4 1),(U 4 2)]),(.agg [(U 5 0),(U 5 1),(U 5 2)])] [(some 3)]) (.call ⟨.value (.func 36),#[(.tmp 17),(.tmp 18)],#[39,39]⟩) 39 true DR
def Er:Tr:=.need (.call 202 [(WK (2))] [(some 3)]) (.call ⟨.value (.func 202),#[(.const (I3 (2)))],#[3]⟩) 39 true Ew
def Eg:Tr:=.need (.call 202 [(W 3 0)] [(some 3)]) (.call ⟨.value (.func 202),#[(.tmp 16)],#[3]⟩) 39 true Er
theorem HV:Ai prog 69 (fun _=>none) (gS [] (oX f226)) [(0, .v none),(1, .v (some 3)),(2, .v none),(3, .v none)] ([0,5,6,9].map ResultVar.tmp) (some 1) false=Eg:=by kernel_rfl
theorem Ff (t:Array Value) (h:t.size=69):t = #[t.getD 0 Go.undef,t.getD 1 Go.undef,t.getD 2 Go.undef,t.getD 3 Go.undef,t.getD 4 Go.undef,t.getD 5 Go.undef,t.getD 6 Go.undef,t.getD 7 Go.undef,t.getD 8 Go.undef,t.getD 9 Go.undef,t.getD 10 Go.undef,t.getD 11 Go.undef,t.getD 12 Go.undef,t.getD 13 Go.undef,t.getD 14 Go.undef,t.getD 15 Go.undef,t.getD 16 Go.undef,t.getD 17 Go.undef,t.getD 18 Go.undef,t.getD 19 Go.undef,t.getD 20 Go.undef,t.getD 21 Go.undef,t.getD 22 Go.undef,t.getD 23 Go.undef,t.getD 24 Go.undef,t.getD 25 Go.undef,t.getD 26 Go.undef,t.getD 27 Go.undef,t.getD 28 Go.undef,t.getD 29 Go.undef,t.getD 30 Go.undef,t.getD 31 Go.undef,t.getD 32 Go.undef,t.getD 33 Go.undef,t.getD 34 Go.undef,t.getD 35 Go.undef,t.getD 36 Go.undef,t.getD 37 Go.undef,t.getD 38 Go.undef,t.getD 39 Go.undef,t.getD 40 Go.undef,t.getD 41 Go.undef,t.getD 42 Go.undef,t.getD 43 Go.undef,t.getD 44 Go.undef,t.getD 45 Go.undef,t.getD 46 Go.undef,t.getD 47 Go.undef,t.getD 48 Go.undef,t.getD 49 Go.undef,t.getD 50 Go.undef,t.getD 51 Go.undef,t.getD 52 Go.undef,t.getD 53 Go.undef,t.getD 54 Go.undef,t.getD 55 Go.undef,t.getD 56 Go.undef,t.getD 57 Go.undef,t.getD 58 Go.undef,t.getD 59 Go.undef,t.getD 60 Go.undef,t.getD 61 Go.undef,t.getD 62 Go.undef,t.getD 63 Go.undef,t.getD 64 Go.undef,t.getD 65 Go.undef,t.getD 66 Go.undef,t.getD 67 Go.undef,t.getD 68 Go.undef]:=(sF t 69 h).trans rfl
theorem ZQ (v10 v47:Value) (i:Nat) (q:List (List Rat)) (m:Nat) (lead aJ:Rat) (st l n N B:Nat) (b:Rat) (a:List Rat) (C:fU B q m lead (bK m l) N) (hn:n≤N) (hN:N≤1073741824) (hm:m≤64) (hmN:m≤N) (hB:B≤4294967296) (h64:64≤B) (hql:q.length=m+1) (hp:∀ p∈q,p.length<1048576) (hl0:lead≠0):vc prog (fun o=>o = .retr [.one (aH.and (.exact v10) (.bE [.int .i64 n])), .one (.exact v47), .one (.int .i64 m), .one (.int .i64 i)] ([KV ([eQ q, .int .i64 m]++qC lead) aJ st (bK m l) (aV q m lead (bK m l) n) b])) (Qo prog 69 (fun _=>none) (gS [1,1,1,1,1,1,0,1,0,0,1,1,0,0,1] (oX f226)) [(10, .v none),(47, .v none),(48, .v none),(49, .v none)] 15 266 14 ([10,47,48,49].map ResultVar.tmp)) ([.v (.one (aH.and (.exact v10) (.bE [.int .i64 n]))), .v (.one (.exact v47)), .v (.one (.int .i64 m)), .v (.one (.int .i64 i))].map In.env ++ [.rows ([KV ([eQ q, .int .i64 m]++qC lead) aJ st (bK m l) a b])]) []:=by
 rw [Ju];dsimp only [List.map,In.env,aB,aA];refine vld (ts:=[KV ([eQ q, .int .i64 m]++qC lead) aJ st (bK m l) a b]) (ik:=.i64) (n:=0) rfl rfl (Int.le_refl _) (cells:=KV ([eQ q, .int .i64 m]++qC lead) aJ st (bK m l) a b) rfl (.inl rfl) rfl ?_;dsimp only [aB,aA,Mi,List.drop,List.take];refine vld (ts:=[KV ([eQ q, .int .i64 m]++qC lead) aJ st (bK m l) a b]) (ik:=.i64) (n:=0) (t:=.one (sQ (bK m l))) rfl rfl (Int.le_refl _) (cells:=KV ([eQ q, .int .i64 m]++qC lead) aJ st (bK m l) a b) rfl (.inr rfl) rfl ?_;dsimp only [aB,aA];refine vn (t:=.one (.int .i64 n)) (QD (bF LK)) rfl ?_;dsimp only [aB,aA];refine aC (Bu q m lead (bK m l) n N B C hn hN hm hmN (by omega) h64 hql (FL m l) (fun p hp'=>by have:=hp p hp';omega) hl0) rfl ?_;dsimp only [aB,aA];refine Dy (ts:=[KV ([eQ q, .int .i64 m]++qC lead) aJ st (bK m l) a b]) (us:=[KV ([eQ q, .int .i64 m]++qC lead) aJ st (bK m l) (aV q m lead (bK m l) n) b]) rfl rfl (by omega) (cells:=KV ([eQ q, .int .i64 m]++qC lead) aJ st (bK m l) a b) rfl rfl ?_;dsimp only [aB,aA];exact HP rfl rfl
abbrev rL (q:List (List Rat)) (m:Nat) (lead aJ:Rat) (st l:Nat):Rat:=FB (aV q m lead (bK m l) st) aJ (st-(m+bA q)) (m+bA q)
structure JA (q:List (List Rat)) (m:Nat) (lead aJ:Rat) (st:Nat) (r goal:Rat) (d B G:Nat):Prop where
 Kt:∀ n,st≤n→n≤1500→∀ i,i≤d→mJ B aJ n i r
 sh:∀ n,st≤n→n≤1500→∀ i,i≤d→cZ aJ n i r<1
 fb:∀ l,l<m→Fit B (rL q m lead aJ st l)
 ft:∀ l,l<m→∀ n,st≤n→n≤1500→∀ i,i≤d→Fit G (fX (rL q m lead aJ st l) aJ n i r)
 gf:Fit G goal
 ds:d≤st
 h0:aJ≠0
 hB:B≤1073741824
 h64:64≤B
 hG:G≤1073741824
abbrev KY (q:List (List Rat)) (m:Nat) (lead aJ:Rat) (st:Nat) (r goal:Rat) (d l n:Nat):Bool:=kU (rL q m lead aJ st l) aJ n r goal d
structure Dt (en:Nat→Nat→Bool) (m st:Nat) (out:Option Nat):Prop where
 iff:∀ n,st≤n→n≤1500→((∀ l,l<m→en l n=true)↔∃ N,out=some N∧N≤n)
 some:∀ N,out=some N→st≤N∧N≤1500
 up:∀ l,l<m→∀ n,st≤n→n<1500→en l n=true→en l (n+1)=true
theorem ax4 (bv:Value) (hb1:bv.oneCell'=true) (r:Rat) (d k:Int) (hk:k≤256):vc prog (fun o=>jY o (.ret [.one (.exact bv), .one (.bE (qC r)), .one (.bE [.int .i64 d]), .one (.bE (qC (mkRat 1 (2^k.toNat)*mkRat 1 (2^2))))])) (Ai prog 69 (fun _=>none) (gS [] (oX f226)) [(0, .v none),(1, .v (some 3)),(2, .v none),(3, .v none)] ([0,5,6,9].map ResultVar.tmp) (some 1) false) ([.v (.one (.exact bv)), .v (qT r), .v (.one (.int .i64 d)), .v (.one (.int .i64 k))].map In.env) []:=by
 rw [HV];dsimp only [List.map,In.env,aB,aA];refine aC (AX k hk) rfl ?_;dsimp only [aB,aA];refine aC (AX 2 (by omega)) rfl ?_;dsimp only [aB,aA];refine aC (dF (mkRat 1 (2^k.toNat)) (mkRat 1 (2^2)) 257 257 (qM (by omega)) (qM (by omega)) (by omega)) rfl ?_;exact aL rfl
theorem HK {M:Nat→Prop} {W:World} (hM:dL M W) {q:List (List Rat)} {m:Nat} {lead aJ:Rat} {st:Nat} {r goal:Rat} {d B G:Nat} (T:JA q m lead aJ st r goal d B G) {l n:Nat} (hl:l<m) (hn1:st≤n) (hn2:n≤1500) {b bn:Nat} {us:Array Value} {v6 v5 v9:Value}
  (hb:¬ M b) (hbh:W.heap[b]? = some (.cells us 266 (0,0))) (hus:aZ M W (kM q m lead aJ st st l) us.toList) (hbn:¬ M bn) (hbnh:W.heap[bn]? = some (.cells #[.int .i64 n] 3 (0,0)))
  (h6:(aH.bE [.int .i64 d]).rep M W v6) (h5:(aH.bE (qC r)).rep M W v5) (h9:(aH.bE (qC goal)).rep M W v9) :
  Calls prog 267 #[.pointer (some ⟨b,0,none⟩),v6, .pointer (some ⟨bn,0,none⟩),v5,v9] W fun e w'=>Below W.heap.size W w'∧e = .returned (.bool (KY q m lead aJ st r goal d l n)):=by
 have hd:=JS (eQ q) (.int .i64 m) (dT lead.num.natAbs) (.bool (decide (lead.num<0))) (dT (lead.den-1)) aJ st (bK m l) (aV q m lead (bK m l) st) (rL q m lead aJ st l) n d r goal B G (fun i hi=>T.Kt n hn1 hn2 i hi) (by omega) (by have:=T.ds;omega) T.h0 (T.fb l hl) T.hB T.h64 (fun i hi=>T.sh n hn1 hn2 i hi) T.gf T.hG (fun i hi=>T.ft l hl n hn1 hn2 i hi);refine (hd.2 M W [.pointer (some ⟨b,0,none⟩),v6, .pointer (some ⟨bn,0,none⟩),v5,v9] hM ⟨⟨b,0,us,266,(0,0),rfl,hb,hbh,?_⟩,h6,⟨bn,0,_,_,_,rfl,hbn,hbnh,⟨⟨rfl,rfl⟩,trivial⟩⟩,h5,h9,trivial⟩).mono ?_
 ·have hlen:=hus.length;show aZ M W (kM q m lead aJ st st l) (List.take (kM q m lead aJ st st l).length (List.drop 0 us.toList));rw [List.drop_zero,List.take_of_length_le (Nat.le_of_eq hlen.symm)];exact hus
 ·rintro e w' ⟨hb,vs,rfl,hvs⟩;obtain ⟨v,e1,hr⟩:=OP hvs;rw [hr.1] at e1;exact ⟨hb,by rw [e1]⟩
theorem FC {M:Nat→Prop} {W:World} (hM:dL M W) (e:Int) (p:Prop) [Decidable p]:Calls prog 130 #[.bool (decide p), .int .i64 e] W fun r w'=>Below W.heap.size W w'∧((p∧r = .returned (.tuple #[]))∨(¬ p∧r = .panicked [{ v:=Uo e,recovered:=false }])):=by
 by_cases hp:p
 ·rw [decide_eq_true hp];refine ((mD e).2 M W [.bool true, .int .i64 e] hM ⟨⟨rfl,rfl⟩,⟨rfl,rfl⟩,trivial⟩).mono ?_;rintro r w' ⟨hb,vs,rfl,hvs⟩
  obtain rfl:vs = []:=by cases vs with
   | nil=>rfl
   | cons x vs=>exact hvs.elim
  exact ⟨hb, .inl ⟨hp,rfl⟩⟩
 ·rw [decide_eq_false hp];refine ((qQ e).2 M W [.bool false, .int .i64 e] hM ⟨⟨rfl,rfl⟩,⟨rfl,rfl⟩,trivial⟩).mono ?_;rintro r w' ⟨hb,hp'⟩;exact ⟨hb, .inr ⟨hp,ZM hp'⟩⟩
structure aI7 (M:Nat→Prop) (w:World) (ps:List Nat) (bv:Value) (r goal:Rat) (d bn n:Nat) (a:Act) (W:World):Prop where
 sz:a.tmps.size=69
 df:a.defers = []
 bel:Below w.heap.size w W
 bn1:w.heap.size≤bn
 hbn:W.heap[bn]? = some (.cells #[.int .i64 n] 3 (0,0))
 t0:a.tmps.getD 0 Go.undef=bv
 t5:(aH.bE (qC r)).rep (fun k=>sX M ps bv k∨k=bn) W (a.tmps.getD 5 Go.undef)
 t6:(aH.bE [.int .i64 d]).rep (fun k=>sX M ps bv k∨k=bn) W (a.tmps.getD 6 Go.undef)
 t9:(aH.bE (qC goal)).rep (fun k=>sX M ps bv k∨k=bn) W (a.tmps.getD 9 Go.undef)
 t10:a.tmps.getD 10 Go.undef = .pointer (some ⟨bn,0,none⟩)
 t11:a.tmps.getD 11 Go.undef = .func (.func 267) #[] #[a.tmps.getD 6 Go.undef, .pointer (some ⟨bn,0,none⟩),a.tmps.getD 5 Go.undef,a.tmps.getD 9 Go.undef]
structure yW (ps:List Nat) (w w':World):Prop where
 os:w'.os=w.os
 tape:w'.tape=w.tape
 output:w'.output=w.output
 size:w.heap.size≤w'.heap.size
 block:∀ k,k<w.heap.size→k ∉ ps→w'.heap[k]? = w.heap[k]?
theorem yW.PN {ps:List Nat} {w w':World} (h:Below w.heap.size w w'):yW ps w w':=⟨h.os,h.tape,h.output,h.size,fun k hk _=>h.block k hk⟩
theorem yW.below {ps:List Nat} {w w' w2:World} (h:yW ps w w') (k:Below w'.heap.size w' w2):yW ps w w2:=⟨k.os.trans h.os,k.tape.trans h.tape,k.output.trans h.output,Nat.le_trans h.size k.size,fun j hj hp=>(k.block j (Nat.lt_of_lt_of_le hj h.size)).trans (h.block j hj hp)⟩
theorem yW.grown {ps:List Nat} {w w' w2:World} {b:Nat} (h:yW ps w w') (k:w'.grownBy w2 (some b)) (hb:b∈ps):yW ps w w2:=⟨k.os.trans h.os,k.tape.trans h.tape,k.output.trans h.output,Nat.le_trans h.size k.size,fun j hj hp=>(k.block j (Nat.lt_of_lt_of_le hj h.size) (fun e=>hp (by simp only [Option.some.injEq] at e;rw [e];exact hb))).trans (h.block j hj hp)⟩
theorem Xy {M:Nat→Prop} {n0 i b:Nat} {W W':World} {C C':Nat→List aH} {v:Value} {ps:List Nat} {cur:Array Value} (I:lW M n0 W C v ps) (hi:ps[i]? = some b) (hg:W.grownBy W' (some b)) (hh:W'.heap[b]? = some (.cells cur 266 (0,0)))
  (hr:aZ (sX M ps v) W' (C' i) cur.toList) (hC:∀ l,l≠i→C' l=C l):lW M n0 W' C' v ps:=by
 have hbm:=List.mem_of_getElem? hi;have hk:bZ (sX M ps v) W (sX M ps v) W':=fun k o hk ho _=>⟨hk,(hg.block k (Array.getElem?_eq_some_iff.1 ho).1 (fun e=>hk (.inl (.inr (by simp only [Option.some.injEq] at e;rw [e];exact hbm))))).trans ho⟩
 refine ⟨I.nd,fun k hk=>⟨(I.lo k hk).1,Nat.lt_of_lt_of_le (I.lo k hk).2 hg.size⟩,⟨I.sl.1,?_⟩,I.dis,fun l b' hl=>?_⟩
 ·rcases I.sl.2 with h | ⟨g,cap,cur,hv,h1,h2,h3⟩
  ·exact .inl h
  ·refine .inr ⟨g,cap,cur,hv,h1,(hg.block g (Array.getElem?_eq_some_iff.1 h2).1 (fun e=>?_)).trans h2,h3⟩;simp only [Option.some.injEq] at e;exact I.dis b hbm (by rw [hv,←e];rfl)
 ·by_cases e:l=i
  ·subst e;rw [hi] at hl;cases hl;exact ⟨cur,hh,hr⟩
  ·obtain ⟨us,h1,h2⟩:=I.cells l b' hl;rw [hC l e];refine ⟨us,(hg.block b' (I.lo b' (List.mem_of_getElem? hl)).2 (fun e2=>?_)).trans h1,h2.mono hk⟩;simp only [Option.some.injEq] at e2;subst e2;exact e ((List.getElem?_inj (List.getElem?_eq_some_iff.1 hl).1 I.nd).1 (hl.trans hi.symm))
theorem lW.grow {M:Nat→Prop} {n0:Nat} {W W':World} {C:Nat→List aH} {v:Value} {ps:List Nat} (I:lW M n0 W C v ps) (h:Below W.heap.size W W'):lW M n0 W' C v ps:=by
 refine ⟨I.nd,fun k hk=>⟨(I.lo k hk).1,Nat.lt_of_lt_of_le (I.lo k hk).2 h.size⟩,⟨I.sl.1,?_⟩,I.dis,fun l b hl=>?_⟩
 ·rcases I.sl.2 with h' | ⟨g,cap,cur,hv,h1,h2,h3⟩
  ·exact .inl h'
  ·exact .inr ⟨g,cap,cur,hv,h1,(h.block g (Array.getElem?_eq_some_iff.1 h2).1).trans h2,h3⟩
 ·obtain ⟨us,h1,h2⟩:=I.cells l b hl;exact ⟨us,(h.block b (Array.getElem?_eq_some_iff.1 h1).1).trans h1,h2.mono (bZ.below h)⟩
theorem lW.congr {M:Nat→Prop} {n0:Nat} {W:World} {C C':Nat→List aH} {v:Value} {ps:List Nat} (I:lW M n0 W C v ps) (h:∀ l,l<ps.length→C' l=C l):lW M n0 W C' v ps:=
 ⟨I.nd,I.lo,I.sl,I.dis,fun l b hl=>by rw [h l (List.getElem?_eq_some_iff.1 hl).1];exact I.cells l b hl⟩
theorem yW.low {ps:List Nat} {n0:Nat} {w0 w W:World} (h:yW ps w W) (hw:Below n0 w0 w) (hn:n0≤w.heap.size) (hps:∀ b∈ps,n0≤b):Below n0 w0 W:=
 ⟨h.os.trans hw.os,h.tape.trans hw.tape,h.output.trans hw.output,Nat.le_trans hw.size h.size,fun k hk=>(h.block k (by omega) (fun hm=>by have:=hps k hm;omega)).trans (hw.block k hk)⟩
structure bb3 (M:Nat→Prop) (n0:Nat) (w:World) (ps:List Nat) (bv:Value) (C:Nat→List aH) (m bn n i:Nat) (a:Act) (W:World):Prop where
 sz:a.tmps.size=69
 df:a.defers = []
 tu:yW ps w W
 hbn:W.heap[bn]? = some (.cells #[.int .i64 n] 3 (0,0))
 bas:lW M n0 W C bv ps
 t10:a.tmps.getD 10 Go.undef = .pointer (some ⟨bn,0,none⟩)
 t47:a.tmps.getD 47 Go.undef=bv
 t48:a.tmps.getD 48 Go.undef = .int .i64 m
 t49:a.tmps.getD 49 Go.undef = .int .i64 i
set_option maxRecDepth 100000 in
set_option maxHeartbeats 1000000 in
theorem Ro (Ns Bs:Nat) (M:Nat→Prop) (w0 w:World) (hM:dL M w0) (hw:Below w0.heap.size w0 w) (q:List (List Rat)) (m:Nat) (lead aJ:Rat) (st:Nat) (r:Rat) (d:Nat) (k:Int) (B G:Nat) (bv:Value) (ps:List Nat) (hm1:1≤m) (hk:k≤256) (goal:Rat) (hgq:mkRat 1 (2^k.toNat)*mkRat 1 (2^2)=goal)
  (T:JA q m lead aJ st r goal d B G) (out:Option Nat) (L:Dt (KY q m lead aJ st r goal d) m st out)
  (I:lW M w0.heap.size w (kM q m lead aJ st st) bv ps) (hpl:ps.length=m) (hst15:st≤1500) (SC:∀ l,l<m→fU Bs q m lead (bK m l) Ns) (hNs:Ns≤1073741824) (hN15:1500≤Ns) (hm:m≤64) (hBs:Bs≤4294967296) (h64:64≤Bs) (hql:q.length=m+1) (hp:∀ p∈q,p.length<1048576) (hl0:lead≠0) (r0 r1 r2:Value) (hr:aZ (sX M ps bv) w (qC r) [r0,r1,r2]) :
  Calls prog 226 #[bv, .agg #[r0,r1,r2], .int .i64 d, .int .i64 k] w fun e w'=>match out with
   | some N=>e = .returned (.int .i64 N)∧yW ps w w'∧lW M w0.heap.size w' (kM q m lead aJ st N) bv ps
   | none=>e = .panicked [{ v:=Uo 5,recovered:=false }]∧Below w0.heap.size w0 w':=by
 obtain ⟨p0,p1,p2⟩:r0.oneCell'=true∧r1.oneCell'=true∧r2.oneCell'=true:=by have:=hr.one;exact ⟨this _ (by simp),this _ (by simp),this _ (by simp)⟩
 obtain ⟨g,cap,cur,rfl,hg0,hgh,hgc,hgm,hgs,hgt⟩:∃ g cap cur,bv = .slice (some ⟨g,0,none⟩) m cap∧w0.heap.size≤g∧w.heap[g]? = some (.cells cur 194 (0,0))∧m≤cap∧cap≤maxLen∧cur.size=cap∧cur.toList.take m=ps.map fun b=>Value.pointer (some ⟨b,0,none⟩):=by
  rcases I.sl.2 with ⟨_,h⟩ | ⟨g,cap,cur,h1,h2,h3,h4,h5,h6,h7⟩
  ·omega
  ·rw [hpl] at h1 h4 h7;rw [Nat.mul_one] at h6 h7;exact ⟨g,cap,cur,h1,h2,h3,h4,h5,h6,h7⟩
 refine calls_of_wp func226 rfl ?_;simp only [ntmps226,List.size_toArray,List.length_cons,List.length_nil,Nat.reduceAdd,Nat.reduceSub,Array.replicate_succ,Array.replicate_zero,List.push_toArray,List.append_toArray,List.nil_append,List.cons_append];have hfw:=I.Gg hM (Nat.le_refl _) hw;have hbv1:(Value.slice (some ⟨g,0,none⟩) m cap).oneCell'=true:=rfl
 refine QY (n:=1) (ins:=[(0, .v none),(1, .v (some 3)),(2, .v none),(3, .v none)]) (xs:=[.v (.one (.exact (.slice (some ⟨g,0,none⟩) m cap))), .v (qT r), .v (.one (.int .i64 d)), .v (.one (.int .i64 k))]) fo ⟨rfl,rfl,rfl,rfl,trivial⟩
  (by have h:=ax4 (.slice (some ⟨g,0,none⟩) m cap) hbv1 r d k hk;rw [hgq] at h;exact h) (by kernel_rfl) hfw rfl rfl ⟨⟨rfl,rfl⟩,⟨_,rfl,hr⟩,⟨rfl,rfl⟩,⟨rfl,rfl⟩,trivial⟩ ?_ (by intro c v a' w' h;cases h)
 intro e a' W1 rs us hrs hex hB1 hsz hdf hrun hus;cases hrs;cases e with
 | exit id=>cases hex
 | ret=>cases hex
 | normal=>
 have huse:=tR hrun;subst huse;obtain ⟨h0,h5,h6,h9,_⟩:=hus;have h0:a'.tmps.getD 0 Go.undef = .slice (some ⟨g,0,none⟩) m cap:=h0.1;have h5:(aH.bE (qC r)).rep (sX M ps (.slice (some ⟨g,0,none⟩) m cap)) W1 (a'.tmps.getD 5 Go.undef):=h5;have h6:(aH.bE [.int .i64 d]).rep (sX M ps (.slice (some ⟨g,0,none⟩) m cap)) W1 (a'.tmps.getD 6 Go.undef):=h6;have h9:(aH.bE (qC goal)).rep (sX M ps (.slice (some ⟨g,0,none⟩) m cap)) W1 (a'.tmps.getD 9 Go.undef):=h9;obtain ⟨t,ds⟩:=a';have hds:ds = []:=hdf;subst hds;have hsz:t.size=69:=hsz;show Code.wp _ (Dr 1 _) _ _ _;simp only [Dr];obtain ⟨b0,hb0⟩:∃ b0,ps[0]? = some b0:=⟨_,List.getElem?_eq_getElem (by omega)⟩
 have hglt:g<w.heap.size:=(Array.getElem?_eq_some_iff.1 hgh).1
 have hcur:∀ (i b:Nat),ps[i]? = some b→cur[i]? = some (.pointer (some ⟨b,0,none⟩)):=by
  intro i b hi;have hlt:=(List.getElem?_eq_some_iff.1 hi).1;have h:(cur.toList.take m)[i]? = some (.pointer (some ⟨b,0,none⟩)):=by rw [hgt,List.getElem?_map,hi];rfl
  rw [List.getElem?_take,if_pos (by omega)] at h
  simpa using h
 have cp0:W1.cell? ⟨g,0,none⟩=some (.pointer (some ⟨b0,0,none⟩)):=aI ((hB1.block g hglt).trans hgh) (hcur 0 b0 hb0);obtain ⟨us0,hu0,hr0⟩:=I.cells 0 b0 hb0;have hb0lt:=(I.lo b0 (List.mem_of_getElem? hb0)).2
 have c8:W1.cell? ⟨b0,8,none⟩=some (.int .i64 st):=by
  refine aI ((hB1.block b0 hb0lt).trans hu0) ?_;obtain ⟨x,hx,hxr⟩:=hr0.get 8 (.int .i64 st) rfl;rw [show x = .int .i64 st from hxr.1] at hx
  simpa using hx
 have hmf:∀ (fn:Fn) (first cap:Array Value) (w:World),(Instr.makeFunc fn first cap).run prog w = .ok (.func fn first cap) w:=fun _ _ _ _=>rfl;rw [Ff t hsz,show t.getD 0 Go.undef = .slice (some ⟨g,0,none⟩) m cap from h0];generalize hv5:t.getD 5 Go.undef=v5 at *;generalize hv6:t.getD 6 Go.undef=v6 at *;generalize hv9:t.getD 9 Go.undef=v9 at *
 go_wp2
 obtain ⟨bn,hbn⟩:∃ bn,W1.heap.size=bn:=⟨_,rfl⟩
 have hbw:w.heap.size≤bn:=by have:=hB1.size;omega
 have hkal:bZ (sX M ps (.slice (some ⟨g,0,none⟩) m cap)) W1 (fun k=>sX M ps (.slice (some ⟨g,0,none⟩) m cap) k∨k=bn) (W1.alloc (.cells #[.int .i64 st] 3)):=fun b o hb ho _=>by
  have hlt:=(Array.getElem?_eq_some_iff.1 ho).1;exact ⟨fun h=>h.elim hb (fun e=>by omega),(heap_alloc_old _ _ _ hlt).trans ho⟩
 refine wp_loop_ghost (fun n' a' W=>∃ i n,n'=m-i∧i≤m∧st≤n∧n≤1500∧(∀ N,out=some N→n≤N)∧(∀ l,l<i→KY q m lead aJ st r goal d l n=true) ∧
   aI7 M w ps (.slice (some ⟨g,0,none⟩) m cap) r goal d bn n a' W∧a'.tmps.getD 28 Go.undef = .slice (some ⟨g,0,none⟩) m cap∧a'.tmps.getD 29 Go.undef = .int .i64 m∧a'.tmps.getD 30 Go.undef = .int .i64 i) (m-0)
  ⟨0,st,rfl,Nat.zero_le _,Nat.le_refl _,hst15,fun N hN=>(L.some N hN).1,fun l hl=>by omega,⟨rfl,rfl,hB1.alloc (by omega) _,hbw,by rw [←hbn];exact heap_alloc_new W1 _,rfl,aH.mono _ hkal h5,aH.mono _ hkal h6,aH.mono _ hkal h9,by rw [hbn];rfl,by rw [hbn];rfl⟩,rfl,rfl,rfl⟩ ?_
 rintro n' a' W ⟨i,n,rfl,him,hn1,hn2,hnN,hen,J,t28,t29,t30⟩;obtain ⟨t',ds⟩:=a';have hds:ds = []:=J.df;subst hds;have t28:t'.getD 28 Go.undef = .slice (some ⟨g,0,none⟩) m cap:=t28;have t29:t'.getD 29 Go.undef = .int .i64 m:=t29;have t30:t'.getD 30 Go.undef = .int .i64 i:=t30;have t10:t'.getD 10 Go.undef = .pointer (some ⟨bn,0,none⟩):=J.t10;have t11:=J.t11;have t11:t'.getD 11 Go.undef = .func (.func 267) #[] #[t'.getD 6 Go.undef, .pointer (some ⟨bn,0,none⟩),t'.getD 5 Go.undef,t'.getD 9 Go.undef]:=t11;have t0:t'.getD 0 Go.undef = .slice (some ⟨g,0,none⟩) m cap:=J.t0;clear hv5 hv6 hv9;have hMW:dL M W:=⟨fun b hb=>by have:=hM.1 b hb;have:=hw.size;have:=J.bel.size;omega,(hM.2.below rfl hw).below rfl J.bel⟩
 rcases Nat.lt_or_ge i m with hi | hi
 ·obtain ⟨bi,hbi⟩:∃ b,ps[i]? = some b:=⟨_,List.getElem?_eq_getElem (by omega)⟩
  have cpi:W.cell? ⟨g,i,none⟩=some (.pointer (some ⟨bi,0,none⟩)):=aI ((J.bel.block g hglt).trans hgh) (hcur i bi hbi);have j5:(aH.bE (qC r)).rep (fun k=>sX M ps (.slice (some ⟨g,0,none⟩) m cap) k∨k=bn) W (t'.getD 5 Go.undef):=J.t5;have j6:(aH.bE [.int .i64 d]).rep (fun k=>sX M ps (.slice (some ⟨g,0,none⟩) m cap) k∨k=bn) W (t'.getD 6 Go.undef):=J.t6;have j9:(aH.bE (qC goal)).rep (fun k=>sX M ps (.slice (some ⟨g,0,none⟩) m cap) k∨k=bn) W (t'.getD 9 Go.undef):=J.t9;rw [Ff t' J.sz,t0,t10,t11,t28,t29,t30];generalize t'.getD 5 Go.undef=x5 at j5 ⊢;generalize t'.getD 6 Go.undef=x6 at j6 ⊢;generalize t'.getD 9 Go.undef=x9 at j9 ⊢
  go_wp2
  refine wp_loop_ghost (fun n' a' W=>∃ n,n'=1501-n∧st≤n∧n≤1500∧(∀ N,out=some N→n≤N)∧(∀ l,l<i→KY q m lead aJ st r goal d l n=true) ∧
   aI7 M w ps (.slice (some ⟨g,0,none⟩) m cap) r goal d bn n a' W∧a'.tmps.getD 28 Go.undef = .slice (some ⟨g,0,none⟩) m cap∧a'.tmps.getD 29 Go.undef = .int .i64 m∧a'.tmps.getD 30 Go.undef = .int .i64 i∧a'.tmps.getD 13 Go.undef = .pointer (some ⟨bi,0,none⟩)) (1501-n)
   ⟨n,rfl,hn1,hn2,hnN,hen,⟨rfl,rfl,J.bel,J.bn1,J.hbn,rfl,j5,j6,j9,rfl,rfl⟩,rfl,rfl,rfl,rfl⟩ ?_
  clear j5 j6 j9 cpi hMW J hn1 hn2 hnN hen;rintro n' a' W ⟨n,rfl,hn1,hn2,hnN,hen,J,t28,t29,t30,t13⟩;obtain ⟨t2,ds⟩:=a';have hds:ds = []:=J.df;subst hds;have t28:t2.getD 28 Go.undef = .slice (some ⟨g,0,none⟩) m cap:=t28;have t29:t2.getD 29 Go.undef = .int .i64 m:=t29;have t30:t2.getD 30 Go.undef = .int .i64 i:=t30;have t13:t2.getD 13 Go.undef = .pointer (some ⟨bi,0,none⟩):=t13;have t10:t2.getD 10 Go.undef = .pointer (some ⟨bn,0,none⟩):=J.t10;have t11:t2.getD 11 Go.undef = .func (.func 267) #[] #[t2.getD 6 Go.undef, .pointer (some ⟨bn,0,none⟩),t2.getD 5 Go.undef,t2.getD 9 Go.undef]:=J.t11;have t0:t2.getD 0 Go.undef = .slice (some ⟨g,0,none⟩) m cap:=J.t0;have hMW:dL M W:=⟨fun b hb=>by have:=hM.1 b hb;have:=hw.size;have:=J.bel.size;omega,(hM.2.below rfl hw).below rfl J.bel⟩
  have j5:(aH.bE (qC r)).rep (fun k=>sX M ps (.slice (some ⟨g,0,none⟩) m cap) k∨k=bn) W (t2.getD 5 Go.undef):=J.t5;have j6:(aH.bE [.int .i64 d]).rep (fun k=>sX M ps (.slice (some ⟨g,0,none⟩) m cap) k∨k=bn) W (t2.getD 6 Go.undef):=J.t6;have j9:(aH.bE (qC goal)).rep (fun k=>sX M ps (.slice (some ⟨g,0,none⟩) m cap) k∨k=bn) W (t2.getD 9 Go.undef):=J.t9;rw [Ff t2 J.sz,t0,t10,t11,t13,t28,t29,t30];generalize t2.getD 5 Go.undef=x5 at j5 ⊢;generalize t2.getD 6 Go.undef=x6 at j6 ⊢;generalize t2.getD 9 Go.undef=x9 at j9 ⊢;obtain ⟨ui,hui,hri⟩:=I.cells i bi hbi;have hbilt:=(I.lo bi (List.mem_of_getElem? hbi)).2;have hbige:=(I.lo bi (List.mem_of_getElem? hbi)).1;have hww:=hw.size;have hkM:bZ (sX M ps (.slice (some ⟨g,0,none⟩) m cap)) w M W:=fun b o hb ho _=>⟨fun h=>hb (.inl (.inl h)),(J.bel.block b (Array.getElem?_eq_some_iff.1 ho).1).trans ho⟩
  have hkM2:bZ (fun k=>sX M ps (.slice (some ⟨g,0,none⟩) m cap) k∨k=bn) W M W:=fun b o hb ho _=>⟨fun h=>hb (.inl (.inl (.inl h))),ho⟩
  have hec:=HK hMW T hi hn1 hn2 (b:=bi) (bn:=bn) (us:=ui) (v6:=x6) (v5:=x5) (v9:=x9) (fun h=>by have:=hM.1 bi h;omega) ((J.bel.block bi hbilt).trans hui) (hri.mono hkM) (fun h=>by have:=hM.1 bn h;have:=J.bn1;omega) J.hbn (aH.mono _ hkM2 j6) (aH.mono _ hkM2 j5) (aH.mono _ hkM2 j9)
  go_wp2_with (go_at_call 267;refine hec.mono ?_)
  rintro e w2 hb2 rfl;have hbn2:w2.heap[bn]? = some (.cells #[.int .i64 n] 3 (0,0)):=(hb2.block bn (Array.getElem?_eq_some_iff.1 J.hbn).1).trans J.hbn;have cn2:w2.cell? ⟨bn,0,none⟩=some (.int .i64 n):=aI hbn2 rfl;have fn2:w2.frozen? ⟨bn,0,none⟩=false:=by simp [World.frozen?,hbn2]
  have hB2:Below w.heap.size w w2:=J.bel.trans (hb2.mono J.bel.size);have hMW2:dL M w2:=⟨fun b hb=>Nat.lt_of_lt_of_le (hMW.1 b hb) hb2.size,hMW.2.below rfl hb2⟩
  have l5:=aH.mono _ (bZ.below hb2) j5;have l6:=aH.mono _ (bZ.below hb2) j6;have l9:=aH.mono _ (bZ.below hb2) j9;cases hβ:KY q m lead aJ st r goal d i n with
  | true=>
    go_wp2
    exact ⟨m-(i+1),by omega,i+1,n,rfl,hi,hn1,hn2,hnN,fun l hl=>(Nat.lt_succ_iff_lt_or_eq.1 hl).elim (hen l) (fun e=>by rw [e];exact hβ),⟨rfl,rfl,hB2,J.bn1,hbn2,rfl,l5,l6,l9,rfl,rfl⟩,rfl,rfl,rfl⟩
  | false=>
    have hnN2:∀ N,out=some N→n+1≤N:=fun N hN=>by
     rcases Nat.lt_or_ge n N with h | h
     ·exact h
     ·have:=((L.iff n hn1 hn2).2 ⟨N,hN,h⟩) i hi;rw [hβ] at this;cases this
    go_wp2_with (go_at_call 130;refine (FC (M:=M) hMW2 _ _).mono ?_)
    rintro e w3 hb3 (⟨hq1,rfl⟩ | ⟨hq1,rfl⟩)
    ·have hbn3:w3.heap[bn]? = some (.cells #[.int .i64 n] 3 (0,0)):=(hb3.block bn (Array.getElem?_eq_some_iff.1 hbn2).1).trans hbn2;have cn3:w3.cell? ⟨bn,0,none⟩=some (.int .i64 n):=aI hbn3 rfl;have fn3:w3.frozen? ⟨bn,0,none⟩=false:=by simp [World.frozen?,hbn3]
     have hB3:Below w.heap.size w w3:=hB2.trans (hb3.mono hB2.size);replace l5:=aH.mono _ (bZ.below hb3) l5;replace l6:=aH.mono _ (bZ.below hb3) l6;replace l9:=aH.mono _ (bZ.below hb3) l9
     go_wp2
     rw [setCell_eq_setRow w3 bn 0 _ _ _ _ hbn3,show (#[Value.int .i64 n].setIfInBounds 0 (.int .i64 (n+1))) = #[Value.int .i64 (n+1)] from rfl];have hst:=setRow_heap w3 bn _ (#[Value.int .i64 (n+1)]:Array Value) _ _ hbn3;have hks:bZ (fun k=>sX M ps (.slice (some ⟨g,0,none⟩) m cap) k∨k=bn) w3 (fun k=>sX M ps (.slice (some ⟨g,0,none⟩) m cap) k∨k=bn) (w3.setRow bn #[Value.int .i64 (n+1)]):=fun b o hb ho _=>⟨hb,(setRow_other _ _ _ _ (fun e=>hb (.inr e))).trans ho⟩
     exact ⟨1501-(n+1),by omega,n+1,rfl,by omega,by omega,hnN2,fun l hl=>L.up l (by omega) n hn1 (by omega) (hen l hl),⟨rfl,rfl,below_setRow hB3 J.bn1 _,J.bn1,hst,rfl,aH.mono _ hks l5,aH.mono _ hks l6,aH.mono _ hks l9,rfl,rfl⟩,rfl,rfl,rfl,rfl⟩
    ·obtain rfl:out=none:=by
      cases hout:out with
      | none=>rfl
      | some N=>
        have h1:=hnN2 N hout;have h2:=(L.some N hout).2;omega
     exact ⟨rfl,rfl,hw.trans ((hB2.trans (hb3.mono hB2.size)).mono hw.size)⟩
 ·have cn:W.cell? ⟨bn,0,none⟩=some (.int .i64 n):=aI J.hbn rfl;rw [Ff t' J.sz,t0,t10,t11,t28,t29,t30]
  go_wp2_with (go_at_call 130;refine (FC (M:=M) hMW _ _).mono ?_)
  rintro e w2 hb2 (⟨hq1,rfl⟩ | ⟨hq1,rfl⟩)
  ·obtain ⟨N,hN,hNn⟩:=(L.iff n hn1 hn2).1 (fun l hl=>hen l (by omega));obtain rfl:N=n:=by have:=hnN N hN;omega
   subst hN;have hbn2:w2.heap[bn]? = some (.cells #[.int .i64 N] 3 (0,0)):=(hb2.block bn (Array.getElem?_eq_some_iff.1 J.hbn).1).trans J.hbn;have hB2:Below w.heap.size w w2:=J.bel.trans (hb2.mono J.bel.size);clear cn;have hbn1:=J.bn1
   go_wp2
   refine wp_loop_ghost (fun n' a' W=>∃ i,n'=m-i∧i≤m∧bb3 M w0.heap.size w ps (.slice (some ⟨g,0,none⟩) m cap) (fun l=>if l<i then kM q m lead aJ st N l else kM q m lead aJ st st l) m bn N i a' W) (m-0)
    ⟨0,rfl,Nat.zero_le _,⟨rfl,rfl,yW.PN hB2,hbn2,(I.grow hB2).congr (fun l _=>if_neg (Nat.not_lt_zero l)),rfl,rfl,rfl,rfl⟩⟩ ?_
   rintro n' a' W ⟨i,rfl,him,K⟩;obtain ⟨t3,ds⟩:=a';have hds:ds = []:=K.df;subst hds;have t10:t3.getD 10 Go.undef = .pointer (some ⟨bn,0,none⟩):=K.t10;have t47:t3.getD 47 Go.undef = .slice (some ⟨g,0,none⟩) m cap:=K.t47;have t48:t3.getD 48 Go.undef = .int .i64 m:=K.t48;have t49:t3.getD 49 Go.undef = .int .i64 i:=K.t49;have hgps:g ∉ ps:=fun h=>I.dis g h rfl;rw [Ff t3 K.sz,t10,t47,t48,t49];rcases Nat.lt_or_ge i m with hi | hi
   ·obtain ⟨bi,hbi⟩:∃ b,ps[i]? = some b:=⟨_,List.getElem?_eq_getElem (by omega)⟩
    have cpi:W.cell? ⟨g,i,none⟩=some (.pointer (some ⟨bi,0,none⟩)):=aI ((K.tu.block g hglt hgps).trans hgh) (hcur i bi hbi);obtain ⟨ui,hui,hri⟩:=K.bas.cells i bi hbi;rw [if_neg (Nat.lt_irrefl i)] at hri;have hbm:=List.mem_of_getElem? hbi;have hww:=hw.size
    have hbnM:¬ sX M ps (.slice (some ⟨g,0,none⟩) m cap) bn:=by
     rintro ((h | h) | h)
     ·have:=hM.1 bn h;omega
     ·have:=(I.lo bn h).2;omega
     ·simp only [Value.ownBlock,Option.some.injEq] at h;omega
    have hB0:Below w0.heap.size w0 W:=K.tu.low hw hw.size fun b hb=>(I.lo b hb).1
    go_wp2
    rename_i K5 hK5
    refine Ww (N:=69) (t0:=15) (T:=266) (n:=14) (M:=sX M ps (.slice (some ⟨g,0,none⟩) m cap)) (g:=bi) (cur:=ui) (ins:=[(10, .v none),(47, .v none),(48, .v none),(49, .v none)])
     (xs:=[.v (.one (aH.and (.exact (.pointer (some ⟨bn,0,none⟩))) (.bE [.int .i64 N]))), .v (.one (.exact (.slice (some ⟨g,0,none⟩) m cap))), .v (.one (.int .i64 m)), .v (.one (.int .i64 i))]) fo ⟨rfl,rfl,rfl,rfl,trivial⟩
     (ZQ (.pointer (some ⟨bn,0,none⟩)) (.slice (some ⟨g,0,none⟩) m cap) i q m lead aJ st i N Ns Bs (rL q m lead aJ st i) (aV q m lead (bK m i) st) (SC i hi) (by omega) hNs hm (by omega) hBs h64 hql hp hl0) (by kernel_rfl)
     (K.bas.Gg hM (Nat.le_refl _) hB0) (.inl (.inr hbm)) rfl rfl rfl ⟨⟨⟨rfl,rfl⟩,⟨bn,0,_,_,_,rfl,hbnM,K.hbn,⟨⟨rfl,rfl⟩,trivial⟩⟩⟩,⟨rfl,rfl⟩,⟨rfl,rfl⟩,⟨rfl,rfl⟩,trivial⟩ rfl hui hri ?_
    intro a' w' us cur' hg hsz hdf hrun hh hres hrep';have hus:=tR hrun;subst hus;obtain ⟨t4,ds⟩:=a';have hds:ds = []:=hdf;subst hds;have t10':t4.getD 10 Go.undef = .pointer (some ⟨bn,0,none⟩):=hres.1.1.1;have t47':t4.getD 47 Go.undef=(.slice (some ⟨g,0,none⟩) m cap):=hres.2.1.1;have t48':t4.getD 48 Go.undef = .int .i64 m:=hres.2.2.1.1;have t49':t4.getD 49 Go.undef = .int .i64 i:=hres.2.2.2.1.1;have hsz':t4.size=69:=hsz;have hbnbi:bn≠bi:=fun e=>hbnM (by rw [e];exact .inl (.inr hbm));have hbn4:=(hg.block bn (Array.getElem?_eq_some_iff.1 K.hbn).1 (fun e=>hbnbi (by simpa using e))).trans K.hbn
    have hbas:=Xy (C':=fun l=>if l<i+1 then kM q m lead aJ st N l else kM q m lead aJ st st l) K.bas hbi hg hh (by rw [if_pos (Nat.lt_succ_self i)];exact hrep') (fun l hl=>by
     show (if l<i+1 then kM q m lead aJ st N l else kM q m lead aJ st st l)=if l<i then kM q m lead aJ st N l else kM q m lead aJ st st l
     rcases Nat.lt_or_ge l i with h | h
     ·rw [if_pos h,if_pos (by omega)]
     ·rw [if_neg (by omega),if_neg (by omega)])
    show K5 _ _;refine hK5 _ _ ?_;rw [Ff t4 hsz',t10',t47',t48',t49']
    go_wp2
    exact ⟨m-(i+1),by omega,i+1,rfl,hi,⟨rfl,rfl,K.tu.grown hg hbm,hbn4,hbas,rfl,rfl,rfl,rfl⟩⟩
   ·have cn:W.cell? ⟨bn,0,none⟩=some (.int .i64 N):=aI K.hbn rfl
    go_wp2
    simp [bodyPost,results,show f226.results = #[.tmp 8] from rfl,go_sem];exact ⟨K.tu,K.bas.congr fun l hl=>(if_pos (by omega)).symm⟩
  ·omega
end Go.Sy
