/- Part. -/
import Derived.Test.YtacgmapjhpghkaaGreatDoorWf
set_option linter.all false
namespace Go.Sy
open Go Go.Proofs Go.RowKit Go.Shelf Tryz Ord
attribute [local go_sem] Oper.semAt_some
theorem am9 (B b:Nat) (bs:List Value) (w:World) (h:Lib.IsBuilderF 209 5 B b bs w) :
  Calls prog 166 #[.pointer (some ⟨b,0,none⟩)] w fun e w'=>e = .returned (.int .i64 bs.length)/\w'=w:=
 Any.Builder_Len_f { Tryz.Xf with } B b bs w h
theorem eq_nil (a:Addr) (n cap:Nat) (w:World):Sem.run prog (binOp BinOp.eql 98 (.slice (some a) n cap) (.slice none 0 0)) w = .ok (.bool false) w:=by
 obtain ⟨ie,hu,_⟩:=cE kH;simp [binOp,run_equal_slice_nil w 98 _ (some a) n cap hu]
theorem ap3 {F:Fence} {nF:Nat} {ops:Array Oper} {rest:List Oper} {o:Oper} {a:Act} {Q:Exit->Act->World->Prop} {w:World} (hgd:o.guard=none) (s x:Operand)
  (ho:o.op = .call { callee:=.builtin .append,args:=#[s,x],argTypes:=#[98,98] }) (base:Nat) (v:Value) (xs:List Value) (hs:a.eval s=v) (hown:w.ownsRow base 46 3 v 0 xs) (ad:Addr) (m c:Nat) (news:List Value)
  (hx:a.eval x = .slice (some ad) m c) (hl:news.length=m*3) (hn:∀ j u,news[j]? = some u->w.cell? (ad.add j)=some u) (h1:∀ u∈news,u.oneCell'=true) (hk:m<1099511627776) (hbase:base<=w.heap.size)
  (h:∀ v' w',w'.ownsRow base 46 3 v' (0+m) (xs++news)->w.grownBy w' v.ownBlock->wpListIn F nF prog ops Q rest (a.put o.dst v') w') :
  wpListIn F nF prog ops Q (o::rest) a w:=by
 obtain ⟨ie,hu,hie,hies,hieb⟩:=cE kH;obtain ⟨ie',zv,hi,hz,hzc,_,hzs⟩:=fE (show nR prog 46=some [.slice none 0 0, .bool false, .slice none 0 0] by kernel_rfl);rw [hie] at hi;simp only [aN] at hi;subst hi;exact wpListIn_append_own_at w hgd s x 98 ho base 46 ie zv 3 _ hu hie hz hies hieb (by rw [hzs,hies]) (by decide) v 0 xs hs hown ad m c news hx hl hn h1 (by simp only [maxLen];omega) (by omega) hbase (fun v' w' h2 h3 _ h5=>h v' w' h2 h3)
theorem rO (b off k:Nat):(⟨b,off,none⟩:Addr).add k=⟨b,off+k,none⟩:=by
 unfold Addr.add;by_cases h:k=0
 .subst h;rfl
 .rw [if_neg h]
def ae0 (g n:Nat) (news:List Value) (w:World):Prop:=∃ cur fz,w.heap[g]? = some (.cells cur 46 fz)/\cur.toList.take (n*3)=news
set_option maxRecDepth 100000 in
theorem af0 (b off n cap:Nat) (news:List Value) (w:World) (hl:news.length=n*3) (hnw:∀ j u,news[j]? = some u->w.cell? ((⟨b,off,none⟩:Addr).add j)=some u) (h1:∀ u∈news,u.oneCell'=true) (hn:n≠0) (hb:n<1099511627776) :
  Calls prog 207 #[.slice (some ⟨b,off,none⟩) n cap] w fun e w'=>∃ g cap',e = .returned (.slice (some ⟨g,0,none⟩) n cap')/\w.heap.size<=g/\ae0 g n news w'/\Below w.heap.size w w':=by
 refine (callsIn_wide (n:=1000)).1 ?_;refine callsIn_of_wp func207 rfl trivial ?_ rfl;simp only [ntmps207,List.size_toArray,List.length_cons,List.length_nil,Nat.reduceAdd,Nat.reduceSub,Array.replicate_succ,Array.replicate_zero,List.push_toArray,List.append_toArray,List.nil_append,List.cons_append];have e0:=eq_nil ⟨b,off,none⟩ n cap w;have hW1:(w.alloc (.cells #[] 46)).ownsRow w.heap.size 46 3 (.slice (some ⟨w.heap.size,0,none⟩) 0 0) 0 []:=⟨rfl, .inr ⟨_,0,#[],rfl,aY _,heap_alloc_new w _,aY _,by simp [maxLen],rfl,rfl⟩⟩
 have hold:∀ j u,news[j]? = some u->(w.alloc (.cells #[] 46)).cell? ((⟨b,off,none⟩:Addr).add j)=some u:=fun j u hj=>by
  have:=hnw j u hj;rw [rO] at this ⊢;unfold World.cell? at this ⊢;dsimp only at this ⊢;cases hh:w.heap[b]? with
  | none=>rw [hh] at this;cases this
  | some o=>
    rw [heap_alloc_old _ _ _ (cS.1 hh).1,hh];rw [hh] at this;exact this
 have hb2:=(Below.refl w.heap.size w).alloc (aY _) (.cells #[] 46);have hsz1:(w.alloc (.cells #[] 46)).heap.size=w.heap.size+1:=World.size_alloc ..
 gi_wp2_with (gi_at_builtin;refine ap3 rfl _ _ rfl w.heap.size (.slice (some ⟨w.heap.size,0,none⟩) 0 0) [] rfl hW1 ⟨b,off,none⟩ n cap news rfl hl hold h1 hb (by omega) ?_;intro v' w3 hv3 hg3)
 refine bodyPost_ret (results_tmp rfl _ _ _) rfl ?_;rw [Nat.zero_add,List.nil_append] at hv3;rcases hv3.2 with ⟨_,h0⟩ | ⟨g,cap',cur,rfl,hg,hgb,_,_,_,ht⟩
 .exact absurd h0 hn
 .exact ⟨g,cap',rfl,hg,⟨cur,_,hgb,ht⟩,hb2.grown hg3 (by omega) (fun k e=>by cases e;exact aY _)⟩
theorem NK {M:Nat->Prop} {w:World} {all:Array Value}:∀ {p:List Rat} {off:Nat},(∀ i t,(rQ p)[i]? = some t->t.length=3/\bA M w t ((all.toList.drop (off+i*3)).take 3))->((all.toList.drop off).take (p.length*3)).length=p.length*3/\(∀ u∈(all.toList.drop off).take (p.length*3),u.oneCell'=true)
 | [],off,_=>by simp
 | q::p,off,hel=>by
   obtain ⟨_,h2⟩:=hel 0 (qC q) rfl;rw [Nat.zero_mul,Nat.add_zero] at h2
   obtain ⟨h3,h4⟩:=NK (p:=p) (off:=off+3) fun i t hi=>by
    have:=hel (i+1) t hi
    rwa [show off+(i+1)*3=off+3+i*3 by omega] at this
   have hl:=h2.length
   have e:(all.toList.drop off).take ((q::p).length*3)=(all.toList.drop off).take 3++(all.toList.drop (off+3)).take (p.length*3):=by
    rw [List.length_cons,Nat.add_mul,Nat.one_mul,Nat.add_comm,List.take_add,List.drop_drop]
   rw [e];refine ⟨by rw [eC,h3,<-hl,List.length_cons];simp only [List.length_cons,List.length_nil];omega,fun u hu=>?_⟩;rcases List.mem_append.1 hu with hu | hu
   .exact h2.one u hu
   .exact h4 u hu
theorem aK5 {l:List Value} {k:Nat} {u0 u1 u2:Value} (h:(l.drop k).take 3 = [u0,u1,u2]):l[k]? = some u0/\l[k+1]? = some u1/\l[k+2]? = some u2:=by
 have g:∀ j,j<3->l[k+j]? = ((l.drop k).take 3)[j]?:=fun j hj=>by rw [List.getElem?_take,if_pos hj,List.getElem?_drop]
 have h0:=g 0 (by omega);have h1:=g 1 (by omega);have h2:=g 2 (by omega);rw [h] at h0 h1 h2;exact ⟨h0,h1,h2⟩
theorem oK {w:World} {b k:Nat} {all:Array Value} {T:TypeId} {fz:Nat×Nat} {u:Value} (hb:w.heap[b]? = some (.cells all T fz)) (h:all.toList[k]? = some u):w.cell? ⟨b,k,none⟩=some u:=by
 unfold World.cell?;rw [hb]
 simpa using h
theorem XN {M:Nat->Prop} {w:World} (hM:cK M w) {q:Rat} {u0 u1 u2:Value} (h:bA M w (qC q) [u0,u1,u2]):Calls prog 23 #[.agg #[u0,u1,u2]] w fun e w1=>e = .returned (.int .i64 q.num.sign)/\Below w.heap.size w w1:=by
 refine ((jW q).2 M w [.agg #[u0,u1,u2]] hM ⟨⟨[u0,u1,u2],rfl,h⟩,trivial⟩).mono ?_;rintro e w1 ⟨hb1,vs,rfl,hvs⟩;obtain ⟨v1,rfl,hv1⟩:=pQ hvs;obtain ⟨rfl,_⟩:=hv1;exact ⟨rfl,hb1⟩
set_option maxRecDepth 100000 in
theorem as7 (M:Nat->Prop) (w:World) (hM:cK M w) (v:Value) (p:List Rat) (hv:(sQ p).rep M w v) (hp:p ≠ []) (hlast:p.getD (p.length-1) 0≠0) (hb:p.length<1099511627776:=by omega) :
  Calls prog 157 #[v] w fun e w'=>∃ g cap' news,e = .returned (.slice (some ⟨g,0,none⟩) p.length cap')/\w.heap.size<=g/\ae0 g p.length news w'/\Below w.heap.size w w'/\∀ i,i<p.length->bA M w (qC (p.getD i 0)) ((news.drop (i*3)).take 3):=by
 obtain ⟨a,cap,rfl,hcc,hm,hel⟩:=hv;rw [aK] at hcc ⊢;have hp0:p.length≠0:=fun e=>hp (List.eq_nil_of_length_eq_zero e);rcases hel with h | ⟨b,off,all,T,fz,rfl,hMb,hbk,hel⟩
 .exact absurd (List.map_eq_nil_iff.1 h) hp
 have hpi:(0:Int)<p.length:=by omega
 obtain ⟨hnl,hn1⟩:=NK hel;have hrp:∀ i,i<p.length->bA M w (qC (p.getD i 0)) ((all.toList.drop (off+i*3)).take 3):=fun i hi=>(hel i _ (by rw [dL,aI hi];rfl)).2;have hrl:=hrp (p.length-1) (by omega);obtain ⟨u0,u1,u2,hu⟩:=ag0 hrl.length.symm;rw [hu] at hrl;obtain ⟨c0,c1,c2⟩:=aK5 hu;replace c0:=oK hbk c0;replace c1:=oK hbk c1;replace c2:=oK hbk c2;have hlb:=(cS.1 hbk).1;refine (callsIn_wide (n:=1000)).1 ?_;refine callsIn_of_wp func157 rfl trivial ?_ rfl;simp only [ntmps157,List.size_toArray,List.length_cons,List.length_nil,Nat.reduceAdd,Nat.reduceSub,Array.replicate_succ,Array.replicate_zero,List.push_toArray,List.append_toArray,List.nil_append,List.cons_append]
 gi_wp2
 rename_i K1 hK1;generalize hK:Exit.then _ _=K;refine wpIn_loop_ghost (fun j a' W'=>a' = { tmps:=#[.slice (some ⟨b,off,none⟩) p.length cap,undef, .slice none 0 0, .int .i64 p.length, .slice (some ⟨b,off,none⟩) p.length cap, .int .i64 p.length,undef,undef,undef,undef,undef,undef,undef,undef,undef,undef,undef,undef,undef,undef,undef,undef,undef],defers:=[] } /\ W'=w) 0 ⟨rfl,rfl⟩ ?_;rintro j a' W' ⟨rfl,rfl⟩;have hs:((p.getD (p.length-1) 0).num.sign)≠0:=fun e=>hlast (sign_zero.1 e);have q:=XN hM hrl;generalize (p.getD (p.length-1) 0).num.sign=sg at hs q
 have hcl:∀ {w1:World},Below W'.heap.size W' w1->∀ j u,((all.toList.drop off).take (p.length*3))[j]? = some u->w1.cell? ((⟨b,off,none⟩:Addr).add j)=some u:=fun {w1} hb1 j u hj=>by
  rw [rO];rw [List.getElem?_take] at hj;split at hj
  .rw [List.getElem?_drop] at hj;exact oK ((hb1.block b hlb).trans hbk) hj
  .cases hj
 gi_wp2_with (refine ⟨trivial,?_⟩;gi_at_call 23;refine (callsIn_wide.2 q).mono ?_;clear q;rintro e w1 ⟨rfl,hb1⟩)
 subst hK;refine hK1 _ _ ?_;have q:=af0 b off p.length cap _ w1 hnl (hcl hb1) hn1 hp0 hb
 gi_wp2_with (refine ⟨trivial,?_⟩;gi_at_call 207;refine (callsIn_wide.2 q).mono ?_;clear q;rintro e w2 ⟨g,cap',rfl,hg,hr,hb2⟩)
 refine bodyPost_ret (results_tmp rfl _ _ _) rfl ⟨g,cap',_,rfl,Nat.le_trans hb1.size hg,hr,hb1.trans (hb2.mono hb1.size),fun i hi=>?_⟩;have:=hrp i hi
 rwa [List.drop_take,List.take_take,Nat.min_eq_left (by have:=Nat.mul_le_mul_right 3 hi;rw [Nat.succ_mul] at this;omega),List.drop_drop]
end Go.Sy
namespace Go.Sy
open Go Go.Proofs Go.RowKit Go.Shelf Tryz Ord
attribute [local go_sem] Oper.semAt_some
theorem ao3 (t:Array Value) (h:t.size=67):t = #[t.getD 0 Go.undef,t.getD 1 Go.undef,t.getD 2 Go.undef,t.getD 3 Go.undef,t.getD 4 Go.undef,t.getD 5 Go.undef,t.getD 6 Go.undef,t.getD 7 Go.undef,t.getD 8 Go.undef,t.getD 9 Go.undef,t.getD 10 Go.undef,t.getD 11 Go.undef,t.getD 12 Go.undef,t.getD 13 Go.undef,t.getD 14 Go.undef,t.getD 15 Go.undef,t.getD 16 Go.undef,t.getD 17 Go.undef,t.getD 18 Go.undef,t.getD 19 Go.undef,t.getD 20 Go.undef,t.getD 21 Go.undef,t.getD 22 Go.undef,t.getD 23 Go.undef,t.getD 24 Go.undef,t.getD 25 Go.undef,t.getD 26 Go.undef,t.getD 27 Go.undef,t.getD 28 Go.undef,t.getD 29 Go.undef,t.getD 30 Go.undef,t.getD 31 Go.undef,t.getD 32 Go.undef,t.getD 33 Go.undef,t.getD 34 Go.undef,t.getD 35 Go.undef,t.getD 36 Go.undef,t.getD 37 Go.undef,t.getD 38 Go.undef,t.getD 39 Go.undef,t.getD 40 Go.undef,t.getD 41 Go.undef,t.getD 42 Go.undef,t.getD 43 Go.undef,t.getD 44 Go.undef,t.getD 45 Go.undef,t.getD 46 Go.undef,t.getD 47 Go.undef,t.getD 48 Go.undef,t.getD 49 Go.undef,t.getD 50 Go.undef,t.getD 51 Go.undef,t.getD 52 Go.undef,t.getD 53 Go.undef,t.getD 54 Go.undef,t.getD 55 Go.undef,t.getD 56 Go.undef,t.getD 57 Go.undef,t.getD 58 Go.undef,t.getD 59 Go.undef,t.getD 60 Go.undef,t.getD 61 Go.undef,t.getD 62 Go.undef,t.getD 63 Go.undef,t.getD 64 Go.undef,t.getD 65 Go.undef,t.getD 66 Go.undef]:=(rD t 67 h).trans rfl
def OJ (bs:List UInt8) (q:Rat):List UInt8:=if bs = [] then (if q<0 then [45] else []) else if q<0 then [32,45,32] else [32,43,32]
def RC (bs:List UInt8) (i:Nat) (q:Rat):List UInt8:=
 if q=0 then bs else
  if i=0 then bs++OJ bs q++vG q.abs
  else bs++OJ bs q++(if vG q.abs = [49] then [] else vG q.abs ++ [32]) ++ [120]++(if 1<i then [94]++dec i else [])
def qQ (p:List Rat):Nat->List UInt8
 | 0=>[]
 | k+1=>RC (qQ p k) (p.length-1-k) (p.getD (p.length-1-k) 0)
structure TxS (w:World) (g L:Nat) (news:List Value) (bs:List UInt8) (W:World):Prop where
 bld:Lib.IsBuilderF 209 5 w.heap.size w.heap.size (Lib.byteCells bs) W
 bel:Below w.heap.size w W
 row:ae0 g L news W
 gn:w.heap.size<g
theorem ae0.lt {g n:Nat} {news:List Value} {w:World} (h:ae0 g n news w):g<w.heap.size:=by
 obtain ⟨cur,fz,h,_⟩:=h;exact (cS.1 h).1
theorem TxS.call {w:World} {g L:Nat} {news:List Value} {bs:List UInt8} {W W':World} (h:TxS w g L news bs W) (hb:Below W.heap.size W W'):TxS w g L news bs W':=by
 have hl:=h.row.lt;refine ⟨wU h.bld fun j o ho _=>sL hb j o ho,h.bel.trans (hb.mono h.bel.size),?_,h.gn⟩;obtain ⟨cur,fz,h1,h2⟩:=h.row;exact ⟨cur,fz,(hb.block g hl).trans h1,h2⟩
theorem TxS.write {w:World} {g L:Nat} {news:List Value} {bs cs:List UInt8} {W W':World} (h:TxS w g L news bs W) (h1:Lib.IsBuilderF 209 5 w.heap.size w.heap.size (Lib.byteCells cs) W') (h2:Below w.heap.size W W') (h3:Lib.OthersKept 5 (some w.heap.size) W W'):TxS w g L news cs W':=by
 refine ⟨h1,h.bel.trans h2,?_,h.gn⟩;obtain ⟨cur,fz,e1,e2⟩:=h.row;have hg:=h.gn;exact ⟨cur,fz,h3 g _ e1 (by intro e;cases e;omega) (by intro c fz e;cases e),e2⟩
def aL7 (M:Nat->Prop) (w W:World) (k:Nat):Prop:=M k\/(w.heap.size<=k/\k<W.heap.size)
abbrev wA (w:World):World:=w.alloc (.cells #[.pointer none, .slice none 0 0] 209)
abbrev MA (M:Nat->Prop) (w:World) (k:Nat):Prop:=M k\/k=w.heap.size
theorem ar5 (w:World):(wA w).heap.size=w.heap.size+1:=World.size_alloc ..
theorem aN2 {M:Nat->Prop} {w:World}:bO M w (MA M w) (wA w):=fun k o hk ho _=>by
 have hlt:=(cS.1 ho).1;exact ⟨fun h=>h.elim hk (fun h=>by omega),(heap_alloc_old _ _ _ hlt).trans ho⟩
theorem aO2 {M:Nat->Prop} {w W:World} (hb:Below w.heap.size w W):bO (MA M w) (wA w) (aL7 M w W) W:=fun k o hk ho _=>by
 have hlt:=(cS.1 ho).1;rw [ar5] at hlt;have hne:k≠w.heap.size:=fun e=>hk (.inr e);have hlt:k<w.heap.size:=by omega
 refine ⟨fun h=>h.elim (fun h=>hk (.inl h)) (fun h=>by omega),(hb.block k hlt).trans ?_⟩;rw [<-ho];exact (heap_alloc_old _ _ _ hlt).symm
theorem Ww {M:Nat->Prop} {w W:World} (hM:cK M w) (hb:Below w.heap.size w W):cK (aL7 M w W) W:=by
 refine ⟨fun k h=>h.elim (fun h=>Nat.lt_of_lt_of_le (hM.1 k h) hb.size) (fun h=>h.2),hM.2.eE fun k o hk ho _=>?_⟩;have hlt:=(cS.1 ho).1;exact ⟨fun h=>h.elim hk (fun h=>by omega),(hb.block k hlt).trans ho⟩
theorem ap4 {M:Nat->Prop} {w:World} (hM:cK M w) {q:Rat} (hf:Fit 64 q) (h0:q≠0) (hn1:q.num.natAbs<1000000000) (hd1:q.den<1000000000) {u0 u1 u2:Value} (h:bA M w (qC q) [u0,u1,u2]) :
  Calls prog 168 #[.agg #[u0,u1,u2]] w fun e w1=>Below w.heap.size w w1/\∃ v,e = .returned v/\Calls prog 74 #[v] w1 fun e w2=>e = .returned (.string ⟨(vG q.abs).toArray⟩)/\Below w1.heap.size w1 w2:=by
 refine ((aR6 q).2 M w [.agg #[u0,u1,u2]] hM ⟨⟨[u0,u1,u2],rfl,h⟩,trivial⟩).mono ?_;rintro e w1 ⟨hb1,vs,rfl,hvs⟩;obtain ⟨v1,rfl,hv1⟩:=pQ hvs
 have hA:q.abs.num.natAbs=q.num.natAbs/\q.abs.den=q.den:=by
  have:=BI q;exact ⟨by rw [this.1];omega,this.2⟩
 refine ⟨hb1,_,rfl,?_⟩;refine ((Dd q.abs ⟨by rw [hA.1];exact hf.1,by rw [hA.2];exact hf.2⟩ (by rw [hA.1];intro e;exact h0 (Rat.num_eq_zero.1 (Int.natAbs_eq_zero.1 e))) (by rw [hA.1];exact hn1) (by rw [hA.2];exact hd1)).2 M w1 [v1] (gZ hM hb1) ⟨hv1,trivial⟩).mono ?_;rintro e w2 ⟨hb2,vs,rfl,hvs⟩;obtain ⟨v2,rfl,hv2⟩:=pQ hvs;obtain ⟨rfl,_⟩:=hv2;exact ⟨rfl,hb2⟩
theorem aU4 (a b:List UInt8):(⟨a.toArray⟩:ByteArray)++⟨b.toArray⟩=⟨(a++b).toArray⟩:=by
 apply ByteArray.ext;rw [ByteArray.data_append];simp
structure Up (w:World) (g L:Nat) (news:List Value) (n1:Nat) (u0 u1 u2:Value) (bs:List UInt8) (W:World):Prop where
 t:TxS w g L news bs W
 box:W.heap[n1]? = some (.cells #[u0,u1,u2] 46 (0,0))
 bn:w.heap.size<n1
theorem Up.call {w:World} {g L n1:Nat} {news:List Value} {u0 u1 u2:Value} {bs:List UInt8} {W W':World} (h:Up w g L news n1 u0 u1 u2 bs W) (hb:Below W.heap.size W W'):Up w g L news n1 u0 u1 u2 bs W':=
 ⟨h.t.call hb,(hb.block _ (cS.1 h.box).1).trans h.box,h.bn⟩
section
variable {M:Nat->Prop} {w:World} {g L n1:Nat} {news:List Value} {u0 u1 u2:Value} {bs:List UInt8} {W:World} (h:Up w g L news n1 u0 u1 u2 bs W)
include h
theorem Up.c:W.cell? ⟨n1,0,none⟩=some u0/\W.cell? ⟨n1,1,none⟩=some u1/\W.cell? ⟨n1,2,none⟩=some u2:=⟨bK h.box rfl,bK h.box rfl,bK h.box rfl⟩
theorem Up.sign (hM:cK M w) {q:Rat} (hr:bA (MA M w) (wA w) (qC q) [u0,u1,u2]):Calls prog 23 #[.agg #[u0,u1,u2]] W fun e W'=>e = .returned (.int .i64 q.num.sign)/\Up w g L news n1 u0 u1 u2 bs W':=
 (XN (Ww hM h.t.bel) (hr.mono (aO2 h.t.bel))).mono fun e W' ⟨h1,h2⟩=>⟨h1,h.call h2⟩
theorem Up.len:Calls prog 166 #[.pointer (some ⟨w.heap.size,0,none⟩)] W fun e W'=>e = .returned (.int .i64 (bs.length:Nat))/\Up w g L news n1 u0 u1 u2 bs W':=by
 refine (am9 _ _ _ W h.t.bld).mono ?_;rintro e W' ⟨rfl,rfl⟩;rw [Lib.byteCells_length];exact ⟨rfl,h⟩
theorem Up.wr (s:List UInt8) (hs:s.length<=1000000) (hb:bs.length<=100000000):Calls prog 167 #[.pointer (some ⟨w.heap.size,0,none⟩), .string ⟨s.toArray⟩] W fun e W'=>(∃ r,e = .returned r)/\Up w g L news n1 u0 u1 u2 (bs++s) W':=by
 refine (WG w.heap.size w.heap.size _ ⟨s.toArray⟩ W h.t.bld (by rw [Lib.byteCells_length];show bs.length+s.toArray.size<=_;rw [List.size_toArray];omega) h.t.bel.size).mono ?_;rintro e W' ⟨rfl,h1,h2,h3⟩;rw [Lib.strCells_eq,<-Lib.byteCells_append] at h1;refine ⟨⟨_,rfl⟩,h.t.write h1 h2 h3,h3 n1 _ h.box (by intro e;have:=h.bn;cases e;omega) (by intro c fz e;cases e),h.bn⟩
end
theorem Up.abs {M:Nat->Prop} {w:World} {g L n1:Nat} {news:List Value} {u0 u1 u2:Value} {bs:List UInt8} {W:World} (h:Up w g L news n1 u0 u1 u2 bs W) (hM:cK M w) {q:Rat} (hf:Fit 64 q) (h0:q≠0) (hn1:q.num.natAbs<1000000000) (hd1:q.den<1000000000) (hr:bA (MA M w) (wA w) (qC q) [u0,u1,u2]) :
  Calls prog 168 #[.agg #[u0,u1,u2]] W fun e W1=>∃ v,e = .returned v/\Calls prog 74 #[v] W1 fun e W2=>e = .returned (.string ⟨(vG q.abs).toArray⟩)/\Up w g L news n1 u0 u1 u2 bs W2:=by
 refine (ap4 (Ww hM h.t.bel) hf h0 hn1 hd1 (hr.mono (aO2 h.t.bel))).mono ?_;rintro e W1 ⟨hb1,v,rfl,hc⟩;exact ⟨v,rfl,hc.mono fun e W2 ⟨h1,h2⟩=>⟨h1,(h.call hb1).call h2⟩⟩
set_option maxRecDepth 100000 in
set_option maxHeartbeats 1000000 in
theorem aw5 (M:Nat->Prop) (w:World) (hM:cK M w) (v:Value) (p:List Rat) (hv:(sQ p).rep M w v) (hp:p ≠ []) (hlast:p.getD (p.length-1) 0≠0) (hb:p.length<1000)
  (hf:∀ a∈p,Fit 64 a/\a.num.natAbs<1000000000/\a.den<1000000000) (ht:qQ p p.length ≠ []) (hlen:∀ k,k<=p.length->(qQ p k).length<=1000000) :
  Calls prog 73 #[v] w fun e w'=>e = .returned (.string ⟨(qQ p p.length).toArray⟩)/\Below w.heap.size w w':=by
 refine (callsIn_wide (n:=1000)).1 ?_;refine callsIn_of_wp func73 rfl trivial ?_ rfl;simp only [ntmps73,List.size_toArray,List.length_cons,List.length_nil,Nat.reduceAdd,Nat.reduceSub,Array.replicate_succ,Array.replicate_zero,List.push_toArray,List.append_toArray,List.nil_append,List.cons_append];have o0:=aD.one _ hv;have hbA:=(Below.refl w.heap.size w).alloc (aY _) (.cells #[.pointer none, .slice none 0 0] 209);have hsA:=ar5 w;have hA0:=heap_alloc_new w (.cells #[.pointer none, .slice none 0 0] 209);have q:=as7 (MA M w) (wA w) ⟨fun k h=>h.elim (fun h=>by have:=hM.1 k h;omega) (fun h=>by omega),hM.2.eE aN2⟩ v p (aD.mono _ aN2 hv) hp hlast
 gi_wp2_with (refine ⟨trivial,?_⟩;gi_at_call 157;refine (callsIn_wide.2 q).mono ?_;clear q;rintro e w1 ⟨g,cap,news,rfl,hg,hr,hb1,hrow⟩)
 rename_i K1 hK1;rw [hsA] at hg hb1
 have hT1:TxS w g p.length news [] w1:=by
  refine ⟨?_,hbA.trans (hb1.mono (by omega)),hr,by omega⟩;exact wU (Lib.IsBuilderF.of (.inl ⟨aY _,_,hA0,⟨rfl, .inl ⟨rfl,rfl⟩⟩,by simp [Value.ownBlock]⟩)) fun j o ho _=>(hb1.block j (by have:=(cS.1 ho).1;rw [ar5] at this;exact this)).trans ho
 clear hb1 hr hbA hsA hA0 hv o0;generalize hKK:Exit.inBlock 0 _=KK;refine wpIn_loop_ghost (fun j a' W'=>∃ k,j=k/\k<=p.length/\a'.tmps.size=67/\a'.defers = []/\a'.tmps.getD 0 Go.undef = .slice (some ⟨g,0,none⟩) p.length cap/\a'.tmps.getD 3 Go.undef = .pointer (some ⟨w.heap.size,0,none⟩)/\a'.tmps.getD 4 Go.undef = .int .i64 ((k:Int)-1)/\TxS w g p.length news (qQ p (p.length-k)) W') p.length ⟨_,rfl,aY _,rfl,rfl,rfl,rfl,rfl,by rw [Nat.sub_self];exact hT1⟩ ?_;rintro j ⟨t,d⟩ W ⟨k,rfl,hk,hsz,rfl,t0,t3,t4,hT⟩;clear hT1;dsimp only at hsz t0 t3 t4;rw [ao3 t hsz,t0,t3,t4];clear t0 t3 t4;generalize t.getD 1 Go.undef=y1;generalize t.getD 2 Go.undef=y2;generalize t.getD 5 Go.undef=y5;generalize t.getD 6 Go.undef=y6;rcases j with _ | i
 .rw [Nat.sub_zero] at hT;have hL:(Lib.byteCells (qQ p p.length)).length≠0:=by rw [Lib.byteCells_length];exact fun e=>ht (List.eq_nil_of_length_eq_zero e)
  have q:=am9 w.heap.size w.heap.size _ W hT.bld;generalize (Lib.byteCells (qQ p p.length)).length=LL at hL q;have q2:=Tryz.Builder_String_any_k w.heap.size w.heap.size _ W hT.bld hT.bel.size;have hbel:=hT.bel
  gi_wp2
  subst hKK;refine hK1 _ _ ?_
  gi_wp2_with (refine ⟨trivial,?_⟩;gi_at_call 166;refine (callsIn_wide.2 q).mono ?_;clear q;rintro e w2 ⟨rfl,rfl⟩)
  gi_wp2_with (refine ⟨trivial,?_⟩;gi_at_call 170;refine (callsIn_wide.2 q2).mono ?_;clear q2;rintro e w3 ⟨rfl,b1,hl1,ho1⟩)
  exact bodyPost_ret (results_tmp rfl _ _ _) rfl ⟨rfl,hbel.trans hl1⟩
 have hi:i<p.length:=hk;rw [show ((i+1:Nat):Int)-1=(i:Int) by omega];have hri:=hrow i hi;obtain ⟨u0,u1,u2,hu⟩:=ag0 hri.length.symm;rw [hu] at hri
 obtain ⟨o0,o1,o2⟩:u0.oneCell'=true/\u1.oneCell'=true/\u2.oneCell'=true:=by
  have:=hri.one;exact ⟨this _ (by simp),this _ (by simp),this _ (by simp)⟩
 obtain ⟨c0,c1,c2⟩:W.cell? ⟨g,i*3,none⟩=some u0/\W.cell? ⟨g,i*3+1,none⟩=some u1/\W.cell? ⟨g,i*3+2,none⟩=some u2:=by
  obtain ⟨cur,fz,e1,e2⟩:=hT.row;obtain ⟨d0,d1,d2⟩:=aK5 hu;rw [<-e2] at d0 d1 d2
  have key:∀ {m:Nat} {u:Value},(cur.toList.take (p.length*3))[m]? = some u->W.cell? ⟨g,m,none⟩=some u:=fun {m u} h=>by
   rw [List.getElem?_take] at h;split at h
   .exact oK e1 h
   .cases h
  exact ⟨key d0,key d1,key d2⟩
 have hqm:p.getD i 0∈p:=gD (aI hi);obtain ⟨hf1,hf2,hf3⟩:=hf _ hqm
 have htx:qQ p (p.length-i)=RC (qQ p (p.length-(i+1))) i (p.getD i 0):=by
  rw [show p.length-i=p.length-(i+1)+1 by omega,qQ,show p.length-1-(p.length-(i+1))=i by omega]
 have hlb:=hlen (p.length-(i+1)) (by omega);generalize qQ p (p.length-(i+1))=bs at hT htx hlb;generalize p.getD i 0=q at hri htx hf1 hf2 hf3;have hgl:=hT.row.lt;have hnn:(0:Int)<=i:=by omega
 gi_wp2
 rename_i K5 hK5 K7 hK7 K6 hK6;have hnew:=heap_alloc_new W (.cells #[.slice none 0 0, .bool false, .slice none 0 0] 46);rw [Du hnew o0 o1 o2]
 have hB1:Up w g p.length news W.heap.size u0 u1 u2 bs ((W.alloc (.cells #[.slice none 0 0, .bool false, .slice none 0 0] 46)).setRow W.heap.size #[u0,u1,u2]):=by
  have hb:=below_setRow (g:=W.heap.size) ((Below.refl W.heap.size W).alloc (aY _) (.cells #[.slice none 0 0, .bool false, .slice none 0 0] 46)) (aY _) #[u0,u1,u2];exact ⟨hT.call hb,setRow_heap _ _ _ _ _ _ hnew,by omega⟩
 generalize (W.alloc (.cells #[.slice none 0 0, .bool false, .slice none 0 0] 46)).setRow W.heap.size #[u0,u1,u2]=W1 at hB1 ⊢;generalize W.heap.size=n1 at hB1 ⊢;clear c0 c1 c2 hgl hT hnew
 have hback:∀ (t':Array Value) (W':World),t'.size=67->t'.getD 0 Go.undef = .slice (some ⟨g,0,none⟩) p.length cap->t'.getD 3 Go.undef = .pointer (some ⟨w.heap.size,0,none⟩)->t'.getD 4 Go.undef = .int .i64 (i:Int)->TxS w g p.length news (qQ p (p.length-i)) W'->K5 ⟨t',[]⟩ W':=by
  intro t' W' hs' s0 s3 s4 hT';rw [ao3 t' hs',s0,s3,s4];clear s0 s3 s4;refine hK5 _ _ ?_
  gi_wp2
  exact ⟨i,by omega,i,rfl,by omega,rfl,trivial,rfl,rfl,rfl,hT'⟩
 clear hK5;have q1:=hB1.sign hM hri;obtain ⟨b0,b1,b2⟩:=hB1.c
 gi_wp2_with (refine ⟨trivial,?_⟩;gi_at_call 23;refine (callsIn_wide.2 q1).mono ?_;clear q1;rintro e w2 ⟨rfl,hB2⟩)
 .rename_i h;have hq0:q=0:=sign_zero.1 (by simpa using h);exact hback _ _ rfl rfl rfl rfl (by rw [htx,RC,if_pos hq0];exact hB2.t)
 rename_i h K14 hK14 K9 hK9 KL hKL;have hq0:q≠0:=fun e=>by rw [sign_zero.2 e] at h;cases h
 have hsl:(OJ bs q).length<=3:=by unfold OJ;split<;>split<;>decide
 have htl:(vG q.abs).length<=1000:=by
  have hA:=BI q;have l1:(dec q.abs.num.natAbs).length<=9:=gO (by omega) (by rw [show (10:Nat)^9=1000000000 by decide,hA.1];omega);have l2:(dec q.abs.den).length<=9:=gO (by omega) (by rw [show (10:Nat)^9=1000000000 by decide,hA.2];omega);rw [show vG q.abs=((if q.abs.num<0 then [45] else [])++dec q.abs.num.natAbs)++if q.abs.den=1 then [] else [47]++dec q.abs.den from rfl];split<;>split<;>simp only [eC,List.length_cons,List.length_nil]<;>omega
 have hdl:(dec i).length<=10:=gO (by omega) (by omega)
 have htail:∀ (t':Array Value) (W':World),t'.size=67->t'.getD 0 Go.undef = .slice (some ⟨g,0,none⟩) p.length cap->t'.getD 3 Go.undef = .pointer (some ⟨w.heap.size,0,none⟩)->t'.getD 4 Go.undef = .int .i64 (i:Int)->t'.getD 5 Go.undef = .pointer (some ⟨n1,0,none⟩)->Up w g p.length news n1 u0 u1 u2 (bs++OJ bs q) W'->K14 ⟨t',[]⟩ W':=by
  clear hB2 hB1 hK9 hKL b0 b1 b2;intro t' W' hs' s0 s3 s4 s5 hB;rw [ao3 t' hs',s0,s3,s4,s5];clear s0 s3 s4 s5;obtain ⟨b0,b1,b2⟩:=hB.c;have qA:=hB.abs hM hf1 hq0 hf2 hf3 hri;refine hK14 _ _ ?_
  gi_wp2_with (refine ⟨trivial,?_⟩;gi_at_call 168;refine (callsIn_wide.2 qA).mono ?_;clear qA;rintro e w3 ⟨v,rfl,qT⟩)
  gi_wp2_with (refine ⟨trivial,?_⟩;gi_at_call 74;refine (callsIn_wide.2 qT).mono ?_;clear qT;rintro e w4 ⟨rfl,hB4⟩)
  .rename_i h1 K16 hK16 K50 hK50;have hi0:i=0:=by simpa using h1
   gi_wp2_with (refine ⟨trivial,?_⟩;gi_at_call 167;refine (callsIn_wide.2 (hB4.wr (vG q.abs) (by omega) (by simp only [eC];omega))).mono ?_;rintro e w5 ⟨⟨r,rfl⟩,hB5⟩)
   exact hback _ _ rfl rfl rfl (by rw [hi0];rfl) (by rw [htx,RC,if_neg hq0,if_pos hi0];exact hB5.t)
  .rename_i h1 K19 hK19 h2 K54 hK54;have hi0:i≠0:=by simpa using h1
   have h1t:vG q.abs ≠ [49]:=by simpa using h2
   gi_wp2_with (refine ⟨trivial,?_⟩;gi_at_call 167;rw [show (⟨(vG q.abs).toArray⟩:ByteArray)++⟨#[32]⟩=⟨(vG q.abs ++ [32]).toArray⟩ from aU4 _ [32]];refine (callsIn_wide.2 (hB4.wr (vG q.abs ++ [32]) (by simp only [eC,List.length_cons,List.length_nil];omega) (by simp only [eC];omega))).mono ?_;rintro e w5 ⟨⟨r,rfl⟩,hB5⟩)
   gi_wp2_with (refine ⟨trivial,?_⟩;gi_at_call 167;refine (callsIn_wide.2 (hB5.wr [120] (by decide) (by simp only [eC,List.length_cons,List.length_nil];omega))).mono ?_;rintro e w6 ⟨⟨r6,rfl⟩,hB6⟩)
   .rename_i h6 K21 hK21;have qI:=Qj i w6 _ (Ww hM hB6.t.bel).2
    gi_wp2_with (refine ⟨trivial,?_⟩;gi_at_call 169;refine (callsIn_wide.2 qI).mono ?_;clear qI;rintro e w7 ⟨rfl,hb7⟩)
    have hB7:=hB6.call hb7
    gi_wp2_with (refine ⟨trivial,?_⟩;gi_at_call 167;rw [show (⟨#[94]⟩:ByteArray)++⟨(dec i).toArray⟩=⟨([94]++dec i).toArray⟩ from aU4 [94] _];refine (callsIn_wide.2 (hB7.wr ([94]++dec i) (by simp only [eC,List.length_cons,List.length_nil];omega) (by simp only [eC,List.length_cons,List.length_nil];omega))).mono ?_;rintro e w8 ⟨⟨r8,rfl⟩,hB8⟩)
    exact hback _ _ rfl rfl rfl rfl (by rw [htx,RC,if_neg hq0,if_neg hi0,if_neg h1t,if_pos (by omega)];exact hB8.t)
   .rename_i h6;exact hback _ _ rfl rfl rfl rfl (by rw [htx,RC,if_neg hq0,if_neg hi0,if_neg h1t,if_neg (by omega),List.append_nil];exact hB6.t)
  .rename_i h1 h2 K20 hK20 K57 hK57;have hi0:i≠0:=by simpa using h1
   have h1t:vG q.abs = [49]:=by simpa using h2
   gi_wp2_with (refine ⟨trivial,?_⟩;gi_at_call 167;refine (callsIn_wide.2 (hB4.wr [120] (by decide) (by simp only [eC,List.length_cons,List.length_nil];omega))).mono ?_;rintro e w6 ⟨⟨r6,rfl⟩,hB6⟩)
   .rename_i h6 K21 hK21;have qI:=Qj i w6 _ (Ww hM hB6.t.bel).2
    gi_wp2_with (refine ⟨trivial,?_⟩;gi_at_call 169;refine (callsIn_wide.2 qI).mono ?_;clear qI;rintro e w7 ⟨rfl,hb7⟩)
    have hB7:=hB6.call hb7
    gi_wp2_with (refine ⟨trivial,?_⟩;gi_at_call 167;rw [show (⟨#[94]⟩:ByteArray)++⟨(dec i).toArray⟩=⟨([94]++dec i).toArray⟩ from aU4 [94] _];refine (callsIn_wide.2 (hB7.wr ([94]++dec i) (by simp only [eC,List.length_cons,List.length_nil];omega) (by simp only [eC,List.length_cons,List.length_nil];omega))).mono ?_;rintro e w8 ⟨⟨r8,rfl⟩,hB8⟩)
    exact hback _ _ rfl rfl rfl rfl (by rw [htx,RC,if_neg hq0,if_neg hi0,if_pos h1t,List.append_nil,if_pos (by omega)];exact hB8.t)
   .rename_i h6;exact hback _ _ rfl rfl rfl rfl (by rw [htx,RC,if_neg hq0,if_neg hi0,if_pos h1t,List.append_nil,if_neg (by omega),List.append_nil];exact hB6.t)
 obtain ⟨b0,b1,b2⟩:=hB2.c
 have hqs:q.num.sign = -1/\q<0\/q.num.sign=1/\¬ q<0:=by
  rcases Int.lt_trichotomy q.num 0 with h | h | h
  .exact .inl ⟨Int.sign_eq_neg_one_of_neg h,Rat.not_le.1 fun e=>by have:=Rat.num_nonneg.2 e;omega⟩
  .exact absurd (Rat.num_eq_zero.1 h) hq0
  .exact .inr ⟨Int.sign_eq_one_of_pos h,fun e=>absurd (Rat.num_nonneg.1 (by omega)) (Rat.not_le.2 e)⟩
 clear h;by_cases hbs:bs = []
 .have hb0:((bs.length:Nat):Int)=0:=by rw [hbs];rfl
  have hbl:bs.length=0:=by rw [hbs];rfl
  rcases hqs with ⟨hsg,hqn⟩ | ⟨hsg,hqn⟩
  .gi_wp2_with (refine ⟨trivial,?_⟩;gi_at_call 166;refine (callsIn_wide.2 hB2.len).mono ?_;rintro e w3 ⟨rfl,hB3⟩;obtain ⟨b0,b1,b2⟩:=hB3.c)
   gi_wp2_with (refine ⟨trivial,?_⟩;gi_at_call 23;refine (callsIn_wide.2 (hB3.sign hM hri)).mono ?_;rintro e w4 ⟨rfl,hB4⟩;obtain ⟨b0,b1,b2⟩:=hB4.c)
   gi_wp2_with (refine ⟨trivial,?_⟩;gi_at_call 167;refine (callsIn_wide.2 (hB4.wr [45] (by decide) (by omega))).mono ?_;rintro e w5 ⟨⟨r,rfl⟩,hB5⟩)
   exact htail _ _ rfl rfl rfl rfl rfl (by rw [OJ,if_pos hbs,if_pos hqn];exact hB5)
  .gi_wp2_with (refine ⟨trivial,?_⟩;gi_at_call 166;refine (callsIn_wide.2 hB2.len).mono ?_;rintro e w3 ⟨rfl,hB3⟩;obtain ⟨b0,b1,b2⟩:=hB3.c)
   gi_wp2_with (refine ⟨trivial,?_⟩;gi_at_call 23;refine (callsIn_wide.2 (hB3.sign hM hri)).mono ?_;rintro e w4 ⟨rfl,hB4⟩;obtain ⟨b0,b1,b2⟩:=hB4.c)
   gi_wp2_with (refine ⟨trivial,?_⟩;gi_at_call 166;refine (callsIn_wide.2 hB4.len).mono ?_;rintro e w5 ⟨rfl,hB5⟩;obtain ⟨b0,b1,b2⟩:=hB5.c)
   refine ⟨trivial,?_⟩;rename_i Kz hKz;refine hKz _ _ ?_
   gi_wp2_with (refine ⟨trivial,?_⟩;gi_at_call 166;refine (callsIn_wide.2 hB5.len).mono ?_;rintro e w6 ⟨rfl,hB6⟩;obtain ⟨b0,b1,b2⟩:=hB6.c)
   exact htail _ _ rfl rfl rfl rfl rfl (by rw [OJ,if_pos hbs,if_neg hqn,List.append_nil];exact hB6)
 .have hb0:¬ ((bs.length:Nat):Int)=0:=by have:bs.length≠0:=fun e=>hbs (List.eq_nil_of_length_eq_zero e);omega
  have hbp:(0:Int)<(bs.length:Nat):=by have:bs.length≠0:=fun e=>hbs (List.eq_nil_of_length_eq_zero e);omega
  rcases hqs with ⟨hsg,hqn⟩ | ⟨hsg,hqn⟩
  .gi_wp2_with (refine ⟨trivial,?_⟩;gi_at_call 166;refine (callsIn_wide.2 hB2.len).mono ?_;rintro e w3 ⟨rfl,hB3⟩;obtain ⟨b0,b1,b2⟩:=hB3.c)
   refine ⟨trivial,?_⟩;rename_i Kz hKz;refine hKz _ _ ?_
   gi_wp2_with (refine ⟨trivial,?_⟩;gi_at_call 166;refine (callsIn_wide.2 hB3.len).mono ?_;rintro e w4 ⟨rfl,hB4⟩;obtain ⟨b0,b1,b2⟩:=hB4.c)
   gi_wp2_with (refine ⟨trivial,?_⟩;gi_at_call 23;refine (callsIn_wide.2 (hB4.sign hM hri)).mono ?_;rintro e w5 ⟨rfl,hB5⟩;obtain ⟨b0,b1,b2⟩:=hB5.c)
   gi_wp2_with (refine ⟨trivial,?_⟩;gi_at_call 167;refine (callsIn_wide.2 (hB5.wr [32,45,32] (by decide) (by omega))).mono ?_;rintro e w6 ⟨⟨r,rfl⟩,hB6⟩)
   exact htail _ _ rfl rfl rfl rfl rfl (by rw [OJ,if_neg hbs,if_pos hqn];exact hB6)
  .gi_wp2_with (refine ⟨trivial,?_⟩;gi_at_call 166;refine (callsIn_wide.2 hB2.len).mono ?_;rintro e w3 ⟨rfl,hB3⟩;obtain ⟨b0,b1,b2⟩:=hB3.c)
   refine ⟨trivial,?_⟩;rename_i Kz hKz;refine hKz _ _ ?_
   gi_wp2_with (refine ⟨trivial,?_⟩;gi_at_call 166;refine (callsIn_wide.2 hB3.len).mono ?_;rintro e w4 ⟨rfl,hB4⟩;obtain ⟨b0,b1,b2⟩:=hB4.c)
   gi_wp2_with (refine ⟨trivial,?_⟩;gi_at_call 23;refine (callsIn_wide.2 (hB4.sign hM hri)).mono ?_;rintro e w5 ⟨rfl,hB5⟩;obtain ⟨b0,b1,b2⟩:=hB5.c)
   gi_wp2_with (refine ⟨trivial,?_⟩;gi_at_call 166;refine (callsIn_wide.2 hB5.len).mono ?_;rintro e w6 ⟨rfl,hB6⟩;obtain ⟨b0,b1,b2⟩:=hB6.c)
   gi_wp2_with (refine ⟨trivial,?_⟩;gi_at_call 167;refine (callsIn_wide.2 (hB6.wr [32,43,32] (by decide) (by omega))).mono ?_;rintro e w7 ⟨⟨r,rfl⟩,hB7⟩)
   exact htail _ _ rfl rfl rfl rfl rfl (by rw [OJ,if_neg hbs,if_neg hqn];exact hB7)
theorem Pn (p:List Rat) (hp:p ≠ []) (hlast:p.getD (p.length-1) 0≠0) (hb:p.length<1000)
  (hf:∀ a∈p,Fit 64 a/\a.num.natAbs<1000000000/\a.den<1000000000) (ht:qQ p p.length ≠ []) (hlen:∀ k,k<p.length+1->(qQ p k).length<=1000000):aQ prog 73 [.one (sQ p)] (.ret [bS (qQ p p.length)]):=by
 refine ⟨bJ (by kernel_rfl),fun M w vs hM hv=>?_⟩;obtain ⟨v,rfl,hv⟩:=pQ hv;refine (aw5 M w hM v p hv.1 hp hlast hb hf ht fun k hk=>hlen k (by omega)).mono ?_;rintro e w' ⟨rfl,hb⟩;exact ⟨hb,[_],rfl,⟨rfl,rfl⟩,trivial⟩
theorem bz5:aQ prog 73 [.one (sQ [-1,9/2,-3,1/2])] (.ret [bS [49,47,50,32,120,94,51,32,45,32,51,32,120,94,50,32,43,32,57,47,50,32,120,32,45,32,49]]):=by
 have h:=Pn [-1,9/2,-3,1/2] (by decide) (by decide +kernel) (by decide) (by unfold Fit;decide +kernel) (by decide +kernel) (by decide +kernel)
 rwa [show qQ [-1,9/2,-3,1/2] ([-1,9/2,-3,1/2]:List Rat).length = [49,47,50,32,120,94,51,32,45,32,51,32,120,94,50,32,43,32,57,47,50,32,120,32,45,32,49] by decide +kernel] at h
theorem bq7:aQ prog 73 [.one (sQ [0,0,3,-2])] (.ret [bS [45,50,32,120,94,51,32,43,32,51,32,120,94,50]]):=by
 have h:=Pn [0,0,3,-2] (by decide) (by decide +kernel) (by decide) (by unfold Fit;decide +kernel) (by decide +kernel) (by decide +kernel)
 rwa [show qQ [0,0,3,-2] ([0,0,3,-2]:List Rat).length = [45,50,32,120,94,51,32,43,32,51,32,120,94,50] by decide +kernel] at h
theorem bz7:aQ prog 73 [.one (sQ [2,-1])] (.ret [bS [45,120,32,43,32,50]]):=by
 have h:=Pn [2,-1] (by decide) (by decide +kernel) (by decide) (by unfold Fit;decide +kernel) (by decide +kernel) (by decide +kernel)
 rwa [show qQ [2,-1] ([2,-1]:List Rat).length = [45,120,32,43,32,50] by decide +kernel] at h
end Go.Sy
namespace Go.Sy
open Go Go.Proofs Tryz Ord
def jX:Tr:=.ret [(tF false)]
def au8:Tr:=bI .eql 3 125 3 54 0 4 (.split (.u 55 0) (.need (.prim [(W 35 0),(WK 1)] none) (.indexAddr 28 (tT 129) (.const (I3 1))) 0 false (eI 56 0 (some 3) 46 130 (aZ 74 [(G3 57)] [none] [131] [46] 9 false (.need (.prim [(W 58 0),(.one (.c (.k (.string ⟨#[51]⟩))))] none) (.binOp .eql 9 (tT 132) (.const (.string ⟨#[51]⟩)) 9) 4 false (.ret [(W 59 0)]))))) jX)
def aE4:Tr:=.split (.u 50 0) (bI .eql 54 115 0 36 0 4 (.split (.u 51 0) (dS 34 0 119 28 (bI .eql 3 120 5 52 0 4 (.split (.u 53 0) (dS 35 0 124 28 au8) jX))) jX)) jX
def au7:Tr:=aZ 73 [(W 44 0)] [none] [102] [98] 9 false (.need (.prim [(W 45 0),(.one (.c (.k (.string ⟨#[45,50,32,120,94,51,32,43,32,51,32,120,94,50]⟩))))] none) (.binOp .eql 9 (tT 103) (.const (.string ⟨#[45,50,32,120,94,51,32,43,32,51,32,120,94,50]⟩)) 9) 4 false (.split (.u 46 0) (.need (.prim [(W 19 1),(WK 1)] none) (.indexAddr 29 (tT 108) (.const (I3 1))) 0 false (eI 47 0 none 98 109 (aZ 73 [(W 48 0)] [none] [110] [98] 9 false (.need (.prim [(W 49 0),(.one (.c (.k (.string ⟨#[45,120,32,43,32,50]⟩))))] none) (.binOp .eql 9 (tT 111) (.const (.string ⟨#[45,120,32,43,32,50]⟩)) 9) 4 false aE4)))) jX))
def aE0:Tr:=.need (.prim [(W 39 0),(.one (.c (.k (.string ⟨#[49,47,50,32,120,94,51,32,45,32,51,32,120,94,50,32,43,32,57,47,50,32,120,32,45,32,49]⟩))))] none) (.binOp .eql 9 (tT 91) (.const (.string ⟨#[49,47,50,32,120,94,51,32,45,32,51,32,120,94,50,32,43,32,57,47,50,32,120,32,45,32,49]⟩)) 9) 4 false (.split (.u 40 0) (aZ 74 [(G3 9)] [none] [94] [46] 9 false (.need (.prim [(W 41 0),(.one (.c (.k (.string ⟨#[54]⟩))))] none) (.binOp .eql 9 (tT 95) (.const (.string ⟨#[54]⟩)) 9) 4 false (.split (.u 42 0) (.need (.prim [(W 15 1),(WK 0)] none) (.indexAddr 29 (tT 100) (.const (I3 0))) 0 false (eI 43 0 none 98 101 au7)) jX))) jX)
def aw6:Tr:=aZ 71 [(.one (.c (.sr 1 30)))] [none] [78] [205] 28 false (.need (.lit 1 [[(.k (.int .i64 2))],[(.k (.int .i64 4))]]) (.buildSlice 205 2 #[(0,(.const (I3 2))),(1,(.const (I3 4)))]) 205 false (aZ 71 [(.one (.c (.sr 1 32)))] [none] [80] [205] 28 false (.need (.call 36 [(W 31 0),(WK 1),(W 33 0),(G3 28)] [none,none,none]) (.call ⟨.value (.func 36),#[(tT 79),(.const (I3 1)),(tT 81),(tT 82)],#[28,3,28,46]⟩) 78 false (.need (.prim [(W 4 1),(WK 1)] none) (.indexAddr 29 (tT 88) (.const (I3 1))) 0 false (eI 37 0 none 98 89 (aZ 73 [(W 38 0)] [none] [90] [98] 9 false aE0))))))
def az7:Tr:=bI .neq 3 64 1 24 0 4 (.split (.u 25 0) jX (dS 19 1 69 29 (bI .neq 3 70 2 26 0 4 (.split (.u 27 0) jX (.need (.call 72 [(WK 1),(WK 2)] [(some 3),none]) (.call ⟨.value (.func 72),#[(.const (I3 1)),(.const (I3 2))],#[2,2]⟩) 55 false (.need (.lit 1 [[(.k (.int .i64 0))],[(.k (.int .i64 0))],[(.k (.int .i64 1))],[(.k (.int .i64 1))]]) (.buildSlice 205 4 #[(0,(.const (I3 0))),(1,(.const (I3 0))),(2,(.const (I3 1))),(3,(.const (I3 1)))]) 205 false aw6))))))
def aG2:Tr:=bI .neq 54 51 0 10 0 4 (.split (.u 21 0) jX (bI .neq 54 54 0 16 0 4 (.split (.u 22 0) jX (bI .neq 54 58 0 20 0 4 (.split (.u 23 0) jX (dS 15 1 63 29 az7))))))
def aB5:Tr:=aZ 71 [(.one (.c (.sr 1 11)))] [none] [36] [205] 28 false (.need (.lit 1 [[(.k (.int .i64 0))],[(.k (.int .i64 1))]]) (.buildSlice 205 2 #[(0,(.const (I3 0))),(1,(.const (I3 1)))]) 205 false (aZ 71 [(.one (.c (.sr 1 13)))] [none] [38] [205] 28 false (aZ 50 [(W 12 0),(W 14 0),(.agg [tN,(tE (.bool false)),tN]),(.agg [tN,(tE (.bool false)),tN])] [(some 2),none] [37,39,40,41] [28,28,46,46] 57 false (.need (.lit 1 [[(.k (.int .i64 0))],[(.k (.int .i64 0))],[(.k (.int .i64 1))],[(.k (.int .i64 2))],[(.k (.int .i64 2))]]) (.buildSlice 205 5 #[(0,(.const (I3 0))),(1,(.const (I3 0))),(2,(.const (I3 1))),(3,(.const (I3 2))),(4,(.const (I3 2)))]) 205 false (aZ 71 [(.one (.c (.sr 1 17)))] [none] [46] [205] 28 false (.need (.call 34 [(W 18 0),(WK 1),(WK 1)] [(some 2),none]) (.call ⟨.value (.func 34),#[(tT 47),(.const (I3 1)),(.const (I3 1))],#[28,3,3]⟩) 57 false aG2))))))
def aR3:Tr:=bI .neq 54 22 0 5 0 4 (.split (.u 6 0) jX (dS 4 1 26 29 (bI .neq 3 27 2 7 0 4 (.split (.u 8 0) jX (aZ 20 [(G2 4)] [(some 3),none] [31] [31] 55 false (.need (.lit 1 [[(.k (.int .i64 0))],[(.k (.int .i64 1))]]) (.buildSlice 205 2 #[(0,(.const (I3 0))),(1,(.const (I3 1)))]) 205 false aB5))))))
def aV6:Tr:=.need (.lit 1 [[(.k (.int .i64 0))],[(.k (.int .i64 1))],[(.k (.int .i64 2))]]) (.buildSlice 205 3 #[(0,(.const (I3 0))),(1,(.const (I3 1))),(2,(.const (I3 2)))]) 205 false (aZ 71 [(.one (.c (.sr 1 0)))] [none] [15] [205] 28 false (.need (.lit 1 [[(.k (.int .i64 0))],[(.k (.int .i64 1))],[(.k (.int .i64 0))]]) (.buildSlice 205 3 #[(0,(.const (I3 0))),(1,(.const (I3 1))),(2,(.const (I3 0)))]) 205 false (aZ 71 [(.one (.c (.sr 1 2)))] [none] [17] [205] 28 false (aZ 49 [(W 1 0),(W 3 0)] [(some 2),none] [16,18] [28,28] 57 false aR3))))
theorem ac8:aV prog f14 (fun _=>none) []=aV6:=by kernel_rfl
theorem mK (zs:List Int) (qs:List Rat) (h:zs.map (fun (z:Int)=>(z:Rat))=qs) (hz:∀ z∈zs,-9223372036854775808<=z/\z<9223372036854775808) (hl:zs.length<1099511627776):aQ prog 71 [.one (.slice 1 (zs.map zI))] (.ret [.one (sQ qs)]):=by subst h;exact av8 zs hz hl
theorem ax9:aQ prog 20 [.agg (uP [0,1,2] [[0,3/2,0,-1/2],[-1,9/2,-3,1/2]])] (.ret [qT 6, .one (.int .i64 0)]):=by
 have h:=az3 [0,1,2] [[0,3/2,0,-1/2],[-1,9/2,-3,1/2]] 62 (by decide +kernel) ⟨by omega,by omega,by decide +kernel,by decide +kernel,by decide,by decide⟩
 rwa [show eN [0,1,2] [[0,3/2,0,-1/2],[-1,9/2,-3,1/2]] ([[0,3/2,0,-1/2],[-1,9/2,-3,1/2]]:List (List Rat)).length=6 by decide +kernel] at h
theorem aH9:aQ prog 50 [.one (sQ [0,1]), .one (sQ [0,1]), .agg z3, .agg z3] (.ret [.agg (uP [0,1] [[0,0,3,-2]]), .one (.int .i64 0)]):=aP9.sub ⟨aD.Sub.same,aD.Sub.same,jV,jV,trivial⟩
theorem rU  :aQ prog 14 [] (.ret [.one (.bool true)]):=by
 refine cW (args:=[]) (ins:=[]) (hints:=(fun _=>none)) fo (by kernel_rfl) func14 trivial ?_;rw [ac8];dsimp only [List.map,In.env,aE,aF];apply eK (us:=([0,1,2]:List Int).map zI) rfl;apply aA (mK [0,1,2] [0,1,2] (by decide +kernel) (by decide) (by decide)) rfl;apply eK (us:=([0,1,0]:List Int).map zI) rfl;apply aA (mK [0,1,0] [0,1,0] (by decide +kernel) (by decide) (by decide)) rfl;dsimp only [aE,aF];apply aA bl4 rfl;apply vn fG rfl;refine vs _ rfl ?_ ?_<;>intro h6
 .exact absurd rfl h6
 apply vn (aM sM (aK _)) rfl;apply vn fG rfl;dsimp only [aE,aF];refine vs _ rfl ?_ ?_<;>intro h10
 .exact absurd rfl h10
 apply aA ax9 rfl;apply eK (us:=([0,1]:List Int).map zI) rfl;apply aA (mK [0,1] [0,1] (by decide +kernel) (by decide) (by decide)) rfl;apply eK (us:=([0,1]:List Int).map zI) rfl;dsimp only [aE,aF];apply aA (mK [0,1] [0,1] (by decide +kernel) (by decide) (by decide)) rfl;apply aA aH9 rfl;apply eK (us:=([0,0,1,2,2]:List Int).map zI) rfl;apply aA (mK [0,0,1,2,2] [0,0,1,2,2] (by decide +kernel) (by decide) (by decide)) rfl;dsimp only [aE,aF];apply aA aX6 rfl;apply vn fG rfl;refine vs _ rfl ?_ ?_<;>intro h22
 .exact absurd rfl h22
 apply vn fG rfl;refine vs _ rfl ?_ ?_<;>intro h25
 .exact absurd rfl h25
 apply vn fG rfl;dsimp only [aE,aF];refine vs _ rfl ?_ ?_<;>intro h28
 .exact absurd rfl h28
 apply vn (aM sM (aK _)) rfl;apply vn fG rfl;refine vs _ rfl ?_ ?_<;>intro h32
 .exact absurd rfl h32
 apply vn (aM sM (aK _)) rfl;apply vn fG rfl;dsimp only [aE,aF];refine vs _ rfl ?_ ?_<;>intro h36
 .exact absurd rfl h36
 apply aA (bb7 1 2) rfl;apply eK (us:=([0,0,1,1]:List Int).map zI) rfl;apply aA (mK [0,0,1,1] [0,0,1,1] (by decide +kernel) (by decide) (by decide)) rfl;apply eK (us:=([2,4]:List Int).map zI) rfl;dsimp only [aE,aF];apply aA (mK [2,4] [2,4] (by decide +kernel) (by decide) (by decide)) rfl;rw [show (if (2:Int)=0 then (0:Rat) else ((1:Int):Rat)/((2:Int):Rat))=1/2 by decide +kernel];apply aA aT2 rfl;apply vn (aH (f:=cQ) (xs:=[[0,3/2,0,-1/2],[-1,9/2,-3,1/2]]) sM (m:=1) (by omega) rfl rfl) rfl;apply vn (cH TK) rfl;dsimp only [aE,aF];apply aA bz5 rfl;apply vn GG rfl;refine vs _ rfl ?_ ?_<;>intro h48
 .apply aA (Dd 6 (by decide +kernel) (by decide +kernel) (by decide +kernel) (by decide +kernel)) rfl;apply vn GG rfl;dsimp only [aE,aF];refine vs _ rfl ?_ ?_<;>intro h51
  .apply vn (aH (f:=cQ) (xs:=[[0,0,3,-2]]) sM (m:=0) (by omega) rfl rfl) rfl;apply vn (cH TK) rfl;apply aA bq7 rfl;apply vn GG rfl;dsimp only [aE,aF];refine vs _ rfl ?_ ?_<;>intro h56
   .apply vn (aH (f:=cQ) (xs:=[[0,1],[2,-1]]) sM (m:=1) (by omega) rfl rfl) rfl;apply vn (cH TK) rfl;apply aA bz7 rfl;apply vn GG rfl;dsimp only [aE,aF];refine vs _ rfl ?_ ?_<;>intro h61
    .apply vn dP rfl;refine vs _ rfl ?_ ?_<;>intro h63
     .apply vn (aM bG (aK _)) rfl;apply vn dP rfl;refine vs _ rfl ?_ ?_<;>intro h66
      .apply vn (aM bG (aK _)) rfl;dsimp only [aE,aF];apply vn dP rfl;refine vs _ rfl ?_ ?_<;>intro h69
       .apply vn (aH (f:=qC) (xs:=[2,3,4]) bG (m:=1) (by omega) rfl rfl) rfl;apply vn (aR cF (by decide) (by simp) (.inl rfl)) rfl;apply aA (Dd 3 (by decide +kernel) (by decide +kernel) (by decide +kernel) (by decide +kernel)) rfl;dsimp only [aE,aF];apply vn GG rfl;dsimp only [aE,aF];refine aL ?_;show [aJ.one (aD.bool (decide _))] = [aJ.one (aD.bool true)];rw [decide_eq_true (by decide +kernel)]
       exact absurd rfl h69
      exact absurd rfl h66
     exact absurd rfl h63
    exact absurd (by decide +kernel) h61
   exact absurd (by decide +kernel) h56
  exact absurd (by decide +kernel) h51
 exact absurd (by decide +kernel) h48
end Go.Sy
