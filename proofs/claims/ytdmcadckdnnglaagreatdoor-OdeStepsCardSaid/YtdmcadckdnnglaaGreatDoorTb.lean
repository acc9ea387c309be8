/- The text of a magnitude. Horner's rule over numbers. The text of a number; a number and one of the reference have the same text where they are equal.
-/
import Derived.Test.YtdmcadckdnnglaaGreatDoorTa
import Derived.Test.YtdmcadckdnnglaaGreatDoorNc
import Derived.Test.YtdmcadckdnnglaaGreatDoorLb
import Derived.RangeFuncNested
import Derived.Test.YtdmcadckdnnglaaGreatDoorPb
set_option linter.unusedVariables false
set_option linter.unusedSimpArgs false
namespace Go.Sy
open Go Go.Proofs Go.RowKit Go.Shelf Tryz Ord
attribute [local go_sem] Oper.semAt_some
abbrev D9:={d:Nat // d<1000000000}
instance:Inhabited D9:=⟨⟨0,by omega⟩⟩
abbrev ZP (d:D9):Value:=.int .u32 (d.1:Int)
def tx (L:Nat) (pre:List (Nat×D9)):List UInt8:=pre.foldl (fun t x=>t++if x.1+1<L then fP 9 x.2.1 else dec x.2.1) []
theorem FV (L:Nat) (pre:List (Nat×D9)) (x:Nat×D9):tx L (pre ++ [x])=tx L pre++if x.1+1<L then fP 9 x.2.1 else dec x.2.1:=by simp [tx]
theorem IA (L:Nat) (x:Nat×D9):(if x.1+1<L then fP 9 x.2.1 else dec x.2.1).length≤9:=by
 split
 ·rw [tC];omega
 ·exact jX (by omega) (by rw [show (10:Nat)^9=1000000000 by decide];exact x.2.2)
theorem af4 (L:Nat) (pre:List (Nat×D9)):(tx L pre).length≤9*pre.length:=by
 have h:∀ (l:List (Nat×D9)) (t:List UInt8),(l.foldl (fun t x=>t++if x.1+1<L then fP 9 x.2.1 else dec x.2.1) t).length≤t.length+9*l.length:=by
  intro l
  induction l with
  | nil=>intro t;simp
  | cons x l ih=>
    intro t;have h1:=ih (t++if x.1+1<L then fP 9 x.2.1 else dec x.2.1);have h2:=IA L x;rw [List.length_append] at h1;rw [List.foldl_cons,List.length_cons];omega
 have:=h pre []
 simpa [tx] using this
theorem QK (vs:List D9) (h0:∀ d,vs.getLast? = some d→d.1≠0):∀ k,0<k→k≤vs.length→0<lv ((vs.map Subtype.val).drop (vs.length-k))∧tx vs.length (bk vs k)=dec (lv ((vs.map Subtype.val).drop (vs.length-k)))
 | 0,h,_=>by omega
 | k+1,_,hk=>by
   have hlt:vs.length-(k+1)<vs.length:=by omega
   have hlt':vs.length-(k+1)<(vs.map Subtype.val).length:=by rw [List.length_map];exact hlt
   have hget:vs[vs.length-1-k]? = some vs[vs.length-(k+1)]:=by rw [show vs.length-1-k=vs.length-(k+1) by omega];exact List.getElem?_eq_getElem hlt
   have e1:(vs.map Subtype.val).drop (vs.length-(k+1))=vs[vs.length-(k+1)].1::(vs.map Subtype.val).drop (vs.length-k):=by
    rw [List.drop_eq_getElem_cons hlt',List.getElem_map,show vs.length-(k+1)+1=vs.length-k by omega]
   rw [Gm,FV,hget,Option.getD_some,e1];show 0<val 1000000000 (_::_)∧_=dec (val 1000000000 (_::_));rw [val];rcases Nat.eq_zero_or_pos k with rfl | hk0
   ·have hd:vs[vs.length-(0+1)].1≠0:=h0 _ (by rw [List.getLast?_eq_getElem?];exact hget);have e2:(vs.map Subtype.val).drop (vs.length-0) = []:=by rw [List.drop_eq_nil_iff,List.length_map];omega
    rw [e2];dsimp only;rw [if_neg (by omega)];simp only [val,Nat.mul_zero,Nat.add_zero];exact ⟨by omega,by simp [bk,tx]⟩
   ·obtain ⟨h1,h2⟩:=QK vs h0 k hk0 (by omega);dsimp only;rw [if_pos (by omega),h2];have h3:(vs[vs.length-(k+1)]).1<10^9:=by rw [show (10:Nat)^9=1000000000 by decide];exact vs[vs.length-(k+1)].2
    have h4:=RW (m:=lv ((vs.map Subtype.val).drop (vs.length-k))) h1 h3;rw [show (10:Nat)^9=1000000000 by decide] at h4;have h5:0<lv ((vs.map Subtype.val).drop (vs.length-k)):=h1;exact ⟨by show 0<_+1000000000*lv _;omega,h4.symm⟩
theorem Jo {ds:List Nat} (h:Dg ds):∃ vs:List D9,vs.map Subtype.val=ds:=by
 induction ds with
 | nil=>exact ⟨[],rfl⟩
 | cons d ds ih=>
   obtain ⟨vs,hv⟩:=ih fun x hx=>h x (List.mem_cons_of_mem _ hx);exact ⟨⟨d,h d List.mem_cons_self⟩::vs,by rw [List.map_cons,hv]⟩
theorem EB (w:World) (k:Nat) (os:Array Obj):Below w.heap.size w (Sort.grow (w.drewN k) os):=by
 refine ⟨rfl,rfl,rfl,?_,fun j hj=>?_⟩
 ·show w.heap.size≤(w.heap++os).size;rw [Array.size_append];omega
 ·show (w.heap++os)[j]? = _;exact Array.getElem?_append_left hj
theorem XS (n:Nat) (hn:n≤9223372036854775807) (w:World) (M:Nat→Prop) (hM:Good M w) :
  Calls prog 241 #[.int .i64 (n:Int)] w fun e w'=>e = .returned (.string ⟨(dec n).toArray⟩)∧Below w.heap.size w w':=by
 obtain ⟨_,T,fz,h⟩:=hM (0,Cy) (by simp [Vo.tab])
 have htab:Lib.TabIs prog w "internal/strconv.uint64pow10" .u64 Lib.pow10Tab:=by
  unfold Lib.TabIs World.var?;rw [show prog.globalNamed "internal/strconv.uint64pow10" = some 0 by kernel_rfl];have h:w.heap[0]? = some (.cells Cy T fz):=h;simp only [Option.bind_some,h];rfl
 refine (Tryz.strconv_Itoa (n:Int) (by omega) (by omega) w htab).mono ?_;rintro e w' ⟨rfl,k,os,rfl⟩;refine ⟨?_,EB w k os⟩;rw [Lib.itoa_nonneg]
theorem Np (c:Nat) (hc:c≤9) (w:World):Calls prog 243 #[.string ⟨#[48]⟩, .int .i64 (c:Int)] w fun e w'=>e = .returned (.string ⟨(List.replicate c (48:UInt8)).toArray⟩)∧Below w.heap.size w w':=by
 refine (Tryz.strings_Repeat ⟨#[48]⟩ c w (by omega) (by show 1*c≤_;omega)).mono ?_;rintro e w' ⟨rfl,h⟩;exact ⟨by rw [←aX7],h⟩
theorem Gj (B b:Nat) (bs:List Value) (s:ByteArray) (w:World) (h:Lib.IsBuilderF 287 5 B b bs w) (hlen:bs.length+s.size≤140737488355328) (hBw:B≤w.heap.size) :
  Calls prog 242 #[.pointer (some ⟨b,0,none⟩), .string s] w fun e w'=>e = .returned (.tuple #[.int .i64 s.size, .nilIface])∧(Lib.IsBuilderF 287 5 B b (bs++Lib.strCells s) w'∧Below B w w'∧Lib.OthersKept 5 (some b) w w'):=
 (Any.Builder_WriteString_k { Tryz.Nb with } Tryz.oI B b bs s w h hlen hBw).mono fun e w' ⟨h1,h2,h3,h4⟩=>⟨h1, .inr h2,h3,h4⟩
theorem wL {T e B b:Nat} {bs:List Value} {A A':World} (h:Lib.IsBuilderF T e B b bs A) (k:∀ (j:Nat) (o:Obj),A.heap[j]? = some o→o.isCells=true→A'.heap[j]? = some o):Lib.IsBuilderF T e B b bs A':=by
 have one:∀ p,Lib.BuilderAtF T e B b p bs A→Lib.BuilderAtF T e B b p bs A':=by
  rintro p ⟨h1,v,h2,⟨h3,h4⟩,h5⟩;refine ⟨h1,v,k _ _ h2 rfl,⟨h3,?_⟩,h5⟩;rcases h4 with h4 | ⟨g,cap,cur,fz,h6,h7,h8,h9⟩
  ·exact .inl h4
  ·exact .inr ⟨g,cap,cur,fz,h6,h7,k _ _ h8 rfl,h9⟩
 exact h.elim (fun x=>.inl (one _ x)) (fun x=>.inr (one _ x))
theorem dU {A B:World} {row:Option Nat} (hg:A.grownBy B row) (hr:∀ r,row=some r→∃ o:Obj,A.heap[r]? = some o∧o.isCells=false) {b:Nat} {o:Obj} (ho:A.heap[b]? = some o) (hc:o.isCells=true):B.heap[b]? = some o:=by
 refine (hg.block b (Array.getElem?_eq_some_iff.1 ho).1 fun e=>?_).trans ho;obtain ⟨o',ho',hc'⟩:=hr b e.symm;rw [ho] at ho';cases ho';rw [hc] at hc';cases hc'
theorem aI {W:World} {b T:Nat} {cs:Array Value} {fz:Nat×Nat} (h:W.heap[b]? = some (.cells cs T fz)) {j:Nat} {v:Value} (hj:cs[j]? = some v):W.cell? ⟨b,j,none⟩=some v:=by
 simp only [World.cell?,h]
 simpa using hj
theorem iX {A A':World} (h:Below A.heap.size A A') (j:Nat) (o:Obj) (ho:A.heap[j]? = some o):A'.heap[j]? = some o:=(h.block j (Array.getElem?_eq_some_iff.1 ho).1).trans ho
set_option maxHeartbeats 1000000 in
theorem Mu (n:Nat) (a:Option Addr) (len cap:Nat) (w:World) :
  CallsIn Fence.wide n prog 179 #[.agg #[.slice a len cap]] w fun e w'=>e = .returned (.bool (decide ((len:Int)=0)))∧w'=w.alloc (.cells #[.slice a len cap] 35):=by
 refine callsIn_of_wp func179 rfl trivial ?_ rfl;simp only [ntmps179,List.size_toArray,List.length_cons,List.length_nil,Nat.reduceAdd,Nat.reduceSub,Array.replicate_succ,Array.replicate_zero,List.push_toArray,List.append_toArray,List.nil_append,List.cons_append]
 gi_wp2
 go_ret
 exact ⟨rfl,rfl⟩
theorem nine {d:Nat} (hd:d<1000000000):∃ c:Nat,c≤9∧wrap64 (9-((dec d).length:Int))=(c:Int)∧fP 9 d=List.replicate c 48++dec d:=by
 have hd':d<10^9:=by rw [show (10:Nat)^9=1000000000 by decide];exact hd
 have h1:(dec d).length≤9:=jX (by omega) hd';refine ⟨9-(dec d).length,by omega,?_,BE (by omega) hd'⟩;rw [show (9:Int)-((dec d).length:Int)=((9-(dec d).length:Nat):Int) by omega];have hk:9-(dec d).length≤9:=Nat.sub_le _ _;generalize 9-(dec d).length=k at hk ⊢;unfold wrap64;omega
theorem lens (t d:List UInt8) (c:Nat) (hd:d.length≤9) (hc:c≤9) (ht:t.length≤10000000000000) :
  (Lib.byteCells t).length+(⟨Array.replicate c 48⟩:ByteArray).size≤140737488355328∧(Lib.byteCells t++Lib.strCells ⟨Array.replicate c 48⟩).length+(⟨d.toArray⟩:ByteArray).size≤140737488355328∧(Lib.byteCells t).length+(⟨d.toArray⟩:ByteArray).size≤140737488355328:=by
 have h1:(⟨Array.replicate c 48⟩:ByteArray).size=c:=Array.size_replicate;have h2:(⟨d.toArray⟩:ByteArray).size=d.length:=List.size_toArray;rw [List.length_append,Lib.strCells_length,Lib.byteCells_length,h1,h2];omega
theorem FJ {n0 L cap:Nat} {a:Option Addr} {W0 W W':World} {bs bs':List Value} (h2:Below (n0+2) W0 W) (h3:n0+4≤W.heap.size) (h4:W.heap[n0+3]? = some (.cells #[.slice a L cap] 33 (0,0)))
  (hb:Below (n0+2) W W') (ho:∀ k o,W.heap[k]? = some o→some k≠some (n0+2)→(∀ c fz,o ≠ .cells c 5 fz)→W'.heap[k]? = some o)
  (h1:Lib.IsBuilderF 287 5 (n0+2) (n0+2) bs W) (h1':Lib.IsBuilderF 287 5 (n0+2) (n0+2) bs' W') :
  KeepsOthers W W'∧WL n0 (n0+3) W W'∧Lib.IsBuilderF 287 5 (n0+2) (n0+2) bs' W'∧Below (n0+2) W0 W'∧n0+4≤W'.heap.size∧W'.heap[n0+3]? = some (.cells #[.slice a L cap] 33 (0,0)):=by
 have h5:=ho _ _ h4 (by simp) (by intro c fz h;cases h)
 obtain ⟨cs,T,fz,hbc⟩:∃ cs T fz,W.heap[n0+2]? = some (.cells cs T fz):=by
  rcases h1 with ⟨_,v,h,_⟩ | ⟨_,v,h,_⟩
  ·exact ⟨_,_,_,h⟩
  ·exact ⟨_,_,_,h⟩
 refine ⟨⟨hb.size,fun k o hk hc=>ho k o hk ?_ (by rintro c fz rfl;cases hc)⟩,⟨hb.mono (by omega),fun v hv=>?_⟩,h1',h2.trans hb,Nat.le_trans h3 hb.size,h5⟩
 ·rintro e;cases e;rw [hbc] at hk;cases hk;cases hc
 ·simp only [World.cell?,h4,h5] at hv ⊢;exact hv
theorem Xl (n:Nat) (a:Option Addr) (len cap:Nat) (h:len≠0) (w:World) :
  CallsIn Fence.wide n prog 179 #[.agg #[.slice a len cap]] w fun e w'=>e = .returned (.bool false)∧w'=w.alloc (.cells #[.slice a len cap] 35):=by
 have:=Mu n a len cap w;rw [decide_eq_false (by omega)] at this;exact this
set_option maxRecDepth 100000 in
set_option maxHeartbeats 400000 in
theorem KJ (a:Option Addr) (cap:Nat) (w:World) :
  CallsIn Fence.wide 1001 prog 178 #[.agg #[.slice a 0 cap]] w fun e W'=>e = .returned (.string ⟨#[48]⟩)∧Below w.heap.size w W':=by
 refine callsIn_of_wp func178 rfl trivial ?_ rfl;simp only [ntmps178,List.size_toArray,List.length_cons,List.length_nil,Nat.reduceAdd,Nat.reduceSub,Array.replicate_succ,Array.replicate_zero,List.push_toArray,List.append_toArray,List.nil_append,List.cons_append]
 gi_wp2_with (refine ⟨trivial,?_⟩;gi_at_call 179;refine (Mu _ _ 0 _ _).mono ?_;rintro e w' ⟨rfl,rfl⟩)
 go_ret
 exact ⟨rfl,((Below.refl _ w).alloc (Nat.le_refl _) _).alloc (by simp) _⟩
set_option maxRecDepth 100000 in
set_option maxHeartbeats 400000 in
theorem Tv (a:Option Addr) (cap:Nat) (vs:List D9) (hlen:vs.length≤1099511627776) (h0:vs.length≠0) (w:World) (M:Nat→Prop) (hM:Good M w) (hI:Zb ZP w.heap.size w (.slice a vs.length cap) vs) :
  CallsIn Fence.wide 1001 prog 178 #[.agg #[.slice a vs.length cap]] w fun e W'=>e = .returned (.string ⟨(tx vs.length (bk vs vs.length)).toArray⟩)∧Below w.heap.size w W':=by
 refine callsIn_of_wp_marks func178 rfl trivial ?_ rfl;simp only [ntmps178,List.size_toArray,List.length_cons,List.length_nil,Nat.reduceAdd,Nat.reduceSub,Array.replicate_succ,Array.replicate_zero,List.push_toArray,List.append_toArray,List.nil_append,List.cons_append];generalize hL:vs.length=L at hI hlen h0 ⊢
 gi_wp2_with (refine ⟨trivial,?_⟩;gi_at_call 179;refine (Xl _ _ _ _ h0 _).mono ?_;rintro e w' ⟨rfl,rfl⟩)
 gi_wp2_with (refine ⟨trivial,?_⟩;gi_at_call 240;refine (Ie _ _ _ _ _).mono ?_;rintro e w' ⟨rfl,rfl⟩)
 obtain ⟨n0,hn0⟩:∃ n0,w.heap.size=n0:=⟨_,rfl⟩
 rw [hn0] at hI ⊢;obtain ⟨W0,hW0⟩:∃ W0,((((w.alloc (.cells #[.slice a L cap] 35)).alloc (.cells #[.slice a L cap] 35)).alloc (.cells #[.pointer none, .slice none 0 0] 287)).alloc (.cells #[.slice a L cap] 33))=W0:=⟨_,rfl⟩
 have hs0:W0.heap.size=n0+4:=by rw [←hW0];simp [hn0]
 have hA0:W0.heap[n0]? = some (.cells #[.slice a L cap] 35 (0,0)):=by rw [←hW0,heap_alloc_old _ _ _ (by simp;omega),heap_alloc_old _ _ _ (by simp;omega),heap_alloc_old _ _ _ (by simp;omega),←hn0];exact heap_alloc_new w _
 have hT0:W0.heap[n0+2]? = some (.cells #[.pointer none, .slice none 0 0] 287 (0,0)):=by
  rw [←hW0,heap_alloc_old _ _ _ (by simp;omega)];have:=heap_alloc_new ((w.alloc (.cells #[.slice a L cap] 35)).alloc (.cells #[.slice a L cap] 35)) (.cells #[.pointer none, .slice none 0 0] 287);rw [World.size_alloc,World.size_alloc,hn0] at this;exact this
 have hP0:W0.heap[n0+3]? = some (.cells #[.slice a L cap] 33 (0,0)):=by
  rw [←hW0];have:=heap_alloc_new (((w.alloc (.cells #[.slice a L cap] 35)).alloc (.cells #[.slice a L cap] 35)).alloc (.cells #[.pointer none, .slice none 0 0] 287)) (.cells #[.slice a L cap] 33);rw [World.size_alloc,World.size_alloc,World.size_alloc,hn0] at this;exact this
 have hB0:Below n0 w W0:=by
  rw [←hW0];exact ((((Below.refl _ w).alloc (by omega) _).alloc (by simp;omega) _).alloc (by simp;omega) _).alloc (by simp;omega) _
 rw [hW0];have hG0:Good M W0:=hM.below hn0.symm hB0
 refine wpIn_rangeFunc_ownF (w0:=W0) rfl (by omega) (gf:=274) (lb:=#[.pointer (some ⟨n0+1+1+1,0,none⟩)]) rfl trivial (enters_of func274 (by kernel_rfl) rfl)
  (Ac (enc:=ZP) (n0+3) n0 (.slice a L cap) vs (by omega) W0 (by omega) (by omega) (aI hP0 rfl) (hI.below hB0)) Mj (MD (by omega) (by omega)) (Below.refl _ _) (fun _=>rfl)
  (fun pre W=>Lib.IsBuilderF 287 5 (n0+2) (n0+2) (Lib.byteCells (tx L pre)) W∧Below (n0+2) W0 W∧n0+4≤W.heap.size∧W.heap[n0+3]? = some (.cells #[.slice a L cap] 33 (0,0)))
  (fun _ _ _=>False) ?own (fun _=>by intro s A B row hs;exact hs.elim) ?start
  (fun x=>{ tmps:=#[.agg #[.slice a L cap], .pointer (some ⟨n0,0,none⟩), .string ⟨#[]⟩, .pointer (some ⟨n0+1+1,0,none⟩), .int .i64 (x.1:Int), .int .u32 (x.2.1:Int),undef, .agg #[.slice a L cap], .bool false, .pointer (some ⟨n0,0,none⟩), .slice a L cap, .func (.func 274) #[] #[.pointer (some ⟨n0+1+1+1,0,none⟩)], .int .i64 (x.1:Int), .int .u32 (x.2.1:Int),undef,undef,undef,undef,undef,undef,undef,undef,undef,undef,undef,undef,undef,undef,undef,undef,undef],defers:=[] }) ?assign ?body ?done ?stop
 case own=>
  rintro s A A' row ⟨h1,h2,h3,h4⟩ hg hr;exact ⟨wL h1 fun j o ho hc=>dU hg (fun r e=>(hr r e).2) ho hc,h2.grown hg (by omega) (fun k e=>by have:=(hr k e).1;omega),Nat.le_trans h3 hg.size,dU hg (fun r e=>(hr r e).2) h4 rfl⟩
 case start=>
  exact ⟨Lib.IsBuilderF.of (.inl ⟨Nat.le_refl _,_,hT0,⟨rfl, .inl ⟨rfl,rfl⟩⟩,by simp [Value.ownBlock]⟩),Below.refl _ _,by omega,hP0⟩
 case assign=>
  intro l x W K hK
  gi_wp2
  exact hK
 case body=>
  rintro l pre x W ⟨h1,h2,h3,h4⟩ hlt;have hG:Good M W:=hM.below hn0.symm (hB0.trans (h2.mono (by omega)));have hA:W.heap[n0]? = some (.cells #[.slice a L cap] 35 (0,0)):=(h2.block n0 (by omega)).trans hA0;have cA:W.cell? ⟨n0,0,none⟩=some (.slice a L cap):=aI hA rfl;have hx:x.2.1<1000000000:=x.2.2;obtain ⟨c,hc9,hci,hz⟩:=nine hx;have hpl:=af4 L pre;have htx1:(x.1:Int)<(L:Int)-1→tx L (pre ++ [x])=tx L pre++List.replicate c 48++dec x.2.1:=fun h=>by rw [FV,if_pos (by omega),hz,List.append_assoc]
  have htx2:¬ (x.1:Int)<(L:Int)-1→tx L (pre ++ [x])=tx L pre++dec x.2.1:=fun h=>by rw [FV,if_neg (by omega)]
  have h32:n0+2≤W.heap.size:=by omega
  rw [hL] at hlt
  obtain ⟨lA,lB,lC⟩:=lens (tx L pre) (dec x.2.1) c (by have:(dec x.2.1).length≤9:=jX (by omega) (by rw [show (10:Nat)^9=1000000000 by decide];exact hx)
                                                       exact this) hc9 (by omega)
  have hcell:Lib.byteCells (tx L pre)++Lib.strCells ⟨Array.replicate c 48⟩++Lib.strCells ⟨(dec x.2.1).toArray⟩=Lib.byteCells (tx L pre++List.replicate c 48++dec x.2.1):=by
   rw [Lib.strCells_eq,Lib.strCells_eq,Lib.byteCells_append,Lib.byteCells_append];simp
  have hcell2:Lib.byteCells (tx L pre)++Lib.strCells ⟨(dec x.2.1).toArray⟩=Lib.byteCells (tx L pre++dec x.2.1):=by
   rw [Lib.strCells_eq,Lib.byteCells_append]
  by_cases hc:(x.1:Int)<(L:Int)-1
  all_goals gi_wp2_with (refine ⟨trivial,?_⟩;gi_at_call 241;refine (CallsIn.inRound l (callsIn_wide.2 (XS x.2.1 (by omega) _ M hG))).mono ?_;rintro e w1 ⟨rfl,hb1⟩;have cA1:w1.cell? ⟨n0,0,none⟩=some (.slice a L cap):=(hb1.cell (p:=⟨n0,0,none⟩) (show n0<W.heap.size by omega)).trans cA)
  ·rw [hci]
   gi_wp2_with (refine ⟨trivial,?_⟩;gi_at_call 243;refine (CallsIn.inRound l (callsIn_wide.2 (Np c hc9 _))).mono ?_;rintro e w2 ⟨rfl,hb2⟩)
   have b2:Lib.IsBuilderF 287 5 (n0+2) (n0+2) (Lib.byteCells (tx L pre)) w2:=wL (wL h1 fun j o ho _=>iX hb1 j o ho) fun j o ho _=>iX hb2 j o ho;have s2:n0+2≤w2.heap.size:=Nat.le_trans (Nat.le_trans h32 hb1.size) hb2.size;have q:CallsIn (Fence.wide.inRound l) 998 prog 242 #[.pointer (some ⟨n0+1+1,0,none⟩), .string ⟨Array.replicate c 48⟩] w2 fun e w'=>e = .returned (.tuple #[.int .i64 (⟨Array.replicate c 48⟩:ByteArray).size, .nilIface])∧(Lib.IsBuilderF 287 5 (n0+2) (n0+2) (Lib.byteCells (tx L pre)++Lib.strCells ⟨Array.replicate c 48⟩) w'∧Below (n0+2) w2 w'∧Lib.OthersKept 5 (some (n0+2)) w2 w'):=CallsIn.inRound l (callsIn_wide.2 (Gj (n0+2) (n0+2) _ ⟨Array.replicate c 48⟩ w2 b2 lA s2))
   gi_wp2_with (refine ⟨trivial,?_⟩;gi_at_call 242;refine q.mono ?_;clear q;rintro e w3 ⟨rfl,b3,hl3,ho3⟩)
   have s3:n0+2≤w3.heap.size:=Nat.le_trans s2 hl3.size;have q:CallsIn (Fence.wide.inRound l) 998 prog 242 #[.pointer (some ⟨n0+1+1,0,none⟩), .string ⟨(dec x.2.1).toArray⟩] w3 fun e w'=>e = .returned (.tuple #[.int .i64 (⟨(dec x.2.1).toArray⟩:ByteArray).size, .nilIface])∧(Lib.IsBuilderF 287 5 (n0+2) (n0+2) ((Lib.byteCells (tx L pre)++Lib.strCells ⟨Array.replicate c 48⟩)++Lib.strCells ⟨(dec x.2.1).toArray⟩) w'∧Below (n0+2) w3 w'∧Lib.OthersKept 5 (some (n0+2)) w3 w'):=CallsIn.inRound l (callsIn_wide.2 (Gj (n0+2) (n0+2) _ ⟨(dec x.2.1).toArray⟩ w3 b3 lB s3))
   gi_wp2_with (refine ⟨trivial,?_⟩;gi_at_call 242;refine q.mono ?_;clear q;rintro e w4 ⟨rfl,b4,hl4,ho4⟩)
   rw [hcell,←htx1 hc] at b4;exact FJ h2 h3 h4 ((((hb1.mono h32).trans (hb2.mono (Nat.le_trans h32 hb1.size))).trans hl3).trans hl4) (fun k o ho hk hu=>ho4 k o (ho3 k o (iX hb2 k o (iX hb1 k o ho)) hk hu) hk hu) h1 b4
  ·have b1:Lib.IsBuilderF 287 5 (n0+2) (n0+2) (Lib.byteCells (tx L pre)) w1:=wL h1 fun j o ho _=>iX hb1 j o ho;have s1:n0+2≤w1.heap.size:=Nat.le_trans h32 hb1.size;have q:CallsIn (Fence.wide.inRound l) 998 prog 242 #[.pointer (some ⟨n0+1+1,0,none⟩), .string ⟨(dec x.2.1).toArray⟩] w1 fun e w'=>e = .returned (.tuple #[.int .i64 (⟨(dec x.2.1).toArray⟩:ByteArray).size, .nilIface])∧(Lib.IsBuilderF 287 5 (n0+2) (n0+2) (Lib.byteCells (tx L pre)++Lib.strCells ⟨(dec x.2.1).toArray⟩) w'∧Below (n0+2) w1 w'∧Lib.OthersKept 5 (some (n0+2)) w1 w'):=CallsIn.inRound l (callsIn_wide.2 (Gj (n0+2) (n0+2) _ ⟨(dec x.2.1).toArray⟩ w1 b1 lC s1))
   gi_wp2_with (refine ⟨trivial,?_⟩;gi_at_call 242;refine q.mono ?_;clear q;rintro e w4 ⟨rfl,b4,hl4,ho4⟩)
   rw [hcell2,←htx2 hc] at b4;exact FJ h2 h3 h4 ((hb1.mono h32).trans hl4) (fun k o ho hk hu=>ho4 k o (iX hb1 k o ho) hk hu) h1 b4
 case done=>
  rintro D ys W hD rfl ⟨h1,h2,h3,h4⟩ hK;have s1:n0+2≤W.heap.size:=by omega
  have hbW:Below n0 w W:=hB0.trans (h2.mono (by omega))
  gi_wp2_with (refine ⟨trivial,?_⟩;gi_at_call 244;refine (callsIn_wide.2 (Tryz.Builder_String_any_k (n0+2) (n0+2) _ W h1 s1)).mono ?_;rintro e w1 ⟨rfl,b1,hl1,ho1⟩)
  have hne:some D≠some (n0+2):=by intro e;cases e;omega
  have hK1:=ho1 D _ hK hne (by intro c fz h;cases h);refine ⟨by simp, .inl ⟨_,_,rfl,run_takeDeferred hK1,?_⟩⟩;rw [hn0];refine ⟨_,results_tmp rfl _ _ _,rfl,(hbW.trans (hl1.mono (by omega))).trans ?_⟩;exact belowK_b (w:=w) (by omega) w1 D _ _ (by omega) hK1 rfl rfl
 case stop=>
  rintro D c pre W hD _ h hK;exact h.elim
theorem Ga (n:Nat) (hn:(dg n).length≤1099511627776):aM prog 178 [mT n] (.ret [bS (dec n)]):=by
 by_cases h0:n=0
 ·subst h0;refine ⟨bR (by kernel_rfl),fun M w vs hM hv=>?_⟩
  match vs,hv with
  | [v],hv=>
    obtain ⟨⟨us,rfl,hus⟩,_⟩:=hv
    match us,hus with
    | [u],hus=>
      obtain ⟨a,cap,rfl,hel⟩:=Qk hus.1;have hl:((dg 0).map (fun d:Nat=>(d:Int))).length=0:=by rw [zL.2 rfl];rfl
      rw [hl];refine ((callsIn_wide (n:=1001)).1 (KJ a cap w)).mono ?_;rintro e w' ⟨rfl,hb⟩;exact ⟨hb,[.string ⟨#[48]⟩],rfl,⟨by rw [Ig],rfl⟩,trivial⟩
    | [],hus=>exact hus.elim
    | _::_::_,hus=>exact hus.2.elim
  | [],hv=>exact hv.elim
  | _::_::_,hv=>exact hv.2.elim
 ·refine ⟨bR (by kernel_rfl),fun M w vs hM hv=>?_⟩
  match vs,hv with
  | [v],hv=>
    obtain ⟨⟨us,rfl,hus⟩,_⟩:=hv
    match us,hus with
    | [u],hus=>
      obtain ⟨ds,hds⟩:=Jo (kF n);have hdl:(dg n).length=ds.length:=by rw [←hds,List.length_map]
      obtain ⟨a,cap,rfl,hel⟩:=Qk hus.1;have hl:((dg n).map (fun d:Nat=>(d:Int))).length=ds.length:=by rw [List.length_map,hdl]
      rw [hl]
      have hI:Zb ZP w.heap.size w (.slice a ds.length cap) ds:=by
       refine ⟨a,cap,rfl,?_⟩;rcases hel with h | ⟨b,off,rfl,hb,hc⟩
       ·left
        have:(dg n).length=0:=by rw [←List.length_map (f:=fun d:Nat=>(d:Int)),h];rfl
        exact List.eq_nil_of_length_eq_zero (by omega)
       ·refine .inr ⟨b,off,rfl,hb,fun j v hj=>hc j _ ?_⟩;rw [←hds,List.map_map,List.getElem?_map,hj];rfl
      have hne:ds.length≠0:=fun h=>h0 (zL.1 (List.eq_nil_of_length_eq_zero (by omega)))
      have hlast:∀ d,ds.getLast? = some d→d.1≠0:=fun d hd=>by
       refine Hd (B:=1000000000) (by omega) n d.1 ?_;show (dg n).getLast? = _;rw [←hds,List.getLast?_map,hd];rfl
      have ht:=(QK ds hlast ds.length (by omega) (Nat.le_refl _)).2;rw [Nat.sub_self,List.drop_zero,hds,gG] at ht;have h1:=Tv a cap ds (by omega) hne w M hM.2 hI;rw [ht] at h1;refine ((callsIn_wide (n:=1001)).1 h1).mono ?_;rintro e w' ⟨rfl,hb⟩;exact ⟨hb,[.string ⟨(dec n).toArray⟩],rfl,⟨rfl,rfl⟩,trivial⟩
    | [],hus=>exact hus.elim
    | _::_::_,hus=>exact hus.2.elim
  | [],hv=>exact hv.elim
  | _::_::_,hv=>exact hv.2.elim
end Go.Sy
namespace Go.Sy
open Go Go.Proofs Go.RowKit Go.Shelf Tryz Ord
attribute [local go_sem] Oper.semAt_some
def aM0:Tr:=aK 36 [(G3 0),(G3 2)] [(some 3)] [6,7] [39,39] 39 false (aK 64 [(G3 3),(G3 1)] [(some 3)] [8,9] [39,39] 39 true (.ret [(G3 4)]))
theorem NK:aN prog f246 (fun _=>none) [.v (some 3), .v (some 3), .ref 3]=aM0:=by kernel_rfl
def eN (ps:List Rat) (c:Rat):Rat:=ps.foldr (fun a v=>v*c+a) 0
theorem Nz (v c x:Rat) (A B C:Nat) (hv:Fit A v) (hc:Fit B c) (hx:Fit C x) (hA:A+B+C≤4294967296):aM prog 246 [(qT v:aF),(qT c:aF),(.one (.bE (qC x)):aF)] (.ret [qT (v*x+c)]):=by
 refine aD (args:=[.v (some 3), .v (some 3), .ref 3]) (ins:=[.v (qT v), .v (qT c), .ref (qC x)]) (hints:=(fun _=>none)) fo (by kernel_rfl) func246 ⟨rfl,rfl,rfl,trivial⟩ ?_;rw [NK];dsimp only [List.map,In.env,aB,aA];refine aC (dF v x A C hv hx (by omega)) rfl ?_;dsimp only [aB,aA];refine aC (mL (v*x) c _ B (hv.mul hx) hc (by omega)) rfl ?_;exact aL rfl
section
variable (M:Nat→Prop) (w:World) (B:Nat)
structure QV where
 q:Rat
 u0:Value
 u1:Value
 u2:Value
 fit:Fit B q
 rep:aZ M w (qC q) [u0,u1,u2]
end
theorem WA (M:Nat→Prop) (w:World) (B:Nat) (hB:1≤B):Nonempty (QV M w B):=
 ⟨⟨0, .slice none 0 0, .bool false, .slice none 0 0,Fit.zero hB,aZ.sub iZ ⟨⟨rfl,rfl⟩,⟨rfl,rfl⟩,⟨rfl,rfl⟩,trivial⟩⟩⟩
def hv {M:Nat→Prop} {w:World} {B:Nat} (x:Rat) (pre:List (Nat×QV M w B)):Rat:=pre.foldl (fun v c=>v*x+c.2.q) 0
theorem kN {P:Program} {W:World} {b T j:Nat} {cs:Array Value} {u:Value} (h:W.heap[b]? = some (.cells cs T (0,0))) (hj:j<cs.size) (o:u.oneCell'=true) :
  (store ⟨b,j,none⟩ u).run P W = .ok () (W.setRow b (cs.setIfInBounds j u)):=by
 have hcell:W.cell? ⟨b,j,none⟩=some cs[j]:=by simp [World.cell?,h,hj]
 have hfro:W.frozen? ⟨b,j,none⟩=false:=by simp [World.frozen?,h]
 rw [run_store P W _ u _ o,hcell];simp [hfro,setCell_eq_setRow W b j cs T (0,0) u h]
theorem vA {P:Program} {W:World} {b T:Nat} {c0 c1 c2 u0 u1 u2:Value} (h:W.heap[b]? = some (.cells #[c0,c1,c2] T (0,0))) (o0:u0.oneCell'=true) (o1:u1.oneCell'=true) (o2:u2.oneCell'=true) :
  (((store ⟨b,0,none⟩ u0).run P W).andThen fun _ w'=>((store ⟨b,1,none⟩ u1).run P w').andThen fun _ w'=>(store ⟨b,2,none⟩ u2).run P w') = .ok () (W.setRow b #[u0,u1,u2]):=by
 rw [kN h (by simp) o0,Result.andThen_ok,kN (setRow_heap W b _ _ T (0,0) h) (by simp) o1,Result.andThen_ok,setRow_setRow,kN (setRow_heap W b _ _ T (0,0) h) (by simp) o2,setRow_setRow];rfl
theorem below_setRow {n:Nat} {A W:World} {g:Nat} (h:Below n A W) (hg:n≤g) (cs:Array Value):Below n A (W.setRow g cs):=
 ⟨h.os,h.tape,h.output,by simpa [World.setRow] using h.size,fun k hk=>by
  rw [setRow_other W g k cs (by omega)];exact h.block k hk⟩
theorem Wu {M:Nat→Prop} {w:World} {B:Nat} (x:Rat) (pre:List (Nat×QV M w B)) (y:Nat×QV M w B):hv x (pre ++ [y])=hv x pre*x+y.2.q:=by simp [hv]
theorem RD {M:Nat→Prop} {w:World} {B C:Nat} {x:Rat} (hx:Fit C x):∀ (pre:List (Nat×QV M w B)) (v:Rat) (A:Nat),Fit A v→Fit (pre.length*(B+C+1)+A) (pre.foldl (fun v c=>v*x+c.2.q) v)
 | [],v,A,h=>by simpa using h
 | y::ys,v,A,h=>by
   have:=RD hx ys (v*x+y.2.q) _ ((h.mul hx).add y.2.fit);refine this.mono ?_;rw [List.length_cons,Nat.add_mul];omega
theorem bc7 {M:Nat→Prop} {w:World} {q:Rat} {vs:List Value} (h:cI M w [qT q] vs):∃ v0 v1 v2,pack vs = .agg #[v0,v1,v2]∧aZ M w (qC q) [v0,v1,v2]:=by
 match vs,h with
 | [v],h=>
   obtain ⟨⟨us,rfl,hus⟩,_⟩:=h
   match us,hus with
   | [a,b,c],hus=>exact ⟨a,b,c,rfl,hus⟩
   | [],hus=>exact hus.elim
   | [_],hus=>exact hus.2.elim
   | [_,_],hus=>exact hus.2.2.elim
   | _::_::_::_::_,hus=>exact hus.2.2.2.elim
 | [],h=>exact h.elim
 | _::_::_,h=>exact h.2.elim
set_option maxRecDepth 100000 in
set_option maxHeartbeats 2000000 in
theorem Og (M:Nat→Prop) (w:World) (B C:Nat) (x:Rat) (hx:Fit C x) (hM:dL M w) (hB:1≤B) [Inhabited (QV M w B)] (a:Option Addr) (cap:Nat) (ts:List (QV M w B)) (hlen:ts.length<4611686018427387904) (hbig:ts.length*(B+C+1)+B+C+1≤4294967296)
  (hI:YY QV.u0 QV.u1 QV.u2 w.heap.size w (.slice a ts.length cap) ts) (z0 z1 z2:Value) (hz:aZ M w (qC 0) [z0,z1,z2]) (xp:Value) (hxp:(aH.bE (qC x)).rep M w xp) :
  CallsIn Fence.wide 1001 prog 245 #[.slice a ts.length cap, .agg #[z0,z1,z2], .func (.func 246) #[] #[xp]] w fun e W'=>Below w.heap.size w W'∧∃ u0 u1 u2,e = .returned (.agg #[u0,u1,u2])∧aZ M W' (qC (hv x (bk ts ts.length))) [u0,u1,u2]:=by
 refine callsIn_of_wp_marks func245 rfl trivial ?_ rfl;simp only [ntmps245,List.size_toArray,List.length_cons,List.length_nil,Nat.reduceAdd,Nat.reduceSub,Array.replicate_succ,Array.replicate_zero,List.push_toArray,List.append_toArray,List.nil_append,List.cons_append];generalize hL:ts.length=L at hI hlen hbig ⊢
 gi_wp2_with (refine ⟨trivial,?_⟩;gi_at_call 248;refine (Ik _ _ _ _ _).mono ?_;rintro e w' ⟨rfl,rfl⟩)
 obtain ⟨n0,hn0⟩:∃ n0,w.heap.size=n0:=⟨_,rfl⟩
 obtain ⟨hM,hMg⟩:=hM;rw [hn0] at hI hM ⊢;obtain ⟨W0,hW0⟩:∃ W0,((((w.alloc (.cells #[z0,z1,z2] 39)).alloc (.cells #[.func (.func 246) #[] #[xp]] 224)).alloc (.cells #[.slice none 0 0, .bool false, .slice none 0 0] 39)).alloc (.cells #[.slice a L cap] 72))=W0:=⟨_,rfl⟩
 have hs0:W0.heap.size=n0+4:=by rw [←hW0];simp [hn0]
 have hX0:W0.heap[n0]? = some (.cells #[z0,z1,z2] 39 (0,0)):=by rw [←hW0,heap_alloc_old _ _ _ (by simp;omega),heap_alloc_old _ _ _ (by simp;omega),heap_alloc_old _ _ _ (by simp;omega),←hn0];exact heap_alloc_new w _
 have hS0:W0.heap[n0+1]? = some (.cells #[.func (.func 246) #[] #[xp]] 224 (0,0)):=by
  rw [←hW0,heap_alloc_old _ _ _ (by simp;omega),heap_alloc_old _ _ _ (by simp;omega)];have:=heap_alloc_new (w.alloc (.cells #[z0,z1,z2] 39)) (.cells #[.func (.func 246) #[] #[xp]] 224);rw [World.size_alloc,hn0] at this;exact this
 have hR0:W0.heap[n0+2]? = some (.cells #[.slice none 0 0, .bool false, .slice none 0 0] 39 (0,0)):=by
  rw [←hW0,heap_alloc_old _ _ _ (by simp;omega)];have:=heap_alloc_new ((w.alloc (.cells #[z0,z1,z2] 39)).alloc (.cells #[.func (.func 246) #[] #[xp]] 224)) (.cells #[.slice none 0 0, .bool false, .slice none 0 0] 39);rw [World.size_alloc,World.size_alloc,hn0] at this;exact this
 have hP0:W0.heap[n0+3]? = some (.cells #[.slice a L cap] 72 (0,0)):=by
  rw [←hW0];have:=heap_alloc_new (((w.alloc (.cells #[z0,z1,z2] 39)).alloc (.cells #[.func (.func 246) #[] #[xp]] 224)).alloc (.cells #[.slice none 0 0, .bool false, .slice none 0 0] 39)) (.cells #[.slice a L cap] 72);rw [World.size_alloc,World.size_alloc,World.size_alloc,hn0] at this;exact this
 have hB0:Below n0 w W0:=by
  rw [←hW0];exact ((((Below.refl _ w).alloc (by omega) _).alloc (by simp;omega) _).alloc (by simp;omega) _).alloc (by simp;omega) _
 rw [hW0]
 refine wpIn_rangeFunc_ownH (w0:=W0) rfl (by omega) (gf:=281) (lb:=#[.pointer (some ⟨n0+1+1+1,0,none⟩)]) rfl trivial (enters_of func281 (by kernel_rfl) rfl)
  (Aj (e0:=QV.u0) (e1:=QV.u1) (e2:=QV.u2) (n0+3) n0 (.slice a L cap) ts (by omega) W0 (by omega) (by omega) (aI hP0 rfl) (hI.below hB0)) Mj (MD (by omega) (by omega)) (Below.refl _ _) (fun _=>rfl)
  (fun pre W=>Below n0 w W∧n0+4≤W.heap.size∧W.heap[n0+1]? = some (.cells #[.func (.func 246) #[] #[xp]] 224 (0,0))∧W.heap[n0+2]? = some (.cells #[.slice none 0 0, .bool false, .slice none 0 0] 39 (0,0)) ∧
   ∃ u0 u1 u2,W.heap[n0]? = some (.cells #[u0,u1,u2] 39 (0,0))∧aZ (fun b=>M b∨b=n0∨b=n0+2) W (qC (hv x pre)) [u0,u1,u2])
  (fun _ _ _=>False) ?own (fun _=>by intro s A B row hs;exact hs.elim) ?start
  (fun y a' W=>∃ b,n0+4≤b∧a' = { tmps:=#[.slice a L cap, .agg #[z0,z1,z2], .func (.func 246) #[] #[xp],undef, .pointer (some ⟨n0,0,none⟩), .pointer (some ⟨n0+1,0,none⟩), .pointer (some ⟨n0+1+1,0,none⟩),undef, .pointer (some ⟨b,0,none⟩), .slice a L cap, .func (.func 281) #[] #[.pointer (some ⟨n0+1+1+1,0,none⟩)], .int .i64 (y.1:Int), .agg #[y.2.u0,y.2.u1,y.2.u2],undef,undef,undef,undef,undef],defers:=[] } ∧ W.heap[b]? = some (.cells #[y.2.u0,y.2.u1,y.2.u2] 39 (0,0)))
  ?ax ?assign ?body ?done ?stop
 case own=>
  rintro s A A' row ⟨h1,h2,h3,h4,u0,u1,u2,h5,h6⟩ hg hr;have hr':∀ r,row=some r→∃ o:Obj,A.heap[r]? = some o∧o.isCells=false:=fun r e=>(hr r e).2;refine ⟨h1.grown hg (by omega) (fun k e=>by have:=(hr k e).1;omega),Nat.le_trans h2 hg.size,dU hg hr' h3 rfl,dU hg hr' h4 rfl,u0,u1,u2,dU hg hr' h5 rfl,h6.mono fun b o hb ho hc=>⟨hb,dU hg hr' ho hc⟩⟩
 case start=>
  refine ⟨hB0,by omega,hS0,hR0,z0,z1,z2,hX0,hz.mono fun b o hb ho hc=>?_⟩;have hlt:=(Array.getElem?_eq_some_iff.1 ho).1;exact ⟨fun h=>h.elim hb (by omega),(hB0.block b (by omega)).trans ho⟩
 case ax=>
  rintro y a' _ A A' row ⟨b,h1,h2,h3⟩ hg hr;exact ⟨b,h1,h2,dU hg (fun r e=>(hr r e).2) h3 rfl⟩
 case assign=>
  rintro l pre y W K ⟨h1,h2,h3,h4,u0,u1,u2,h5,h6⟩ hK
  gi_wp2
  obtain ⟨o0,o1,o2⟩:y.2.u0.oneCell'=true∧y.2.u1.oneCell'=true∧y.2.u2.oneCell'=true:=by
   have:=y.2.rep.one;exact ⟨this _ (by simp),this _ (by simp),this _ (by simp)⟩
  have hnew:=heap_alloc_new W (.cells #[.slice none 0 0, .bool false, .slice none 0 0] 39);rw [vA hnew o0 o1 o2];obtain ⟨W',hW'⟩:∃ W',(W.alloc (.cells #[.slice none 0 0, .bool false, .slice none 0 0] 39)).setRow W.heap.size #[y.2.u0,y.2.u1,y.2.u2]=W':=⟨_,rfl⟩
  have hold:∀ k,k<W.heap.size→W'.heap[k]? = W.heap[k]?:=fun k hk=>by rw [←hW',setRow_other _ _ _ _ (by omega),heap_alloc_old _ _ _ hk]
  have hself:W'.heap[W.heap.size]? = some (.cells #[y.2.u0,y.2.u1,y.2.u2] 39 (0,0)):=by rw [←hW'];exact setRow_heap _ _ _ _ _ _ hnew
  have hbel:Below W.heap.size W W':=by rw [←hW'];exact below_setRow ((Below.refl _ W).alloc (Nat.le_refl _) _) (Nat.le_refl _) _
  have hlt:∀ {k:Nat} {o:Obj},W.heap[k]? = some o→k<W.heap.size:=fun h=>(Array.getElem?_eq_some_iff.1 h).1;rw [hW']
  gi_wp2
  refine hK _ _ ⟨hbel.size,fun k o _ ho _=>(hold k (hlt ho)).trans ho⟩ ⟨hbel.mono (by omega),fun v hv=>?_⟩
   ⟨h1.trans (hbel.mono (by omega)),Nat.le_trans h2 hbel.size,(hold _ (hlt h3)).trans h3,(hold _ (hlt h4)).trans h4,u0,u1,u2,(hold _ (hlt h5)).trans h5,h6.mono fun b o hb ho _=>⟨hb,(hold b (hlt ho)).trans ho⟩⟩
   ⟨W.heap.size,by omega,rfl,hself⟩
  simp only [World.cell?,hold (n0+3) (by omega)] at hv ⊢;exact hv
 case body=>
  rintro l pre y a' W hl _ ⟨h1,h2,h3,h4,u0,u1,u2,h5,h6⟩ ⟨b,hb,rfl,hbc⟩ hlt;have hltW:∀ {k:Nat} {o:Obj},W.heap[k]? = some o→k<W.heap.size:=fun h=>(Array.getElem?_eq_some_iff.1 h).1;have c0:W.cell? ⟨n0,0,none⟩=some u0:=aI h5 rfl;have c1:W.cell? ⟨n0,1,none⟩=some u1:=aI h5 rfl;have c2:W.cell? ⟨n0,2,none⟩=some u2:=aI h5 rfl;have cs:W.cell? ⟨n0+1,0,none⟩=some (.func (.func 246) #[] #[xp]):=aI h3 rfl;have cb0:W.cell? ⟨b,0,none⟩=some y.2.u0:=aI hbc rfl;have cb1:W.cell? ⟨b,1,none⟩=some y.2.u1:=aI hbc rfl;have cb2:W.cell? ⟨b,2,none⟩=some y.2.u2:=aI hbc rfl;have hM1:∀ k,(M k∨k=n0∨k=n0+2)→k<W.heap.size:=fun k h=>h.elim (fun h=>by have:=hM k h;omega) (fun h=>by omega)
  have hkeep:bZ M w (fun b=>M b∨b=n0∨b=n0+2) W:=fun k o hk ho _=>by
   have hlt:=(Array.getElem?_eq_some_iff.1 ho).1;exact ⟨fun h=>h.elim hk (by omega),(h1.block k (by omega)).trans ho⟩
  have hfit:Fit (pre.length*(B+C+1)+1) (hv x pre):=RD hx pre 0 1 (Fit.zero (Nat.le_refl 1))
  have hbound:pre.length*(B+C+1)+1+B+C≤4294967296:=by
   rw [hL] at hlt;have:=Nat.mul_le_mul_right (B+C+1) (Nat.le_of_lt hlt);omega
  have hcall:Calls prog 246 #[.agg #[u0,u1,u2], .agg #[y.2.u0,y.2.u1,y.2.u2],xp] W fun e w'=>Below W.heap.size W w'∧∃ v0 v1 v2,e = .returned (.agg #[v0,v1,v2])∧aZ (fun b=>M b∨b=n0∨b=n0+2) w' (qC (hv x (pre ++ [y]))) [v0,v1,v2]:=by
   refine ((Nz (hv x pre) y.2.q x _ _ _ hfit y.2.fit hx hbound).2 (fun b=>M b∨b=n0∨b=n0+2) W [.agg #[u0,u1,u2], .agg #[y.2.u0,y.2.u1,y.2.u2],xp] ⟨hM1,hMg.jD hkeep⟩ ⟨⟨[u0,u1,u2],rfl,h6⟩,⟨[_,_,_],rfl,y.2.rep.mono hkeep⟩,aH.mono _ hkeep hxp,trivial⟩).mono ?_;rintro e w' ⟨hb',vs,rfl,hvs⟩;rw [Wu];obtain ⟨v0,v1,v2,e1,hr⟩:=bc7 hvs;exact ⟨hb',v0,v1,v2,by rw [e1],hr⟩
  gi_wp2_with (refine ⟨trivial,?_⟩;gi_at_call 246;refine (CallsIn.inRound l (callsIn_wide.2 hcall)).mono ?_;rintro e w' ⟨hbw,v0,v1,v2,rfl,hvr⟩)
  have hone:=hvr.one;have hbox:w'.heap[n0]? = some (.cells #[u0,u1,u2] 39 (0,0)):=(hbw.block n0 (hltW h5)).trans h5;rw [vA hbox (hone _ (by simp)) (hone _ (by simp)) (hone _ (by simp))];obtain ⟨W3,hW3⟩:∃ W3,w'.setRow n0 #[v0,v1,v2]=W3:=⟨_,rfl⟩
  have hself:W3.heap[n0]? = some (.cells #[v0,v1,v2] 39 (0,0)):=by rw [←hW3];exact setRow_heap _ _ _ _ _ _ hbox
  have hoth:∀ k,k≠n0→W3.heap[k]? = w'.heap[k]?:=fun k hk=>by rw [←hW3,setRow_other _ _ _ _ hk]
  have hold:∀ {k:Nat} {o:Obj},k≠n0→W.heap[k]? = some o→W3.heap[k]? = some o:=fun hk ho=>(hoth _ hk).trans ((hbw.block _ (hltW ho)).trans ho);have hbel:Below n0 W W3:=by rw [←hW3];exact below_setRow (hbw.mono (by omega)) (Nat.le_refl _) _
  rw [hW3]
  gi_wp2
  refine ⟨⟨hbel.size,fun k o hk ho _=>hold (by omega) ho⟩,⟨hbel,fun v hv=>?_⟩,h1.trans hbel,Nat.le_trans h2 hbel.size,hold (by omega) h3,hold (by omega) h4,v0,v1,v2,hself,hvr.mono fun k o hk ho _=>⟨hk,(hoth k fun e=>hk (.inr (.inl e))).trans ho⟩⟩;simp only [World.cell?,hoth (n0+3) (by omega),hbw.block (n0+3) (by omega)] at hv ⊢;exact hv
 case done=>
  rintro D ys W hD rfl ⟨h1,h2,h3,h4,u0,u1,u2,h5,h6⟩ hK;have c0:W.cell? ⟨n0,0,none⟩=some u0:=aI h5 rfl;have c1:W.cell? ⟨n0,1,none⟩=some u1:=aI h5 rfl;have c2:W.cell? ⟨n0,2,none⟩=some u2:=aI h5 rfl;have hone:=h6.one
  gi_wp2
  rw [vA h4 (hone _ (by simp)) (hone _ (by simp)) (hone _ (by simp))]
  gi_wp2
  obtain ⟨W3,hW3⟩:∃ W3,W.setRow (n0+2) #[u0,u1,u2]=W3:=⟨_,rfl⟩
  have hself:W3.heap[n0+2]? = some (.cells #[u0,u1,u2] 39 (0,0)):=by rw [←hW3];exact setRow_heap _ _ _ _ _ _ h4
  have hoth:∀ k,k≠n0+2→W3.heap[k]? = W.heap[k]?:=fun k hk=>by rw [←hW3,setRow_other _ _ _ _ hk]
  have hK3:W3.heap[D]? = some (.deferred (some [])):=(hoth D (by omega)).trans hK;have hbel:Below n0 W W3:=by rw [←hW3];exact below_setRow (Below.refl _ W) (by omega) _
  rw [hW3];obtain ⟨W4,hW4⟩:∃ W4,W3.putObj D (.deferred none)=W4:=⟨_,rfl⟩
  have hoth4:∀ k,k≠D→W4.heap[k]? = W3.heap[k]?:=fun k hk=>by rw [←hW4];exact World.putObj_heap_other (by omega)
  have hself4:W4.heap[n0+2]? = some (.cells #[u0,u1,u2] 39 (0,0)):=(hoth4 _ (by omega)).trans hself;have d0:W4.cell? ⟨n0+2,0,none⟩=some u0:=aI hself4 rfl;have d1:W4.cell? ⟨n0+2,1,none⟩=some u1:=aI hself4 rfl;have d2:W4.cell? ⟨n0+2,2,none⟩=some u2:=aI hself4 rfl;refine ⟨by simp, .inl ⟨_,_,rfl,run_takeDeferred hK3,?_⟩⟩;rw [hW4];refine ⟨.agg #[u0,u1,u2],?_,?_,u0,u1,u2,rfl,by rw [←hL];exact h6.mono fun k o hk ho hc=>⟨fun h=>hk (.inl h),(hoth4 k (by rintro rfl;rw [hK] at ho;cases ho;cases hc)).trans ((hoth k (by rintro rfl;exact hk (.inr (.inr rfl)))).trans ho)⟩⟩
  ·refine iV _ _ [_] ?_;simp [show f245.results = #[.cell 6 39] from rfl,mM,go_sem,d0,d1,d2]
  ·rw [←hn0] at h1 hbel;exact (h1.trans hbel).trans (by rw [←hW4];exact belowK_b (w:=w) (Nat.le_refl _) W3 D _ _ (by omega) hK3 rfl rfl)
 case stop=>
  rintro D c pre W hD _ h hK;exact h.elim
theorem oJ {α:Type} (P:Nat→α→Prop):∀ n,(∀ i,i<n→∃ x,P i x)→∃ ts:List α,ts.length=n∧∀ (i:Nat) x,ts[i]? = some x→P i x
 | 0,_=>⟨[],rfl,fun i x h=>by simp at h⟩
 | n+1,h=>by
   obtain ⟨ts,h1,h2⟩:=oJ P n fun i hi=>h i (by omega);obtain ⟨x,hx⟩:=h n (by omega);refine ⟨ts ++ [x],by simp [h1],fun i y hy=>?_⟩;rcases Nat.lt_or_ge i n with hi | hi
   ·rw [List.getElem?_append_left (by omega)] at hy;exact h2 i y hy
   ·rw [List.getElem?_append_right (by omega)] at hy
    have hin:i-ts.length=0:=by
     have:=(List.getElem?_eq_some_iff.1 hy).1;simp at this;omega
    rw [hin] at hy;simp only [List.getElem?_cons_zero,Option.some.injEq] at hy;subst hy;obtain rfl:i=n:=by omega
    exact hx
theorem ak8 {M:Nat→Prop} {w:World} {B:Nat} {v:Value} {ps:List Rat} (h:(sQ ps).rep M w v) (hp:∀ q∈ps,Fit B q) :
  ∃ (ts:List (QV M w B)) (a:Option Addr) (cap:Nat),v = .slice a ts.length cap∧ts.map QV.q=ps∧YY QV.u0 QV.u1 QV.u2 w.heap.size w v ts:=by
 obtain ⟨a,cap,rfl,hc,hm,hel⟩:=h;have hlen:(rQ ps).length=ps.length:=List.length_map _;rcases hel with h | ⟨b,off,cs,T,fz,rfl,hb,hh,hr⟩
 ·have:ps = []:=by cases ps<;>simp_all [rQ]
  subst this;exact ⟨[],a,cap,rfl,rfl,a,cap,rfl, .inl rfl⟩
 ·obtain ⟨ts,h1,h2⟩:=oJ (fun i (x:QV M w B)=>ps[i]? = some x.q∧w.cell? ⟨b,off+i*3,none⟩=some x.u0∧w.cell? ⟨b,off+i*3+1,none⟩=some x.u1∧w.cell? ⟨b,off+i*3+2,none⟩=some x.u2) ps.length fun i hi=>by
   obtain ⟨q,hq⟩:∃ q,ps[i]? = some q:=⟨_,List.getElem?_eq_getElem hi⟩
   obtain ⟨_,hrep⟩:=hr i (qC q) (by rw [rQ,List.getElem?_map,hq];rfl)
   have hat:∀ j,j<3→((cs.toList.drop (off+i*3)).take 3)[j]? = cs[off+i*3+j]?:=fun j hj=>by
    rw [List.getElem?_take,if_pos hj,List.getElem?_drop];simp
   have hl:=hrep.length;generalize hus:(cs.toList.drop (off+i*3)).take 3=us at hrep hl hat
   match us,hrep with
   | [x0,x1,x2],hrep=>
     refine ⟨⟨q,x0,x1,x2,hp q (List.mem_of_getElem? hq),hrep⟩,hq,?_,?_,?_⟩
     ·have h0:=hat 0 (by omega);rw [Nat.add_zero] at h0;exact aI hh (by rw [←h0];rfl)
     ·exact aI hh (by rw [←hat 1 (by omega)];rfl)
     ·exact aI hh (by rw [←hat 2 (by omega)];rfl)
   | [],hrep=>exact hrep.elim
   | [_],hrep=>exact hrep.2.elim
   | [_,_],hrep=>exact hrep.2.2.elim
   | _::_::_::_::_,hrep=>exact hrep.2.2.2.elim
  refine ⟨ts,_,cap,by rw [hlen,h1],?_,_,cap,by rw [hlen,h1], .inr ⟨b,off,rfl,(Array.getElem?_eq_some_iff.1 hh).1,fun j v hj=>(h2 j v hj).2⟩⟩;refine List.ext_getElem? fun i=>?_;rw [List.getElem?_map];cases hi:ts[i]? with
  | none=>
    have:=List.getElem?_eq_none_iff.1 hi;rw [List.getElem?_eq_none_iff.2 (by omega)];rfl
  | some x=>rw [(h2 i x hi).1];rfl
theorem Rr {α:Type} [Inhabited α] (vs:List α):(bk vs vs.length).map Prod.snd=vs.reverse:=by
 refine List.ext_getElem? fun i=>?_;rw [bk,List.map_map,List.getElem?_map];rcases Nat.lt_or_ge i vs.length with h | h
 ·rw [List.getElem?_range h,List.getElem?_reverse h];have h':vs.length-1-i<vs.length:=by omega
  simp [List.getElem?_eq_getElem h']
 ·rw [List.getElem?_eq_none_iff.2 (by simpa using h),List.getElem?_eq_none_iff.2 (by simpa using h)];rfl
theorem aN7 {M:Nat→Prop} {w:World} {B:Nat} [Inhabited (QV M w B)] (x:Rat) (ts:List (QV M w B)):hv x (bk ts ts.length)=eN (ts.map QV.q) x:=by
 have h:hv x (bk ts ts.length)=((bk ts ts.length).map Prod.snd).foldl (fun v c=>v*x+c.q) 0:=by rw [hv,List.foldl_map]
 rw [h,Rr,List.foldl_reverse,eN,List.foldr_map]
theorem Ks (ps:List Rat) (x:Rat) (B C:Nat) (hB:1≤B) (hp:∀ q∈ps,Fit B q) (hx:Fit C x) (hl:ps.length*(B+C+1)+B+C+1≤4294967296) :
  aM prog 245 [.one (sQ ps),qT 0, .one (.gT 246 [.bE (qC x)])] (.ret [qT (eN ps x)]):=by
 refine ⟨bR (by kernel_rfl),fun M w vs hM hv=>?_⟩
 match vs,hv with
 | [v0,v1,v2],⟨k0,⟨us,k1,hus⟩,⟨fs,k2,hfs⟩,_⟩=>
   obtain ⟨ts,a,cap,rfl,hq,hsl⟩:=ak8 k0 hp;obtain ⟨iq⟩:=WA M w B hB
   haveI:Inhabited (QV M w B):=⟨iq⟩
   subst k1 k2
   match us,hus,fs,hfs with
   | [z0,z1,z2],hus,[xp],hfs=>
     have hlen:ps.length=ts.length:=by rw [←hq,List.length_map]
     rw [hlen] at hl;have h1:=Og M w B C x hx hM hB a cap ts (by have:=Nat.le_mul_of_pos_right ts.length (show 0<B+C+1 by omega);omega) hl hsl z0 z1 z2 hus xp hfs.1;rw [aN7,hq] at h1;refine ((callsIn_wide (n:=1001)).1 h1).mono ?_;rintro e w' ⟨hb,u0,u1,u2,rfl,hr⟩;exact ⟨hb,[.agg #[u0,u1,u2]],rfl,⟨[u0,u1,u2],rfl,hr⟩,trivial⟩
   | [],hus,_,_=>exact hus.elim
   | [_],hus,_,_=>exact hus.2.elim
   | [_,_],hus,_,_=>exact hus.2.2.elim
   | _::_::_::_::_,hus,_,_=>exact hus.2.2.2.elim
   | [_,_,_],_,[],hfs=>exact hfs.elim
   | [_,_,_],_,_::_::_,hfs=>exact hfs.2.elim
 | [],hv=>exact hv.elim
 | [_],hv=>exact hv.2.elim
 | [_,_],hv=>exact hv.2.2.elim
 | _::_::_::_::_,hv=>exact hv.2.2.2.elim
def aT1:Tr:=aK 245 [(W 0 0),(.agg [tN,(tE (.bool false)),tN]),(.one (.gT 246 [(.ref 0 [(.u 1 0),(.u 1 1),(.u 1 2)])]))] [(some 3)] [5,6,7] [72,39,224] 39 true (.ret [(G3 2)])
theorem YF:aN prog f181 (fun _=>none) [.v none, .v (some 3)]=aT1:=by kernel_rfl
theorem XW (ps:List Rat) (c:Rat) (B:Nat) (hB:1≤B) (hp:∀ q∈ps,Fit B q) (hc:Fit B c) (hl:ps.length*(2*B+2)+2*B+2≤4294967296):aM prog 181 [(.one (sQ ps):aF),(qT c:aF)] (.ret [qT (eN ps c)]):=by
 refine aD (args:=[.v none, .v (some 3)]) (ins:=[.v (.one (sQ ps)), .v (qT c)]) (hints:=(fun _=>none)) fo (by kernel_rfl) func181 ⟨rfl,rfl,trivial⟩ ?_;rw [YF];dsimp only [List.map,In.env,aB,aA];have hl2:ps.length*(B+B+1)≤ps.length*(2*B+2):=Nat.mul_le_mul_left _ (by omega);refine GB (show aO [.one (sQ ps), .agg [.exact (.slice none 0 0), .bool false, .exact (.slice none 0 0)], .one (.gT 246 [.bE (qC c)])] [.one (sQ ps),qT 0, .one (.gT 246 [.bE (qC c)])] from ⟨aF.Sub.same,iZ,aF.Sub.same,trivial⟩) (Ks ps c B B hB hp hc (by omega)) rfl ?_;exact aL rfl
end Go.Sy
namespace Go.Sy
open Go Go.Proofs Tryz Ord
theorem GP {n H:Nat} (h:n<2^H):(dg n).length≤H:=CM (Nat.lt_of_lt_of_le h (Nat.pow_le_pow_left (by omega) H))
theorem AJ (q:Rat) (H:Nat) (hf:Fit H q) (hH:H≤34359738360):aM prog 90 [(qT q:aF)] (.ret [bS (wN q)]):=by
 refine aD (args:=[.v (some 3)]) (ins:=[.v (qT q)]) (hints:=(fun _=>none)) fo (by kernel_rfl) func90 ⟨rfl,trivial⟩ ?_;rw [Uq];dsimp only [List.map,In.env,aB,aA];have hd:=GP hf.2;have hn:=GP hf.1;have hp:=q.den_pos;have ln:=sK hf.1;have ld:=sK hf.2;rw [show wN q=((if q.num<0 then [45] else [])++dec q.num.natAbs)++if q.den=1 then [] else [47]++dec q.den from rfl];refine aC (Ga q.num.natAbs (by omega)) rfl ?_;dsimp only [aB,aA];refine vs _ rfl (fun h1=>?_) (fun h1=>?_)
 ·refine vn (qH (a:=[45]) (by simp only [List.length_cons,List.length_nil];omega)) rfl ?_;dsimp only [aB,aA];refine aC (zQ (q.den-1)) rfl ?_;dsimp only [aB,aA];refine vn BF rfl ?_;dsimp only [aB,aA];refine vs _ rfl (fun h5=>?_) (fun h5=>?_)
  ·refine aC (fD q (by omega)) rfl ?_;dsimp only [aB,aA];refine aC (Ga q.den (by omega)) rfl ?_;dsimp only [aB,aA];refine vn (qH (a:=[47]) (by simp only [List.length_cons,List.length_nil];omega)) rfl ?_;dsimp only [aB,aA];refine vn (qH (by simp only [List.length_append,List.length_cons,List.length_nil];omega)) rfl ?_;dsimp only [aB,aA];rw [if_pos h1,if_neg (by omega)];exact aL rfl
  rw [if_pos h1,if_pos (by omega),List.append_nil];exact aL rfl
 refine aC (zQ (q.den-1)) rfl ?_;dsimp only [aB,aA];refine vn BF rfl ?_;dsimp only [aB,aA];refine vs _ rfl (fun h14=>?_) (fun h14=>?_)
 ·refine aC (fD q (by omega)) rfl ?_;dsimp only [aB,aA];refine aC (Ga q.den (by omega)) rfl ?_;dsimp only [aB,aA];refine vn (qH (a:=[47]) (by simp only [List.length_cons,List.length_nil];omega)) rfl ?_;dsimp only [aB,aA];refine vn (qH (by simp only [List.length_append,List.length_cons,List.length_nil];omega)) rfl ?_;dsimp only [aB,aA];rw [if_neg h1,if_neg (by omega)];exact aL rfl
 rw [if_neg h1,if_pos (by omega),List.append_nil];exact aL rfl
theorem ML (a:Rat) (b:RQ) (B:Nat) (ha:Fit B a) (hb:Fit B b.q) (hB:B≤268435456):aM prog 44 [qT a,dE b] (.ret [.one (.bool (decide (a=b.q)))]):=by
 refine aD (args:=[.v (some 3), .v (some 4)]) (ins:=[.v (qT a), .v (dE b)]) (hints:=(fun _=>none)) fo (by kernel_rfl) func44 ⟨rfl,rfl,trivial⟩ ?_;rw [YE];dsimp only [List.map,In.env,aB,aA];refine aC (AJ a B ha (by omega)) rfl ?_;refine aC (UB b B hb (by omega)) rfl ?_;refine vn Bz rfl ?_;rw [show decide (wN a=wN b.q)=decide (a=b.q) by rw [decide_eq_decide];exact UA];exact aL rfl
end Go.Sy
