/- Part. -/
import Derived.Test.YtacgmapjhpghkaaGreatDoorSa
import Derived.Great.BuildSlice
set_option linter.all false
namespace Go.Sy
open Go.RowKit (Below)
section
variable {P:Program} {M0:eG} {w0 w w':World} {N:Nat} {s:St} {τ:Env} {ρ ρ':Nat->Gh} {a:Act} {o:Oper} {e:fU} {nd:dY} {nb ni:Nat} {Qp:Exit->Act->World->Prop}
theorem bB.Ao {α β γ:Type} {R:α->β->Prop} {S:α->γ->Prop} (f:β->γ) (hf:∀ x y,R x y->S x (f y)):∀ {xs ys},bB R xs ys->bB S xs (ys.map f)
 | [],[],_=>trivial
 | _::_,_::_,⟨a,b⟩=>⟨hf _ _ a,b.Ao f hf⟩
 | [],_::_,k=>k.elim
 | _::_,[],k=>k.elim
theorem bB.map_eq {α β γ:Type} {R:α->β->Prop} (f:α->γ) (g:β->γ) (hf:∀ x y,R x y->f x=g y):∀ {xs ys},bB R xs ys->xs.map f=ys.map g
 | [],[],_=>rfl
 | _::_,_::_,⟨a,b⟩=>by rw [List.map_cons,List.map_cons,hf _ _ a,b.map_eq f g hf]
 | [],_::_,k=>k.elim
 | _::_,[],k=>k.elim
theorem bB.flatMap {α β γ δ:Type} {R:α->β->Prop} {S:γ->δ->Prop} (f:α->List γ) (g:β->List δ) (hf:∀ x y,R x y->bB S (f x) (g y)):∀ {xs ys},bB R xs ys->bB S (xs.flatMap f) (ys.flatMap g)
 | [],[],_=>trivial
 | _::_,_::_,⟨a,b⟩=>by rw [List.flatMap_cons,List.flatMap_cons];exact (hf _ _ a).append (b.flatMap f g hf)
 | [],_::_,k=>k.elim
 | _::_,[],k=>k.elim
theorem Ba {α β:Type} {f:α->List β} {n:Nat}:∀ {xs:List α},(∀ x∈xs,(f x).length=n)->(xs.flatMap f).length=xs.length*n
 | [],_=>by simp
 | x::xs,h=>by
   rw [List.flatMap_cons,eC,h x List.mem_cons_self,Ba fun y hy=>h y (List.mem_cons_of_mem _ hy),List.length_cons,Nat.add_mul,Nat.one_mul,Nat.add_comm]
theorem kK {x:Operand} {ad:Addr} (ho:o.op = .nilCheck x) (hx:a.eval x = .pointer (some ad)):(execOp a.eval o).run P w = .ok (.value (.pointer (some ad))) w:=by
 simp [execOp,ho,hx]
theorem be7 (h:Sat M0 w0 N s τ ρ a w) (hd:cN N o=true) {x:Operand} (ho:o.op = .nilCheck x)
  (hq:(Xa P o ni x).run s=some (e,nd)) (hn:iO P τ o.op o.type nd ni):o.wp P a w (jO M0 w0 N s e τ) Qp:=by
 obtain ⟨c,h1,h2⟩:=Q.bind_some hq;have hx:=dZ h h1;cases c with
 | p b off=>
   simp only [Q.run_pure,aN] at h2;obtain ⟨rfl,rfl⟩:=Prod.mk.inj h2;exact eL h hd (kK ho hx.2) ⟨hx.1,rfl⟩
 | ref off cs=>
   simp only [Q.run_pure,aN] at h2;obtain ⟨rfl,rfl⟩:=Prod.mk.inj h2;obtain ⟨b,o',cur,T',fz,he,hm,hh,hrep⟩:=hx;exact eL h hd (kK ho he) ⟨b,o',cur,T',fz,rfl,hm,hh,hrep⟩
 | fP f cs=>
   simp only [Q.run_pure,aN] at h2;obtain ⟨rfl,rfl⟩:=Prod.mk.inj h2;obtain ⟨vs,he,hr⟩:=hx;refine eL h hd (v:=a.eval x) ?_ ⟨vs,he,hr⟩;simp [execOp,ho,he]
 | rp b sz i off=>
   simp only [Q.run_pure,aN] at h2;obtain ⟨rfl,rfl⟩:=Prod.mk.inj h2;obtain ⟨hb,g,o0,len,cap,k,n,e1,e2,e3,e4⟩:=hx;exact eL h hd (kK ho e4) ⟨hb,g,o0,len,cap,k,n,e1,e2,e3,rfl⟩
 | c y=>exact cT h hd h2 hn
 | rs _ _ _ _=>exact cT h hd h2 hn
 | r b=>exact cT h hd h2 hn
theorem ap7 (off:Nat) (l:Array Value) (cs:Array Value) (hle:off+l.size<=cs.size:=by omega) :
  (l.zipIdx.foldl (fun cs (x:Value×Nat)=>cs.setIfInBounds (off+x.2) x.1) cs)=(cs.toList.take off++l.toList++cs.toList.drop (off+l.size)).toArray:=by
 obtain ⟨h1,h2⟩:=Go.Great.foldl_set off l.toList 0 cs
 have e:(l.zipIdx.foldl (fun cs (x:Value×Nat)=>cs.setIfInBounds (off+x.2) x.1) cs)=(l.toList.zipIdx 0).foldl (fun cs (x:Value×Nat)=>cs.setIfInBounds (off+x.2) x.1) cs:=by
  rw [<-Array.foldl_toList,Array.toList_zipIdx]
 rw [e];apply Array.ext_getElem?;intro k;rw [h2 k];simp only [List.getElem?_toArray,List.getElem?_append,List.getElem?_take,List.getElem?_drop,eC,List.length_take,Array.length_toList,Nat.add_zero,Array.getElem?_toList]
 grind
theorem WR {ex:Nat->Prop} {M:Nat->Prop} {place:Nat->Option (Nat×Nat)}:∀ {ps:List (Nat×SW)} {xs:List (Nat×Value)} {cells cs:List SC} {vs:Array Value},
  Tv place cells ps=some cs->bB (dK ex τ ρ M w) cells vs.toList->bB (fun p x=>p.1=x.1/\fF ex τ ρ M w p.2 x.2) ps xs ->
  ∃ vs',Instr.fill place vs xs=some vs'/\bB (dK ex τ ρ M w) cs vs'.toList
 | [],[],cells,cs,vs,hf,hv,_=>by
   simp only [Tv,aN] at hf;subst hf;exact ⟨vs,rfl,hv⟩
 | (i,p)::ps,(i',x)::xs,cells,cs,vs,hf,hv,⟨⟨hii,hp⟩,hps⟩=>by
   obtain rfl:i=i':=hii;have hp:fF ex τ ρ M w p x:=hp;have hc:=hp.GC;have hlen:=hc.length;have hlv:=hv.length;simp only [Tv] at hf;unfold Instr.fill;simp only;cases hpl:place i with
   | none=>simp [hpl] at hf
   | some q=>
     obtain ⟨off,size⟩:=q;simp only [hpl] at hf;split at hf
     .cases hf
     .rename_i hno;simp only [Bool.or_eq_true,decide_eq_true_eq,not_or,Nat.not_lt,ne_eq,Decidable.not_not] at hno;simp only [Array.length_toList] at hlen hlv
      have hcond:(decide (x.cells.size≠size) || decide (off+x.cells.size>vs.size))=false:=by
       simp only [Bool.or_eq_false_iff,decide_eq_false_iff_not,Nat.not_lt,ne_eq,Decidable.not_not,gt_iff_lt];omega
      simp only [hcond,Bool.false_eq_true,if_false];rw [ap7 off x.cells vs];refine WR hf ?_ hps;show bB _ _ (vs.toList.take off++x.cells.toList++vs.toList.drop (off+x.cells.size));have:=((hv.take off).append hc).append (hv.drop (off+p.cells.length));rw [hlen] at this;rw [hlen];exact this
 | [],_::_,_,_,_,_,_,h=>h.elim
 | _::_,[],_,_,_,_,_,h=>h.elim
theorem QT {T:Nat} {pl:List (Nat×Nat)} (h:QO P T=some pl):∃ fs,P.underlying T=some (.struct fs)/\fs.toList.mapM (fun f=>(P.info? f.type).map fun i=>(f.offset,i.size))=some pl:=by
 unfold QO at h;split at h
 .rename_i fs hf;exact ⟨fs,hf,h⟩
 .cases h
theorem ad1 (h:Sat M0 w0 N s τ ρ a w) (hd:cN N o=true) {T:Nat} {parts:Array (Nat×Operand)} (ho:o.op = .build T parts)
  (hq:(Nj P o T parts.toList).run s=some (e,nd)):o.wp P a w (jO M0 w0 N s e τ) Qp:=by
 obtain ⟨pl,h1,h2⟩:=Q.bind_some hq;obtain ⟨z,h3,h4⟩:=Q.bind_some h2;obtain ⟨ps,h5,h6⟩:=Q.bind_some h4;obtain ⟨cs,h7,h8⟩:=Q.bind_some h6;rw [dX] at h1 h3 h7;simp only [Q.run_pure,aN] at h8;obtain ⟨rfl,rfl⟩:=Prod.mk.inj h8;obtain ⟨fs,hu,hp⟩:=QT h1;obtain ⟨i,zv,hi,hz,hzc,hone,_⟩:=fE h3;have hps:=CI h h5;have hxs:bB (fun p x=>p.1=x.1/\fF (lX s) τ ρ (Ms M0 ρ s) w p.2 x.2) ps (parts.toList.map fun x=>(x.1,a.eval x.2)):=hps.Ao (fun x:Nat×Operand=>(x.1,a.eval x.2)) fun _ _ h=>h;obtain ⟨vs',hf,hall⟩:=WR (vs:=zv.cells) h7 (by rw [hzc];exact bB.wP hone) hxs;refine eL h hd (v:=.agg vs') ?_ ⟨vs'.toList,by simp,hall⟩
 have hb:P.built T (parts.map fun x=>(x.1,a.eval x.2)).toList=some vs':=by
  simp only [Program.built,hi,hu,hz,hp,Array.toList_map,List.getElem?_toArray];exact hf
 have:=run_build (P:=P) w T _ _ hb;simp only [execOp,ho,Sem.run_bind,this,Result.andThen_ok,Sem.run_pure]
theorem cE {T E sz by_:Nat} (h:eA P T=some (E,sz,by_)):∃ i,P.underlying T=some (.slice E)/\P.info? E=some i/\i.size=sz/\i.bytes=by_:=by
 unfold eA at h;split at h
 .rename_i E' hu;cases hi:P.info? E' with
  | none=>simp [hi] at h
  | some i=>
    simp only [hi,Option.map_some,aN,Prod.mk.injEq] at h;obtain ⟨rfl,rfl,rfl⟩:=h;exact ⟨i,hu,hi,rfl,rfl⟩
 .cases h
theorem Sat.ZH (h:Sat M0 w0 N s τ ρ a w) {nb E sz ni n cap:Nat} {sl:List Nat} {ts:List (List aD)} {cs:Array Value} (hd:cN N o=true) (hnb:s.b nb=none)
  (hτ:τ[ni]? = some (.rows ts)) (htl:ts.length=n) (hts:∀ t∈ts,t.length=sz) (hcs:cs.size=cap*sz) (hn:n<=cap) (hcap:cap<=maxLen)
  (hrep:∀ M',cP M0 ρ s sl M'->bA M' w ts.flatten (cs.toList.take (n*sz))) :
  ∃ ρ',Sat M0 w0 N (s.app ⟨put o (.w (.one (.r nb))),[(nb, .row E sz ni)],sl⟩) τ ρ' (a.put o.dst (.slice (some ⟨w.heap.size,0,none⟩) n cap)) (w.alloc (.cells cs E)):=by
 refine ⟨fun b=>if b=nb then ⟨0, .slice (some ⟨w.heap.size,0,none⟩) n cap,#[]⟩ else ρ b,?_⟩;have hne:∀ b,b≠nb->(fun b=>if b=nb then (⟨0, .slice (some ⟨w.heap.size,0,none⟩) n cap,#[]⟩:Gh) else ρ b) b=ρ b:=fun b hb=>by simp [hb]
 have hown:∀ x y z,own (fun b=>if b=nb then (⟨0, .slice (some ⟨w.heap.size,0,none⟩) n cap,#[]⟩:Gh) else ρ b) nb (.row x y z)=some w.heap.size:=fun x y z=>by simp [own,Value.ownBlock]
 refine h.VQ (kill:=[]) hd hnb (fun _ _ _ h=>by cases h) (.inl rfl) hne (Ay h _) (by simp) (fun k hk _=>heap_alloc_old w _ k hk) ?_ ?_ ?_
 .intro g hg;rw [hown] at hg;cases hg;exact ⟨.inl h.below.size,by simp, .inl (aY _)⟩
 .intro _;refine ⟨?_,by simp,rfl⟩;rw [lX,St.fM];simp [look]
 .intro hkeep;generalize hρ':(fun b=>if b=nb then (⟨0, .slice (some ⟨w.heap.size,0,none⟩) n cap,#[]⟩:Gh) else ρ b)=ρ' at *;generalize hM':Ms M0 ρ' (s.app ⟨put o (.w (.one (.r nb))),[(nb, .row E sz ni)],sl⟩)=M' at *
  have hback:∀ k,M' k->k<w.heap.size->M0.M k\/∃ b x,s.b b=some x/\(sl.contains b || s.s b)=false/\own ρ b x=some k:=by
   intro k hk hlt;rw [<-hM'] at hk;rcases hk with hk | ⟨b,x,h1,h2,h3⟩
   .exact .inl hk
   .rw [St.fM] at h1;rw [St.qJ] at h2;simp only [look] at h1;by_cases e:nb=b
    .subst e;simp only [if_true,aN] at h1;subst h1;rw [hown] at h3;cases h3;omega
    .simp only [e,if_false] at h1;rw [mD (hne b (fun h=>e h.symm))] at h3;exact .inr ⟨b,x,h1,h2,h3⟩
  have hS:cP M0 ρ s sl (fun k=>M' k/\k<w.heap.size):=by
   constructor
   .rintro k ⟨hk,hlt⟩;rcases hback k hk hlt with hk | ⟨b,x,h1,h2,h3⟩
    .exact .inl hk
    .simp only [Bool.or_eq_false_iff] at h2;exact .inr ⟨b,x,h1,h2.2,h3⟩
   .rintro b x k h1 h2 h3 ⟨hk,hlt⟩;rcases hback k hk hlt with hk | ⟨b',x',h4,h5,h6⟩
    .exact h.old k hk (h.lo b x k h1 h2).1
    .have:=h.inj b b' x x' k h1 h4 h2 h6;subst this;simp only [Bool.or_eq_false_iff] at h5;rcases h3 with h3 | h3
     .rw [h3] at h5;simp at h5
     .have:sl.contains b=true:=by simpa using h3
      rw [this] at h5;simp at h5
  have hr:=hrep _ hS
  have hk2:bO (fun k=>M' k/\k<w.heap.size) w M' (w.alloc (.cells cs E)):=by
   intro k ob hk hob _;have hlt:k<w.heap.size:=(cS.1 hob).1;exact ⟨fun hm=>hk ⟨hm,hlt⟩,by rw [heap_alloc_old w _ k hlt];exact hob⟩
  refine ⟨ts,cs.toList.take (n*sz),hτ,⟨?_, .inr ⟨w.heap.size,cap,cs,?_,dD _,heap_alloc_new w _,?_,hcap,hcs,by rw [htl]⟩⟩,hts,hr.mono hk2⟩
  .have e1:cs.toList.length=cap*sz:=by rw [Array.length_toList,hcs]
   rw [List.length_take,e1,htl];exact Nat.min_eq_left (Nat.mul_le_mul_right _ hn)
  .rw [<-hρ',htl];simp
  .rw [htl];exact hn
theorem AD {α:Type} (sz:Nat):∀ (len:Nat) (xs:List α),xs.length=len*sz->((List.range len).map fun i=>(xs.drop (i*sz)).take sz).flatten=xs
 | 0,xs,h=>by simp at h;subst h;rfl
 | len+1,xs,h=>by
   rw [List.range_succ_eq_map,List.map_cons,List.map_map,List.flatten_cons];have h1:=AD sz len (xs.drop sz) (by rw [List.length_drop,h,Nat.add_mul,Nat.one_mul];omega)
   have h2:(List.range len).map ((fun i=>(xs.drop (i*sz)).take sz) ∘ Nat.succ)=(List.range len).map fun i=>((xs.drop sz).drop (i*sz)).take sz:=by
    apply List.map_congr_left;intro i _;simp only [Function.comp,List.drop_drop,Nat.succ_mul];rw [Nat.add_comm]
   rw [h2,h1];simp
theorem aO5 (h:Sat M0 w0 N s τ ρ a w) (hd:cN N o=true) {T len:Nat} {parts:Array (Nat×Operand)} (ho:o.op = .buildSlice T len parts)
  (hq:(Xr P o nb ni T len parts.toList).run s=some (e,nd)) (hn:iO P τ o.op o.type nd ni):o.wp P a w (jO M0 w0 N s e τ) Qp:=by
 obtain ⟨⟨E,sz,by_⟩,h1,h2⟩:=Q.bind_some hq;obtain ⟨ps,h3,h4⟩:=Q.bind_some h2;obtain ⟨_,h5,h6⟩:=Q.bind_some h4;obtain ⟨z,h7,h8⟩:=Q.bind_some h6;obtain ⟨⟨xs,sl⟩,h9,h10⟩:=Q.bind_some h8;obtain ⟨_,h11,h12⟩:=Q.bind_some h10;rw [dX] at h1 h7;obtain ⟨hix,hsz,hsmall,hpos⟩:=dG h5;obtain ⟨hb,hs⟩:=mP h11;simp only [Q.run_pure,aN] at h12;obtain ⟨rfl,rfl⟩:=Prod.mk.inj h12;obtain ⟨ie,hu,hie,hies,_⟩:=cE h1;obtain ⟨i,zv,hi,hz,hzc,hone,_⟩:=fE h7;rw [hie] at hi;simp only [aN] at hi;subst hi;obtain ⟨news,rfl,_,hτ⟩:=hn;have hτ0:=hτ 0 _ rfl;rw [Nat.add_zero] at hτ0;have hps:=CI h h3;clear hq h2 h4 h6 h8 h10;have hv:bB (fun p x=>fF (lX s) τ ρ (Ms M0 ρ s) w p.2 x) ps (parts.toList.map fun x=>a.eval x.2):=hps.Ao _ fun _ _ h=>h.2;have hix2:ps.map (·.1)=parts.toList.map (·.1):=hps.map_eq _ _ fun _ _ h=>h.1;have hcells:bB (dK (lX s) τ ρ (Ms M0 ρ s) w) (ps.flatMap fun p=>p.2.cells) ((parts.toList.map fun x=>a.eval x.2).flatMap fun v=>v.cells.toList):=hv.flatMap _ _ fun _ _ h=>h.GC;have hpl:ps.length=len:=by have:=congrArg List.length hix;simpa using this
 have hvl:(parts.toList.map fun x=>a.eval x.2).length=len:=by rw [<-hv.length];exact hpl
 have hvs:∀ v∈(parts.toList.map fun x=>a.eval x.2),v.cells.size=sz:=by
  intro v hvm;obtain ⟨p,hp,hr⟩:=hv.mem v hvm;have:=hr.GC.length;have h2:=List.all_eq_true.1 hsz p hp;simp only [beq_iff_eq] at h2;simp only [Array.length_toList] at this;omega
 have hparts:(parts.map fun x=>(x.1,a.eval x.2)).toList=((parts.toList.map fun x=>a.eval x.2).zipIdx 0).map fun x=>(x.2,x.1):=by
  apply List.ext_getElem?;intro j;have hj:=congrArg (fun l=>l[j]?) (hix2.symm.trans hix);simp only [dL] at hj;simp only [Array.toList_map,dL,List.getElem?_zipIdx,Nat.zero_add];cases hpj:parts.toList[j]? with
  | none=>rfl
  | some x=>
    rw [hpj] at hj
    have hjl:j<len:=by
     have:=(dR.1 hpj).1;rw [aK] at hvl;omega
    rw [List.getElem?_range hjl] at hj;simp only [Option.map_some,aN] at hj;simp [hj]
 have hfill:=Go.Great.fill_whole hpos _ ((Array.range (len*sz)).map (zv.cells[· % zv.cells.size]!)) hvs (by rw [hvl];simp);rw [<-hparts] at hfill
 have hrun:(Instr.buildSlice T len (parts.map fun x=>(x.1,a.eval x.2))).run P w = .ok (.slice (some ⟨w.heap.size,0,none⟩) len len) (w.alloc (.cells ((parts.toList.map fun x=>a.eval x.2).flatMap fun v=>v.cells.toList).toArray E)):=by
  by_cases hlen:len=0
  .have hp0:parts = #[]:=by
    have:parts.toList = []:=by rw [<-List.length_eq_zero_iff];rw [aK] at hvl;omega
    exact Array.toList_eq_nil_iff.1 this
   subst hlen hp0
   have h0:∀ f:Nat->Value,(Array.range 0).map f = #[]:=fun f=>by
    apply Array.ext
    .simp
    .intro i h1 h2;simp at h2
   simp [Instr.buildSlice,run_underlying hu,sizeOf,typeInfo,hie,Instr.fill,newRow,h0]
  .have hne0:¬ len*sz=0:=fun h0=>by
    rcases Nat.mul_eq_zero.1 h0 with h0 | h0<;>omega
   have hrun:=Go.run_buildSlice (P:=P) w T E len (parts.map fun x=>(x.1,a.eval x.2)) _ ie zv hu hie hz (by rw [hies];omega) (by rw [hies];exact hne0) (by rw [hies];exact hfill);exact hrun
 have hclen:((parts.toList.map fun x=>a.eval x.2).flatMap fun v=>v.cells.toList).length=len*sz:=by
  rw [Ba (n:=sz) (fun v hvm=>by rw [Array.length_toList];exact hvs v hvm),hvl]
 have hr:(execOp a.eval o).run P w = .ok (.value (.slice (some ⟨w.heap.size,0,none⟩) len len)) (w.alloc (.cells ((parts.toList.map fun x=>a.eval x.2).flatMap fun v=>v.cells.toList).toArray E)):=by
  simp only [execOp,ho,Sem.run_bind,hrun,Result.andThen_ok,Sem.run_pure]
 have hxl:xs.length=len*sz:=by rw [vP h9,hcells.length,hclen]
 refine bV hr (h.ZH hd hb hτ0 (by simp) ?_ (by rw [List.size_toArray,hclen]) (aY _) ?_ ?_)
 .intro t ht;simp only [List.map_map,eM,List.mem_range,Function.comp] at ht;obtain ⟨i,hi,rfl⟩:=ht;have:=Nat.mul_le_mul_right sz (show i+1<=len by omega);rw [Nat.add_mul,Nat.one_mul] at this;simp only [aK,List.length_take,List.length_drop];omega
 .have:len*1<=len*sz:=Nat.mul_le_mul_left _ hpos;simp only [maxLen];omega
 .intro M' hS;have:=oS h h9 hS hcells;rw [List.take_of_length_le (by rw [hclen];exact aY _)]
  have e1:(((List.range len).map fun i=>(xs.drop (i*sz)).take sz).map fun t=>t.map (c0 τ)).flatten=xs.map (c0 τ):=by
   rw [<-List.map_flatten,AD sz len xs hxl]
  rw [e1];exact this
end
open Go.RowKit (Below)
section
variable {P:Program} {M0:eG} {w0 w w':World} {N:Nat} {s:St} {τ:Env} {ρ ρ':Nat->Gh} {a:Act} {o:Oper} {e:fU} {nd:dY} {nb ni:Nat} {Qp:Exit->Act->World->Prop}
theorem Gm {α:Type} (f:Nat->α) (sz:Nat) (hf:∀ i,f (sz+i)=f i):∀ l,(List.range (l*sz)).map f=(List.replicate l ((List.range sz).map f)).flatten
 | 0=>by simp
 | l+1=>by
   rw [Nat.add_mul,Nat.one_mul,Nat.add_comm,List.range_add,List.map_append,List.map_map,List.replicate_succ,List.flatten_cons,<-Gm f sz hf l]
   congr 1
   apply List.map_congr_left;intro i _;exact hf i
theorem NR {z:Array Value} {sz c l:Nat} (hz:z.size=sz) (hl:l<=c):(madeCells z (c*sz)).toList.take (l*sz)=(List.replicate l z.toList).flatten:=by
 have h1:(madeCells z (c*sz)).toList=(List.range (c*sz)).map (z[· % z.size]!):=by simp [madeCells]
 rw [h1,<-List.map_take,List.take_range,Nat.min_eq_left (Nat.mul_le_mul_right _ hl)];rw [Gm _ sz (fun i=>by rw [<-hz,Nat.add_mod_left])]
 congr 2
 apply List.ext_getElem?;intro j;rw [dL];by_cases hj:j<sz
 .rw [List.getElem?_range hj];simp [hz,Nat.mod_eq_of_lt hj,hj]
 .rw [List.getElem?_eq_none (by simpa using hj),List.getElem?_eq_none (by simpa [hz] using hj)];rfl
theorem bA.replicate {M:Nat->Prop} {t:List aD} {vs:List Value} (h:bA M w t vs):∀ l,bA M w (List.replicate l t).flatten (List.replicate l vs).flatten
 | 0=>trivial
 | l+1=>by
   rw [List.replicate_succ,List.replicate_succ,List.flatten_cons,List.flatten_cons];exact h.append (bA.replicate h l)
theorem bA.exact {M:Nat->Prop}:∀ {vs:List Value},vs.all (·.oneCell')=true->bA M w (vs.map .exact) vs
 | [],_=>trivial
 | v::vs,h=>by
   simp only [List.all_cons,Bool.and_eq_true] at h;exact ⟨⟨rfl,h.1⟩,bA.exact h.2⟩
theorem aE6 (h:Sat M0 w0 N s τ ρ a w) (hd:cN N o=true) {T:Nat} {l c:Operand} (ho:o.op = .makeSlice T l c)
  (hq:(Rp P o nb ni T l c).run s=some (e,nd)) (hn:iO P τ o.op o.type nd ni):o.wp P a w (jO M0 w0 N s e τ) Qp:=by
 obtain ⟨⟨E,sz,by_⟩,h1,h2⟩:=Q.bind_some hq;obtain ⟨cl,h3,h4⟩:=Q.bind_some h2;have hl:=dZ h h3;cases cl with
 | c x=>
   obtain ⟨cc,h5,h6⟩:=Q.bind_some h4;have hc:=dZ h h5;cases cc with
   | c y=>
     obtain ⟨z,h7,h8⟩:=Q.bind_some h6;obtain ⟨_,h9,h10⟩:=Q.bind_some h8;obtain ⟨_,h11,h12⟩:=Q.bind_some h10;rw [dX] at h1 h7;have hpos:=dG h9;obtain ⟨hb,hs⟩:=mP h11;simp only [Q.run_pure,aN] at h12;obtain ⟨rfl,rfl⟩:=Prod.mk.inj h12;obtain ⟨ie,hu,hie,hies,hieb⟩:=cE h1;obtain ⟨i,zv,hi,hz,hzc,hone,hzs⟩:=fE h7;rw [hie] at hi;simp only [aN] at hi;subst hi;obtain ⟨news,⟨nl,nc,k,k',e1,e2,hlc,hby,hm,rfl⟩,_,hτ⟩:=hn;have hτ0:=hτ 0 _ rfl;rw [Nat.add_zero] at hτ0;have hl':(c0 τ x).rep (Ms M0 ρ s) w (a.eval l):=hl;have hc':(c0 τ y).rep (Ms M0 ρ s) w (a.eval c):=hc;rw [e1] at hl';rw [e2] at hc';have hm':nc<=9223372036854775807:=by simpa [maxLen] using hm
     have hby':(ie.bytes:Int)*(nc:Int)<=281474976710656:=by
      have:((ie.bytes*nc:Nat):Int)<=281474976710656:=by rw [hieb];omega
      rwa [Int.natCast_mul] at this
     have hr:=run_make (P:=P) w T E ie zv hu hie hz k k' nl nc (by omega) (by omega) hby' (by omega);simp only [Int.toNat_natCast] at hr
     have hr':(execOp a.eval o).run P w = .ok (.value (.slice (some ⟨w.heap.size,0,none⟩) nl nc)) (w.alloc (.cells (madeCells zv.cells (nc*ie.size)) E)):=by
      simp only [execOp,ho,hl'.1,hc'.1,Sem.run_bind,hr,Result.andThen_ok,Sem.run_pure]
     have hzl:z.length=sz:=by rw [hzc] at hzs;simpa [hies] using hzs
     refine bV hr' (h.ZH hd hb hτ0 (by simp) ?_ (by rw [size_madeCells,hies]) hlc hm ?_)
     .intro t ht;obtain ⟨_,rfl⟩:=List.mem_replicate.1 ht
      simpa using hzl
     .intro M' hS;rw [hies,NR (by rw [hzs,hies]) hlc,hzc];exact (bA.exact hone).replicate nl
   | _=>cases h6
 | _=>cases h4
theorem AQ {T f ft fo fs:Nat} (h:rS P T f=some (ft,fo,fs)):∃ fls fl i,P.underlying T=some (.struct fls)/\fls[f]? = some fl/\fl.type=ft/\fl.offset=fo/\P.info? ft=some i/\i.size=fs:=by
 unfold rS at h;split at h
 .rename_i fls hu;split at h
  .rename_i fl hf;cases hi:P.info? fl.type with
   | none=>simp [hi] at h
   | some i=>
     simp only [hi,Option.map_some,aN,Prod.mk.injEq] at h;obtain ⟨rfl,rfl,rfl⟩:=h;exact ⟨fls,fl,i,hu,hf,rfl,rfl,hi,rfl⟩
  .cases h
 .cases h
theorem oF {T:Nat} {x:Operand} {f ft fo fs g off:Nat} (ho:o.op = .fieldAddr T x f) (hx:a.eval x = .pointer (some ⟨g,off,none⟩)) (hf:rS P T f=some (ft,fo,fs)) (hpos:0<fs) :
  (execOp a.eval o).run P w = .ok (.value (.pointer (some ⟨g,off+fo,none⟩))) w:=by
 obtain ⟨fls,fl,i,hu,hfl,rfl,rfl,hi,rfl⟩:=AQ hf;have hne:¬ i.size=0:=by omega
 simp [execOp,ho,hx,Instr.fieldAt,run_underlying hu,hfl,Instr.sureAddr,fieldPlace,sizeOf,typeInfo,hi,hne,nB]
theorem Qd (h:Sat M0 w0 N s τ ρ a w) (hd:cN N o=true) {T:Nat} {x:Operand} {f:Nat} (ho:o.op = .fieldAddr T x f)
  (hq:(tY P o ni T x f).run s=some (e,nd)) (hn:iO P τ o.op o.type nd ni):o.wp P a w (jO M0 w0 N s e τ) Qp:=by
 obtain ⟨c,h1,h2⟩:=Q.bind_some hq;have hx:=dZ h h1;cases c with
 | p b off=>
   obtain ⟨⟨ft,fo,fs⟩,h3,h4⟩:=Q.bind_some h2;rw [dX] at h3;obtain ⟨_,h5,h6⟩:=Q.bind_some h4;have hpos:=dG h5;simp only [Q.run_pure,aN] at h6;obtain ⟨rfl,rfl⟩:=Prod.mk.inj h6;exact eL h hd (oF ho hx.2 h3 hpos) ⟨hx.1,rfl⟩
 | ref off cs=>
   obtain ⟨⟨ft,fo,fs⟩,h3,h4⟩:=Q.bind_some h2;rw [dX] at h3;obtain ⟨_,h5,h6⟩:=Q.bind_some h4;have hpos:=dG h5;simp only [Q.run_pure,aN] at h6;obtain ⟨rfl,rfl⟩:=Prod.mk.inj h6;obtain ⟨b,o',cur,T',fz,he,hm,hh,hrep⟩:=hx;refine eL h hd (oF ho he h3 hpos) ⟨b,o'+fo,cur,T',fz,rfl,hm,hh,?_⟩;have:=hrep.drop fo;rw [List.drop_drop,List.drop_take,List.drop_drop] at this;rw [List.length_drop] at this ⊢;have e1:(cs.map (c0 τ)).length-(off+fo)=(cs.map (c0 τ)).length-off-fo:=by omega
   rw [e1];exact this
 | rp b sz i off=>
   obtain ⟨⟨ft,fo,fs⟩,h3,h4⟩:=Q.bind_some h2;rw [dX] at h3;obtain ⟨_,h5,h6⟩:=Q.bind_some h4;have hpos:=dG h5;simp only [Q.run_pure,aN] at h6;obtain ⟨rfl,rfl⟩:=Prod.mk.inj h6;obtain ⟨hb,g,o0,len,cap,k,n,e1,e2,e3,e4⟩:=hx;exact eL h hd (oF ho e4 h3 hpos) ⟨hb,g,o0,len,cap,k,n,e1,e2,e3,by rw [Nat.add_assoc]⟩
 | c y=>exact cT h hd h2 hn
 | rs _ _ _ _=>exact cT h hd h2 hn
 | r b=>exact cT h hd h2 hn
 | fP f cs=>exact cT h hd h2 hn
theorem ad5 (h:Sat M0 w0 N s τ ρ a w) (hd:cN N o=true) {T:Nat} {x:Operand} {f:Nat} (ho:o.op = .field T x f)
  (hq:(NL P o T x f).run s=some (e,nd)):o.wp P a w (jO M0 w0 N s e τ) Qp:=by
 obtain ⟨c,h1,h2⟩:=Q.bind_some hq;have hx:=pN h h1;cases c with
 | one c=>cases h2
 | agg cs=>
   obtain ⟨⟨ft,fo,fs⟩,h3,h4⟩:=Q.bind_some h2;rw [dX] at h3;obtain ⟨⟨ag,n⟩,h5,h6⟩:=Q.bind_some h4;rw [dX] at h5;obtain ⟨cs',h7,h8⟩:=Q.bind_some h6;rw [dX] at h7;obtain ⟨sv,h9,h10⟩:=Q.bind_some h8;rw [dX] at h9;simp only [Q.run_pure,aN] at h10;obtain ⟨rfl,rfl⟩:=Prod.mk.inj h10;obtain ⟨hlen,rfl⟩:=sP h7;obtain ⟨vs,hv,hall⟩:=hx;obtain ⟨fls,fl,i,hu,hfl,rfl,rfl,hi,rfl⟩:=AQ h3;have hl:=hall.length;obtain ⟨ha,hs⟩:=CQ (w:=w) h5;have hone:=yY h9;cases ag with
   | true=>
     refine eL h hd (v:=.agg ((vs.drop fl.offset).take n).toArray) ?_ (wJ h9 ((hall.drop fl.offset).take n) (by simp))
     have:vs.toArray.extract fl.offset (fl.offset+n)=((vs.drop fl.offset).take n).toArray:=by
      apply Array.ext';simp [List.extract_eq_take_drop]
     simp [execOp,ho,hv,Instr.field,run_underlying hu,hfl,asAgg,part,ha,hs,this]
   | false=>
     have hn1:n=1:=by
      rcases hone with hone | hone
      .cases hone
      .simp at hone;omega
     subst hn1;have hlt:fl.offset<vs.length:=by omega
     refine eL h hd (v:=vs[fl.offset]) ?_ (wJ h9 ((hall.drop fl.offset).take 1) ?_)
     .simp [execOp,ho,hv,Instr.field,run_underlying hu,hfl,asAgg,part,ha,hlt]
     .simp only [Bool.false_eq_true,if_false];rw [List.take_one,List.head?_drop];simp [hlt]
theorem Vd (h:Sat M0 w0 N s τ ρ a w) (hd:cN N o=true) {x:Operand} {i:Nat} (ho:o.op = .extract x i)
  (hq:(AB o x i).run s=some (e,nd)):o.wp P a w (jO M0 w0 N s e τ) Qp:=by
 obtain ⟨c,h1,h2⟩:=Q.bind_some hq;have hx:=zW h h1;cases c with
 | tup xs=>
   obtain ⟨v,h3,h4⟩:=Q.bind_some h2;rw [dX] at h3;simp only [Q.run_pure,aN] at h4;obtain ⟨rfl,rfl⟩:=Prod.mk.inj h4;obtain ⟨vs,hv,hall⟩:=hx;obtain ⟨y,hy,hrep⟩:=hall.get i v h3;refine eL h hd (v:=y) ?_ hrep;simp [execOp,ho,hv,Instr.extract,hy]
 | junk=>cases h2
 | undef=>cases h2
 | w x=>cases h2
theorem an0 (h:Sat M0 w0 N s τ ρ a w) {M':Nat->Prop}:∀ {c:SC} {x:CR} {l:List Nat} {v:Value},(ar8 c).run s=some (x,l)->cP M0 ρ s l M'->dK (lX s) τ ρ (Ms M0 ρ s) w c v->(Va τ x).rep M' w v
 | .p b off,x,l,v,hr,hS,hv=>by
   cases off with
   | succ n=>
     obtain ⟨⟨y,l'⟩,h1,h2⟩:=Q.bind_some hr;simp [pC] at h1
   | zero=>
     obtain ⟨bx,h1,h2⟩:=Q.bind_some hr;simp only [gM,aN] at h1;cases bx with
     | none=>simp at h2
     | some bx=>cases bx with
       | row=>simp at h2
       | part=>simp at h2
       | dead=>simp at h2
       | var T cells=>
         obtain ⟨⟨xs,l'⟩,h3,h4⟩:=Q.bind_some h2;simp only [Q.run_pure,aN,Prod.mk.injEq] at h4;obtain ⟨rfl,rfl⟩:=h4;obtain ⟨vs,hh,hall⟩:=h.bx b _ h1;have hrep:=oS h h3 (hS.mono fun x hx=>List.mem_cons_of_mem _ hx) hall;rw [hv.2];refine ⟨(ρ b).blk,0,vs.toArray,T,(0,0),rfl,hS.out b _ _ h1 rfl (.inr List.mem_cons_self),hh,?_⟩;have hlen:=hrep.length;rw [List.drop_zero,List.drop_zero,hlen,List.take_of_length_le (by simp)];exact hrep
 | .ref off cs,x,l,v,hr,hS,hv=>by
   simp only [ar8,Q.eY,aN,Prod.mk.injEq] at hr;obtain ⟨rfl,rfl⟩:=hr;exact aD.mono _ hS.eE hv
 | .c y,x,l,v,hr,hS,hv=>by
   obtain ⟨⟨y',l'⟩,h1,h2⟩:=Q.bind_some hr;simp only [Q.run_pure,aN,Prod.mk.injEq] at h2;obtain ⟨rfl,rfl⟩:=h2;exact Ge h h1 hS hv
 | .r b,x,l,v,hr,hS,hv=>by
   obtain ⟨⟨y',l'⟩,h1,h2⟩:=Q.bind_some hr;simp only [Q.run_pure,aN,Prod.mk.injEq] at h2;obtain ⟨rfl,rfl⟩:=h2;exact Ge h h1 hS hv
 | .fP ..,x,l,v,hr,hS,hv=>by
   obtain ⟨⟨y',l'⟩,h1,h2⟩:=Q.bind_some hr;simp [pC] at h1
 | .rp ..,x,l,v,hr,hS,hv=>by
   obtain ⟨⟨y',l'⟩,h1,h2⟩:=Q.bind_some hr;simp [pC] at h1
 | .rs ..,x,l,v,hr,hS,hv=>by
   obtain ⟨⟨y',l'⟩,h1,h2⟩:=Q.bind_some hr;simp [pC] at h1
theorem Ns (h:Sat M0 w0 N s τ ρ a w) {M':Nat->Prop}:∀ {xs:List Operand} {cs:List CR} {l:List Nat},(QM xs).run s=some (cs,l)->cP M0 ρ s l M'->bA M' w (cs.map (Va τ)) (xs.map a.eval)
 | [],cs,l,hr,hS=>by
   simp only [QM,Q.eY,aN,Prod.mk.injEq] at hr;obtain ⟨rfl,rfl⟩:=hr;trivial
 | x::xs,cs,l,hr,hS=>by
   obtain ⟨c,h1,h2⟩:=Q.bind_some hr;obtain ⟨⟨y,l1⟩,h3,h4⟩:=Q.bind_some h2;obtain ⟨⟨ys,l2⟩,h5,h6⟩:=Q.bind_some h4;simp only [Q.run_pure,aN,Prod.mk.injEq] at h6;obtain ⟨rfl,rfl⟩:=h6;exact ⟨an0 h h3 (hS.mono fun x hx=>List.mem_append_left _ hx) (dZ h h1),Ns h h5 (hS.mono fun x hx=>List.mem_append_right _ hx)⟩
theorem aH7 (h:Sat M0 w0 N s τ ρ a w) (hd:cN N o=true) {f:Nat} {first caps:Array Operand} (ho:o.op = .makeFunc (.func f) first caps)
  (hq:(RW o f first caps).run s=some (e,nd)):o.wp P a w (jO M0 w0 N s e τ) Qp:=by
 obtain ⟨_,h1,h2⟩:=Q.bind_some hq;have hfirst:=dG h1;obtain ⟨⟨cs,sl⟩,h3,h4⟩:=Q.bind_some h2;simp only [Q.run_pure,aN] at h4;obtain ⟨rfl,rfl⟩:=Prod.mk.inj h4;have hS:=cP.mQ h (tm:=put o (.w (.one (.fP f cs)))) (sl:=sl)
 have hr:(execOp a.eval o).run P w = .ok (.value (.func (.func f) #[] (caps.toList.map a.eval).toArray)) w:=by
  have:first = #[]:=by simpa using hfirst
  subst this;simp only [execOp,ho,Instr.makeFunc,Sem.run_bind,Sem.run_pure,Result.andThen_ok,Array.map_empty]
  congr 3
  apply Array.ext';simp
 refine bV hr ⟨ρ,h.calls hd (Below.refl _ _) ?_⟩;exact ⟨caps.toList.map a.eval,rfl,Ns h h3 hS⟩
theorem RE {T:Nat} {x i:Operand} {len es g off:Nat} {n:Int} (ho:o.op = .indexAddr T x i) (hx:a.eval x = .pointer (some ⟨g,off,none⟩)) (hi:a.eval i = .int .i64 n) (hf:bg4 P T=some (len,es)) (h0:0<=n/\n<(len:Int)) :
  (execOp a.eval o).run P w = .ok (.value (.pointer (some ⟨g,off+n.toNat*es,none⟩))) w:=by
 unfold bg4 at hf;split at hf
 .rename_i len' e hu;cases hie:P.info? e with
  | none=>simp [hie] at hf
  | some ie=>
    simp only [hie,Option.map_some,aN,Prod.mk.injEq] at hf;obtain ⟨rfl,rfl⟩:=hf;simp [execOp,ho,hx,hi,Instr.indexAt,asIntOf,run_underlying hu,Instr.sureAddr,sizeOf,typeInfo,hie,h0,nB]
 .cases hf
theorem af4 (h:Sat M0 w0 N s τ ρ a w) (hd:cN N o=true) {T:Nat} {x i:Operand} (ho:o.op = .indexAddr T x i)
  (hq:(Og P o ni T x i).run s=some (e,nd)) (hn:iO P τ o.op o.type nd ni):o.wp P a w (jO M0 w0 N s e τ) Qp:=by
 obtain ⟨c,h1,h2⟩:=Q.bind_some hq;have hx:=dZ h h1;cases c with
 | r b=>
   obtain ⟨ci,h3,h4⟩:=Q.bind_some h2;have hi:=dZ h h3;cases ci with
   | c y=>
     obtain ⟨⟨pt,E,sz,cid⟩,h5,h6⟩:=Q.bind_some h4;have h5:=mE h5;obtain ⟨⟨E',sz',by_⟩,h7,h8⟩:=Q.bind_some h6;rw [dX] at h7;obtain ⟨_,h9,h10⟩:=Q.bind_some h8;have hsz:=dG h9;subst hsz;simp only [Q.run_pure,aN] at h10;obtain ⟨rfl,rfl⟩:=Prod.mk.inj h10;obtain ⟨news,⟨ts,k,n,hcid,hi2,h0,hlt,rfl⟩,_,_⟩:=hn;obtain ⟨ts',xs,hcid',⟨hxs,hown⟩,hlen,hrep⟩:=QH (h.bx b _ h5);rw [hcid] at hcid';simp only [aN,aJ.rows.injEq] at hcid';subst hcid';have hi':(c0 τ y).rep (Ms M0 ρ s) w (a.eval i):=hi;rw [hi2] at hi';obtain ⟨ie,hu,hie,hies,_⟩:=cE h7;rcases hown with ⟨hz,_⟩ | ⟨g,off,cap,cur,hv,hg,hnc,hcm,hcs,htake⟩
     .omega
     .refine eL h hd (v:=.pointer (some ⟨g,off+n.toNat*sz',none⟩)) ?_ ⟨hx.1,g,off,_,cap,k,n,hv,hi2,h0,rfl⟩;have hin:0<=n/\n<(ts.length:Int):=⟨h0,hlt⟩
      have hxv:a.eval x = .slice (some ⟨g,off,none⟩) ts.length cap:=by rw [hx.2.1,hv]
      simp [execOp,ho,hxv,hi'.1,Instr.indexAt,asIntOf,run_underlying hu,sizeOf,typeInfo,hie,hies,hin,nB]
   | _=>cases h4
 | c y=>exact cT h hd h2 hn
 | rs _ _ _ _=>exact cT h hd h2 hn
 | p b off=>exact cT h hd h2 hn
 | ref off cs=>exact cT h hd h2 hn
 | fP f cs=>exact cT h hd h2 hn
 | rp b sz y off=>
   obtain ⟨ci,h3,h4⟩:=Q.bind_some h2;have hi:=dZ h h3;split at h4
   .rename_i n;obtain ⟨⟨len,es⟩,h5,h6⟩:=Q.bind_some h4;rw [dX] at h5;obtain ⟨_,h7,h8⟩:=Q.bind_some h6;have hin:=dG h7;simp only [Q.run_pure,aN] at h8;obtain ⟨rfl,rfl⟩:=Prod.mk.inj h8;have hi':a.eval i = .int .i64 n:=hi.1;obtain ⟨hb,g,o0,len',cap,k,n',e1,e2,e3,e4⟩:=hx;exact eL h hd (RE ho e4 hi' h5 hin) ⟨hb,g,o0,len',cap,k,n',e1,e2,e3,by rw [Nat.add_assoc]⟩
   .cases h4
theorem aS0 (h:Sat M0 w0 N s τ ρ a w) (hd:cN N o=true) {c:Call} (ho:o.op = .call c) (hc:c.callee = .builtin .len)
  (hq:(Qh P o ni c.args.toList c.argTypes.toList).run s=some (e,nd)) (hn:iO P τ o.op o.type nd ni):o.wp P a w (jO M0 w0 N s e τ) Qp:=by
 unfold Qh at hq;split at hq
 .rename_i x T Ts hargs hts;obtain ⟨v,h1,h2⟩:=Q.bind_some hq;have hx:=dZ h h1;cases v with
  | r b=>
    obtain ⟨⟨pt,E,sz,cid⟩,h5,h6⟩:=Q.bind_some h2;have h5:=mE h5;obtain ⟨⟨E',sz',by_⟩,h7,h8⟩:=Q.bind_some h6;rw [dX] at h7;simp only [Q.run_pure,aN] at h8;obtain ⟨rfl,rfl⟩:=Prod.mk.inj h8;obtain ⟨news,⟨ts,hcid,rfl⟩,_,hτ⟩:=hn;have hτ0:=hτ 0 _ rfl;rw [Nat.add_zero] at hτ0;obtain ⟨ts',xs,hcid',⟨hxs,hown⟩,hlen,hrep⟩:=QH (h.bx b _ h5);rw [hcid] at hcid';simp only [aN,aJ.rows.injEq] at hcid';subst hcid';obtain ⟨ie,hu,hie,hies,_⟩:=cE h7
    have hv:∃ ad cap,a.eval x = .slice ad ts.length cap:=by
     rw [hx.2.1];rcases hown with ⟨hz,c,hv⟩ | ⟨g,off,cap,cur,hv,_⟩
     .exact ⟨none,c,by rw [hv,hz]⟩
     .exact ⟨_,_,hv⟩
    obtain ⟨ad,cap,hv⟩:=hv;have ha:c.args = #[x]:=by apply Array.ext';simpa using hargs
    have ht:c.argTypes[0]? = some T:=by rw [<-Array.getElem?_toList,hts];rfl
    refine eL h hd (sv:=.w (qM ni none)) (v:=.int .i64 ts.length) ?_ (qW (ex:=lX s) (ρ:=ρ) (sh:=none) hτ0 rfl ⟨rfl,rfl⟩);simp [execOp,ho,resolve,hc,invoke,builtin,Builtin.len_,ha,ht,hv,run_underlying hu,goInt]
  | c y=>exact cT h hd h2 hn
  | rs _ _ _ _=>exact cT h hd h2 hn
  | p b off=>exact cT h hd h2 hn
  | ref off cs=>exact cT h hd h2 hn
  | fP f cs=>exact cT h hd h2 hn
  | rp b sz y off=>exact cT h hd h2 hn
 .cases hq
end
open Go.RowKit (Below)
section
variable {P:Program} {M0:eG} {w0 w w':World} {N:Nat} {s:St} {τ:Env} {ρ ρ':Nat->Gh} {a:Act} {o:Oper} {e:fU} {nd:dY} {nb ni:Nat} {Qp:Exit->Act->World->Prop}
theorem Sat.FQ (h:Sat M0 w0 N s τ ρ a w) {E sz:Nat} {ts:List (List aD)} {kill:List (Nat×Bx)} {v:Value} {xs:List Value} (hd:cN N o=true) (hnb:s.b nb=none)
  (hkill:kill = []\/∃ b xb,kill = [(b, .dead)]/\s.b b=some xb/\s.s b=false)
  (hτ:τ[ni]? = some (.rows ts)) (hts:∀ t∈ts,t.length=sz)
  (hbel:Kept M0 w0 w') (hsz:w.heap.size<=w'.heap.size)
  (hheap:∀ k,k<w.heap.size->¬ uG s ρ kill k->w'.heap[k]? = w.heap[k]?)
  (hown:w'.ownsRow 0 E sz v ts.length xs)
  (hg:∀ g,v.ownBlock=some g->w.heap.size<=g\/uG s ρ kill g)
  (hrep:bA (Ms M0 ρ s) w ts.flatten xs) :
  ∃ ρ',Sat M0 w0 N (s.app ⟨put o (.w (.one (.r nb))),(nb, .row E sz ni)::kill,[]⟩) τ ρ' (a.put o.dst v) w':=by
 refine ⟨fun b=>if b=nb then ⟨0,v,#[]⟩ else ρ b,?_⟩;have hne:∀ b,b≠nb->(fun b=>if b=nb then (⟨0,v,#[]⟩:Gh) else ρ b) b=ρ b:=fun b hb=>by simp [hb]
 have hv1:v.oneCell'=true:=by
  rcases hown.2 with ⟨hv,_⟩ | ⟨g,cap,cur,hv,_⟩<;>rw [hv]<;>rfl
 refine h.VQ hd hnb (fun _ _ _ h=>by cases h) hkill hne hbel hsz hheap ?_ ?_ ?_
 .intro g hgo;have hgo:v.ownBlock=some g:=by simpa [own] using hgo
  obtain ⟨_,h2⟩:=hown.lt g hgo;refine ⟨?_,h2,hg g hgo⟩;rcases hg g hgo with h3 | ⟨b,xb,_,h4,_,h5⟩
  .exact .inl (Nat.le_trans h.below.size h3)
  .exact (h.lo b xb g h4 h5).1
 .intro _;refine ⟨?_,by simp,hv1⟩;rw [lX,St.fM];simp [look]
 .intro hkeep;refine ⟨ts,xs,hτ,?_,hts,hrep.mono hkeep⟩;simp only [if_true];exact hown
theorem PF {base base' E sz n:Nat} {v:Value} {xs:List Value} (h:w.ownsRow base E sz v n xs) (hb:base'<=base):w.ownsRow base' E sz v n xs:=by
 refine ⟨h.1,?_⟩;rcases h.2 with hn | ⟨g,cap,cur,hv,hbg,rest⟩
 .exact .inl hn
 .exact .inr ⟨g,cap,cur,hv,Nat.le_trans hb hbg,rest⟩
theorem Bm (w:World) (t ty e:TypeId) (i:TypeInfo) (ht:P.underlying t=some (.slice e)) (hi:P.info? e=some i)
  (base size:Nat) (v:Value) (n c:Nat) (xs:List Value) (hown:w.ownsRow base e size v n xs) :
  (Builtin.append_ #[t,t] ty #[v, .slice none 0 c]).run P w = .ok v w:=by
 rcases hown.2 with ⟨rfl,rfl⟩ | ⟨g,cap,cur,rfl,_,_,hnc,_⟩
 .simp [Builtin.append_,run_underlying ht,sizeOf,typeInfo,hi,Builtin.lenOf,Builtin.firstCells]
 .simp [Builtin.append_,run_underlying ht,sizeOf,typeInfo,hi,Builtin.lenOf,Builtin.firstCells,hnc,storeCells]
inductive Src (w:World) (M:Nat->Prop) (sz:Nat) (us:List (List aD)) (v:Value):Prop where
 | nil (c:Nat) (hv:v = .slice none 0 c) (hu:us = []):Src w M sz us v
 | some (ad:Addr) (c:Nat) (news:List Value) (hv:v = .slice (some ad) us.length c) (hl:news.length=us.length*sz) (hn:∀ j u,news[j]? = some u->w.cell? (ad.add j)=some u) (hr:bA M w us.flatten news) (hs:∀ t∈us,t.length=sz):Src w M sz us v
theorem tG {M:Nat->Prop} {sz:Nat} {us:List (List aD)} {v:Value} (h:(aD.slice sz us).rep M w v):Src w M sz us v:=by
 obtain ⟨ad,cap,rfl,hc,hm,h⟩:=h;rcases h with rfl | ⟨b,off,cs,T,fz,rfl,hb,hh,hel⟩
 .cases ad with
  | none=>exact .nil cap rfl rfl
  | some ad=>exact .some ad cap [] rfl (by simp) (by simp) trivial (by simp)
 .have hlen:∀ t∈us,t.length=sz:=fun t ht=>by
   obtain ⟨i,hi⟩:=List.mem_iff_getElem?.1 ht;exact (hel i t hi).1
  have key:∀ (us:List (List aD)) (off:Nat),(∀ i t,us[i]? = some t->t.length=sz/\bA M w t ((cs.toList.drop (off+i*sz)).take sz))->bA M w us.flatten ((cs.toList.drop off).take (us.length*sz)):=by
   intro us
   induction us with
   | nil=>intro off _;simp;trivial
   | cons t us ih=>
     intro off hel;rw [List.flatten_cons,List.length_cons,Nat.add_mul,Nat.one_mul,Nat.add_comm,List.take_add,List.drop_drop];have h0:=(hel 0 t rfl).2;rw [Nat.zero_mul,Nat.add_zero] at h0;refine h0.append (ih (off+sz) fun i t' hi=>?_);have:=hel (i+1) t' (by simpa using hi);rw [Nat.add_mul,Nat.one_mul] at this;refine ⟨this.1,?_⟩;have e1:off+sz+i*sz=off+(i*sz+sz):=by omega
     rw [e1];exact this.2
  have hr:=key us off hel;refine .some ⟨b,off,none⟩ cap _ rfl ?_ ?_ hr hlen
  .rw [<-hr.length];clear hr key hel
   induction us with
   | nil=>simp
   | cons t us ih=>rw [List.flatten_cons,eC,hlen t List.mem_cons_self,ih (by simp only [List.length_cons] at hc;omega) (fun t ht=>hlen t (List.mem_cons_of_mem _ ht)),List.length_cons,Nat.add_mul,Nat.one_mul,Nat.add_comm]
  .intro j u hj;rw [nB,cell_of_row w b (off+j) cs T fz hh];rw [List.getElem?_take] at hj;split at hj
   .rw [List.getElem?_drop] at hj;simpa using hj
   .cases hj
theorem aG6 {M:Nat->Prop} {base E sz:Nat} {us:List (List aD)} {v:Value} {xs:List Value} (hown:w.ownsRow base E sz v us.length xs) (hr:bA M w us.flatten xs) (hs:∀ t∈us,t.length=sz):Src w M sz us v:=by
 rcases hown.2 with ⟨hv,hz⟩ | ⟨g,cap,cur,hv,_,_,_⟩
 .have:us = []:=List.eq_nil_of_length_eq_zero hz;subst this;exact .nil 0 hv rfl
 .exact .some ⟨g,0,none⟩ cap xs hv hown.1 (hown.cells (by rw [hv];rfl)) hr hs
theorem uL {y:C0} (h:isNil y=true):y = .k (.slice none 0 0):=by
 unfold isNil at h;split at h
 .rfl
 .cases h
theorem DQ (h:Sat M0 w0 N s τ ρ a w) (hd:cN N o=true) (hnb:s.b nb=none) {T E sz by_:Nat} {ie:TypeInfo} {zv:Value} (hu:P.underlying T=some (.slice E)) (hie:P.info? E=some ie) (hies:ie.size=sz) (hieb:ie.bytes=by_) (hz:ie.zero=some zv) (hzs:zv.cells.size=ie.size) (hpos:0<sz)
  {v u:Value} {ts us:List (List aD)} {xs:List Value} {kill:List (Nat×Bx)}
  (hkill:(kill = []/\v = .slice none 0 0)\/∃ b xb,kill = [(b, .dead)]/\s.b b=some xb/\s.s b=false/\own ρ b xb=v.ownBlock)
  (hown:w.ownsRow 0 E sz v ts.length xs) (hr:bA (Ms M0 ρ s) w ts.flatten xs) (hts:∀ t∈ts,t.length=sz)
  (hsrc:Src w (Ms M0 ρ s) sz us u) (hby:(ts.length+us.length)*by_<=140737488355328) (hm:ts.length+us.length<=maxLen)
  (hτ:τ[ni]? = some (.rows (ts++us)))
  (hrun:∀ v' w',(Builtin.append_ #[T,T] o.type #[v,u]).run P w = .ok v' w'->(execOp a.eval o).run P w = .ok (.value v') w') :
  o.wp P a w (jO M0 w0 N s ⟨put o (.w (.one (.r nb))),(nb, .row E sz ni)::kill,[]⟩ τ) Qp:=by
 have hkill':kill = []\/∃ b xb,kill = [(b, .dead)]/\s.b b=some xb/\s.s b=false:=by
  rcases hkill with ⟨h1,_⟩ | ⟨b,xb,h1,h2,h3,_⟩
  .exact .inl h1
  .exact .inr ⟨b,xb,h1,h2,h3⟩
 have hkl:∀ g,v.ownBlock=some g->uG s ρ kill g:=by
  intro g hg;rcases hkill with ⟨_,h1⟩ | ⟨b,xb,h1,h2,h3,h4⟩
  .rw [h1] at hg;simp [Value.ownBlock] at hg
  .exact ⟨b,xb,h1,h2,h3,by rw [h4];exact hg⟩
 cases hsrc with
 | nil c hv hus=>
   subst hv hus;rw [List.append_nil] at hτ;have:=Bm (P:=P) w T o.type E ie hu hie _ sz v ts.length c xs hown;exact bV (hrun _ _ this) (h.FQ hd hnb hkill' hτ hts h.below (aY _) (fun _ _ _=>rfl) hown (fun g hg=>.inr (hkl g hg)) hr)
 | some ad c news hv hl hn hrn hsn=>
   subst hv
   have hts':∀ t∈ts++us,t.length=sz:=fun t ht=>by
    rcases List.mem_append.1 ht with ht | ht
    .exact hts t ht
    .exact hsn t ht
   have hr':bA (Ms M0 ρ s) w (ts++us).flatten (xs++news):=by rw [List.flatten_append];exact hr.append hrn
   have hone:=hrn.one
   have hours:∀ k,v.ownBlock=some k->M0.ours w0 k:=fun k hk=>by
    obtain ⟨b,xb,_,h4,_,h5⟩:=hkl k hk;exact (h.lo b xb k h4 h5).1
   have main:∀ v' w',(Builtin.append_ #[T,T] o.type #[v, .slice (some ad) us.length c]).run P w = .ok v' w'->w'.ownsRow 0 E sz v' (ts.length+us.length) (xs++news)->w.grownBy w' v.ownBlock->(∀ g,v'.ownBlock=some g->w.heap.size<=g\/uG s ρ kill g)->o.wp P a w (jO M0 w0 N s ⟨put o (.w (.one (.r nb))),(nb, .row E sz ni)::kill,[]⟩ τ) Qp:=by
    intro v' w' hrv hown' hgr hg;refine bV (hrun _ _ hrv) (h.FQ hd hnb hkill' hτ hts' (h.below.grown hgr hours) hgr.size (fun k hk hnk=>hgr.block k hk fun e=>hnk (hkl k e.symm)) ?_ hg hr');rw [eC];exact hown'
   have hzsz:zv.cells.size=sz:=by rw [hzs,hies]
   rcases hown.2 with ⟨hv,hn0⟩ | ⟨g,cap,cur,hv,hbg,hg,hnc,hcm,hcs,htake⟩
   .have hown2:w.ownsRow w.heap.size E sz v ts.length xs:=⟨hown.1, .inl ⟨hv,hn0⟩⟩
    obtain ⟨v',w',hr1,hr2,hr3,_⟩:=run_append_own (P:=P) w w.heap.size T o.type E ie zv sz by_ hu hie hz hies hieb hzsz hpos v ts.length xs hown2 ad us.length c news hl hn hone hm hby (aY _);exact main v' w' hr1 (PF hr2 (dD _)) hr3 (fun g hg=>.inl (hr2.lt g hg).1)
   .by_cases hroom:ts.length+us.length<=cap
    .obtain ⟨w',hr1,hr2,hr3⟩:=run_append_fits (P:=P) w 0 T o.type E ie sz hu hie hies g ts.length cap xs (by rw [<-hv];exact hown) ad us.length c news hl hn hone hroom;subst hv;exact main _ w' hr1 hr2 hr3 (fun g' hg'=>.inr (hkl g' hg'))
    .have hm':ts.length+us.length<=9223372036854775807:=by simpa [maxLen] using hm
     obtain ⟨v',w',hr1,hr2,hr3,_⟩:=run_append_own (P:=P) w 0 T o.type E ie zv sz by_ hu hie hz hies hieb hzsz hpos v ts.length xs hown ad us.length c news hl hn hone hm hby (dD _);have hr4:=run_append_grow (P:=P) w T o.type E ie zv hu hie hz ⟨g,0,none⟩ ts.length cap xs (by rw [hown.1,hies]) (hown.cells (by rw [hv];rfl)) ad us.length c news (by rw [hl,hies]) hn (by omega) (by omega) (growslice_fits (by omega) (by rw [hieb];exact hby));refine main v' w' hr1 hr2 hr3 (fun g' hg'=>.inl ?_);rw [hv] at hr1;rw [hr4] at hr1
     have:v' = .slice (some ⟨w.heap.size,0,none⟩) (ts.length+us.length) (grownCap w (ts.length+us.length) cap E):=by
      injection hr1 with h1 h2;exact h1.symm
     rw [this] at hg';simp only [Value.ownBlock,aN] at hg';omega
theorem Yf (h:Sat M0 w0 N s τ ρ a w) (hd:cN N o=true) {c:Call} (ho:o.op = .call c) (hc:c.callee = .builtin .append) {x y:Operand} (hargs:c.args.toList = [x,y])
  (hq:(Ci P o nb ni c.argTypes.toList x y).run s=some (e,nd)) (hn:iO P τ o.op o.type nd ni):o.wp P a w (jO M0 w0 N s e τ) Qp:=by
 obtain ⟨⟨E,sz,by_⟩,h1,h2⟩:=Q.bind_some hq;rw [dX] at h1;obtain ⟨_,h3,h4⟩:=Q.bind_some h2;obtain ⟨hT,hpos⟩:=dG h3;obtain ⟨z,h5,h6⟩:=Q.bind_some h4;rw [dX] at h5;obtain ⟨ca,h7,h8⟩:=Q.bind_some h6;obtain ⟨cc,h9,h10⟩:=Q.bind_some h8;obtain ⟨⟨cid,kill⟩,h11,h12⟩:=Q.bind_some h10;obtain ⟨⟨src,row⟩,h13,h14⟩:=Q.bind_some h12;obtain ⟨_,h15,h16⟩:=Q.bind_some h14;obtain ⟨hb,hs⟩:=mP h15;simp only [Q.run_pure,aN] at h16;obtain ⟨rfl,rfl⟩:=Prod.mk.inj h16;have hx:=dZ h h7;have hy:=dZ h h9;obtain ⟨ie,hu,hie,hies,hieb⟩:=cE h1;obtain ⟨i,zv,hi,hz,hzc,hone,hzs⟩:=fE h5;rw [hie] at hi;simp only [aN] at hi;subst hi;obtain ⟨news,⟨ts,us,hdst,hsrc,hby,hm,rfl⟩,_,hτ⟩:=hn;have hτ0:=hτ 0 _ rfl;rw [Nat.add_zero] at hτ0;clear hq h2 h4 h6 h8 h10 h12 h14;generalize c.argTypes.toList.getD 0 0=T at *;have ha:c.args = #[x,y]:=by apply Array.ext';simpa using hargs
 have ht:c.argTypes = #[T,T]:=by apply Array.ext';simpa using hT
 have hrun:∀ v u:Value,a.eval x=v->a.eval y=u->∀ v' w',(Builtin.append_ #[T,T] o.type #[v,u]).run P w = .ok v' w'->(execOp a.eval o).run P w = .ok (.value v') w':=by
  rintro v u rfl rfl v' w' hr;simp [execOp,ho,resolve,hc,invoke,builtin,ha,ht,hr]
 have hS:Src w (Ms M0 ρ s) sz us (a.eval y):=by
  cases cc with
  | r b=>
    obtain ⟨bx,h17,h18⟩:=Q.bind_some h13;simp only [gM,aN] at h17;cases bx with
    | none=>cases h18
    | some bx=>cases bx with
      | var=>cases h18
      | part=>cases h18
      | dead=>cases h18
      | row E2 s2 cid2=>
        obtain ⟨_,h19,h20⟩:=Q.bind_some h18;obtain ⟨qH,_⟩:=dG h19;simp only [Q.run_pure,aN,Prod.mk.injEq] at h20;obtain ⟨rfl,rfl⟩:=h20;obtain ⟨ts',xs,hcid',hown,hlen,hrep⟩:=h.bx b _ h17;have hsrc:τ[cid2]? = some (.rows us):=hsrc;rw [hsrc] at hcid';simp only [aN,aJ.rows.injEq] at hcid';subst hcid';rw [hy.2.1];subst qH;exact aG6 hown hrep hlen
  | c y'=>
    simp only [Q.run_pure,aN,Prod.mk.injEq] at h13;obtain ⟨rfl,rfl⟩:=h13;have hy':(c0 τ y').rep (Ms M0 ρ s) w (a.eval y):=hy;rcases hsrc with ⟨hnil,rfl⟩ | hsl
    .rw [uL hnil] at hy';exact .nil 0 hy'.1 rfl
    .exact tG (hsl.rep hy')
  | p _ _=>cases h13
  | ref _ _=>cases h13
  | fP _ _=>cases h13
  | rs _ _ _ _=>cases h13
  | rp _ _ _ _=>cases h13
 cases ca with
 | r b=>
   obtain ⟨bx,h17,h18⟩:=Q.bind_some h11;simp only [gM,aN] at h17;cases bx with
   | none=>cases h18
   | some bx=>cases bx with
     | var=>cases h18
     | part=>cases h18
     | dead=>cases h18
     | row E1 s1 cid1=>
       obtain ⟨sb,h19,h20⟩:=Q.bind_some h18;simp only [qU,aN] at h19;obtain ⟨_,h21,h22⟩:=Q.bind_some h20;have hsb:=dG h21;rw [<-h19] at hsb;obtain ⟨_,h23,h24⟩:=Q.bind_some h22;obtain ⟨rfl,rfl⟩:=dG h23;simp only [Q.run_pure,aN,Prod.mk.injEq] at h24;obtain ⟨rfl,rfl⟩:=h24;obtain ⟨ts',xs,hcid',hown,hlen,hrep⟩:=h.bx b _ h17;have hdst:τ[cid1]? = some (.rows ts):=hdst;rw [hdst] at hcid';simp only [aN,aJ.rows.injEq] at hcid';subst hcid';refine DQ h hd hb hu hie hies hieb hz hzs hpos (.inr ⟨b,_,rfl,h17,hsb,rfl⟩) hown hrep hlen hS hby hm hτ0 (hrun _ _ hx.2.1 rfl)
 | c y'=>
   obtain ⟨_,h17,h18⟩:=Q.bind_some h11;have hnil:=dG h17;simp only [Q.run_pure,aN,Prod.mk.injEq] at h18;obtain ⟨rfl,rfl⟩:=h18;have hdst:ts = []:=hdst;subst hdst;have hx':(c0 τ y').rep (Ms M0 ρ s) w (a.eval x):=hx;rw [uL hnil] at hx';exact DQ h hd hb hu hie hies hieb hz hzs hpos (ts:=[]) (xs:=[]) (.inl ⟨rfl,rfl⟩) (World.ownsRow_nil w _ E sz) (show bA _ _ [] [] from trivial) (by simp) hS hby hm hτ0 (hrun _ _ hx'.1 rfl)
 | p _ _=>cases h11
 | ref _ _=>cases h11
 | fP _ _=>cases h11
 | rs _ _ _ _=>cases h11
 | rp _ _ _ _=>cases h11
theorem xB (τ:Env):∀ caps:List CR,(caps.map bm0).map (nU τ)=(caps.map (Va τ)).map .one
 | []=>rfl
 | x::xs=>by
   simp only [List.map_cons,xB τ xs];cases x<;>rfl
theorem Xp (h:Sat M0 w0 N s τ ρ a w) (hd:cN N o=true) {c:Call} (ho:o.op = .call c) {x:Operand} (hc:c.callee = .value x) {f:Nat} {caps:List CR} {cvs:List Value} (hx:a.eval x = .func (.func f) #[] cvs.toArray) (hcv:bA (Ms M0 ρ s) w (caps.map (Va τ)) cvs)
  (hq:(Uf P o ni f c.args.toList caps).run s=some (e,nd)) (hn:iO P τ o.op o.type nd ni):o.wp P a w (jO M0 w0 N s e τ) Qp:=by
 obtain ⟨⟨as,sl⟩,h1,h2⟩:=Q.bind_some hq;obtain ⟨sh,h3,h4⟩:=Q.bind_some h2;obtain ⟨_,h5,h6⟩:=Q.bind_some h4;simp only [Q.run_pure,aN] at h6;obtain ⟨rfl,rfl⟩:=Prod.mk.inj h6;obtain ⟨news,⟨hsh,hdo⟩,_,hτ⟩:=hn;have hS:=cP.mQ h (tm:=put o (lA ni sh)) (sl:=sl);rw [List.map_append,xB] at hdo;exact Xc h hd ho hc hx (iE h h1 hS) (hcv.mono hS.eE) hsh hτ hdo
theorem ZQ (h:Sat M0 w0 N s τ ρ a w) (hd:cN N o=true) {c:Call} (ho:o.op = .call c) {x:Operand} (hc:c.callee = .value x)
  (hq:(Oa P o ni x c.args.toList).run s=some (e,nd)) (hn:iO P τ o.op o.type nd ni):o.wp P a w (jO M0 w0 N s e τ) Qp:=by
 obtain ⟨g,h1,h2⟩:=Q.bind_some hq;have hx:=dZ h h1;cases g with
 | fP f caps=>
   obtain ⟨vs,hv,hr⟩:=hx;exact Xp h hd ho hc hv hr h2 hn
 | c y=>
   obtain ⟨⟨as,sl⟩,h3,h4⟩:=Q.bind_some h2;obtain ⟨sh,h5,h6⟩:=Q.bind_some h4;simp only [Q.run_pure,aN] at h6;obtain ⟨rfl,rfl⟩:=Prod.mk.inj h6;obtain ⟨news,⟨f,caps,hy,hsh,hdo⟩,_,hτ⟩:=hn;have hx':(c0 τ y).rep (Ms M0 ρ s) w (a.eval x):=hx;rw [hy] at hx';obtain ⟨vs,hv,hr⟩:=hx';have hS:=cP.mQ h (tm:=put o (lA ni sh)) (sl:=sl);exact Xc h hd ho hc hv (iE h h3 hS) (hr.mono hS.eE) hsh hτ hdo
 | p _ _=>cases h2
 | ref _ _=>cases h2
 | r _=>cases h2
 | rp _ _ _ _=>cases h2
 | rs _ _ _ _=>cases h2
theorem ok_slice (h:Sat M0 w0 N s τ ρ a w) (hd:cN N o=true) {T:Nat} {x:Operand} {lo hi mx:Option Operand} (ho:o.op = .slice T x lo hi mx)
  (hq:(Ob P o ni T x lo hi mx).run s=some (e,nd)) (hn:iO P τ o.op o.type nd ni):o.wp P a w (jO M0 w0 N s e τ) Qp:=by
 obtain ⟨c,h1,h2⟩:=Q.bind_some hq;have hx:=dZ h h1;split at h2
 .rename_i b l hh m;obtain ⟨⟨pt,E,sz,cid⟩,h3,h4⟩:=Q.bind_some h2;have h3:=mE h3;obtain ⟨⟨E',sz',by_⟩,h5,h6⟩:=Q.bind_some h4;rw [dX] at h5;obtain ⟨_,h7,h8⟩:=Q.bind_some h6;have hsz:=dG h7;subst hsz;obtain ⟨cl,h9,h10⟩:=Q.bind_some h8;have hl:=dZ h h9;cases cl with
  | c cl=>
    obtain ⟨ch,h11,h12⟩:=Q.bind_some h10;have hhi:=dZ h h11;cases ch with
    | c ch=>
      obtain ⟨cm,h13,h14⟩:=Q.bind_some h12;have hmx:=dZ h h13;cases cm with
      | c cm=>
        simp only [Q.run_pure,aN] at h14;obtain ⟨rfl,rfl⟩:=Prod.mk.inj h14;obtain ⟨news,⟨ts,k,k',k'',n,m',hcid,e1,e2,e3,hnm,hmt,rfl⟩,_,_⟩:=hn;have hl':(c0 τ cl).rep (Ms M0 ρ s) w (a.eval l):=hl;have hhi':(c0 τ ch).rep (Ms M0 ρ s) w (a.eval hh):=hhi;have hmx':(c0 τ cm).rep (Ms M0 ρ s) w (a.eval m):=hmx;rw [e1] at hl';rw [e2] at hhi';rw [e3] at hmx';obtain ⟨ts',xs,hcid',⟨hxs,hown⟩,hlen,hrep⟩:=QH (h.bx b _ h3);rw [hcid] at hcid';simp only [aN,aJ.rows.injEq] at hcid';subst hcid';obtain ⟨ie,hu,hie,hies,_⟩:=cE h5;rcases hown with ⟨hz,_⟩ | ⟨g,off,cap,cur,hv,hg,hnc,hcm,hcs,htake⟩
        .omega
        .have hxv:a.eval x = .slice (some ⟨g,off,none⟩) ts.length cap:=by rw [hx.2.1,hv]
         refine eL h hd (v:=.slice (some ⟨g,off+n*sz',none⟩) (m'-n) (m'-n)) ?_ ⟨hx.1,g,off,_,cap,k,k',n,m',m'-n,hv,e1,e2,hnm,hmt,aY _,by omega,rfl⟩;have q1:(m':Int)<=(cap:Int):=by omega
         have q2:¬ m'=n:=by omega
         have q3:(n:Int)<=(m':Int):=by omega
         have q4:n<=m':=by omega
         have q5:m'<=cap:=by omega
         simp [execOp,ho,hxv,hl'.1,hhi'.1,hmx'.1,Instr.sliceAt,Instr.slice,Instr.sliceBounds,Instr.sliceBound,asIntOf,run_underlying hu,sizeOf,typeInfo,hie,hies,q1,q2,q3,q4,q5,nB]
      | _=>cases h14
    | _=>cases h12
  | _=>cases h10
 .exact cT h hd h2 hn
theorem uR {M:Nat->Prop} {sz:Nat} {ts us us':List (List aD)} {n:Nat} {l l':List Value} (hts:∀ t∈ts,t.length=sz) (hus:us=(ts.drop n).take us.length) (hle:n+us.length<=ts.length) (hl:us'.length=us.length) (hl':∀ t∈us',t.length=sz)
  (h1:bA M w ts.flatten l) (h2:bA M w us'.flatten l'):bA M w (ts.take n++us'++ts.drop (n+us.length)).flatten (l.take (n*sz)++l'++l.drop (n*sz+us.length*sz)):=by
 have hfl:∀ (xs:List (List aD)),(∀ t∈xs,t.length=sz)->xs.flatten.length=xs.length*sz:=by
  intro xs hx
  induction xs with
  | nil=>simp
  | cons x xs ih=>rw [List.flatten_cons,eC,hx x List.mem_cons_self,ih fun t ht=>hx t (List.mem_cons_of_mem _ ht),List.length_cons,Nat.add_mul,Nat.one_mul,Nat.add_comm]
 have htk:(ts.take n).flatten=ts.flatten.take (n*sz):=by
  have e:ts.flatten=(ts.take n).flatten++(ts.drop n).flatten:=by rw [<-List.flatten_append,List.take_append_drop]
  have hlen:=hfl (ts.take n) fun t ht=>hts t (List.mem_of_mem_take ht);rw [List.length_take,Nat.min_eq_left (by omega)] at hlen;rw [e,<-hlen,List.take_left]
 have hdr:(ts.drop (n+us.length)).flatten=ts.flatten.drop (n*sz+us.length*sz):=by
  have e:ts.flatten=(ts.take (n+us.length)).flatten++(ts.drop (n+us.length)).flatten:=by rw [<-List.flatten_append,List.take_append_drop]
  have hlen:=hfl (ts.take (n+us.length)) fun t ht=>hts t (List.mem_of_mem_take ht);rw [List.length_take,Nat.min_eq_left (by omega),Nat.add_mul] at hlen;rw [e,<-hlen,List.drop_left]
 rw [List.flatten_append,List.flatten_append,htk,hdr];exact ((h1.take _).append h2).append (h1.drop _)
theorem Zi (h:Sat M0 w0 N s τ ρ a w) {b E sz cid ni:Nat} {pt:Bool} {sl:List Nat} {tm:List (Nat×SV)} (hb:s.b b=some (jQ pt E sz cid)) (hs:s.s b=false) (hsl:b ∉ sl) {g:Nat} (hval:(ρ b).val.ownBlock=some g) :
  cP M0 ρ s sl (Ms M0 ρ (s.app ⟨tm,[(b,jQ pt E sz ni)],sl⟩))/\Ms M0 ρ (s.app ⟨tm,[(b,jQ pt E sz ni)],sl⟩) g:=by
 have hown:∀ pt x y z,own ρ b (jQ pt x y z)=some g:=fun pt x y z=>by rw [SZ,hval]
 have hbM:Ms M0 ρ s g:=.inr ⟨b,_,hb,hs,hown ..⟩
 constructor
 .constructor
  .rintro k (hk | ⟨b',y,h1,h2,h3⟩)
   .exact .inl hk
   .rw [St.fM] at h1;rw [St.qJ] at h2;simp only [Bool.or_eq_false_iff] at h2;simp only [look] at h1;by_cases e:b=b'
    .subst e;simp only [if_true,aN] at h1;subst h1;rw [hown] at h3;cases h3;exact hbM
    .simp only [e,if_false] at h1;exact .inr ⟨b',y,h1,h2.2,h3⟩
  .intro b' x k h1 h2 h3 hk;rcases hk with hk | ⟨b'',y,h4,h5,h6⟩
   .exact h.old k hk (h.lo b' x k h1 h2).1
   .rw [St.fM] at h4;rw [St.qJ] at h5;simp only [Bool.or_eq_false_iff] at h5;simp only [look] at h4;by_cases e:b=b''
    .subst e;simp only [if_true,aN] at h4;subst h4;rw [hown] at h6;have:=h.inj b' b x _ k h1 hb h2 (by rw [hown];exact h6);subst this;rcases h3 with h3 | h3
     .rw [hs] at h3;cases h3
     .exact hsl h3
    .simp only [e,if_false] at h4;have:=h.inj b' b'' x y k h1 h4 h2 h6;subst this;rcases h3 with h3 | h3
     .rw [h3] at h5;simp at h5
     .have:sl.contains b'=true:=by simpa using h3
      rw [this] at h5;simp at h5
 .refine .inr ⟨b,jQ pt E sz ni,?_,?_,hown ..⟩
  .rw [St.fM];simp [look]
  .rw [St.qJ];simp [hs,hsl]
theorem YD {M:Nat->Prop} {sz:Nat} {ts us:List (List aD)} {n:Nat} {l:List Value} (hts:∀ t∈ts,t.length=sz) (hus:us=(ts.drop n).take us.length) (hle:n+us.length<=ts.length) (h:bA M w ts.flatten l) :
  bA M w us.flatten ((l.drop (n*sz)).take (us.length*sz)):=by
 have hfl:∀ (xs:List (List aD)),(∀ t∈xs,t.length=sz)->xs.flatten.length=xs.length*sz:=by
  intro xs hx
  induction xs with
  | nil=>simp
  | cons x xs ih=>rw [List.flatten_cons,eC,hx x List.mem_cons_self,ih fun t ht=>hx t (List.mem_cons_of_mem _ ht),List.length_cons,Nat.add_mul,Nat.one_mul,Nat.add_comm]
 have e:ts=ts.take n++(us++ts.drop (n+us.length)):=by
  have e1:ts.drop n=us++ts.drop (n+us.length):=by
   conv=>lhs;rw [<-List.take_append_drop us.length (ts.drop n)]
   rw [List.drop_drop,<-hus]
  rw [<-e1,List.take_append_drop]
 have h1:=hfl (ts.take n) fun t ht=>hts t (List.mem_of_mem_take ht);rw [List.length_take,Nat.min_eq_left (by omega)] at h1;have h2:=hfl us fun t ht=>by rw [hus] at ht;exact hts t (List.mem_of_mem_drop (List.mem_of_mem_take ht))
 have hd:=(h.drop (n*sz)).take (us.length*sz);rw [e,List.flatten_append,List.flatten_append,<-h1,List.drop_left,<-h2,List.take_left,h1,h2] at hd;exact hd
theorem ag5 (h:Sat M0 w0 N s τ ρ a w) (hd:cN N o=true) {c:Call} (ho:o.op = .call c) {pre post:List Operand} {x:Operand} (hargs:c.args.toList=pre++x::post)
  (hq:(yF P o ni pre x post).run s=some (e,nd)) (hn:iO P τ o.op o.type nd ni):o.wp P a w (jO M0 w0 N s e τ) Qp:=by
 obtain ⟨⟨as,sl1⟩,h1,h2⟩:=Q.bind_some hq;obtain ⟨cx,h3,h4⟩:=Q.bind_some h2;obtain ⟨⟨bs,sl2⟩,h5,h6⟩:=Q.bind_some h4;obtain ⟨⟨b,view⟩,h7,h8⟩:=Q.bind_some h6;obtain ⟨⟨pt,E,sz,cid⟩,h9,h10⟩:=Q.bind_some h8;have h9:=mE h9;obtain ⟨_,h11,h12⟩:=Q.bind_some h10;have hrsz:=dG h11;obtain ⟨sb,h13,h14⟩:=Q.bind_some h12;simp only [qU,aN] at h13;obtain ⟨_,h15,h16⟩:=Q.bind_some h14;have hsb:=dG h15;rw [<-h13] at hsb;obtain ⟨_,h17,h18⟩:=Q.bind_some h16;have hsl:=dG h17;obtain ⟨sh,h19,h20⟩:=Q.bind_some h18;simp only [Q.run_pure,aN] at h20;obtain ⟨rfl,rfl⟩:=Prod.mk.inj h20;obtain ⟨news,⟨ts,us,us',rs,n,hcid,hview,hne,hsh,hrow,rfl⟩,_,hτ⟩:=hn;have hx:=dZ h h3;have hrl:rs.length=sh.length:=by have:=congrArg List.length hsh;simpa using this
 have hτr:∀ j t,rs[j]? = some t->τ[ni+j]? = some t:=fun j t hj=>hτ j t (by rw [List.getElem?_append_left (dR.1 hj).1];exact hj);have hτ0:τ[ni+sh.length]? = some (.rows (ts.take n++us'++ts.drop (n+us.length))):=hτ sh.length _ (by rw [List.getElem?_append_right (by omega),hrl,Nat.sub_self];rfl);have hsl':b ∉ sl1++sl2:=by simpa using hsl
 obtain ⟨ts0,xs0,hcid0,⟨_,hown0⟩,hlen0,_⟩:=QH (h.bx b _ h9);rw [hcid] at hcid0;simp only [aN,aJ.rows.injEq] at hcid0;subst hcid0
 have hval:∃ g o0 cap capx,(ρ b).val = .slice (some ⟨g,o0,none⟩) ts.length cap/\a.eval x = .slice (some ⟨g,o0+n*sz,none⟩) us.length capx/\us.length<=capx/\capx<=maxLen/\n+us.length<=ts.length/\us=(ts.drop n).take us.length:=by
  cases cx with
  | r b'=>
    simp only [Q.run_pure,aN,Prod.mk.injEq] at h7;obtain ⟨rfl,rfl⟩:=h7;obtain ⟨rfl,rfl⟩:=hview;rcases hown0 with ⟨hz,_⟩ | ⟨g,off,cap,cur,hv,hg,hnc,hcm,_⟩
    .exact absurd (List.eq_nil_of_length_eq_zero hz) hne
    .exact ⟨g,off,cap,cap,hv,by rw [hx.2.1,hv,Nat.zero_mul,Nat.add_zero],hnc,hcm,by omega,by simp⟩
  | rs b' s0 lo hi=>
    simp only [Q.run_pure,aN,Prod.mk.injEq] at h7;obtain ⟨rfl,rfl⟩:=h7;have hs0:s0=sz:=by simpa [rsz] using hrsz
    subst hs0;obtain ⟨k,k',m,e1,e2,hnm,hmt,rfl⟩:=hview;obtain ⟨_,g,o0,len,cap,k2,k2',n2,m2,c2,hv,e3,e4,hnm2,hml,hc1,hc2,hxv⟩:=hx
    have key:∀ {i:C0} {ka kb:IntKind} {p q:Nat},c0 τ i = .int ka p->c0 τ i = .int kb q->q=p:=by
     intro i ka kb p q hp hq
     have:(aD.int ka p).rep (fun _=>False) default (.int kb q):=by
      have hr:(c0 τ i).rep (fun _=>False) default (.int kb q):=by rw [hq];exact ⟨rfl,rfl⟩
      rw [hp] at hr;exact hr
     have:=this.1;simp at this;omega
    have e5:=key e1 e3;have e6:=key e2 e4;subst e5 e6;have hul:((ts.take m2).drop n2).length=m2-n2:=by simp;omega
    have hlen:len=ts.length:=by
     rcases hown0 with ⟨hz,c3,hv2⟩ | ⟨g3,off3,cap3,cur3,hv2,_⟩
     .rw [hv] at hv2;simp at hv2
     .rw [hv] at hv2;simp only [Value.slice.injEq] at hv2;exact hv2.2.1
    subst hlen;refine ⟨g,o0,cap,c2,hv,by rw [hul];exact hxv,by rw [hul];exact hc1,hc2,by rw [hul];omega,?_⟩;rw [hul,List.drop_take]
  | _=>cases h7
 obtain ⟨g,o0,cap,capx,hv,hxv,hux,hcx,hle,hus⟩:=hval;obtain ⟨ts1,cur,hcid1,hlen1,hg,hfitp,hsz,hcm,hnc,hlen,hrep⟩:=OO (h.bx b _ h9) hv;rw [hcid] at hcid1;simp only [aN,aJ.rows.injEq] at hcid1;subst hcid1;obtain ⟨hS,hgM⟩:=Zi h (E:=E) (sz:=sz) (ni:=ni+sh.length) (sl:=sl1++sl2) (tm:=put o (lA ni sh)) h9 hsb hsl' (g:=g) (by rw [hv];rfl);have hmul:(n+us.length)*sz<=ts.length*sz:=Nat.mul_le_mul_right _ hle;rw [Nat.add_mul] at hmul
 have hup:bA (Ms M0 ρ (s.app ⟨put o (lA ni sh),[(b,jQ pt E sz (ni+sh.length))],sl1++sl2⟩)) w us.flatten ((cur.toList.drop (o0+n*sz)).take (us.length*sz)):=by
  have:=YD hlen hus hle (hrep.mono (hS.eE (w:=w)));rw [List.drop_take,List.drop_drop,List.take_take,Nat.min_eq_left (by omega)] at this;exact this
 refine hrow.2.2 _ w a o c _ _ g (o0+n*sz) capx cur (pre.map a.eval) (post.map a.eval) rfl rfl ho (by rw [hargs,List.map_append,List.map_cons,hxv]) (h.zJ.sub hS.sub) hgM hg (by omega) hux hcx hup (iE h h1 (hS.mono fun x hx=>List.mem_append_left _ hx)) (iE h h5 (hS.mono fun x hx=>List.mem_append_right _ hx)) ?_;intro w' cur' vs hgr hg' hsize hout hrs hup'
 have hkeep:bO (Ms M0 ρ s) w (Ms M0 ρ (s.app ⟨put o (lA ni sh),[(b,jQ pt E sz (ni+sh.length))],sl1++sl2⟩)) w':=by
  intro k ob hk hob _;refine ⟨fun hm=>hk (hS.sub k hm),?_⟩;rw [hgr.block k (cS.1 hob).1 (by rintro ⟨rfl⟩;exact hk (hS.sub _ hgM))];exact hob
 refine ⟨ρ,h.NM hd h9 hsb hsl' hv hg (fun j hj=>hout j (by omega)) hg' hgr hsize hfitp hcm hnc hτ0 ?_ ?_ (fun _=>Fz hsh hτr hrs) fun _ _=>?_⟩
 .simp only [eC,List.length_take,List.length_drop,hrow.1];omega
 .intro t ht;rcases List.mem_append.1 ht with ht | ht
  .rcases List.mem_append.1 ht with ht | ht
   .exact hlen t (List.mem_of_mem_take ht)
   .exact hrow.2.1 t ht
  .exact hlen t (List.mem_of_mem_drop ht)
 .have:=uR hlen hus hle hrow.1 hrow.2.1 (hrep.mono hkeep) hup'
  have e1:((cur.toList.drop o0).take (ts.length*sz)).take (n*sz)++(cur'.toList.drop (o0+n*sz)).take (us.length*sz)++((cur.toList.drop o0).take (ts.length*sz)).drop (n*sz+us.length*sz)=(cur'.toList.drop o0).take (ts.length*sz):=by
   apply List.ext_getElem?;intro j;have ho1:=hout (o0+j);rw [<-Array.getElem?_toList,<-Array.getElem?_toList] at ho1;have hcl:cur'.toList.length=cur.toList.length:=by rw [Array.length_toList,Array.length_toList,hsize]
   have hcl2:cur.toList.length=cur.size:=Array.length_toList;simp only [List.getElem?_append,List.getElem?_take,List.getElem?_drop,eC,List.length_take,List.length_drop];generalize n*sz=p at *;generalize us.length*sz=q at *;generalize ts.length*sz=r at *
   grind
  rw [e1] at this;exact this
theorem step_ok (h:Sat M0 w0 N s τ ρ a w) (hd:cN N o=true) (hq:(step P o nb ni).run s=some (e,nd)) (hn:iO P τ o.op o.type nd ni):o.wp P a w (jO M0 w0 N s e τ) Qp:=by
 unfold step at hq;split at hq
 .rename_i x ho;exact WQ h hd (.inl ho) hq
 .rename_i x ho;exact WQ h hd (.inr ho) hq
 .rename_i T ho;exact ao4 h hd ho hq
 .rename_i T x ho;exact aS8 h hd ho hq
 .rename_i T x ho;exact aF7 h hd ho hq hn
 .rename_i T x y ho;exact ai0 h hd ho hq hn
 .rename_i x ho;exact be7 h hd ho hq hn
 .rename_i T parts ho;exact ad1 h hd ho hq
 .rename_i T len parts ho;exact aO5 h hd ho hq hn
 .rename_i T l c ho;exact aE6 h hd ho hq hn
 .rename_i T x f ho;exact Qd h hd ho hq hn
 .rename_i T x f ho;exact ad5 h hd ho hq
 .rename_i x i ho;exact Vd h hd ho hq
 .rename_i f first caps ho;exact aH7 h hd ho hq
 .rename_i T x i ho;exact af4 h hd ho hq hn
 .rename_i c ho;split at hq
  .rename_i f hc;split at hq
   .rename_i j hj;split at hq
    .rename_i x hx;obtain ⟨_,_,hq⟩:=Q.bind_some hq;refine ag5 h hd ho ?_ hq hn;have hlt:=(dR.1 hx).1
     conv=>lhs;rw [<-List.take_append_drop j c.args.toList]
     rw [List.drop_eq_getElem_cons hlt,(dR.1 hx).2]
    .cases hq
   .exact Xp h hd ho hc (caps:=[]) (cvs:=[]) rfl (show bA _ _ [] [] from trivial) hq hn
  .rename_i x _ hc;exact ZQ h hd ho hc hq hn
  .rename_i hc;exact aS0 h hd ho hc hq hn
  .rename_i hc;split at hq
   .rename_i x y hargs;exact ag5 h hd ho (pre:=[]) hargs hq hn
   .cases hq
  .rename_i hc;split at hq
   .rename_i x y hargs;exact Yf h hd ho hc hargs hq hn
   .cases hq
  .exact cT h hd hq hn
  .cases hq
 .rename_i T x lo hi mx ho;exact ok_slice h hd ho hq hn
 .exact cT h hd hq hn
 .exact cT h hd hq hn
 .exact cT h hd hq hn
 .exact cT h hd hq hn
 .exact cT h hd hq hn
 .cases hq
end
open Go.RowKit (Below)
theorem al2:∀ {a b:Value},aj7 a b=true->a=b:=by
 intro a b h;unfold aj7 at h
 split at h<;>first
  | (simp only [Bool.and_eq_true,beq_iff_eq] at h;obtain ⟨rfl,rfl⟩:=h;rfl)
  | (simp only [beq_iff_eq] at h;subst h;rfl)
  | rfl
  | cases h
  | skip
 all_goals
  rename_i x y;cases x;cases y;simp only [beq_iff_eq] at h;subst h;rfl
theorem C0.iY:∀ {a b:C0},a.same b=true->a=b
 | .u _ _, .u _ _,h=>by simp only [C0.same,Bool.and_eq_true,beq_iff_eq] at h;rw [h.1,h.2]
 | .k _, .k _,h=>by rw [al2 h]
 | .sr _ _, .sr _ _,h=>by simp only [C0.same,Bool.and_eq_true,beq_iff_eq] at h;rw [h.1,h.2]
 | .u _ _, .k _,h=>by simp [C0.same] at h
 | .u _ _, .sr _ _,h=>by simp [C0.same] at h
 | .k _, .u _ _,h=>by simp [C0.same] at h
 | .k _, .sr _ _,h=>by simp [C0.same] at h
 | .sr _ _, .u _ _,h=>by simp [C0.same] at h
 | .sr _ _, .k _,h=>by simp [C0.same] at h
theorem qE {α:Type} {f:α->α->Bool} (hf:∀ a b,f a b=true->a=b):∀ {xs ys:List α},kA f xs ys=true->xs=ys
 | [],[],_=>rfl
 | x::xs,y::ys,h=>by
   simp only [kA,Bool.and_eq_true] at h;rw [hf x y h.1,qE hf h.2]
 | [],_::_,h=>by simp [kA] at h
 | _::_,[],h=>by simp [kA] at h
theorem CR.iY:∀ {a b:CR},a.same b=true->a=b
 | .c _, .c _,h=>by rw [C0.iY h]
 | .ref _ _, .ref _ _,h=>by
   simp only [CR.same,Bool.and_eq_true,beq_iff_eq] at h;rw [h.1,qE (fun _ _=>C0.iY) h.2]
 | .c _, .ref _ _,h=>by simp [CR.same] at h
 | .ref _ _, .c _,h=>by simp [CR.same] at h
section
variable {M0:eG} {w0 w w':World} {N:Nat} {s hs:St} {τ τ' m:Env} {ρ ρ':Nat->Gh} {a:Act} {ni:Nat} {aU:List LV} {F:List (Nat×Option Nat)}
theorem bB.Ql {α β γ:Type} {f:α->β->Bool} {R:β->γ->Prop} {S:α->γ->Prop} (hf:∀ x y v,f x y=true->R y v->S x v):∀ {xs ys vs},OW f xs ys=true->bB R ys vs->bB S xs vs
 | [],[],[],_,_=>trivial
 | x::xs,y::ys,v::vs,h,⟨a,b⟩=>by
   simp only [OW,Bool.and_eq_true] at h;exact ⟨hf x y v h.1 a,bB.Ql hf h.2 b⟩
 | [],_::_,_,h,_=>by simp [OW] at h
 | _::_,[],_,h,_=>by simp [OW] at h
 | [],[],_::_,_,k=>k.elim
 | _::_,_::_,[],_,k=>k.elim
def uJ (F:List (Nat×Option Nat)) (ρ:Nat->Gh) (b:Nat):Gh:=
 match mp F b with
 | some b'=>ρ b'
 | none=>⟨0, .slice none 0 0,#[]⟩
theorem eP {b b':Nat} (h:mp F b=some b'):uJ F ρ b=ρ b':=by simp [uJ,h]
theorem yW {b:Nat} (h:mp F b=none):uJ F ρ b=⟨0, .slice none 0 0,#[]⟩:=by simp [uJ,h]
theorem Ce {k:Nat} {l:LV} {T:Env} (hn:τ.length=ni) (hk:ni<=k) (hl:aU[k-ni]? = some l):(τ++aU.map (Nw T))[k]? = some (Nw T l):=by
 rw [List.getElem?_append_right (by omega),hn,dL,hl];rfl
theorem Tt (hn:τ.length=ni) {M M':Nat->Prop} (hk:bO M w M' w) {x y:SC} {v:Value} (hf:Ch ni aU F hs x y=true) (hv:dK (lX s) (τ++m) ρ M w y v) :
  dK (lX hs) (τ++aU.map (Nw (τ++m))) (uJ F ρ) M' w x v:=by
 unfold Ch at hf;split at hf
 .rename_i i j z;have hv:(c0 (τ++m) z).rep M w v:=hv;show (c0 _ (.u i j)).rep M' w v;split at hf
  .rename_i hlt;have:=C0.iY hf;subst this;have hok:(C0.u i j).ok ni=true:=by simpa [C0.ok] using hlt
   rw [nI hn hok] at hv ⊢;exact aD.mono _ hk hv
  .rename_i hlt;split at hf
   .rename_i x' hx';have hg:=Ce (T:=τ++m) hn (Nat.le_of_not_lt hlt) hx'
    have hc:∀ j,c0 (τ++aU.map (Nw (τ++m))) (.u i j)=(Nw (τ++m) (.w x')).cell j:=fun j=>by
     simp only [c0,iP,hg,Option.getD_some]
    rw [hc];split at hf
    .simp only [Bool.and_eq_true,beq_iff_eq] at hf;obtain ⟨rfl,hf⟩:=hf;rw [C0.iY hf];exact aD.mono _ hk hv
    .rename_i cs;split at hf
     .rename_i z' hz'
      have:(Nw (τ++m) (.w (.agg cs))).cell j=c0 (τ++m) z':=by
       simp only [Nw,nU,aJ.cell,aJ.cells,iP,dL,hz',Option.map_some,Option.getD_some,YK]
      rw [this,C0.iY hf];exact aD.mono _ hk hv
     .cases hf
    .cases hf
   .cases hf
 .rename_i b b';simp only [Bool.and_eq_true] at hf;obtain ⟨he,hf⟩:=hf;split at hf
  .rename_i b'' hb;simp only [beq_iff_eq] at hf;subst hf;exact ⟨he,by rw [eP hb];exact hv.2.1,hv.2.2⟩
  .cases hf
 .rename_i b z;simp only [Bool.and_eq_true,Option.isNone_iff_eq_none] at hf;obtain ⟨⟨he,hz⟩,hb⟩:=hf;rw [uL hz] at hv;have hv:v = .slice none 0 0/\_:=hv;exact ⟨he,by rw [yW hb];exact hv.1,by rw [hv.1];rfl⟩
 .rename_i b off b' off';simp only [Bool.and_eq_true,beq_iff_eq] at hf;obtain ⟨⟨he,hf⟩,rfl⟩:=hf;split at hf
  .rename_i b'' hb;simp only [beq_iff_eq] at hf;subst hf;exact ⟨he,by rw [eP hb];exact hv.2⟩
  .cases hf
 .rename_i b sz i off b' sz' i' off';simp only [Bool.and_eq_true,beq_iff_eq] at hf;obtain ⟨⟨⟨⟨⟨he,hf⟩,rfl⟩,rfl⟩,hi⟩,hok⟩:=hf;have:=C0.iY hi;subst this;split at hf
  .rename_i b'' hb;simp only [beq_iff_eq] at hf;subst hf;obtain ⟨_,g,o0,len,cap,k,n,e1,e2,e3⟩:=hv;refine ⟨he,g,o0,len,cap,k,n,by rw [eP hb];exact e1,?_,e3⟩;rw [nI hn hok] at e2 ⊢;exact e2
  .cases hf
 .rename_i b sz l h b' sz' l' h';simp only [Bool.and_eq_true,beq_iff_eq] at hf;obtain ⟨⟨⟨⟨⟨⟨he,hf⟩,rfl⟩,hl⟩,hlo⟩,hh⟩,hho⟩:=hf;have:=C0.iY hl;subst this;have:=C0.iY hh;subst this;split at hf
  .rename_i b'' hb;simp only [beq_iff_eq] at hf;subst hf;obtain ⟨_,g,o0,len,cap,k,k',n,m',c,e1,e2,e3,e4⟩:=hv;refine ⟨he,g,o0,len,cap,k,k',n,m',c,by rw [eP hb];exact e1,?_,?_,e4⟩
   .rw [nI hn hlo] at e2 ⊢;exact e2
   .rw [nI hn hho] at e3 ⊢;exact e3
  .cases hf
 .simp only [Bool.and_eq_true] at hf;obtain ⟨⟨hpl,hsame⟩,hok⟩:=hf;cases x with
  | c x=>cases y with
    | c y=>
      have:=C0.iY (a:=x) (b:=y) hsame;subst this;show (c0 _ x).rep M' w v;have hv:(c0 (τ++m) x).rep M w v:=hv;rw [nI hn hok] at hv ⊢;exact aD.mono _ hk hv
    | _=>simp [SC.same] at hsame
  | ref i x=>cases y with
    | ref j y=>
      simp only [SC.same,Bool.and_eq_true,beq_iff_eq] at hsame;obtain ⟨rfl,hs⟩:=hsame;have:=qE (fun _ _=>C0.iY) hs;subst this;show (YK _ (.ref i x)).rep M' w v;have hv:(YK (τ++m) (.ref i x)).rep M w v:=hv;rw [Xt hn hok] at hv ⊢;exact aD.mono _ hk hv
    | _=>simp [SC.same] at hsame
  | fP f x=>cases y with
    | fP g y=>
      simp only [SC.same,Bool.and_eq_true,beq_iff_eq] at hsame;obtain ⟨rfl,hs⟩:=hsame;have:=qE (fun _ _=>CR.iY) hs;subst this;show (YK _ (.fP f x)).rep M' w v;have hv:(YK (τ++m) (.fP f x)).rep M w v:=hv;rw [Xt hn hok] at hv ⊢;exact aD.mono _ hk hv
    | _=>simp [SC.same] at hsame
  | p _ _=>simp at hpl
  | r _=>simp at hpl
  | rp _ _ _ _=>simp at hpl
  | rs _ _ _ _=>simp at hpl
theorem Nh (hn:τ.length=ni) {M M':Nat->Prop} (hk:bO M w M' w) {xs ys:List SC} {vs:List Value} (hf:OW (Ch ni aU F hs) xs ys=true) (hv:bB (dK (lX s) (τ++m) ρ M w) ys vs) :
  bB (dK (lX hs) (τ++aU.map (Nw (τ++m))) (uJ F ρ) M' w) xs vs:=
 bB.Ql (f:=Ch ni aU F hs) (R:=dK (lX s) (τ++m) ρ M w) (S:=dK (lX hs) (τ++aU.map (Nw (τ++m))) (uJ F ρ) M' w) (fun x y v h1 h2=>Tt hn hk h1 h2) hf hv
theorem QY (hn:τ.length=ni) {M M':Nat->Prop} (hk:bO M w M' w) {x y:SW} {v:Value} (hf:Nu ni aU F hs x y=true) (hv:fF (lX s) (τ++m) ρ M w y v) :
  fF (lX hs) (τ++aU.map (Nw (τ++m))) (uJ F ρ) M' w x v:=by
 cases x with
 | one x=>cases y with
   | one y=>exact Tt hn hk hf hv
   | agg _=>simp [Nu] at hf
 | agg xs=>cases y with
   | one y=>simp [Nu] at hf
   | agg ys=>
     obtain ⟨vs,e,h⟩:=hv;exact ⟨vs,e,Nh hn hk hf h⟩
theorem am8 (hn:τ.length=ni) {M M':Nat->Prop} (hk:bO M w M' w) {x y:SV} {v:Value} (hf:ap9 ni aU F hs x y=true) (hv:fW (lX s) (τ++m) ρ M w y v) :
  fW (lX hs) (τ++aU.map (Nw (τ++m))) (uJ F ρ) M' w x v:=by
 unfold ap9 at hf;split at hf
 .trivial
 .exact hv
 .exact QY hn hk hf hv
 .obtain ⟨vs,e,h⟩:=hv;exact ⟨vs,e,bB.Ql (f:=Nu ni aU F hs) (R:=fF (lX s) (τ++m) ρ M w) (S:=fF (lX hs) (τ++aU.map (Nw (τ++m))) (uJ F ρ) M' w) (fun x y v h1 h2=>QY hn hk h1 h2) hf h⟩
 .cases hf
theorem sW {b:Nat} {x:Bx} {k:Nat} (hf:Az ni aU F hs s b=true) (hb:hs.b b=some x) (ho:own (uJ F ρ) b x=some k) :
  ∃ b' y,mp F b=some b'/\s.b b'=some y/\own ρ b' y=some k/\(hs.s b=false->s.s b'=false):=by
 unfold Az at hf;rw [hb] at hf;cases x with
 | dead=>cases ho
 | var T cs=>
   simp only at hf;split at hf
   .rename_i b' hm;simp only [Bool.and_eq_true,Bool.or_eq_true,Bool.not_eq_true'] at hf;obtain ⟨vY,hf⟩:=hf;split at hf
    .rename_i T' cs' hb';refine ⟨b',_,hm,hb',?_,fun h=>?_⟩
     .simp only [own,eP hm] at ho;exact ho
     .rcases vY with vY | vY
      .rw [h] at vY;cases vY
      .exact vY
    .cases hf
   .cases hf
 | row E sz cid=>
   simp only at hf;split at hf
   .rename_i b' hm;simp only [Bool.and_eq_true,Bool.or_eq_true,Bool.not_eq_true'] at hf;obtain ⟨vY,hf⟩:=hf;split at hf
    .rename_i E' sz' cid' hb';refine ⟨b',_,hm,hb',?_,fun h=>?_⟩
     .simp only [own,eP hm] at ho;exact ho
     .rcases vY with vY | vY
      .rw [h] at vY;cases vY
      .exact vY
    .cases hf
   .rename_i hm;simp [own,yW hm,Value.ownBlock] at ho
 | part E sz cid=>
   simp only at hf;split at hf
   .rename_i b' hm;simp only [Bool.and_eq_true,Bool.or_eq_true,Bool.not_eq_true'] at hf;obtain ⟨vY,hf⟩:=hf;split at hf
    .rename_i E' sz' cid' hb';refine ⟨b',_,hm,hb',?_,fun h=>?_⟩
     .simp only [own,eP hm] at ho;exact ho
     .rcases vY with vY | vY
      .rw [h] at vY;cases vY
      .exact vY
    .cases hf
   .cases hf
theorem ac2 (hn:τ.length=ni) {base:Nat} {M M':Nat->Prop} (hk:bO M w M' w) {b:Nat} {x:Bx} (hf:Az ni aU F hs s b=true) (hb:hs.b b=some x)
  (hv:∀ b y,s.b b=some y->mS base (lX s) (τ++m) ρ M w b y):mS base (lX hs) (τ++aU.map (Nw (τ++m))) (uJ F ρ) M' w b x:=by
 unfold Az at hf;rw [hb] at hf;cases x with
 | dead=>trivial
 | var T cs=>
   simp only at hf;split at hf
   .rename_i b' hm;simp only [Bool.and_eq_true] at hf;obtain ⟨_,hf⟩:=hf;split at hf
    .rename_i T' cs' hb';simp only [Bool.and_eq_true,beq_iff_eq] at hf;obtain ⟨rfl,hf⟩:=hf;obtain ⟨vs,hh,hall⟩:=hv b' _ hb';exact ⟨vs,by rw [eP hm];exact hh,Nh hn hk hf hall⟩
    .cases hf
   .cases hf
 | row E sz cid=>
   simp only at hf;split at hf
   .rename_i b' hm;simp only [Bool.and_eq_true] at hf;obtain ⟨_,hf⟩:=hf;split at hf
    .rename_i E' sz' cid' hb';simp only [Bool.and_eq_true,beq_iff_eq] at hf;obtain ⟨⟨rfl,rfl⟩,hf⟩:=hf;obtain ⟨ts,xs,e,hown,hl,hr⟩:=hv b' _ hb';refine ⟨ts,xs,?_,by rw [eP hm];exact hown,hl,hr.mono hk⟩;split at hf
     .rename_i hlt;simp only [beq_iff_eq] at hf;subst hf;rw [List.getElem?_append_left (by omega)] at e ⊢;exact e
     .rename_i hlt;split at hf
      .rename_i c hc;simp only [beq_iff_eq] at hf;subst hf;rw [Ce hn (Nat.le_of_not_lt hlt) hc];simp only [Nw,iP,e,Option.getD_some]
      .cases hf
    .cases hf
   .rename_i hm;split at hf
    .rename_i hc;simp only [decide_eq_true_eq] at hf;refine ⟨[],[],Ce hn hf hc,?_,by simp,trivial⟩;rw [yW hm];exact World.ownsRow_nil w _ E sz
    .cases hf
 | part E sz cid=>
   simp only at hf;split at hf
   .rename_i b' hm;simp only [Bool.and_eq_true] at hf;obtain ⟨_,hf⟩:=hf;split at hf
    .rename_i E' sz' cid' hb';simp only [Bool.and_eq_true,beq_iff_eq] at hf;obtain ⟨⟨rfl,rfl⟩,hf⟩:=hf;obtain ⟨ts,xs,e,hown,hl,hr,h1⟩:=hv b' _ hb';refine ⟨ts,xs,?_,by rw [eP hm];exact hown,hl,hr.mono hk,by rw [eP hm];exact h1.1,by rw [eP hm];exact h1.2⟩;split at hf
     .rename_i hlt;simp only [beq_iff_eq] at hf;subst hf;rw [List.getElem?_append_left (by omega)] at e ⊢;exact e
     .rename_i hlt;split at hf
      .rename_i c hc;simp only [beq_iff_eq] at hf;subst hf;rw [Ce hn (Nat.le_of_not_lt hlt) hc];simp only [Nw,iP,e,Option.getD_some]
      .cases hf
    .cases hf
   .cases hf
theorem an7 {b E sz cid:Nat} (hf:Az ni aU F hs s b=true) (hb:hs.b b=some (.part E sz cid)):∃ b' E' sz' cid',mp F b=some b'/\s.b b'=some (.part E' sz' cid'):=by
 unfold Az at hf;rw [hb] at hf;simp only at hf;split at hf
 .rename_i b' hm;simp only [Bool.and_eq_true] at hf;obtain ⟨_,hf⟩:=hf;split at hf
  .rename_i E' sz' cid' hb';exact ⟨b',E',sz',cid',hm,hb'⟩
  .cases hf
 .cases hf
theorem mN {α:Type}:∀ {l:List (Nat×α)} {n:Nat} {x:α},look l n=some x->∃ p∈l,p.1=n
 | [],_,_,h=>by cases h
 | (m,y)::l,n,x,h=>by
   simp only [look] at h;split at h
   .rename_i e;exact ⟨_,List.mem_cons_self,e⟩
   .obtain ⟨p,hp,e⟩:=mN h;exact ⟨p,List.mem_cons_of_mem _ hp,e⟩
theorem XK (h:Sat M0 w0 N s (τ++m) ρ a w) (hn:τ.length=ni) (hf:fits ni aU F hs s=true):∃ ρ',Sat M0 w0 N hs (τ++aU.map (Nw (τ++m))) ρ' a w:=by
 unfold fits at hf;simp only [Bool.and_eq_true,List.all_eq_true] at hf;obtain ⟨⟨hft,hfb⟩,hfi⟩:=hf
 have hbf:∀ b x,hs.b b=some x->Az ni aU F hs s b=true:=fun b x hb=>by
  obtain ⟨p,hp,rfl⟩:=mN hb;exact hfb p hp
 have hinj:∀ b1 b2 x1 x2 b',hs.b b1=some x1->hs.b b2=some x2->x1 ≠ .dead->x2 ≠ .dead->mp F b1=some b'->mp F b2=some b'->b1=b2:=by
  intro b1 b2 x1 x2 b' h1 h2 hd1 hd2 hm1 hm2;obtain ⟨p,hp,rfl⟩:=mN h1;obtain ⟨q,hq,rfl⟩:=mN h2;have:=hfi p hp q hq;simp only [Bool.or_eq_true,beq_iff_eq] at this;rcases this with this | this
  .exact this
  .rw [h1,h2,hm1,hm2] at this;cases x1<;>cases x2<;>simp at this hd1 hd2
 have hMs:∀ k,Ms M0 (uJ F ρ) hs k->Ms M0 ρ s k:=by
  rintro k (hk | ⟨b,x,h1,h2,h3⟩)
  .exact .inl hk
  .obtain ⟨b',y,_,h4,h5,h6⟩:=sW (hbf b x h1) h1 h3;exact .inr ⟨b',y,h4,h6 h2,h5⟩
 have hk:bO (Ms M0 ρ s) w (Ms M0 (uJ F ρ) hs) w:=fun k o hk ho _=>⟨fun hm=>hk (hMs k hm),ho⟩
 refine ⟨uJ F ρ,h.below,h.sz,h.df,fun t=>?_,fun b x hb=>ac2 hn hk (hbf b x hb) hb h.bx,?_,?_,h.old,fun b E sz cid hb=>by
  obtain ⟨b',E',sz',cid',hm,hb'⟩:=an7 (hbf b _ hb) hb;rw [eP hm];exact h.pt b' E' sz' cid' hb'⟩
 .cases hl:look hs.tm t with
  | none=>
    have:hs.t t = .junk:=by simp [St.t,hl]
    rw [this];trivial
  | some x=>
    obtain ⟨p,hp,rfl⟩:=mN hl;exact am8 hn hk (hft p hp) (h.tm _)
 .intro b1 b2 x1 x2 k h1 h2 ho1 ho2;obtain ⟨b1',y1,m1,s1,o1,_⟩:=sW (hbf b1 x1 h1) h1 ho1;obtain ⟨b2',y2,m2,s2,o2,_⟩:=sW (hbf b2 x2 h2) h2 ho2;have:=h.inj b1' b2' y1 y2 k s1 s2 o1 o2;subst this;refine hinj b1 b2 x1 x2 b1' h1 h2 ?_ ?_ m1 m2
  .rintro rfl;cases ho1
  .rintro rfl;cases ho2
 .intro b x k hb ho;obtain ⟨b',y,_,s1,o1,_⟩:=sW (hbf b x hb) hb ho;exact h.lo b' y k s1 o1
theorem Sat.congr (h:Sat M0 w0 N s τ ρ a w) (ht:∀ n,hs.t n=s.t n) (hb:∀ n,hs.b n=s.b n) (hs':∀ n,hs.s n=s.s n):Sat M0 w0 N hs τ ρ a w:=by
 have hM:Ms M0 ρ hs=Ms M0 ρ s:=by funext k;simp only [Ms,hb,hs']
 have he:(fun b=>(hs.b b).isSome=true)=(fun b=>(s.b b).isSome=true):=by funext b;rw [hb]
 refine ⟨h.below,h.sz,h.df,fun t=>?_,fun b x hx=>?_,?_,?_,h.old,fun b E sz cid hx=>h.pt b E sz cid (by rw [<-hb];exact hx)⟩
 .rw [hM,he,ht];exact h.tm t
 .rw [hM,he];rw [hb] at hx;exact h.bx b x hx
 .intro b b' x x' k h1 h2;rw [hb] at h1 h2;exact h.inj b b' x x' k h1 h2
 .intro b x k h1;rw [hb] at h1;exact h.lo b x k h1
theorem Sat.drew (h:Sat M0 w0 N s τ ρ a w) (n:Nat):Sat M0 w0 N s τ ρ a { w with drawn:=n }:=by
 have hk:bO (Ms M0 ρ s) w (Ms M0 ρ s) { w with drawn:=n }:=fun k o hk ho _=>⟨hk,ho⟩
 refine ⟨⟨h.below.os,h.below.tape,h.below.output,h.below.size,h.below.block,h.below.good⟩,h.sz,h.df,fun t=>(h.tm t).mono (fun b hb=>⟨hb,rfl⟩) hk,fun b x hx=>(h.bx b x hx).mono (fun b hb=>⟨hb,rfl⟩) hk (fun _=>rfl) (fun _ _=>rfl),h.inj,h.lo,h.old,h.pt⟩
end
open Go.RowKit (Below)
def St.apps (s:St):List fU->St
 | []=>s
 | e::es=>(s.app e).apps es
def rN (L:Nat->Bool) (i:Nat):List fU->List fU
 | []=>[]
 | e::es=>if L i then e::rN L (i+1) es else rN L (i+1) es
def HO {α:Type} (f:fU->Option α):List fU->Option α
 | []=>none
 | e::es=>match HO f es with
   | some v=>some v
   | none=>f e
theorem Fm (n:Nat):∀ (es:List fU) (s:St),(s.apps es).t n=(HO (fun e=>look e.tm n) es).getD (s.t n)
 | [],s=>rfl
 | e::es,s=>by
   simp only [St.apps,HO,Fm n es (s.app e),St.ae9];cases HO (fun e=>look e.tm n) es with
   | some v=>rfl
   | none=>cases look e.tm n<;>rfl
theorem Gc (n:Nat):∀ (es:List fU) (s:St),(s.apps es).b n=match HO (fun e=>look e.bx n) es with | some x=>some x | none=>s.b n
 | [],s=>rfl
 | e::es,s=>by
   simp only [St.apps,HO,Gc n es (s.app e),St.fM];cases HO (fun e=>look e.bx n) es with
   | some v=>rfl
   | none=>cases look e.bx n<;>rfl
theorem Hh (n:Nat):∀ (es:List fU) (s:St),(s.apps es).s n=(HO (fun e=>if e.sl.contains n then some true else none) es).getD (s.s n)
 | [],s=>rfl
 | e::es,s=>by
   simp only [St.apps,HO,Hh n es (s.app e),St.qJ];cases HO (fun e=>if e.sl.contains n then some true else none) es with
   | some v=>rfl
   | none=>cases e.sl.contains n<;>simp
section
variable {α:Type} {f:fU->Option α}
theorem RI {L:Nat->Bool}:∀ {es:List fU} {i:Nat},(∀ j e,es[j]? = some e->f e≠none->L (i+j)=false)->HO f (rN L i es)=none
 | [],i,_=>rfl
 | e::es,i,h=>by
   have ih:=RI (L:=L) (es:=es) (i:=i+1) fun j e' he hf=>by
    have:=h (j+1) e' (by simpa using he) hf;rw [<-this];congr 1;omega
   simp only [rN];split
   .rename_i hL;simp only [HO,ih];cases hf:f e with
    | none=>rfl
    | some v=>
      have:=h 0 e rfl (by simp [hf]);rw [Nat.add_zero,hL] at this;cases this
   .exact ih
theorem pD {L L':Nat->Bool}:∀ {es:List fU} {i:Nat},(∀ j e,es[j]? = some e->f e≠none->L (i+j)=L' (i+j))->HO f (rN L i es)=HO f (rN L' i es)
 | [],i,_=>rfl
 | e::es,i,h=>by
   have ih:=pD (L:=L) (L':=L') (es:=es) (i:=i+1) fun j e' he hf=>by
    have:=h (j+1) e' (by simpa using he) hf;have e1:i+1+j=i+(j+1):=by omega
    rw [e1];exact this
   simp only [rN];cases hf:f e with
   | none=>cases hL:L i<;>cases hL':L' i<;>simp [HO,ih,hf]<;>cases HO f (rN L' (i+1) es)<;>rfl
   | some v=>
     have:=h 0 e rfl (by simp [hf]);rw [Nat.add_zero] at this;rw [this];cases L' i<;>simp [HO,ih]
theorem xT {L:Nat->Bool}:∀ {es:List fU} {i k:Nat} {e:fU} {v:α},es[k]? = some e->f e=some v->L (i+k)=true->(∀ j e,k<j->es[j]? = some e->f e≠none->L (i+j)=false)->HO f (rN L i es)=some v
 | [],i,k,e,v,he,_,_,_=>by simp at he
 | e0::es,i,0,e,v,he,hf,hL,h=>by
   simp only [List.getElem?_cons_zero,aN] at he;subst he
   have hn:=RI (L:=L) (es:=es) (i:=i+1) fun j e' he hf=>by
    have:=h (j+1) e' (by omega) (by simpa using he) hf;rw [<-this];congr 1;omega
   rw [Nat.add_zero] at hL;simp only [rN,hL,if_true,HO,hn,hf]
 | e0::es,i,k+1,e,v,he,hf,hL,h=>by
   have ih:=xT (L:=L) (es:=es) (i:=i+1) (k:=k) (e:=e) (v:=v) (by simpa using he) hf (by rw [<-hL];congr 1;omega) fun j e' hj he hf=>by
    have:=h (j+1) e' (by omega) (by simpa using he) hf;rw [<-this];congr 1;omega
   simp only [rN];split
   .simp only [HO,ih]
   .exact ih
end
theorem ZO:∀ (es:List fU) (i k:Nat),rN (fun j=>decide (j<i+k)) i es=es.take k
 | [],i,k=>by simp [rN]
 | e::es,i,0=>by
   have:rN (fun j=>decide (j<i+0)) (i+1) es = []:=by
    have key:∀ (es:List fU) (d:Nat),rN (fun j=>decide (j<i+0)) (i+d) es = []:=by
     intro es
     induction es with
     | nil=>intro d;rfl
     | cons e es ih=>intro d;simp only [rN];rw [if_neg (by simp)];exact ih (d+1)
    exact key es 1
   simp only [rN,Nat.add_zero,Nat.lt_irrefl,decide_false,Bool.false_eq_true,if_false,List.take_zero]
   simpa using this
 | e::es,i,k+1=>by
   have e1:(fun j=>decide (j<i+(k+1)))=(fun j=>decide (j<i+1+k)):=by funext j;congr 1;apply propext;omega
   have:decide (i<i+(k+1))=true:=by simp
   simp only [rN,this,if_true,List.take_succ_cons];rw [e1,ZO es (i+1) k]
theorem Xx:∀ (es:List fU) (i:Nat) (L:Nat->Bool),(∀ j,j<es.length->L (i+j)=true)->rN L i es=es
 | [],i,L,_=>rfl
 | e::es,i,L,h=>by
   have h0:=h 0 (by simp);rw [Nat.add_zero] at h0;simp only [rN,h0,if_true]
   rw [Xx es (i+1) L fun j hj=>by
    have:=h (j+1) (by simpa using hj);rw [<-this];congr 1;omega]
theorem RD:∀ (es:List fU) (i:Nat) (L:Nat->Bool),(∀ j,L j=false)->rN L i es = []
 | [],i,L,_=>rfl
 | e::es,i,L,h=>by simp only [rN,h i,Bool.false_eq_true,if_false];exact RD es (i+1) L h
def Loc.written (e:fU):Loc->Bool
 | .t n=>(look e.tm n).isSome
 | .b n=>(look e.bx n).isSome
 | .s n=>e.sl.contains n
theorem uV {e:fU} {x:Loc} (h:x.written e=true):x∈e.wr:=by
 unfold fU.wr;cases x with
 | t n=>
   simp only [Loc.written,Option.isSome_iff_exists] at h;obtain ⟨v,hv⟩:=h;obtain ⟨p,hp,rfl⟩:=mN hv;exact List.mem_append_left _ (List.mem_append_left _ (eM.2 ⟨p,hp,rfl⟩))
 | b n=>
   simp only [Loc.written,Option.isSome_iff_exists] at h;obtain ⟨v,hv⟩:=h;obtain ⟨p,hp,rfl⟩:=mN hv;exact List.mem_append_left _ (List.mem_append_right _ (eM.2 ⟨p,hp,rfl⟩))
 | s n=>
   simp only [Loc.written] at h;exact List.mem_append_right _ (eM.2 ⟨n,by simpa using h,rfl⟩)
theorem Yo {s:St} {L L':Nat->Bool} {es:List fU} {x:Loc} (h:∀ j e,es[j]? = some e->x.written e=true->L j=L' j):(s.apps (rN L 0 es)).agree (s.apps (rN L' 0 es)) x:=by
 cases x with
 | t n=>
   show (s.apps (rN L' 0 es)).t n=(s.apps (rN L 0 es)).t n
   rw [Fm,Fm,pD (f:=fun e=>look e.tm n) (L:=L') (L':=L) fun j e he hf=>by
    rw [Nat.zero_add];exact (h j e he (by cases hl:look e.tm n<;>simp_all [Loc.written])).symm]
 | b n=>
   show (s.apps (rN L' 0 es)).b n=(s.apps (rN L 0 es)).b n
   rw [Gc,Gc,pD (f:=fun e=>look e.bx n) (L:=L') (L':=L) fun j e he hf=>by
    rw [Nat.zero_add];exact (h j e he (by cases hl:look e.bx n<;>simp_all [Loc.written])).symm]
 | s n=>
   show (s.apps (rN L' 0 es)).s n=(s.apps (rN L 0 es)).s n
   rw [Hh,Hh,pD (f:=fun e=>if e.sl.contains n then some true else none) (L:=L') (L':=L) fun j e he hf=>by
    rw [Nat.zero_add];exact (h j e he (by
     simp only [Loc.written];cases hc:e.sl.contains n with
     | true=>rfl
     | false=>simp only [hc] at hf;exact absurd rfl hf)).symm]
theorem Sat.more {M0:eG} {w0 w:World} {N:Nat} {s:St} {τ:Env} {ρ:Nat->Gh} {a:Act} {L L':Nat->Bool} {es:List fU} {i:Nat} {e:fU} (h:Sat M0 w0 N ((s.apps (rN L 0 es)).app e) τ ρ a w) (he:es[i]? = some e) (hL:L i=false) (hL':∀ j,L' j=(L j || j==i))
  (hno:∀ (x:Loc) j e',i<j->es[j]? = some e'->x.written e=true->x.written e'=true->L j=false):Sat M0 w0 N (s.apps (rN L' 0 es)) τ ρ a w:=by
 have hi:L' i=true:=by rw [hL'];simp
 have hne:∀ j,j≠i->L' j=L j:=fun j hj=>by rw [hL'];simp [hj]
 have same:∀ {α:Type} (f:fU->Option α),f e=none->HO f (rN L' 0 es)=HO f (rN L 0 es):=fun f hf=>pD fun j e' he' hf'=>by
  rw [Nat.zero_add];refine hne j ?_;rintro rfl;rw [he] at he';simp only [aN] at he';subst he';exact hf' hf
 refine h.congr (fun n=>?_) (fun n=>?_) (fun n=>?_)
 .rw [Fm,St.ae9,Fm];cases hl:look e.tm n with
  | none=>rw [same (fun e=>look e.tm n) hl]
  | some v=>
    rw [xT (f:=fun e=>look e.tm n) (k:=i) he hl (by rw [Nat.zero_add];exact hi) fun j e' hj he' hf=>by
     rw [Nat.zero_add,hne j (by omega)];exact hno (.t n) j e' hj he' (by simp [Loc.written,hl]) (by cases hl':look e'.tm n<;>simp_all [Loc.written])]
    rfl
 .rw [Gc,St.fM,Gc];cases hl:look e.bx n with
  | none=>rw [same (fun e=>look e.bx n) hl]
  | some v=>
    rw [xT (f:=fun e=>look e.bx n) (k:=i) he hl (by rw [Nat.zero_add];exact hi) fun j e' hj he' hf=>by
     rw [Nat.zero_add,hne j (by omega)];exact hno (.b n) j e' hj he' (by simp [Loc.written,hl]) (by cases hl':look e'.bx n<;>simp_all [Loc.written])]
 .rw [Hh,St.qJ,Hh];cases hc:e.sl.contains n with
  | false=>
    rw [same (fun e=>if e.sl.contains n then some true else none) (by simp only [hc,Bool.false_eq_true,if_false])];simp
  | true=>
    rw [xT (f:=fun e=>if e.sl.contains n then some true else none) (k:=i) he (v:=true) (by simp only [hc,if_true]) (by rw [Nat.zero_add];exact hi) fun j e' hj he' hf=>by
     rw [Nat.zero_add,hne j (by omega)];refine hno (.s n) j e' hj he' (by simpa [Loc.written] using hc) ?_;cases hc':e'.sl.contains n with
     | true=>simpa [Loc.written] using hc'
     | false=>simp only [hc'] at hf;exact absurd rfl hf]
    simp
inductive Bef (l:List Rec):Rec->Nat->Prop where
 | now {y:Rec} {i:Nat}:i∈y.after->Bef l y i
 | via {y:Rec} {i k:Nat} {x:Rec}:k∈y.after->l[k]? = some x->Bef l x i->Bef l y i
theorem FF {l:List Rec} {i:Nat}:∀ {n:Nat} {y:Rec},bef l n y i=true->Bef l y i
 | 0,y,h=>.now (by simpa [bef] using h)
 | n+1,y,h=>by
   rw [bef,Bool.or_eq_true] at h;rcases h with h | h
   .exact .now (by simpa using h)
   .obtain ⟨k,hk,hx⟩:=List.any_eq_true.1 h;cases hl:l[k]? with
    | none=>rw [hl] at hx;cases hx
    | some x=>rw [hl] at hx;exact .via hk hl (FF hx)
theorem wX {l:List Rec} (h:ordered l.reverse=true):(∀ (i:Nat) x,l[i]? = some x->∀ j∈x.after,j<i) /\
  ∀ (i j:Nat) x y,l[i]? = some x->l[j]? = some y->i≠j->∀ a,a∈x.wr->(a∈y.tch\/a∈y.wr)->(i<j->Bef l y i)/\(j<i->Bef l x j):=by
 unfold ordered at h;simp only [List.reverse_reverse,List.all_eq_true] at h
 have mem:∀ (i:Nat) x,l[i]? = some x->(x,i)∈l.zipIdx:=fun i x hx=>by
  rw [List.mem_iff_getElem?];exact ⟨i,by simp [List.getElem?_zipIdx,hx]⟩
 constructor
 .intro i x hx j hj;have:=h (x,i) (mem i x hx);simp only [Bool.and_eq_true,List.all_eq_true,decide_eq_true_eq] at this;exact this.1 j hj
 .intro i j x y hx hy hij a ha hb;have:=h (x,i) (mem i x hx);simp only [Bool.and_eq_true,List.all_eq_true] at this;have:=this.2 (y,j) (mem j y hy);simp only [Bool.or_eq_true,beq_iff_eq,hij,Bool.not_eq_true',false_or] at this;rcases this with this | this
  .exfalso
   rw [List.any_eq_false] at this;have:=this a ha;rcases hb with hb | hb<;>simp [hb] at this
  .split at this
   .rename_i hlt;exact ⟨fun _=>FF this,fun h'=>by omega⟩
   .rename_i hlt;exact ⟨fun h'=>by omega,fun _=>FF this⟩
open Go.RowKit (Below)
structure Ep where
 e:fU
 r:Rec
section
variable (P:Program) (N:Nat) (ops:Array Oper) (Qp:Exit->Act->World->Prop) (M0:eG) (w0:World) (τ:Env)
def FP (i:Nat) (s:St) (e:fU) (tch:List Loc):Prop:=
 ∀ s' ρ a w,(∀ x∈tch,s.agree s' x)->Sat M0 w0 N s' τ ρ a w->wpOp P ops Qp i (jO M0 w0 N s' e τ) a w
def Xg (i:Nat) (s:St) (tch:List Loc):Prop:=
 ∀ s' ρ a w K,(∀ x∈tch,s.agree s' x)->Sat M0 w0 N s' τ ρ a w->wpOp P ops Qp i K a w
def iQ (z:Option Nat):Nat->St->List Ep->List Oper->Prop
 | _,_,[],[]=>True
 | i,s,f::fs,o::os=>ops[i]? = some o/\f.r.after=bX o/\f.r.wr=f.e.wr /\
   (z=some i->Xg P N ops Qp M0 w0 τ i s f.r.tch) /\
   (z≠some i->FP P N ops Qp M0 w0 τ i s f.e f.r.tch\/∃ p,z=some p/\p∈f.r.after)/\iQ z (i+1) (s.app f.e) fs os
 | _,_,_,_=>False
end
section
variable {P:Program} {N:Nat} {ops:Array Oper} {Qp:Exit->Act->World->Prop} {M0:eG} {w0:World} {τ:Env} {z:Option Nat} {s:St} {fs:List Ep}
theorem iQ.length:∀ {i:Nat} {s:St} {fs:List Ep} {os:List Oper},iQ P N ops Qp M0 w0 τ z i s fs os->fs.length=os.length
 | _,_,[],[],_=>rfl
 | _,_,_::_,_::_,h=>by simp [h.2.2.2.2.2.length]
 | _,_,[],_::_,h=>h.elim
 | _,_,_::_,[],h=>h.elim
theorem iQ.get:∀ {i:Nat} {s:St} {fs:List Ep} {os:List Oper},iQ P N ops Qp M0 w0 τ z i s fs os->∀ (k:Nat) (f:Ep),fs[k]? = some f ->
  ∃ o,ops[i+k]? = some o/\f.r.after=bX o/\f.r.wr=f.e.wr/\(z=some (i+k)->Xg P N ops Qp M0 w0 τ (i+k) (s.apps ((fs.map (·.e)).take k)) f.r.tch) /\
    (z≠some (i+k)->FP P N ops Qp M0 w0 τ (i+k) (s.apps ((fs.map (·.e)).take k)) f.e f.r.tch\/∃ p,z=some p/\p∈f.r.after)
 | i,s,f0::fs,o::os,h,0,f,hf=>by
   simp only [List.getElem?_cons_zero,aN] at hf;subst hf;exact ⟨o,h.1,h.2.1,h.2.2.1,h.2.2.2.1,h.2.2.2.2.1⟩
 | i,s,f0::fs,o::os,h,k+1,f,hf=>by
   have:=h.2.2.2.2.2.get k f (by simpa using hf);have e1:i+1+k=i+(k+1):=by omega
   rw [e1] at this;exact this
 | _,_,[],_,_,k,f,hf=>by simp at hf
 | _,_,_::_,[],h,_,_,_=>h.elim
theorem nW {o:Oper} {j:Nat}:j∈bX o↔∃ e∈o.after,Region.binds .any e=true/\e.on=j:=by
 simp only [bX,eM,List.mem_filter,Array.mem_toList_iff]
 constructor
 .rintro ⟨e,⟨h1,h2⟩,h3⟩;exact ⟨e,h1,h2,h3⟩
 .rintro ⟨e,h1,h2,h3⟩;exact ⟨e,⟨h1,h2⟩,h3⟩
abbrev done (s:St) (fs:List Ep) (L:Nat->Bool):St:=s.apps (rN L 0 (fs.map (·.e)))
theorem VW (hF:iQ P N ops Qp M0 w0 τ z 0 s fs ops.toList) (hord:ordered (fs.map (·.r)).reverse=true)
  (hend:(∃ j,z=some j/\j<ops.size)\/(z=none/\∀ ρ a w,Sat M0 w0 N (s.apps (fs.map (·.e))) τ ρ a w->Qp .normal a w)) :
  ∀ (fuel:Nat) (listed:Array Bool) ρ a w,listed.size=ops.size ->
    (∀ (j:Nat) f,fs[j]? = some f->listed.getD j false=true->∀ x∈f.r.after,listed.getD x false=true) ->
    (∀ j,z=some j->listed.getD j false=false) ->
    ((List.range ops.size).filter fun j=>!listed.getD j true).length<=fuel ->
    Sat M0 w0 N (done s fs fun j=>listed.getD j false) τ ρ a w->wpAny P .any ops Qp fuel listed a w:=by
 have hlen:fs.length=ops.size:=by rw [hF.length];simp
 have hget:=hF.get;obtain ⟨ho1,ho2⟩:=wX hord;have hrec:∀ (j:Nat) f,fs[j]? = some f->(fs.map (·.r))[j]? = some f.r:=fun j f hf=>by rw [dL,hf];rfl
 have heff:∀ (j:Nat) f,fs[j]? = some f->(fs.map (·.e))[j]? = some f.e:=fun j f hf=>by rw [dL,hf];rfl
 have hfs:∀ j,j<ops.size->∃ f,fs[j]? = some f:=fun j hj=>⟨fs[j]'(by omega),cC (by omega)⟩
 have hdone:∀ (listed:Array Bool) ρ a w,listed.size=ops.size->(∀ j,z=some j->listed.getD j false=false)->Region.ready .any ops listed = [] ->
   Sat M0 w0 N (done s fs fun j=>listed.getD j false) τ ρ a w->Qp .normal a w:=by
  intro listed ρ a w hsz hst hr hsat
  have hall:∀ j,j<ops.size->listed.getD j false=true:=by
   intro j
   induction j using Nat.strongRecOn with
   | _ j ih=>
     intro hj;cases hl:listed.getD j false with
     | true=>rfl
     | false=>
       exfalso
       obtain ⟨f,hf⟩:=hfs j hj;obtain ⟨o,hoj,haft,_⟩:=hget j f hf;rw [Nat.zero_add] at hoj
       have:j∈Region.ready .any ops listed:=by
        rw [mem_ready];refine ⟨?_,o,hoj,fun e he hb=>?_⟩
        .have hjs:j<listed.size:=by omega
         simp only [Array.getD_eq_getD_getElem?,Array.getElem?_eq_getElem hjs,Option.getD_some] at hl ⊢;exact hl
        .have hm:e.on∈f.r.after:=by rw [haft];exact nW.2 ⟨e,he,hb,rfl⟩
         have hlt:=ho1 j f.r (hrec j f hf) e.on hm;exact ih e.on hlt (by omega)
       rw [hr] at this;cases this
  rcases hend with ⟨j,hz,hj⟩ | ⟨_,hq⟩
  .have:=hst j hz;rw [hall j hj] at this;cases this
  .refine hq ρ a w ?_
   have:done s fs (fun j=>listed.getD j false)=s.apps (fs.map (·.e)):=by
    show s.apps _=_;rw [Xx _ 0 _ fun j hj=>by rw [Nat.zero_add];exact hall j (by simpa [hlen] using hj)]
   rw [<-this];exact hsat
 intro fuel
 induction fuel with
 | zero=>
   intro listed ρ a w hsz hcl hst hfu hsat
   have hr:Region.ready .any ops listed = []:=by
    apply List.eq_nil_iff_forall_not_mem.2;intro j hj;rw [mem_ready] at hj;obtain ⟨h1,o,h2,_⟩:=hj;have hjs:j<ops.size:=(cS.1 h2).1
    have hm:j∈(List.range ops.size).filter fun j=>!listed.getD j true:=by
     rw [List.mem_filter];exact ⟨List.mem_range.2 hjs,by rw [h1];rfl⟩
    have hl:=List.length_pos_of_mem hm;omega
   exact ⟨hr,hdone listed ρ a w hsz hst hr hsat⟩
 | succ fuel ih=>
   intro listed ρ a w hsz hcl hst hfu hsat;refine ⟨fun hr=>hdone listed ρ a w hsz hst hr hsat,fun i hi=>?_⟩;have hi0:=hi;rw [mem_ready] at hi;obtain ⟨hl,o,hoi,haft⟩:=hi;have his:i<ops.size:=(cS.1 hoi).1;have hils:i<listed.size:=by omega
   have hlf:listed.getD i false=false:=by
    simp only [Array.getD_eq_getD_getElem?,Array.getElem?_eq_getElem hils,Option.getD_some] at hl ⊢;exact hl
   obtain ⟨f,hf⟩:=hfs i his;obtain ⟨o',hoi',hbind,hwr,hpan,hitem⟩:=hget i f hf;rw [Nat.zero_add] at hoi' hpan hitem;rw [hoi] at hoi';simp only [aN] at hoi';subst hoi'
   have hafl:∀ x∈f.r.after,listed.getD x false=true:=by
    intro x hx;rw [hbind,nW] at hx;obtain ⟨e,he,hb,rfl⟩:=hx;exact haft e he hb
   have hBr:∀ (r:Rec) (j:Nat),Bef (fs.map (·.r)) r j->(∀ x∈r.after,listed.getD x false=true)->listed.getD j false=true:=by
    intro r j h
    induction h with
    | now hj=>intro hg;exact hg _ hj
    | @via y i k x hk hx _ ih=>
      intro hg;rw [dL] at hx;cases hfk:fs[k]? with
      | none=>rw [hfk] at hx;cases hx
      | some g'=>
        rw [hfk] at hx;simp only [Option.map_some,aN] at hx;subst hx;exact ih (hcl k g' hfk (hg k hk))
   have hB:∀ (j:Nat) (g:Ep),(∀ x∈g.r.after,listed.getD x false=true)->Bef (fs.map (·.r)) g.r j->listed.getD j false=true:=
    fun j g hg h=>hBr g.r j h hg
   have hagree:∀ x∈f.r.tch,(s.apps ((fs.map (·.e)).take i)).agree (done s fs fun j=>listed.getD j false) x:=by
    intro x hx;have e1:=ZO (fs.map (·.e)) 0 i;simp only [Nat.zero_add] at e1;rw [<-e1];refine Yo fun j e he hw=>?_;rw [dL] at he;cases hfj:fs[j]? with
    | none=>rw [hfj] at he;cases he
    | some g=>
      rw [hfj] at he;simp only [Option.map_some,aN] at he;subst he;obtain ⟨_,_,_,hwrj,_,_⟩:=hget j g hfj;have hwj:x∈g.r.wr:=by rw [hwrj];exact uV hw
      by_cases hij:j=i
      .subst hij;simp [hlf]
      .have:=ho2 j i g.r f.r (hrec j g hfj) (hrec i f hf) hij x hwj (.inl hx);rcases Nat.lt_or_gt_of_ne hij with hlt | hgt
       .simp only [hlt,decide_true];exact (hB j f hafl (this.1 hlt)).symm
       .have hno:¬ j<i:=by omega
        simp only [hno,decide_false];cases hlj:listed.getD j false with
        | false=>rfl
        | true=>
          have:=hB i g (hcl j g hfj hlj) (this.2 hgt);rw [hlf] at this;cases this
   by_cases hz:z=some i
   .exact hpan hz _ ρ a w _ hagree hsat
   .rcases hitem hz with hit | ⟨p,hp,hpa⟩
    .refine wpOp_mono ?_ (hit _ ρ a w hagree hsat);rintro a' w' ⟨ρ',hs'⟩
     have hset:∀ j,(listed.setIfInBounds i true).getD j false=(listed.getD j false || j==i):=by
      intro j;by_cases hji:j=i
      .subst hji;simp [hils]
      .rw [getD_set_ne false (Ne.symm hji)];simp [hji]
     refine ih _ ρ' a' w' (by simpa using hsz) ?_ ?_ ?_ ?_
     .intro j g hg hlj x hx;rw [hset] at hlj ⊢;simp only [Bool.or_eq_true,beq_iff_eq] at hlj ⊢;rcases hlj with hlj | rfl
      .exact .inl (hcl j g hg hlj x hx)
      .rw [hf] at hg;simp only [aN] at hg;subst hg;exact .inl (hafl x hx)
     .intro j hj;rw [hset];have:j≠i:=by rintro rfl;exact hz hj
      simp [hst j hj,this]
     .have hlt:((List.range ops.size).filter fun j=>!(listed.setIfInBounds i true).getD j true).length<((List.range ops.size).filter fun j=>!listed.getD j true).length:=by
       have e1:((List.range ops.size).filter fun j=>!(listed.setIfInBounds i true).getD j true)=((List.range ops.size).filter fun j=>!listed.getD j true).filter fun j=>j != i:=by
        rw [List.filter_filter];apply List.filter_congr;intro j _;by_cases hji:j=i
        .subst hji;simp [hils]
        .rw [getD_set_ne true (Ne.symm hji)];simp [hji]
       rw [e1];rw [List.length_filter_lt_length_iff_exists];refine ⟨i,?_,by simp⟩;rw [List.mem_filter];exact ⟨List.mem_range.2 his,by rw [hl];rfl⟩
      omega
     .refine hs'.more (heff i f hf) hlf hset ?_;intro x j e' hij he' hw1 hw2;rw [dL] at he';cases hfj:fs[j]? with
      | none=>rw [hfj] at he';cases he'
      | some g=>
        rw [hfj] at he';simp only [Option.map_some,aN] at he';subst he';obtain ⟨_,_,_,hwrj,_,_⟩:=hget j g hfj;have:=ho2 i j f.r g.r (hrec i f hf) (hrec j g hfj) (by omega) x (by rw [hwr];exact uV hw1) (.inr (by rw [hwrj];exact uV hw2));cases hlj:listed.getD j false with
        | false=>rfl
        | true=>
          have:=hB i g (hcl j g hfj hlj) (this.1 hij);rw [hlf] at this;cases this
    .have:=hst p hp;rw [hafl p hpa] at this;cases this
theorem EY (s:St):∀ x,s.agree s x
 | .t _=>rfl
 | .b _=>rfl
 | .s _=>rfl
theorem XQ (s:St) (e:fU):∀ (es:List fU) ,s.apps (es ++ [e])=(s.apps es).app e:=by
 intro es
 induction es generalizing s with
 | nil=>rfl
 | cons x es ih=>exact ih (s.app x)
theorem VN (hF:iQ P N ops Qp M0 w0 τ z 0 s fs ops.toList) (hord:ordered (fs.map (·.r)).reverse=true)
  (hend:(∃ j,z=some j/\j<ops.size)\/(z=none/\∀ ρ a w,Sat M0 w0 N (s.apps (fs.map (·.e))) τ ρ a w->Qp .normal a w)) :
  ∀ (d k:Nat) ρ a w,k+d=ops.size->(∀ j,z=some j->k<=j)->Sat M0 w0 N (s.apps ((fs.map (·.e)).take k)) τ ρ a w->wpOps P ops Qp (List.range' k d) a w:=by
 have hlen:fs.length=ops.size:=by rw [hF.length];simp
 have hget:=hF.get;obtain ⟨ho1,_⟩:=wX hord;intro d
 induction d with
 | zero=>
   intro k ρ a w hk hz hsat;show Qp .normal a w;rcases hend with ⟨j,hj,hlt⟩ | ⟨_,hq⟩
   .have:=hz j hj;omega
   .refine hq ρ a w ?_;rw [List.take_of_length_le (by simp [hlen];omega)] at hsat;exact hsat
 | succ d ih=>
   intro k ρ a w hk hz hsat;rw [List.range'_succ,wpOps_cons];have hfk:fs[k]? = some (fs[k]'(by omega)):=cC (by omega);generalize fs[k]'(by omega)=f at hfk;obtain ⟨o,hoi,hbind,hwr,hpan,hitem⟩:=hget k f hfk;rw [Nat.zero_add] at hoi hpan hitem;by_cases hzk:z=some k
   .exact hpan hzk _ ρ a w _ (fun x _=>EY _ x) hsat
   .rcases hitem hzk with hit | ⟨p,hp,hpa⟩
    .refine wpOp_mono ?_ (hit _ ρ a w (fun x _=>EY _ x) hsat);rintro a' w' ⟨ρ',hs'⟩;refine ih (k+1) ρ' a' w' (by omega) (fun j hj=>?_) ?_
     .have:=hz j hj;have:j≠k:=by rintro rfl;exact hzk hj
      omega
     .have e1:(fs.map (·.e)).take (k+1)=(fs.map (·.e)).take k ++ [f.e]:=by
       rw [List.take_add_one,dL,hfk];rfl
      rw [e1,XQ];exact hs'
    .have h1:=hz p hp;have h2:=ho1 k f.r (by rw [dL,hfk];rfl) p hpa;omega
end
open Go.RowKit (Below)
def iJ (τ:Env) (dec:BH):Prop:=∀ x∈dec,c0 τ (.u x.1 x.2.1) = .bool x.2.2
theorem iJ.ext {τ:Env} {dec:BH} (h:iJ τ dec) (m:Env):iJ (τ++m) dec:=fun x hx=>cZ (h x hx) rfl
theorem ag6 {τ:Env} {dec:BH} (h:iJ τ dec) {c:C0} {β:Bool} (hk:known dec c=some β):c0 τ c = .bool β:=by
 unfold known at hk;split at hk
 .simp only [aN] at hk;subst hk;rfl
 .rename_i i j;cases hf:dec.find? fun x=>x.1==i&&x.2.1==j with
  | none=>rw [hf] at hk;cases hk
  | some x=>
    rw [hf] at hk;simp only [Option.map_some,aN] at hk;have h1:=List.find?_some hf;simp only [Bool.and_eq_true,beq_iff_eq] at h1;have h2:=h x (List.mem_of_find?_eq_some hf);rw [h1.1,h1.2,hk] at h2;exact h2
 .cases hk
theorem Hu {P:Program} {post:Out->Prop} {bk:List (List aJ->Prop)} {τ:Env} {dec:BH} (h:iJ τ dec) {c:C0} {kk:Bool->BH->Tr} (hv:vc P post (parts dec c kk) τ bk) :
  ∃ β dec',c0 τ c = .bool β/\iJ τ dec'/\vc P post (kk β dec') τ bk:=by
 unfold parts at hv;split at hv
 .rename_i β hk;exact ⟨β,dec,ag6 h hk,h,hv⟩
 .obtain ⟨β,hc,ht,hf⟩:=hv
  have hl:iJ τ (Xi dec β c):=by
   unfold Xi;split
   .intro x hx;rcases List.mem_cons.1 hx with rfl | hx
    .exact hc
    .exact h x hx
   .exact h
  cases β with
  | true=>exact ⟨true,_,hc,hl,ht rfl⟩
  | false=>exact ⟨false,_,hc,hl,hf rfl⟩
section
variable {P:Program} {N:Nat} {ops:Array Oper} {Qp:Exit->Act->World->Prop} {M0:eG} {w0 w:World} {τ:Env} {s s':St} {ρ:Nat->Gh} {a:Act} {o:Oper} {i:Nat} {post:Out->Prop} {bk:List (List aJ->Prop)}
theorem Dc (h:Sat M0 w0 N s τ ρ a w) {d:Nat} {c:C0} {β:Bool} (ht:mJ s d=some c) (hc:c0 τ c = .bool β):a.tmps.getD d Go.undef = .bool β:=by
 have hv:=h.tm d;unfold mJ at ht;split at ht
 .rename_i c' hs;simp only [aN] at ht;subst ht;rw [hs] at hv;have hv:(c0 τ c').rep _ w _:=hv;rw [hc] at hv;exact hv.1
 .cases ht
theorem AW {tmps:Array Value} {j d:Nat} {β:Bool} (hd:(ops[j]?).bind (·.dst)=some d) (hv:tmps.getD d Go.undef = .bool β):yielded ops tmps j=some β:=by
 unfold yielded;rw [hd];simp only [Option.bind_some];rw [Array.getD_eq_getD_getElem?] at hv;cases hx:tmps[d]? with
 | none=>rw [hx] at hv;simp [Go.undef] at hv
 | some x=>rw [hx] at hv;simp only [Option.getD_some] at hv;subst hv;rfl
theorem Jc {tmps:Array Value} {j d:Nat} (hd:(ops[j]?).bind (·.dst)=some d) (hv:tmps.getD d Go.undef=Go.undef):yielded ops tmps j=none:=by
 unfold yielded;rw [hd];simp only [Option.bind_some];rw [Array.getD_eq_getD_getElem?] at hv;cases hx:tmps[d]? with
 | none=>rfl
 | some x=>rw [hx] at hv;simp only [Option.getD_some] at hv;subst hv;rfl
theorem pS {d:Nat} (h:s'.t d=s.t d):mJ s' d=mJ s d:=by simp only [mJ,h]
def Pp (ops:Array Oper) (τ:Env) (s:St) (o:Oper) (tch:List Loc):Prop:=
 o.guard=none\/∃ j want d c,o.guard=some (j,want)/\(ops[j]?).bind (·.dst)=some d /\ .t d∈tch/\mJ s d=some c/\c0 τ c = .bool want
theorem Pp.ext {tch:List Loc} (h:Pp ops τ s o tch) (m:Env):Pp ops (τ++m) s o tch:=by
 rcases h with h | ⟨j,want,d,c,h1,h2,h3,h4,h5⟩
 .exact .inl h
 .exact .inr ⟨j,want,d,c,h1,h2,h3,h4,cZ h5 rfl⟩
theorem Pp.wanted {tch:List Loc} (h:Pp ops τ s o tch) (ha:∀ x∈tch,s.agree s' x) (hs:Sat M0 w0 N s' τ ρ a w):Region.wanted o (yielded ops a.tmps)=true:=by
 unfold Region.wanted;rcases h with h | ⟨j,want,d,c,h1,h2,h3,h4,h5⟩
 .rw [h]
 .rw [h1];have e:s'.t d=s.t d:=ha _ h3;simp only [AW h2 (Dc hs ((pS e).trans h4) h5),beq_self_eq_true]
theorem wT {e:fU} {tch:List Loc} (hoi:ops[i]? = some o) (hr:Pp ops τ s o tch)
  (h:∀ s' ρ a w,(∀ x∈tch,s.agree s' x)->Sat M0 w0 N s' τ ρ a w->o.wp P a w (jO M0 w0 N s' e τ) Qp):FP P N ops Qp M0 w0 τ i s e tch:=by
 intro s' ρ a w ha hs;unfold wpOp;simp only [hoi,hr.wanted ha hs,if_true];exact .inl (h s' ρ a w ha hs)
theorem WA {tch:List Loc} (hoi:ops[i]? = some o) (hr:Pp ops τ s o tch)
  (h:∀ s' ρ a w K,(∀ x∈tch,s.agree s' x)->Sat M0 w0 N s' τ ρ a w->o.wp P a w K Qp):Xg P N ops Qp M0 w0 τ i s tch:=by
 intro s' ρ a w K ha hs;unfold wpOp;simp only [hoi,hr.wanted ha hs,if_true];exact .inl (h s' ρ a w K ha hs)
theorem Yn {tch:List Loc} (hoi:ops[i]? = some o) (hdst:cN N o=true) {j d:Nat} {want:Bool} (hg:o.guard=some (j,want)) (hd:(ops[j]?).bind (·.dst)=some d) (ht:.t d∈tch)
  (h:s.t d = .undef\/∃ c β,mJ s d=some c/\c0 τ c = .bool β/\β≠want):FP P N ops Qp M0 w0 τ i s ⟨put o .undef,[],[]⟩ tch:=by
 intro s' ρ a w ha hs;have e:s'.t d=s.t d:=ha _ ht
 have hw:Region.wanted o (yielded ops a.tmps)=false:=by
  unfold Region.wanted;rw [hg];rcases h with h | ⟨c,β,h1,h2,h3⟩
  .have hv:=hs.tm d;rw [e,h] at hv;simp only [Jc hd hv];rfl
  .simp only [AW hd (Dc hs ((pS e).trans h1) h2)]
   simpa using h3
 unfold wpOp;simp only [hoi,hw,Bool.false_eq_true,if_false];exact ⟨ρ,hs.pure hdst rfl⟩
theorem LA {ni:Nat} {pre post:List Operand} {x:Operand} {e:fU} {nd:dY} {c:aD} (hq:(yF P o ni pre x post).run s=some (e,nd)) (hn:tM P τ nd c):False:=by
 obtain ⟨_,_,h2⟩:=Q.bind_some hq;obtain ⟨_,_,h4⟩:=Q.bind_some h2;obtain ⟨_,_,h6⟩:=Q.bind_some h4;obtain ⟨_,_,h8⟩:=Q.bind_some h6;obtain ⟨_,_,h10⟩:=Q.bind_some h8;obtain ⟨_,_,h12⟩:=Q.bind_some h10;obtain ⟨_,_,h14⟩:=Q.bind_some h12;obtain ⟨_,_,h16⟩:=Q.bind_some h14;obtain ⟨_,_,h18⟩:=Q.bind_some h16;obtain ⟨_,_,h20⟩:=Q.bind_some h18;simp only [Q.run_pure,aN] at h20;obtain ⟨_,rfl⟩:=Prod.mk.inj h20;exact hn
theorem CJ {ni:Nat} {pre post:List Operand} {x:Operand} {e:fU} {f:Nat} {args:List SW} {sh:List (Option Nat)} (hq:(yF P o ni pre x post).run s=some (e, .call f args sh)):False:=by
 obtain ⟨_,_,h2⟩:=Q.bind_some hq;obtain ⟨_,_,h4⟩:=Q.bind_some h2;obtain ⟨_,_,h6⟩:=Q.bind_some h4;obtain ⟨_,_,h8⟩:=Q.bind_some h6;obtain ⟨_,_,h10⟩:=Q.bind_some h8;obtain ⟨_,_,h12⟩:=Q.bind_some h10;obtain ⟨_,_,h14⟩:=Q.bind_some h12;obtain ⟨_,_,h16⟩:=Q.bind_some h14;obtain ⟨_,_,h18⟩:=Q.bind_some h16;obtain ⟨_,_,h20⟩:=Q.bind_some h18;simp only [Q.run_pure,aN] at h20;obtain ⟨_,h⟩:=Prod.mk.inj h20;cases h
theorem ZR (h:Sat M0 w0 N s τ ρ a w) {nb ni:Nat} {e:fU} {nd:dY} {c:aD} {K:Act->World->Prop} (hcv:fT o=true) (hq:(step P o nb ni).run s=some (e,nd)) (hn:tM P τ nd c)
  (hQ:∀ v w',Kept M0 w0 w'->c.rep M0.M w' v->Qp (.panic [{ v,recovered:=false }]) a w'):o.wp P a w K Qp:=by
 have hQ':∀ (s':St) v w',Below w.heap.size w w'->c.rep (Ms M0 ρ s') w' v->Qp (.panic [{ v,recovered:=false }]) a w':=by
  intro s' v w' hb hr;exact hQ v w' (h.below.and hb) (aD.mono _ (fun b o hb ho _=>⟨fun hm=>hb (.inl hm),ho⟩) hr)
 have one:∀ {cl:Call} {x:Operand} {f:Nat} {caps:List CR} {cvs:List Value},o.op = .call cl->cl.callee = .value x->a.eval x = .func (.func f) #[] cvs.toArray->bA (Ms M0 ρ s) w (caps.map (Va τ)) cvs ->
   (Uf P o ni f cl.args.toList caps).run s=some (e,nd)->o.wp P a w K Qp:=by
  intro cl x f caps cvs ho hc hx hcv hq;obtain ⟨⟨as,sl⟩,h1,h2⟩:=Q.bind_some hq;obtain ⟨sh,h3,h4⟩:=Q.bind_some h2;obtain ⟨_,h5,h6⟩:=Q.bind_some h4;simp only [Q.run_pure,aN] at h6;obtain ⟨rfl,rfl⟩:=Prod.mk.inj h6;have hdo:aQ P f ((as++caps.map bm0).map (nU τ)) (.pan c):=hn;rw [List.map_append,xB] at hdo;have hS:=cP.mQ h (tm:=put o (lA ni sh)) (sl:=sl);exact Rx h ho hc hx (iE h h1 hS) (hcv.mono hS.eE) hdo (hQ' _)
 unfold step at hq;unfold fT at hcv;split at hcv
 .rename_i cl ho;split at hcv
  .rename_i x hc;rw [ho] at hq;simp only [hc] at hq;split at hq
   .rename_i f hx';simp only [Callee.value.injEq] at hx';subst hx';split at hq
    .split at hq
     .obtain ⟨_,_,hq⟩:=Q.bind_some hq;exact (LA hq hn).elim
     .cases hq
    .exact one ho hc (caps:=[]) (cvs:=[]) rfl (show bA _ _ [] [] from trivial) hq
   .rename_i x' _ hx';obtain ⟨g,h1,h2⟩:=Q.bind_some hq;simp only [Callee.value.injEq] at hx';subst hx';have hx:=dZ h h1;cases g with
    | fP f caps=>
      obtain ⟨vs,hv,hr⟩:=hx;exact one ho hc hv hr h2
    | c y=>
      obtain ⟨⟨as,sl⟩,h3,h4⟩:=Q.bind_some h2;obtain ⟨sh,h5,h6⟩:=Q.bind_some h4;simp only [Q.run_pure,aN] at h6;obtain ⟨rfl,rfl⟩:=Prod.mk.inj h6;obtain ⟨f,caps,hy,hdo⟩:=hn;have hx':(c0 τ y).rep (Ms M0 ρ s) w (a.eval x):=hx;rw [hy] at hx';obtain ⟨vs,hv,hr⟩:=hx';have hS:=cP.mQ h (tm:=put o (lA ni sh)) (sl:=sl);exact Rx h ho hc hv (iE h h3 hS) (hr.mono hS.eE) hdo (hQ' _)
    | p _ _=>cases h2
    | ref _ _=>cases h2
    | r _=>cases h2
    | rp _ _ _ _=>cases h2
    | rs _ _ _ _=>cases h2
   .rename_i hx';cases hx'
   .rename_i hx';cases hx'
   .rename_i hx';cases hx'
   .rename_i hx';cases hx'
   .rename_i hx';cases hx'
  .cases hcv
 .cases hcv
theorem XO {τ:Env} {last:Bool} {nd:dY} {k:Tr} (h:vc P post (DC o last k nd) τ bk) :
  (∃ news,rI P τ o.op o.type nd news/\news.length=nd.ids/\vc P post k (τ++news) bk)\/(last=true/\∃ c,tM P τ nd c/\post (.pan c)) \/
   (∃ f args sh news,nd = .call f args sh/\fT o=true/\news.map aJ.shape=sh.map some/\post (.IT f (args.map (nU τ)) news)/\vc P post k (τ++news) bk):=by
 have key:∀ nd,vc P post (.need nd o.op o.type last k) τ bk->(∃ news,rI P τ o.op o.type nd news/\news.length=nd.ids/\vc P post k (τ++news) bk)\/(last=true/\∃ c,tM P τ nd c/\post (.pan c)) \/
   (∃ f args sh news,nd = .call f args sh/\fT o=true/\news.map aJ.shape=sh.map some/\post (.IT f (args.map (nU τ)) news)/\vc P post k (τ++news) bk):=by
  rintro nd (h | h | ⟨f,args,sh,news,h1,⟨cl,x,h2,h3⟩,h4⟩)
  .exact .inl h
  .exact .inr (.inl h)
  .exact .inr (.inr ⟨f,args,sh,news,h1,by unfold fT;rw [h2];simp only [h3],h4⟩)
 cases nd with
 | none=>exact .inl ⟨[],rfl,rfl,by rw [List.append_nil];exact h⟩
 | _=>exact key _ h
theorem ZK (h:Sat M0 w0 N s τ ρ a w) {nb ni f:Nat} {e:fU} {args:List SW} {sh:List (Option Nat)} {news:List aJ} (hd:cN N o=true) (hcv:fT o=true) (hq:(step P o nb ni).run s=some (e, .call f args sh))
  (hsh:news.map aJ.shape=sh.map some) (hτ:∀ j t,news[j]? = some t->τ[ni+j]? = some t)
  (hdo:(∀ as w,(callFunc f as).run P w = .ok (.enter f as) w)/\∀ (M:Nat->Prop) (w:World) (vs:List Value),Kept M0 w0 w->cK M w->cD M w (args.map (nU τ)) vs->Calls P f vs.toArray w fun e w'=>Below w.heap.size w w'/\rA M w' (.ret news) e):o.wp P a w (jO M0 w0 N s e τ) Qp:=by
 have one:∀ {cl:Call} {x:Operand} {f':Nat} {caps:List CR} {cvs:List Value},o.op = .call cl->cl.callee = .value x->a.eval x = .func (.func f') #[] cvs.toArray->bA (Ms M0 ρ s) w (caps.map (Va τ)) cvs ->
   (Uf P o ni f' cl.args.toList caps).run s=some (e, .call f args sh)->o.wp P a w (jO M0 w0 N s e τ) Qp:=by
  intro cl x f' caps cvs ho hc hx hcv hq;obtain ⟨⟨as,sl⟩,h1,h2⟩:=Q.bind_some hq;obtain ⟨sh',h3,h4⟩:=Q.bind_some h2;obtain ⟨_,h5,h6⟩:=Q.bind_some h4;simp only [Q.run_pure,aN] at h6;obtain ⟨rfl,h7⟩:=Prod.mk.inj h6;simp only [dY.call.injEq] at h7;obtain ⟨rfl,rfl,rfl⟩:=h7;rw [List.map_append,xB] at hdo;have hS:=cP.mQ h (tm:=put o (lA ni sh')) (sl:=sl);unfold Oper.wp;rw [rX ho hc hx hdo.1];rw [Oper.upon_enter];refine (hdo.2 _ w _ h.below (h.zJ.sub hS.sub) ((iE h h1 hS).append (cD.yK (hcv.mono hS.eE)))).mono ?_;rintro e w' ⟨hb,vs,rfl,hr⟩;exact ⟨ρ,h.calls hd hb (Fz hsh hτ hr)⟩
 unfold step at hq;unfold fT at hcv;split at hcv
 .rename_i cl ho;split at hcv
  .rename_i x hc;rw [ho] at hq;simp only [hc] at hq;split at hq
   .rename_i f' hx';simp only [Callee.value.injEq] at hx';subst hx';split at hq
    .split at hq
     .obtain ⟨_,_,hq⟩:=Q.bind_some hq;exact (CJ hq).elim
     .cases hq
    .exact one ho hc (caps:=[]) (cvs:=[]) rfl (show bA _ _ [] [] from trivial) hq
   .rename_i x' _ hx';obtain ⟨g,h1,h2⟩:=Q.bind_some hq;simp only [Callee.value.injEq] at hx';subst hx';have hx:=dZ h h1;cases g with
    | fP f' caps=>
      obtain ⟨vs,hv,hr⟩:=hx;exact one ho hc hv hr h2
    | c y=>
      obtain ⟨⟨as,sl⟩,h3,h4⟩:=Q.bind_some h2;obtain ⟨sh',h5,h6⟩:=Q.bind_some h4;simp only [Q.run_pure,aN] at h6;obtain ⟨_,h7⟩:=Prod.mk.inj h6;cases h7
    | p _ _=>cases h2
    | ref _ _=>cases h2
    | r _=>cases h2
    | rp _ _ _ _=>cases h2
    | rs _ _ _ _=>cases h2
   .rename_i hx';cases hx'
   .rename_i hx';cases hx'
   .rename_i hx';cases hx'
   .rename_i hx';cases hx'
   .rename_i hx';cases hx'
  .cases hcv
 .cases hcv
def mL (i:Nat) (o:Oper):Ep:=
 ⟨⟨if (bX o).contains i then [] else o.dst.toList.map fun d=>(d, .junk),[],[]⟩,⟨bX o,[],if (bX o).contains i then [] else o.dst.toList.map .t⟩⟩
theorem WY {dV:List Rec}:∀ {rest:List Oper} {k:Nat} {s:St},(∀ j,rest[j]? = ops[k+j]?)->i<k->(rest.all fun o=>(bX o).contains i || (match o.op with | .alloc T=>o.guard.isNone&&(nR P T).isSome&&cN N o | .move (.const _)=>o.guard.isNone&&cN N o | _=>false))=true ->
  iQ P N ops Qp M0 w0 τ (some i) k s (rest.map (mL i)) rest
 | [],_,_,_,_,_=>trivial
 | o::rest,k,s,hl,hk,h=>by
   simp only [List.all_cons,Bool.and_eq_true] at h;have hoi:ops[k]? = some o:=by have:=hl 0;simpa using this.symm
   refine ⟨hoi,rfl,?_,fun hz=>?_,fun _=>?_,WY (dV:=dV) (fun j=>?_) (by omega) h.2⟩
   .unfold mL;cases hc:(bX o).contains i
    .simp only [hc,Bool.false_eq_true,if_false,fU.wr,List.map_nil,List.append_nil,List.map_map];rfl
    .simp only [hc,if_true,fU.wr,List.map_nil,List.append_nil]
   .simp only [aN] at hz;omega
   .by_cases hc:(bX o).contains i
    .exact .inr ⟨i,rfl,show i∈bX o by simpa using hc⟩
    .left
     have h1:=h.1;simp only [hc,Bool.false_or] at h1;split at h1
     .rename_i T ho;simp only [Bool.and_eq_true,Option.isNone_iff_eq_none] at h1;obtain ⟨⟨hg,hz⟩,hd⟩:=h1;obtain ⟨z,hz⟩:=Option.isSome_iff_exists.1 hz;obtain ⟨ti,zv,hi,hz2,hzc,h1',_⟩:=fE hz
      have e1:(mL i o).e=⟨put o .junk,[],[]⟩:=by
       unfold mL put;simp only [hc,Bool.false_eq_true,if_false];cases o.dst<;>rfl
      rw [e1];refine wT hoi (.inl hg) fun s' ρ a w _ hs=>?_
      have hr:(execOp a.eval o).run P w = .ok (.value (.pointer (some ⟨w.heap.size,0,none⟩))) (w.alloc (.cells z.toArray T)):=by
       simp [execOp,ho,Instr.alloc,zeroValue,typeInfo,hi,hz2,newVar,newRow,hzc]
      exact bV hr ⟨ρ,hs.calls hd ((Below.refl _ w).alloc (aY _) _) trivial⟩
     .rename_i x ho;simp only [Bool.and_eq_true,Option.isNone_iff_eq_none] at h1
      have e1:(mL i o).e=⟨put o .junk,[],[]⟩:=by
       unfold mL put;simp only [hc,Bool.false_eq_true,if_false];cases o.dst<;>rfl
      rw [e1];refine wT hoi (.inl h1.1) fun s' ρ a w _ hs=>?_
      have hr:(execOp a.eval o).run P w = .ok (.value x) w:=by
       simp [execOp,ho,Act.eval]
      exact bV hr ⟨ρ,hs.calls h1.2 (Below.refl _ w) trivial⟩
     .cases h1
   .have:=hl (j+1);rw [show k+1+j=k+(j+1) by omega,<-this];rfl
theorem an3 {t:Nat} {x y:Operand} {β:Bool} (ho:o.op = .pick (.tmp t) x y) (ht:a.tmps.getD t Go.undef = .bool β):(execOp a.eval o).run P w = .ok (.value (a.eval (if β then x else y))) w:=by
 have:a.eval (.tmp t) = .bool β:=ht;cases β<;>simp [execOp,ho,this,asBool]
theorem Zf {x:Operand} {T:Nat} {u:Value} (ho:o.op = .panic x) (hx:a.eval x = .iface T u):(execOp a.eval o).run P w = .halt (.panic (.iface T u)) w:=by
 simp [execOp,ho,hx,Instr.panic,goPanic,Sem.run]
theorem CZ {k:Nat->Nat->St->BH->List Rec->Tr}
  (hpan:∀ c v a w,post (.pan c)->c.rep M0.M w v->Kept M0 w0 w->a.defers = []->Qp (.panic [{ v,recovered:=false }]) a w)
  (horc:∀ f args news,post (.IT f args news)->(∀ as w,(callFunc f as).run P w = .ok (.enter f as) w)/\∀ (M:Nat->Prop) (w:World) (vs:List Value),Kept M0 w0 w->cK M w->cD M w args vs->Calls P f vs.toArray w fun e w'=>Below w.heap.size w w'/\rA M w' (.ret news) e) :
  ∀ (l:List Oper) (i nb ni:Nat) (s:St) (dec:BH) (dV:List Rec) (τ:Env),vc P post (jZ P N ops l i nb ni s dec dV k) τ bk->τ.length=ni->iJ τ dec->(∀ j,l[j]? = ops[i+j]?) ->
    (∃ m fs nb' dec',iQ P N ops Qp M0 w0 (τ++m) none i s fs l/\iJ (τ++m) dec'/\vc P post (k nb' (τ++m).length (s.apps (fs.map (·.e))) dec' ((fs.map (·.r)).reverse++dV)) (τ++m) bk) \/
    (∃ m fs z,iQ P N ops Qp M0 w0 (τ++m) (some z) i s fs l/\i<=z/\z<i+l.length/\ordered ((fs.map (·.r)).reverse++dV)=true)
 | [],i,nb,ni,s,dec,dV,τ,h,hn,hd,hl=>by
   refine .inl ⟨[],[],nb,dec,trivial,by rw [List.append_nil];exact hd,?_⟩;rw [List.append_nil,hn];exact h
 | o::rest,i,nb,ni,s,dec,dV,τ,h,hn,hd,hl=>by
   have hoi:ops[i]? = some o:=by have:=hl 0;simpa using this.symm
   have hrest:∀ j,rest[j]? = ops[i+1+j]?:=fun j=>by
    have:=hl (j+1);rw [show i+1+j=i+(j+1) by omega,<-this];rfl
   have cons:∀ (m1:Env) (f:Ep) (nb1:Nat) (dec1:BH),f.r.after=bX o->f.r.wr=f.e.wr->(∀ m',FP P N ops Qp M0 w0 ((τ++m1)++m') i s f.e f.r.tch)->iJ (τ++m1) dec1 ->
     vc P post (jZ P N ops rest (i+1) nb1 (τ++m1).length (s.app f.e) dec1 (f.r::dV) k) (τ++m1) bk ->
     (∃ m fs nb' dec',iQ P N ops Qp M0 w0 (τ++m) none i s fs (o::rest)/\iJ (τ++m) dec'/\vc P post (k nb' (τ++m).length (s.apps (fs.map (·.e))) dec' ((fs.map (·.r)).reverse++dV)) (τ++m) bk) \/
     (∃ m fs z,iQ P N ops Qp M0 w0 (τ++m) (some z) i s fs (o::rest)/\i<=z/\z<i+(o::rest).length/\ordered ((fs.map (·.r)).reverse++dV)=true):=by
    intro m1 f nb1 dec1 hb hwr hit hd1 hv;rcases CZ hpan horc rest (i+1) nb1 _ (s.app f.e) dec1 (f.r::dV) (τ++m1) hv rfl hd1 hrest with ⟨m,fs,nb',dec',h1,h2,h3⟩ | ⟨m,fs,z,h1,h2,h3,h4⟩
    .refine .inl ⟨m1++m,f::fs,nb',dec',?_,?_,?_⟩
     .rw [<-List.append_assoc];exact ⟨hoi,hb,hwr,(fun hz=>by cases hz),fun _=>.inl (hit m),h1⟩
     .rw [<-List.append_assoc];exact h2
     .rw [<-List.append_assoc];simp only [List.map_cons,List.reverse_cons,List.append_assoc,List.singleton_append] at h3 ⊢;exact h3
    .refine .inr ⟨m1++m,f::fs,z,?_,by omega,by simp only [List.length_cons];omega,?_⟩
     .rw [<-List.append_assoc];refine ⟨hoi,hb,hwr,fun hz=>?_,fun _=>.inl (hit m),h1⟩;simp only [aN] at hz;omega
     .simp only [List.map_cons,List.reverse_cons,List.append_assoc,List.singleton_append] at h4 ⊢;exact h4
   have pan:∀ (f:Ep),f.r.after=bX o->f.r.wr=f.e.wr->Xg P N ops Qp M0 w0 τ i s f.r.tch->rJ P N i rest (f.r::dV)=true ->
     (∃ m fs nb' dec',iQ P N ops Qp M0 w0 (τ++m) none i s fs (o::rest)/\iJ (τ++m) dec'/\vc P post (k nb' (τ++m).length (s.apps (fs.map (·.e))) dec' ((fs.map (·.r)).reverse++dV)) (τ++m) bk) \/
     (∃ m fs z,iQ P N ops Qp M0 w0 (τ++m) (some z) i s fs (o::rest)/\i<=z/\z<i+(o::rest).length/\ordered ((fs.map (·.r)).reverse++dV)=true):=by
    intro f hb hwr hp hlast;unfold rJ at hlast;simp only [Bool.and_eq_true] at hlast;refine .inr ⟨[],f::rest.map (mL i),i,?_,aY _,by simp,?_⟩
    .rw [List.append_nil];exact ⟨hoi,hb,hwr,fun _=>hp,fun hz=>absurd rfl hz,WY (dV:=dV) hrest (Nat.lt_succ_self i) hlast.1⟩
    .have:=hlast.2;simp only [List.map_cons,List.reverse_cons,List.append_assoc,List.singleton_append,List.map_map] at this ⊢;exact this
   have skip:∀ (j d:Nat) (want:Bool) (dec1:BH),o.guard=some (j,want)->(ops[j]?).bind (·.dst)=some d->iJ τ dec1->(s.t d = .undef\/∃ c β,mJ s d=some c/\c0 τ c = .bool β/\β≠want) ->
     vc P post (if cN N o then jZ P N ops rest (i+1) nb ni (s.app ⟨put o .undef,[],[]⟩) dec1 (⟨bX o,[.t d],(put o .undef).map fun x=>.t x.1⟩::dV) k else .fail i) τ bk ->
     (∃ m fs nb' dec',iQ P N ops Qp M0 w0 (τ++m) none i s fs (o::rest)/\iJ (τ++m) dec'/\vc P post (k nb' (τ++m).length (s.apps (fs.map (·.e))) dec' ((fs.map (·.r)).reverse++dV)) (τ++m) bk) \/
     (∃ m fs z,iQ P N ops Qp M0 w0 (τ++m) (some z) i s fs (o::rest)/\i<=z/\z<i+(o::rest).length/\ordered ((fs.map (·.r)).reverse++dV)=true):=by
    intro j d want dec1 hg hj hd1 hc hv;split at hv
    .rename_i hdst;refine cons [] ⟨⟨put o .undef,[],[]⟩,⟨bX o,[.t d],(put o .undef).map fun x=>.t x.1⟩⟩ nb dec1 rfl (by simp [fU.wr]) (fun m'=>?_) (by rw [List.append_nil];exact hd1) (by rw [List.append_nil,hn];exact hv);refine Yn hoi hdst hg hj (by simp) ?_;rcases hc with hc | ⟨c,β,h1,h2,h3⟩
     .exact .inl hc
     .exact .inr ⟨c,β,h1,cZ (cZ h2 rfl) rfl,h3⟩
    .exact hv.elim
   have go:∀ (gl:List Loc) (dec1:BH) (q:Q (fU×dY)),iJ τ dec1->Pp ops τ s o gl ->
     (∀ τ' s' ρ a w e nd,(∃ m,τ'=τ++m)->(∀ x∈gl,s.agree s' x)->q.run s'=some (e,nd)->cN N o=true->iO P τ' o.op o.type nd ni->Sat M0 w0 N s' τ' ρ a w->o.wp P a w (jO M0 w0 N s' e τ') Qp) ->
     (∀ s' ρ a w e nd c K,(∀ x∈gl,s.agree s' x)->fT o=true->q.run s'=some (e,nd)->tM P τ nd c->post (.pan c)->Sat M0 w0 N s' τ ρ a w->o.wp P a w K Qp) ->
     (∀ τ' s' ρ a w e f args sh news,(∀ x∈gl,s.agree s' x)->fT o=true->q.run s'=some (e, .call f args sh)->cN N o=true->news.map aJ.shape=sh.map some->(∀ j t,news[j]? = some t->τ'[ni+j]? = some t)->post (.IT f (args.map (nU τ')) news)->Sat M0 w0 N s' τ' ρ a w->o.wp P a w (jO M0 w0 N s' e τ') Qp) ->
     vc P post (match q.run s with
      | none=>.fail i
      | some (e,nd)=>if cN N o&&nd.ok ni then
        let dV:=⟨bX o,gl++q.log s,e.wr⟩::dV
        DC o (fT o&&rJ P N i rest dV) (jZ P N ops rest (i+1) (nb+1) (ni+nd.ids) (s.app e) dec1 dV k) nd else .fail i) τ bk ->
     (∃ m fs nb' dec',iQ P N ops Qp M0 w0 (τ++m) none i s fs (o::rest)/\iJ (τ++m) dec'/\vc P post (k nb' (τ++m).length (s.apps (fs.map (·.e))) dec' ((fs.map (·.r)).reverse++dV)) (τ++m) bk) \/
     (∃ m fs z,iQ P N ops Qp M0 w0 (τ++m) (some z) i s fs (o::rest)/\i<=z/\z<i+(o::rest).length/\ordered ((fs.map (·.r)).reverse++dV)=true):=by
    intro gl dec1 q hd1 hruns hsem hsemp hsemo hv;cases hq:q.run s with
    | none=>rw [hq] at hv;exact hv.elim
    | some ends=>
      obtain ⟨e,nd⟩:=ends;rw [hq] at hv;simp only at hv;split at hv
      .rename_i hok;simp only [Bool.and_eq_true] at hok;rcases XO hv with ⟨news,hno,hnl,hv⟩ | ⟨hlast,c,hnp,hpc⟩ | ⟨f,args,sh,news,rfl,hcv,hsh,horc1,hv⟩
       .refine cons news ⟨e,⟨bX o,gl++q.log s,e.wr⟩⟩ (nb+1) dec1 rfl rfl (fun m'=>?_) (hd1.ext news) (by rw [eC,hn,hnl];exact hv);refine wT hoi ?_ fun s' ρ a w ha hs=>?_
        .have:=(hruns.ext news).ext m';rcases this with h | ⟨j,want,d,c,h1,h2,h3,h4,h5⟩
         .exact .inl h
         .exact .inr ⟨j,want,d,c,h1,h2,List.mem_append_left _ h3,h4,h5⟩
        .have hq':q.run s'=some (e,nd):=by rw [q.congr fun x hx=>ha x (List.mem_append_right _ hx)];exact hq
         refine hsem _ s' ρ a w e nd ⟨news++m',by rw [List.append_assoc]⟩ (fun x hx=>ha x (List.mem_append_left _ hx)) hq' hok.1 ⟨news,?_,hnl,fun j t hj=>?_⟩ hs
         .rw [List.append_assoc];exact hno.ext hn hok.2
         .rw [List.append_assoc,List.getElem?_append_right (by omega),hn,Nat.add_sub_cancel_left,List.getElem?_append_left (dR.1 hj).1];exact hj
       .simp only [Bool.and_eq_true] at hlast;refine pan ⟨e,⟨bX o,gl++q.log s,e.wr⟩⟩ rfl rfl ?_ hlast.2;refine WA hoi ?_ fun s' ρ a w K ha hs=>?_
        .rcases hruns with h | ⟨j,want,d,c,h1,h2,h3,h4,h5⟩
         .exact .inl h
         .exact .inr ⟨j,want,d,c,h1,h2,List.mem_append_left _ h3,h4,h5⟩
        .have hq':q.run s'=some (e,nd):=by rw [q.congr fun x hx=>ha x (List.mem_append_right _ hx)];exact hq
         exact hsemp s' ρ a w e nd c K (fun x hx=>ha x (List.mem_append_left _ hx)) hlast.1 hq' hnp hpc hs
       .have hnl:news.length=sh.length:=by have:=congrArg List.length hsh;simpa using this
        refine cons news ⟨e,⟨bX o,gl++q.log s,e.wr⟩⟩ (nb+1) dec1 rfl rfl (fun m'=>?_) (hd1.ext news) (by rw [eC,hn,hnl];exact hv);refine wT hoi ?_ fun s' ρ a w ha hs=>?_
        .have:=(hruns.ext news).ext m';rcases this with h | ⟨j,want,d,c,h1,h2,h3,h4,h5⟩
         .exact .inl h
         .exact .inr ⟨j,want,d,c,h1,h2,List.mem_append_left _ h3,h4,h5⟩
        .have hq':q.run s'=some (e, .call f args sh):=by rw [q.congr fun x hx=>ha x (List.mem_append_right _ hx)];exact hq
         refine hsemo _ s' ρ a w e f args sh news (fun x hx=>ha x (List.mem_append_left _ hx)) hcv hq' hok.1 hsh (fun j t hj=>?_) ?_ hs
         .rw [List.append_assoc,List.getElem?_append_right (by omega),hn,Nat.add_sub_cancel_left,List.getElem?_append_left (dR.1 hj).1];exact hj
         .rw [List.append_assoc,zX hn hok.2];exact horc1
      .exact hv.elim
   have run:∀ (gl:List Loc) (dec1:BH),iJ τ dec1->Pp ops τ s o gl->(gl = []->o.guard=none) ->
     vc P post (match o.op with
      | .pick (.tmp t) x y=>match mJ s t with
        | some c=>parts dec1 c fun β dec=>(match (do let v <-MB (if β then x else y);return jR o v:Q (fU×dY)).run s with
          | none=>.fail i
          | some (e,nd)=>if cN N o&&nd.ok ni then
            let dV:=⟨bX o,(.t t::gl)++(do let v <-MB (if β then x else y);return jR o v:Q (fU×dY)).log s,e.wr⟩::dV
            DC o (fT o&&rJ P N i rest dV) (jZ P N ops rest (i+1) (nb+1) (ni+nd.ids) (s.app e) dec dV k) nd else .fail i)
        | none=>.fail i
      | .panic x=>match (MB x).run s with
        | some (.w (.one (.c c)))=>if rJ P N i rest (⟨bX o,(MB x).log s,[]⟩::dV)&&o.guard.isNone then .pan c else .fail i
        | _=>.fail i
      | _=>(match (step P o nb ni).run s with
         | none=>.fail i
         | some (e,nd)=>if cN N o&&nd.ok ni then
           let dV:=⟨bX o,gl++(step P o nb ni).log s,e.wr⟩::dV
           DC o (fT o&&rJ P N i rest dV) (jZ P N ops rest (i+1) (nb+1) (ni+nd.ids) (s.app e) dec1 dV k) nd else .fail i)) τ bk ->
     (∃ m fs nb' dec',iQ P N ops Qp M0 w0 (τ++m) none i s fs (o::rest)/\iJ (τ++m) dec'/\vc P post (k nb' (τ++m).length (s.apps (fs.map (·.e))) dec' ((fs.map (·.r)).reverse++dV)) (τ++m) bk) \/
     (∃ m fs z,iQ P N ops Qp M0 w0 (τ++m) (some z) i s fs (o::rest)/\i<=z/\z<i+(o::rest).length/\ordered ((fs.map (·.r)).reverse++dV)=true):=by
    intro gl dec1 hd1 hruns hgl hv;split at hv
    .rename_i t x y ho;split at hv
     .rename_i c ht;obtain ⟨β,dec2,hc,hd2,hv⟩:=Hu hd1 hv;refine go (.t t::gl) dec2 _ hd2 ?_ ?_ ?_ ?_ hv
      .rcases hruns with h | ⟨j,want,d,c,h1,h2,h3,h4,h5⟩
       .exact .inl h
       .exact .inr ⟨j,want,d,c,h1,h2,List.mem_cons_of_mem _ h3,h4,h5⟩
      .rintro τ' s' ρ a w e nd ⟨m,rfl⟩ ha hq hdst _ hs;obtain ⟨v,h1,h2⟩:=Q.bind_some hq;simp only [Q.run_pure,aN] at h2;obtain ⟨rfl,rfl⟩:=Prod.mk.inj h2;have hst:s'.t t=s.t t:=ha _ List.mem_cons_self;have:=Dc hs ((pS hst).trans ht) (cZ hc rfl);exact eL hs hdst (an3 ho this) (zW hs h1)
      .intro s' ρ a w e nd c K ha hcv;unfold fT at hcv;rw [ho] at hcv;cases hcv
      .intro τ' s' ρ a w e f args sh news ha hcv;unfold fT at hcv;rw [ho] at hcv;cases hcv
     .exact hv.elim
    .rename_i x ho;split at hv
     .rename_i c hx;split at hv
      .rename_i hl2;simp only [Bool.and_eq_true,Option.isNone_iff_eq_none] at hl2;obtain ⟨hpc,hif⟩:=hv;refine pan ⟨⟨[],[],[]⟩,⟨bX o,(MB x).log s,[]⟩⟩ rfl rfl ?_ hl2.1;refine WA hoi (.inl hl2.2) fun s' ρ a w K ha hs=>?_;have hx':(MB x).run s'=some (.w (.one (.c c))):=by rw [(MB x).congr ha];exact hx
       have hr:(c0 τ c).rep (Ms M0 ρ s') w (a.eval x):=zW hs hx';obtain ⟨T,u,he⟩:=hif _ _ _ hr;unfold Oper.wp;rw [Zf ho he,Oper.upon_panic,<-he];exact hpan _ _ a w hpc (aD.mono _ (fun b o hb ho _=>⟨fun hm=>hb (.inl hm),ho⟩) hr) hs.below hs.df
      .exact hv.elim
     .exact hv.elim
    .refine go gl dec1 _ hd1 hruns ?_ ?_ ?_ hv
     .rintro τ' s' ρ a w e nd _ ha hq hdst hna hs;exact step_ok hs hdst hq hna
     .intro s' ρ a w e nd c K ha hcv hq hnp hpc hs;exact ZR hs hcv hq hnp fun v w' hb hr=>hpan c v a w' hpc hr hb hs.df
     .intro τ' s' ρ a w e f args sh news ha hcv hq hdst hsh hτ ho hs;exact ZK hs hdst hcv hq hsh hτ (horc f _ news ho)
   unfold jZ at h;simp only at h;split at h
   .rename_i hg;exact run [] dec hd (.inl hg) (fun _=>hg) h
   .rename_i j want hg;split at h
    .exact h.elim
    .rename_i d hj;split at h
     .rename_i hu;exact skip j d want dec hg hj hd (.inl hu) h
     .rename_i hu;split at h
      .rename_i c ht;obtain ⟨β,dec2,hc,hd2,hv⟩:=Hu hd h;split at hv
       .rename_i hβ;subst hβ;exact run [.t d] dec2 hd2 (.inr ⟨j,β,d,c,hg,hj,by simp,ht,hc⟩) (fun h=>by cases h) hv
       .rename_i hβ;exact skip j d want dec2 hg hj hd2 (.inr ⟨c,β,ht,hc,hβ⟩) hv
      .exact h.elim
end
theorem aD.Sub.refl (c:aD):c.Sub c:=.inl rfl
theorem aD.Sub.same {c:aD}:c.Sub c:=.inl rfl
theorem aD.Sub.trans {c d e:aD} (h:c.Sub d) (k:d.Sub e):c.Sub e:=by
 rcases h with rfl | ⟨h1,h2⟩
 .exact k
 .exact .inr ⟨h1,fun M w v hv=>k.rep (h2 M w v hv)⟩
theorem aD.Sub.eq {v:Value} {d:aD} (h:(aD.exact v).Sub d) (h1:v.oneCell'=true) (hv:∀ a l k,v ≠ .slice a l k):d = .exact v:=by
 rcases h with h | ⟨h,_⟩
 .exact h.symm
 .obtain ⟨a,l,k,e⟩:=h (fun _=>False) default v ⟨rfl,h1⟩;exact (hv a l k e).elim
theorem bB.uQ {α:Type} {R:α->α->Prop} (h:∀ a,R a a):∀ xs,bB R xs xs
 | []=>trivial
 | x::xs=>⟨h x,bB.uQ h xs⟩
theorem aJ.Sub.refl:∀ t:aJ,t.Sub t
 | .one _=>.inl rfl
 | .agg cs=>bB.uQ aD.Sub.refl cs
 | .rows ts=>bB.uQ (bB.uQ aD.Sub.refl) ts
theorem aJ.Sub.same {t:aJ}:t.Sub t:=aJ.Sub.refl t
theorem aJ.Sub.of_eq {t u:aJ} (h:t=u):t.Sub u:=h▸aJ.Sub.refl t
theorem aX.refl (l:List aJ):aX l l:=bB.uQ aJ.Sub.refl l
theorem aX.rfl {l:List aJ}:aX l l:=aX.refl l
theorem aX.of_eq {l m:List aJ} (h:l=m):aX l m:=h▸aX.refl l
theorem aX.app {a b c d:List aJ} (h:aX a b) (k:aX c d):aX (a++c) (b++d):=bB.append h k
theorem bA.sub {M:Nat->Prop} {w:World}:∀ {cs ds:List aD} {vs},bB aD.Sub cs ds->bA M w cs vs->bA M w ds vs
 | [],[],[],_,_=>trivial
 | _::_,_::_,_::_,⟨a,b⟩,⟨c,d⟩=>⟨a.rep c,bA.sub b d⟩
 | [],_::_,_,k,_=>k.elim
 | _::_,[],_,k,_=>k.elim
 | [],[],_::_,_,k=>k.elim
 | _::_,_::_,[],_,k=>k.elim
theorem aJ.Sub.rep {t u:aJ} (h:t.Sub u) {M:Nat->Prop} {w:World} {v:Value} (hv:t.rep M w v):u.rep M w v:=by
 cases t<;>cases u<;>first | exact h.elim | skip
 .exact aD.Sub.rep h hv
 .obtain ⟨vs,e,hr⟩:=hv;exact ⟨vs,e,hr.sub h⟩
 .exact hv
theorem cD.sub {M:Nat->Prop} {w:World}:∀ {cs ds:List aJ} {vs},aX cs ds->cD M w cs vs->cD M w ds vs
 | [],[],[],_,_=>trivial
 | _::_,_::_,_::_,⟨a,b⟩,⟨c,d⟩=>⟨a.rep c,cD.sub b d⟩
 | [],_::_,_,k,_=>k.elim
 | _::_,[],_,k,_=>k.elim
 | [],[],_::_,_,k=>k.elim
 | _::_,_::_,[],_,k=>k.elim
theorem bB.flat {R:aD->aD->Prop}:∀ {ts us:List (List aD)},bB (bB R) ts us->bB R ts.flatten us.flatten
 | [],[],_=>trivial
 | _::_,_::_,⟨a,b⟩=>by
   rw [List.flatten_cons,List.flatten_cons];exact bB.append a (bB.flat b)
 | [],_::_,k=>k.elim
 | _::_,[],k=>k.elim
theorem bB.get' {α β:Type} {R:α->β->Prop}:∀ {xs:List α} {ys:List β},bB R xs ys->∀ (j:Nat) (y:β),ys[j]? = some y->∃ x,xs[j]? = some x/\R x y
 | [],[],_,j,y,h=>by simp at h
 | x0::xs,y0::ys,⟨a,b⟩,j,y,h=>by
   cases j with
   | zero=>simp at h;subst h;exact ⟨x0,rfl,a⟩
   | succ j=>simpa using bB.get' b j y (by simpa using h)
 | [],_::_,k,_,_,_=>k.elim
 | _::_,[],k,_,_,_=>k.elim
theorem aD.Sub.slice {sz:Nat} {ts us:List (List aD)} (h:bB (bB aD.Sub) ts us):(aD.slice sz ts).Sub (.slice sz us):=by
 refine .inr ⟨?_,?_⟩
 .rintro M w v ⟨a,cap,rfl,_⟩;exact ⟨a,ts.length,cap,rfl⟩
 .rintro M w v ⟨a,cap,rfl,hc,hm,hel⟩;have hl:ts.length=us.length:=h.length;refine ⟨a,cap,by rw [hl],by omega,hm,?_⟩;rcases hel with rfl | ⟨b,off,cs,T,fz,rfl,hb,hh,hr⟩
  .left;cases us with
   | nil=>rfl
   | cons _ _=>exact h.elim
  .refine .inr ⟨b,off,cs,T,fz,rfl,hb,hh,fun i t ht=>?_⟩;obtain ⟨t0,h0,hs⟩:=bB.get' h i t ht;obtain ⟨h1,h2⟩:=hr i t0 h0;exact ⟨by rw [<-h1];exact (bB.length hs).symm,h2.sub hs⟩
theorem aD.Sub.nil {sz:Nat}:(aD.exact (.slice none 0 0)).Sub (.slice sz []):=by
 refine .inr ⟨?_,?_⟩
 .rintro M w v ⟨rfl,_⟩;exact ⟨none,0,0,rfl⟩
 .rintro M w v ⟨rfl,_⟩;exact ⟨none,0,rfl,by simp,by simp [maxLen], .inl rfl⟩
theorem Wh {τ τ':Env} (h:∀ x,(c0 τ x).Sub (c0 τ' x)) {x:C0} {k:IntKind} {n:Int} (hx:c0 τ x = .int k n):c0 τ' x = .int k n:=by
 have:=h x;rw [hx] at this;exact this.eq rfl (by intro a l k h;cases h)
theorem Ap {τ τ':Env} (h:aX τ τ') (x:C0):(c0 τ x).Sub (c0 τ' x):=by
 cases x with
 | k v=>exact .inl rfl
 | u i j=>
   simp only [c0,iP];cases hx:τ[i]? with
   | none=>
     have:τ'[i]? = none:=by
      have h1:=List.getElem?_eq_none_iff.1 hx;have h2:=bB.length h;exact List.getElem?_eq_none_iff.2 (by omega)
     rw [this];exact .inl rfl
   | some t=>
     obtain ⟨u,hu,hs⟩:=bB.get h i t hx;rw [hu];simp only [Option.getD_some];cases t<;>cases u<;>first | exact hs.elim | skip
     .simp only [aJ.cell,aJ.cells];cases j with
      | zero=>exact hs
      | succ j=>exact .inl rfl
     .rename_i cs ds;have hs:bB aD.Sub cs ds:=hs;simp only [aJ.cell,aJ.cells,iP];cases hc:cs[j]? with
      | none=>
        have:ds[j]? = none:=by
         have h1:=List.getElem?_eq_none_iff.1 hc;have h2:=bB.length hs;exact List.getElem?_eq_none_iff.2 (by omega)
        rw [this];exact .inl rfl
      | some c=>
        obtain ⟨d,hd,hcd⟩:=bB.get hs j c hc;rw [hd];exact hcd
     .exact .inl rfl
 | sr sz cid=>
   simp only [c0];cases hx:τ[cid]? with
   | none=>
     have:τ'[cid]? = none:=by
      have h1:=List.getElem?_eq_none_iff.1 hx;have h2:=bB.length h;exact List.getElem?_eq_none_iff.2 (by omega)
     rw [this];exact .inl rfl
   | some t=>
     obtain ⟨u,hu,hs⟩:=bB.get h cid t hx;rw [hu];cases t<;>cases u<;>first | exact hs.elim | exact .inl rfl | skip
     exact aD.Sub.slice hs
theorem Qe {τ τ':Env} (h:aX τ τ'):∀ cells:List C0,bB aD.Sub (cells.map (c0 τ)) (cells.map (c0 τ'))
 | []=>trivial
 | x::xs=>⟨Ap h x,Qe h xs⟩
theorem RJ {cs ds:List aD} (h:bB aD.Sub cs ds) {M:Nat->Prop} {w:World} {v:Value} (hv:(aD.bH cs).rep M w v):(aD.bH ds).rep M w v:=by
 obtain ⟨b,off,vs,T,fz,rfl,hm,hh,hr⟩:=hv;have:=bB.length h;exact ⟨b,off,vs,T,fz,rfl,hm,hh,by rw [<-this];exact hr.sub h⟩
theorem aB3 {τ τ':Env} (h:aX τ τ') {M:Nat->Prop} {w:World} {v:Value}:∀ (x:CR),(Va τ x).rep M w v->(Va τ' x).rep M w v
 | .c x,hv=>(Ap h x).rep hv
 | .ref off cells,hv=>RJ ((Qe h cells).drop off) hv
section
variable {ex:Nat->Prop} {τ τ':Env} {ρ:Nat->Gh} {M:Nat->Prop} {w:World}
theorem zQ (h:aX τ τ'):∀ {c:SC} {v},dK ex τ ρ M w c v->dK ex τ' ρ M w c v
 | .p b off,v,hv=>hv
 | .r b,v,hv=>hv
 | .rp b sz i off,v,⟨h1,g,o0,len,cap,k,n,h2,h3,h4,h5⟩=>⟨h1,g,o0,len,cap,k,n,h2,Wh (Ap h) h3,h4,h5⟩
 | .rs b sz lo hi,v,⟨h1,g,o0,len,cap,k,k',n,m,c,h2,h3,h4,h5⟩=>⟨h1,g,o0,len,cap,k,k',n,m,c,h2,Wh (Ap h) h3,Wh (Ap h) h4,h5⟩
 | .c x,v,hv=>(Ap h x).rep hv
 | .ref off cells,v,hv=>RJ ((Qe h cells).drop off) hv
 | .fP f caps,v,⟨vs,e,hr⟩=>⟨vs,e,hr.imp fun x _=>aB3 h x⟩
theorem Nz (h:aX τ τ'):∀ {c:SW} {v},fF ex τ ρ M w c v->fF ex τ' ρ M w c v
 | .one c,v,hv=>zQ h hv
 | .agg cs,v,⟨vs,e,hr⟩=>⟨vs,e,hr.imp fun _ _=>zQ h⟩
theorem Yj (h:aX τ τ'):∀ {c:SV} {v},fW ex τ ρ M w c v->fW ex τ' ρ M w c v
 | .junk,v,hv=>trivial
 | .undef,v,hv=>hv
 | .w x,v,hv=>Nz h hv
 | .tup xs,v,⟨vs,e,hr⟩=>⟨vs,e,hr.imp fun _ _=>Nz h⟩
theorem TW (h:aX τ τ') {cid:Nat} {ts:List (List aD)} (hc:τ[cid]? = some (.rows ts)):∃ us,τ'[cid]? = some (.rows us)/\bB (bB aD.Sub) ts us:=by
 obtain ⟨u,hu,hs⟩:=bB.get h cid _ hc;cases u<;>first | exact hs.elim | skip
 exact ⟨_,hu,hs⟩
theorem XL {ts us:List (List aD)} {sz:Nat} (h:bB (bB aD.Sub) ts us) (hs:∀ t∈ts,t.length=sz):∀ u∈us,u.length=sz:=fun u hu=>by
 obtain ⟨t,ht,hr⟩:=bB.mem h u hu;rw [<-hs t ht];exact (bB.length hr).symm
theorem Zj (h:aX τ τ') {base b:Nat}:∀ {x:Bx},mS base ex τ ρ M w b x->mS base ex τ' ρ M w b x
 | .var T cells,⟨vs,h1,h2⟩=>⟨vs,h1,h2.imp fun _ _=>zQ h⟩
 | .row E sz cid,⟨ts,xs,h1,h2,h3,h4⟩=>by
   obtain ⟨us,hu,hs⟩:=TW h h1;exact ⟨us,xs,hu,by rw [<-bB.length hs];exact h2,XL hs h3,h4.sub hs.flat⟩
 | .part E sz cid,⟨ts,xs,h1,h2,h3,h4,h5⟩=>by
   obtain ⟨us,hu,hs⟩:=TW h h1;exact ⟨us,xs,hu,by rw [<-bB.length hs];exact h2,XL hs h3,h4.sub hs.flat,h5⟩
 | .dead,_=>trivial
end
theorem Sat.sub {M0:eG} {w0:World} {N:Nat} {s:St} {τ τ':Env} {ρ:Nat->Gh} {a:Act} {w:World} (h:Sat M0 w0 N s τ ρ a w) (hs:aX τ τ'):Sat M0 w0 N s τ' ρ a w:=
 ⟨h.below,h.sz,h.df,fun t=>Yj hs (h.tm t),fun b x hb=>Zj hs (h.bx b x hb),h.inj,h.lo,h.old,h.pt⟩
theorem aQ.sub {P:Program} {f:FuncId} {as bs:List aJ} {out:Out} (h:aQ P f bs out) (hs:aX as bs):aQ P f as out:=
 ⟨h.1,fun M w vs hM hv=>h.2 M w vs hM (cD.sub hs hv)⟩
theorem bF.sub {P:Program} {op:Op} {ty:TypeId} {as bs:List aJ} {t:aJ} (h:bF P op ty bs t) (hs:aX as bs):bF P op ty as t:=
 fun M w ρ o h1 h2 hv=>h M w ρ o h1 h2 (cD.sub hs hv)
end Go.Sy
