/- Pieces of a function's code; functions that return a new struct of their own. Pieces that own a row, or to which a variable is lent.
-/
import Derived.Test.YtdmcadckdnnglaaGreatDoorSd
set_option linter.unusedVariables false
set_option linter.unusedSimpArgs false
namespace Go.Sy
open Go.RowKit (Below)
def gS:List Nat→Code→Code
 | [],c=>c
 | 0::p, .seq a _=>gS p a
 | 1::p, .seq _ b=>gS p b
 | 0::p, .block _ a=>gS p a
 | 0::p, .loop a=>gS p a
 | 0::p, .cond _ a _=>gS p a
 | 1::p, .cond _ _ b=>gS p b
 | _,_=>.skip
def oX (fn:Func):Code:=fn.body.getD .skip
def stA (ins:List (Nat×Arg)):St:=⟨ins.mapIdx fun i p=>(p.1,dA i p.2),[],[]⟩
def Dr:Nat→Code→Code
 | 0, .seq _ b=>b
 | n+1, .seq _ b=>Dr n b
 | _,_=>.skip
def Qc (P:Program) (N:Nat) (hints:Nat→Option Hint):Nat→Code→Nat→Nat→Nat→Nat→St→CI→(Ex→Nat→Nat→St→CI→Tr)→Tr
 | 0, .seq a _,l,d,nb,ni,s,dec,k=>exec P N hints a l d nb ni s dec k
 | n+1, .seq a b,l,d,nb,ni,s,dec,k=>exec P N hints a l d nb ni s dec fun e nb ni s dec=>match e with
   | .normal=>Qc P N hints n b (l+lZ a) d nb ni s dec k
   | e=>k e nb ni s dec
 | _,_,_,_,_,_,_,_,_=>.fail 1018
def Yw (tail:Bool):Ex→Bool
 | .normal=>true
 | .ret=>tail
 | .exit _=>false
def UR (P:Program) (res:List ResultVar) (tail:Bool) (e:Ex) (s:St):Tr:=if Yw tail e then match (zE P s res).run s with
    | some (vs,_)=>.ret vs
    | none=>.fail 1008 else .fail 1011
def Ai (P:Program) (N:Nat) (hints:Nat→Option Hint) (c:Code) (ins:List (Nat×Arg)) (res:List ResultVar) (cut:Option Nat) (tail:Bool):Tr:=
 match cut with
 | none=>exec P N hints c 0 0 0 ins.length (stA ins) [] fun e nb ni s _=>UR P res tail e s
 | some n=>Qc P N hints n c 0 0 0 ins.length (stA ins) [] fun e nb ni s _=>UR P res tail e s
section
variable {P:Program} {N:Nat} {M0:dK} {w0:World} {post:Out→Prop} {hints:Nat→Option Hint}
theorem Iw (hm:P.follows .mixedOrders=true):∀ (n:Nat) (c:Code) (l d nb ni:Nat) (s:St) (dec:CI) (k:Ex→Nat→Nat→St→CI→Tr) (τ:Env) (bk:List (List aF→Prop)),
  vc P post (Qc P N hints n c l d nb ni s dec k) τ bk→τ.length=ni→gY τ dec→d≤bk.length →
  ∀ ρ a w (Q:Exit→Act→World→Prop),Sat M0 w0 N s τ ρ a w→aC8 post M0 w0 Q→uD P post M0 w0→QI P N M0 w0 post d τ bk k (Exit.then ((Dr n c).wp P Q) Q)→c.wp P Q a w
 | 0, .seq x y,l,d,nb,ni,s,dec,k,τ,bk,h,hn,hd,hb,ρ,a,w,Q,hs,hp,ho,hk=>by
   refine wp_seq (kA hm x l d nb ni s dec k τ bk h hn hd hb ρ a w _ hs ?_ ho hk);intro c v a w h1 h2 h3 h4;exact hp c v a w h1 h2 h3 h4
 | n+1, .seq x y,l,d,nb,ni,s,dec,k,τ,bk,h,hn,hd,hb,ρ,a,w,Q,hs,hp,ho,hk=>by
   refine wp_seq (kA hm x l d nb ni s dec _ τ bk h hn hd hb ρ a w _ hs ?_ ho ?_)
   ·intro c v a w h1 h2 h3 h4;exact hp c v a w h1 h2 h3 h4
   ·intro ex nb' s' dec' m bk' ρ' a' w' hbk hb' hv hd' hs';cases ex with
    | normal=>
      refine Iw hm n y _ d nb' _ s' dec' k (τ++m) bk' hv rfl hd' hb' ρ' a' w' Q hs' hp ho ?_;intro ex2 nb2 s2 dec2 m2 bk2 ρ2 a2 w2 hbk2 hb2 hv2 hd2 hs2;rw [List.append_assoc] at hv2 hd2 hs2;exact hk ex2 nb2 s2 dec2 (m++m2) bk2 ρ2 a2 w2 (hbk2.trans hbk) hb2 hv2 hd2 hs2
    | exit id=>exact hk (.exit id) nb' s' dec' m bk' ρ' a' w' hbk hb' hv hd' hs'
    | ret=>exact hk .ret nb' s' dec' m bk' ρ' a' w' hbk hb' hv hd' hs'
 | n, .skip,l,d,nb,ni,s,dec,k,τ,bk,h,_,_,_,_,_,_,_,_,_,_,_=>by cases n<;>exact (h:False).elim
 | n, .region ..,l,d,nb,ni,s,dec,k,τ,bk,h,_,_,_,_,_,_,_,_,_,_,_=>by cases n<;>exact (h:False).elim
 | n, .cond ..,l,d,nb,ni,s,dec,k,τ,bk,h,_,_,_,_,_,_,_,_,_,_,_=>by cases n<;>exact (h:False).elim
 | n, .block ..,l,d,nb,ni,s,dec,k,τ,bk,h,_,_,_,_,_,_,_,_,_,_,_=>by cases n<;>exact (h:False).elim
 | n, .loop ..,l,d,nb,ni,s,dec,k,τ,bk,h,_,_,_,_,_,_,_,_,_,_,_=>by cases n<;>exact (h:False).elim
 | n, .exit ..,l,d,nb,ni,s,dec,k,τ,bk,h,_,_,_,_,_,_,_,_,_,_,_=>by cases n<;>exact (h:False).elim
 | n, .ret,l,d,nb,ni,s,dec,k,τ,bk,h,_,_,_,_,_,_,_,_,_,_,_=>by cases n<;>exact (h:False).elim
 | n, .scope ..,l,d,nb,ni,s,dec,k,τ,bk,h,_,_,_,_,_,_,_,_,_,_,_=>by cases n<;>exact (h:False).elim
 | n, .goto ..,l,d,nb,ni,s,dec,k,τ,bk,h,_,_,_,_,_,_,_,_,_,_,_=>by cases n<;>exact (h:False).elim
 | n, .rangeFunc ..,l,d,nb,ni,s,dec,k,τ,bk,h,_,_,_,_,_,_,_,_,_,_,_=>by cases n<;>exact (h:False).elim
end
section
variable {P:Program}
theorem De (f:Nat→Arg→SV) (t:Nat):∀ (l:List (Nat×Arg)) (d:Nat) (x:SV),look (l.mapIdx fun i p=>(p.1,f (d+i) p.2)) t=some x→∃ i p,l[i]? = some p∧p.1=t∧x=f (d+i) p.2
 | [],d,x,h=>by simp [look] at h
 | p::l,d,x,h=>by
   rw [List.mapIdx_cons] at h;simp only [look,Nat.add_zero] at h;split at h
   ·rename_i e;simp only [Option.some.injEq] at h;exact ⟨0,p,rfl,e,by simpa using h.symm⟩
   ·have e:(l.mapIdx fun i p=>(p.1,f (d+(i+1)) p.2))=l.mapIdx fun i p=>(p.1,f (d+1+i) p.2):=by
     congr 1;funext i p;rw [show d+(i+1)=d+1+i by omega]
    rw [e] at h;obtain ⟨i,q,h1,h2,h3⟩:=De f t l (d+1) x h;exact ⟨i+1,q,by simpa using h1,h2,by rw [h3,show d+1+i=d+(i+1) by omega]⟩
theorem LF {N:Nat} {ins:List (Nat×Arg)} {xs:List In} (hin:aY In.Is (ins.map (·.2)) xs) {M:Nat→Prop} {w:World} {a:Act} (hM:dL M w) (hsz:a.tmps.size=N) (hdf:a.defers = [])
  (hv:cI M w (xs.map In.ty) (ins.map fun p=>a.tmps.getD p.1 Go.undef)):Sat ⟨M,⟨0,Go.undef,#[]⟩⟩ w N (stA ins) (xs.map In.env) (fun _=>⟨0,Go.undef,#[]⟩) a w:=by
 refine ⟨⟨rfl,rfl,rfl,Nat.le_refl _,fun _ _ _=>rfl,fun x hx=>⟨(hM.2 x hx).1,oH,(hM.2 x hx).2⟩⟩,hsz,hdf,fun t=>?_,(by intro b x hb;cases hb),(by intro b b' x x' k hb;cases hb),(by intro b x k hb;cases hb),fun k hk ho=>ho.elim (fun h=>Nat.not_lt.2 h (hM.1 k hk)) oH,(by intro b E sz cid hb;cases hb)⟩;show fQ _ _ _ _ _ ((look (ins.mapIdx fun i p=>(p.1,dA i p.2)) t).getD .junk) _;cases hl:look (ins.mapIdx fun i p=>(p.1,dA i p.2)) t with
 | none=>exact trivial
 | some x=>
   obtain ⟨i,p,h1,rfl,rfl⟩:=De dA t ins 0 x (by simpa only [Nat.zero_add] using hl);rw [Nat.zero_add];obtain ⟨y,hy,hix⟩:=hin.get i p.2 (by rw [List.getElem?_map,h1];rfl);obtain ⟨ty,hty,hrep⟩:=hv.get i _ (by rw [List.getElem?_map,h1];rfl);rw [List.getElem?_map,hy] at hty;simp only [Option.map_some,Option.some.injEq] at hty;subst hty;refine lM (by rw [List.getElem?_map,hy];rfl) hix (aF.xB ?_ hrep);intro k o hk ho _;refine ⟨fun hm=>?_,ho⟩;rcases hm with hm | ⟨b,x,hb,_⟩
   ·exact hk hm
   ·cases hb
theorem LI {N:Nat} {M:Nat→Prop} {w w':World} {s:St} {τ:Env} {ρ:Nat→Gh} {a:Act} {res:List ResultVar} {tail:Bool} {out:Out} {e:Ex} {bk:List (List aF→Prop)} {Q:Exit→Act→World→Prop}
  (h:vc P (fun o=>jY o out) (UR P res tail e s) τ bk) (hs:Sat ⟨M,⟨0,Go.undef,#[]⟩⟩ w N s τ ρ a w')
  (hR:∀ rs us,out = .ret rs→Yw tail e=true→Below w.heap.size w w'→a.tmps.size=N→a.defers = []→(res.mapM (mM a.tmps)).run P w' = .ok us w'→cI M w' rs us→Q (yR e) a w'):Q (yR e) a w':=by
 unfold UR at h;split at h
 ·rename_i hex;split at h
  ·rename_i vs' l hq;obtain ⟨us,hr,hrep⟩:=oO hs hq (Cf hs _);cases out with
   | ret rs=>exact hR rs us rfl hex hs.below.below hs.sz hs.df hr (cI.sub h hrep)
   | retr _ _=>exact h.elim
   | orc _ _ _=>exact h.elim
   | pan _=>exact h.elim
  ·exact h.elim
 ·exact h.elim
theorem UZ {c c':Code} {ins:List (Nat×Arg)} {xs:List In} {N:Nat} {hints:Nat→Option Hint} {res:List ResultVar} {tail:Bool} {out:Out} (hm:P.follows .mixedOrders=true) (hin:aY In.Is (ins.map (·.2)) xs)
  (h:vc P (fun o=>jY o out) (Ai P N hints c' ins res none tail) (xs.map In.env) []) (hc:c'=c) {M:Nat→Prop} {w:World} {a:Act} {Q:Exit→Act→World→Prop} (hM:dL M w) (hsz:a.tmps.size=N) (hdf:a.defers = [])
  (hv:cI M w (xs.map In.ty) (ins.map fun p=>a.tmps.getD p.1 Go.undef))
  (hR:∀ e a' w' rs us,out = .ret rs→Yw tail e=true→Below w.heap.size w w'→a'.tmps.size=N→a'.defers = []→(res.mapM (mM a'.tmps)).run P w' = .ok us w'→cI M w' rs us→Q (yR e) a' w')
  (hP:∀ c v a' w',out = .pan c→a'.defers = []→Below w.heap.size w w'→c.rep M w' v→Q (.panic [{ v,recovered:=false }]) a' w'):c.wp P Q a w:=by
 subst hc;have hil:xs.length=ins.length:=by have:=hin.length;simpa using this.symm
 refine kA (M0:=⟨M,⟨0,Go.undef,#[]⟩⟩) (w0:=w) hm c' 0 0 0 ins.length _ [] _ (xs.map In.env) [] h (by simpa using hil) (by intro x hx;cases hx) (Nat.le_refl _) (fun _=>⟨0,Go.undef,#[]⟩) a w _ (LF hin hM hsz hdf hv) ?_ uD.no ?_
 ·intro c v a w' hp hr hb hd;cases out with
  | pan d=>have hp:c=d:=hp;subst hp;exact hP c v a w' rfl hd hb.below hr
  | ret _=>exact hp.elim
  | retr _ _=>exact hp.elim
  | orc _ _ _=>exact hp.elim
 ·intro ex nb s dec m bk' ρ a' w' _ _ hv2 _ hs;exact LI hv2 hs fun rs us h1 h2 h3 h4 h5 h6 h7=>hR ex a' w' rs us h1 h2 h3 h4 h5 h6 h7
theorem QY {c c':Code} {n:Nat} {ins:List (Nat×Arg)} {xs:List In} {N:Nat} {hints:Nat→Option Hint} {res:List ResultVar} {tail:Bool} {out:Out} (hm:P.follows .mixedOrders=true) (hin:aY In.Is (ins.map (·.2)) xs)
  (h:vc P (fun o=>jY o out) (Ai P N hints c' ins res (some n) tail) (xs.map In.env) []) (hc:c'=c) {M:Nat→Prop} {w:World} {a:Act} {Q:Exit→Act→World→Prop} (hM:dL M w) (hsz:a.tmps.size=N) (hdf:a.defers = [])
  (hv:cI M w (xs.map In.ty) (ins.map fun p=>a.tmps.getD p.1 Go.undef))
  (hR:∀ e a' w' rs us,out = .ret rs→Yw tail e=true→Below w.heap.size w w'→a'.tmps.size=N→a'.defers = []→(res.mapM (mM a'.tmps)).run P w' = .ok us w'→cI M w' rs us→Exit.then ((Dr n c).wp P Q) Q (yR e) a' w')
  (hP:∀ c v a' w',out = .pan c→a'.defers = []→Below w.heap.size w w'→c.rep M w' v→Q (.panic [{ v,recovered:=false }]) a' w'):c.wp P Q a w:=by
 subst hc;have hil:xs.length=ins.length:=by have:=hin.length;simpa using this.symm
 refine Iw (M0:=⟨M,⟨0,Go.undef,#[]⟩⟩) (w0:=w) hm n c' 0 0 0 ins.length _ [] _ (xs.map In.env) [] h (by simpa using hil) (by intro x hx;cases hx) (Nat.le_refl _) (fun _=>⟨0,Go.undef,#[]⟩) a w _ (LF hin hM hsz hdf hv) ?_ uD.no ?_
 ·intro c v a w' hp hr hb hd;cases out with
  | pan d=>have hp:c=d:=hp;subst hp;exact hP c v a w' rfl hd hb.below hr
  | ret _=>exact hp.elim
  | retr _ _=>exact hp.elim
  | orc _ _ _=>exact hp.elim
 ·intro ex nb s dec m bk' ρ a' w' _ _ hv2 _ hs;exact LI hv2 hs fun rs us h1 h2 h3 h4 h5 h6 h7=>hR ex a' w' rs us h1 h2 h3 h4 h5 h6 h7
theorem tR {w:World} {tmps:Array Value}:∀ {outs:List Nat} {us:List Value},((outs.map ResultVar.tmp).mapM (mM tmps)).run P w = .ok us w→us=outs.map fun t=>tmps.getD t Go.undef
 | [],us,h=>by
   simp only [List.map_nil,List.mapM_nil,Sem.run_pure,Result.ok.injEq] at h;exact h.1.symm
 | t::ts,us,h=>by
   have key:∀ ts:List Nat,((ts.map ResultVar.tmp).mapM (mM tmps)).run P w = .ok (ts.map fun t=>tmps.getD t Go.undef) w:=by
    intro ts
    induction ts with
    | nil=>simp only [List.map_nil,List.mapM_nil,Sem.run_pure]
    | cons t ts ih=>simp only [List.map_cons,List.mapM_cons,mM,Sem.run_bind,Sem.run_pure,Result.andThen_ok,ih]
   rw [key] at h;simp only [Result.ok.injEq,and_true] at h;exact h.symm
def ak5 (s:St) (T:Nat) (rs:List ResultVar):Tr:=
 match rs with
 | [.tmp t]=>match s.t t with
   | .w (.one (.p b 0))=>match s.b b with
     | some (.var T' cells)=>if T'=T∧s.s b=false then match (oY cells).run s with
       | some (xs,l)=>if l.contains b=false then .ret [.agg (xs.map .c)] else .fail 1012
       | none=>.fail 1013 else .fail 1014
     | _=>.fail 1015
   | _=>.fail 1016
 | _=>.fail 1017
def PS (P:Program) (fn:Func) (hints:Nat→Option Hint) (args:List Arg) (T:Nat):Tr:=
 match fn.body with
 | none=>.fail 1006
 | some c=>
   if args.length≤fn.ntmps then
   exec P fn.ntmps hints c 0 0 0 args.length ⟨args.mapIdx fun i a=>(i,dA i a),[],[]⟩ [] fun e nb ni s _=>match e with
    | .exit _=>.fail 1007
    | _=>ak5 s T fn.results.toList
   else .fail 1009
def LM (P:Program) (f:FuncId) (T:Nat) (args:List aF) (cs:List aH):Prop:=
 ∀ (M:Nat→Prop) (w:World) (vs:List Value),dL M w→cI M w args vs →
   Calls P f vs.toArray w fun e w'=>Below w.heap.size w w'∧∃ b us,e = .returned (.pointer (some ⟨b,0,none⟩))∧w.heap.size≤b∧w'.heap[b]? = some (.cells (List.toArray us) T (0,0))∧aZ (fun k=>M k∨k=b) w' cs us
theorem Pz {f:FuncId} {fn:Func} {hints:Nat→Option Hint} {args:List Arg} {ins:List In} {T:Nat} {cs:List aH} (hm:P.follows .mixedOrders=true)
  (hf:P.funcs[f]? = some fn) (hin:aY In.Is args ins) (h:vc P (fun o=>jY o (.ret [.agg cs])) (PS P fn hints args T) (ins.map In.env) []):LM P f T (ins.map In.ty) cs:=by
 intro M w vs hM hvs;unfold PS at h;split at h
 ·exact h.elim
 ·rename_i c hb;split at h
  ·rename_i hlen;refine calls_of_wp hf hb ?_;have hil:ins.length=args.length:=hin.length.symm;have hvl:vs.length=args.length:=by rw [←hvs.length];simpa using hil
   refine kA (M0:=⟨M,⟨0,Go.undef,#[]⟩⟩) (w0:=w) hm c 0 0 0 args.length _ [] _ (ins.map In.env) [] h (by simpa using hil) (by intro x hx;cases hx) (Nat.le_refl _) (fun _=>⟨0,Go.undef,#[]⟩) _ w _ ?_ ?_ uD.no ?_
   ·refine ⟨⟨rfl,rfl,rfl,Nat.le_refl _,fun _ _ _=>rfl,fun x hx=>⟨(hM.2 x hx).1,oH,(hM.2 x hx).2⟩⟩,?_,rfl,fun t=>?_,(by intro b x hb;cases hb),(by intro b b' x x' k hb;cases hb),(by intro b x k hb;cases hb),fun k hk ho=>ho.elim (fun h=>Nat.not_lt.2 h (hM.1 k hk)) oH,(by intro b E sz cid hb;cases hb)⟩
    ·simp;omega
    ·rw [Lu];cases hat:args[t]? with
     | none=>trivial
     | some g=>
       have htl:t<args.length:=(List.getElem?_eq_some_iff.1 hat).1;obtain ⟨x,hx,hix⟩:=hin.get t g hat;have hvt:vs[t]? = some (vs[t]'(by omega)):=List.getElem?_eq_getElem (by omega);obtain ⟨ty,hty,hrep⟩:=hvs.get t _ hvt;rw [List.getElem?_map,hx] at hty;simp only [Option.map_some,Option.some.injEq] at hty;subst hty
       have hval:(vs.toArray++Array.replicate (fn.ntmps-vs.toArray.size) Go.undef).getD t Go.undef=vs[t]'(by omega):=by
        rw [Array.getD_eq_getD_getElem?,Array.getElem?_append_left (by simp;omega)];simp [hvt]
       rw [hval];refine lM (by rw [List.getElem?_map,hx];rfl) hix (aF.xB ?_ hrep);intro k o hk ho _;refine ⟨fun hm=>?_,ho⟩;rcases hm with hm | ⟨b,x,hb,_⟩
       ·exact hk hm
       ·cases hb
   ·intro c v a w' hp;exact hp.elim
   ·intro ex nb s dec m bk' ρ a w' _ _ hv _ hs
    have key:vc P (fun o=>jY o (.ret [.agg cs])) (ak5 s T fn.results.toList) (ins.map In.env++m) bk'→a.defers = []∧∃ v,(results fn a.tmps).run P w' = .ok v w'∧(Below w.heap.size w w'∧∃ b us,Ending.returned v = .returned (.pointer (some ⟨b,0,none⟩))∧w.heap.size≤b∧w'.heap[b]? = some (.cells (List.toArray us) T (0,0))∧aZ (fun k=>M k∨k=b) w' cs us):=by
     clear hv;intro hv;unfold ak5 at hv;split at hv
     ·rename_i t hres;split at hv
      ·rename_i b0 hbt;split at hv
       ·rename_i T' cells hbx;split at hv
        ·rename_i hc;obtain ⟨rfl,hsb⟩:=hc;split at hv
         ·rename_i xs l hq;split at hv
          ·rename_i hl;obtain ⟨us,hh,hall⟩:=hs.bx b0 _ hbx;have htv:=hs.tm t;rw [hbt] at htv;have hptr:a.tmps.getD t Go.undef = .pointer (some ⟨(ρ b0).blk,0,none⟩):=htv.2;have hown:own ρ b0 (.var T' cells)=some (ρ b0).blk:=rfl;have hlo:=hs.lo b0 _ _ hbx hown
           have hS:bX ⟨M,⟨0,Go.undef,#[]⟩⟩ ρ s l (fun k=>M k∨k=(ρ b0).blk):=by
            refine ⟨fun k hk=>?_,fun b x k h1 h2 h3 hk=>?_⟩
            ·rcases hk with hk | rfl
             ·exact .inl hk
             ·exact .inr ⟨b0,_,hbx,hsb,hown⟩
            ·rcases hk with hk | rfl
             ·exact hs.old k hk (hs.lo b x k h1 h2).1
             ·have:=hs.inj b b0 x _ _ h1 hbx h2 hown;subst this;rcases h3 with h3 | h3
              ·rw [hsb] at h3;cases h3
              ·have:l.contains b=true:=by simpa using h3
               rw [hl] at this;cases this
           have hrep:=lL hs hq hS hall;refine ⟨hs.df,_,iV fn a.tmps [.pointer (some ⟨(ρ b0).blk,0,none⟩)] ?_,hs.below.below,(ρ b0).blk,us,rfl,?_,hh,?_⟩
           ·rw [hres];simp only [List.mapM_cons,List.mapM_nil,mM,Sem.run_bind,Sem.run_pure,Result.andThen_ok,hptr]
           ·rcases hlo.1 with h1 | h1
            ·exact h1
            ·exact (oH h1).elim
           ·have hsub:aO [.agg ((xs.map SC.c).map (Mr (ins.map In.env++m)))] [.agg cs]:=hv;have h2:=hsub.1;rw [List.map_map] at h2;exact aZ.sub h2 hrep
          ·exact hv.elim
         ·exact hv.elim
        ·exact hv.elim
       ·exact hv.elim
      ·exact hv.elim
     ·exact hv.elim
    cases ex with
    | normal=>exact key hv
    | ret=>exact key hv
    | exit id=>exact hv.elim
  ·exact h.elim
end
open Go.RowKit (Below)
def NJ (ins:List (Nat×Arg)) (t0:Nat) (sv:SV) (bx:Bx):St:=⟨(ins.mapIdx fun i p=>(p.1,dA i p.2)) ++ [(t0,sv)],[(0,bx)],[]⟩
section
variable {P:Program}
theorem QB {N:Nat} {ins:List (Nat×Arg)} {xs:List In} {t0:Nat} {sv:SV} {bx:Bx} {gh:Gh} {y:aF} (hin:aY In.Is (ins.map (·.2)) xs) {M:Nat→Prop} {w:World} {a:Act}
  (hM:dL (fun k=>M k∨gh.val.ownBlock=some k) w) (hMd:∀ k,M k→gh.val.ownBlock≠some k) (hsz:a.tmps.size=N) (hdf:a.defers = [])
  (hv:cI (fun k=>M k∨gh.val.ownBlock=some k) w (xs.map In.ty) (ins.map fun p=>a.tmps.getD p.1 Go.undef))
  (hown:own (fun _=>gh) 0 bx=gh.val.ownBlock)
  (hsv:fQ (fun b=>((NJ ins t0 sv bx).b b).isSome) (xs.map In.env ++ [y]) (fun _=>gh) (fun k=>M k∨gh.val.ownBlock=some k) w sv (a.tmps.getD t0 Go.undef))
  (hbx:lY 0 (fun b=>((NJ ins t0 sv bx).b b).isSome) (xs.map In.env ++ [y]) (fun _=>gh) (fun k=>M k∨gh.val.ownBlock=some k) w 0 bx)
  (holt:∀ k,gh.val.ownBlock=some k→k<w.heap.size):Sat ⟨M,gh⟩ w N (NJ ins t0 sv bx) (xs.map In.env ++ [y]) (fun _=>gh) a w:=by
 have hil:xs.length=ins.length:=by have:=hin.length;simpa using this.symm
 have hb0:∀ b x,(NJ ins t0 sv bx).b b=some x→b=0∧x=bx:=by
  intro b x h;simp only [NJ,St.b,look] at h;split at h
  ·rename_i e;simp only [Option.some.injEq] at h;exact ⟨e.symm,h.symm⟩
  ·cases h
 have hb00:(NJ ins t0 sv bx).b 0=some bx:=by simp [NJ,St.b,look]
 have hMs:Ms ⟨M,gh⟩ (fun _=>gh) (NJ ins t0 sv bx)=fun k=>M k∨gh.val.ownBlock=some k:=by
  funext k
  apply propext
  constructor
  ·rintro (hk | ⟨b,x,h1,_,h3⟩)
   ·exact .inl hk
   ·obtain ⟨rfl,rfl⟩:=hb0 b x h1;rw [hown] at h3;exact .inr h3
  ·rintro (hk | hk)
   ·exact .inl hk
   ·exact .inr ⟨0,bx,hb00,by simp [NJ,St.s],by rw [hown];exact hk⟩
 refine ⟨⟨rfl,rfl,rfl,Nat.le_refl _,fun _ _ _=>rfl,fun x hx=>⟨fun h=>(hM.2 x hx).1 (.inl h),fun h=>(hM.2 x hx).1 (.inr h),(hM.2 x hx).2⟩⟩,hsz,hdf,fun t=>?_,fun b x h=>?_,fun b b' x x' k h1 h2 _ _=>?_,fun b x k h1 h2=>?_,fun k hk ho=>?_,fun b E sz cid h=>?_⟩
 ·rw [hMs];show fQ _ _ _ _ _ ((look ((ins.mapIdx fun i p=>(p.1,dA i p.2)) ++ [(t0,sv)]) t).getD .junk) _;rw [HO];cases hl:look (ins.mapIdx fun i p=>(p.1,dA i p.2)) t with
  | none=>
    simp only [Option.none_or,look];split
    ·rename_i e;subst e;exact hsv
    ·exact trivial
  | some x=>
    simp only [Option.some_or,Option.getD_some];obtain ⟨i,p,h1,rfl,rfl⟩:=De dA t ins 0 x (by simpa only [Nat.zero_add] using hl);rw [Nat.zero_add];obtain ⟨z,hy,hix⟩:=hin.get i p.2 (by rw [List.getElem?_map,h1];rfl);obtain ⟨ty,hty,hrep⟩:=hv.get i _ (by rw [List.getElem?_map,h1];rfl);rw [List.getElem?_map,hy] at hty;simp only [Option.map_some,Option.some.injEq] at hty;subst hty;have hi:i<xs.length:=(List.getElem?_eq_some_iff.1 hy).1;exact lM (by rw [List.getElem?_append_left (by simpa using hi),List.getElem?_map,hy];rfl) hix hrep
 ·rw [hMs];obtain ⟨rfl,rfl⟩:=hb0 b x h;exact hbx
 ·rw [(hb0 b x h1).1,(hb0 b' x' h2).1]
 ·obtain ⟨rfl,rfl⟩:=hb0 b x h1;rw [hown] at h2;exact ⟨.inr h2,holt k h2⟩
 ·rcases ho with ho | ho
  ·exact Nat.not_lt.2 ho (hM.1 k (.inl hk))
  ·exact hMd k hk ho
 ·rfl
def JH (P:Program) (tr E sz:Nat) (res:List ResultVar) (e:Ex) (s:St):Tr:=match e with
 | .normal=>match s.t tr with
   | .w (.one (.r b))=>match s.b b with
     | some (.row E' sz' cid)=>match (zE P s res).run s with
       | some (vs,l)=>if E'=E∧sz'=sz∧s.s b=false∧l.contains b=false then .retr vs cid else .fail 1020
       | none=>.fail 1008
     | _=>.fail 1021
   | _=>.fail 1022
 | _=>.fail 1023
def QF (P:Program) (N:Nat) (hints:Nat→Option Hint) (c:Code) (ins:List (Nat×Arg)) (t0 E sz tr:Nat) (res:List ResultVar):Tr:=
 exec P N hints c 0 0 1 (ins.length+1) (NJ ins t0 (.w (.one (.r 0))) (.row E sz ins.length)) [] fun e nb ni s _=>JH P tr E sz res e s
theorem aj0 {c c':Code} {ins:List (Nat×Arg)} {xs:List In} {N t0 E sz tr:Nat} {hints:Nat→Option Hint} {res:List ResultVar} {ts ts':List (List aH)} {rs:List aF} (hm:P.follows .mixedOrders=true) (hin:aY In.Is (ins.map (·.2)) xs)
  {of:Nat} {oa on:List aF} (h:vc P (fun o=>o = .retr rs ts'∨o = .orc of oa on) (QF P N hints c' ins t0 E sz tr res) (xs.map In.env ++ [.rows ts]) []) (hc:c'=c) {M:Nat→Prop} {w:World} {a:Act} {Q:Exit→Act→World→Prop} {v:Value} {vs:List Value} {base:Nat}
  (hor:(∀ as w,(callFunc of as).run P w = .ok (.enter of as) w)∧∀ (M:Nat→Prop) (w':World) (vs:List Value),w.heap.size≤w'.heap.size→dL M w'→cI M w' oa vs→Calls P of vs.toArray w' fun e w2=>Below w'.heap.size w' w2∧sZ M w2 (.ret on) e) (hM:dL (fun k=>M k∨v.ownBlock=some k) w) (hMd:∀ k,M k→v.ownBlock≠some k) (hsz:a.tmps.size=N) (hdf:a.defers = [])
  (hv:cI (fun k=>M k∨v.ownBlock=some k) w (xs.map In.ty) (ins.map fun p=>a.tmps.getD p.1 Go.undef)) (ht0:a.tmps.getD t0 Go.undef=v) (hrow:w.ownsRow base E sz v ts.length vs) (hts:∀ t∈ts,t.length=sz) (hrep:aZ (fun k=>M k∨v.ownBlock=some k) w ts.flatten vs)
  (hR:∀ a' w' us v' vs',w.grownBy w' v.ownBlock→a'.tmps.size=N→a'.defers = []→(res.mapM (mM a'.tmps)).run P w' = .ok us w'→a'.tmps.getD tr Go.undef=v'→w'.ownsRow 0 E sz v' ts'.length vs'→(∀ k,v'.ownBlock=some k→w.heap.size≤k∨v.ownBlock=some k) →
   cI (fun k=>M k∨v'.ownBlock=some k) w' rs us→aZ (fun k=>M k∨v'.ownBlock=some k) w' ts'.flatten vs'→Q .normal a' w'):c.wp P Q a w:=by
 subst hc;have hil:xs.length=ins.length:=by have:=hin.length;simpa using this.symm
 have hv1:v.oneCell'=true:=by
  rcases hrow.2 with ⟨hv,_⟩ | ⟨g,cap,cur,hv,_⟩<;>rw [hv]<;>rfl
 have holt:∀ k,v.ownBlock=some k→k<w.heap.size:=fun k hk=>(hrow.lt k hk).2
 have hrow0:w.ownsRow 0 E sz v ts.length vs:=by
  refine ⟨hrow.1,?_⟩;rcases hrow.2 with hn | ⟨g,cap,cur,hv,hbg,rest⟩
  ·exact .inl hn
  ·exact .inr ⟨g,cap,cur,hv,Nat.zero_le _,rest⟩
 refine kA (M0:=⟨M,⟨0,v,#[]⟩⟩) (w0:=w) hm c' 0 0 1 (ins.length+1) _ [] _ (xs.map In.env ++ [.rows ts]) [] h (by simp [hil]) (by intro x hx;cases hx) (Nat.le_refl _) (fun _=>⟨0,v,#[]⟩) a w _
  (QB (gh:=⟨0,v,#[]⟩) (t0:=t0) (sv:=.w (.one (.r 0))) (bx:=.row E sz ins.length) (y:=.rows ts) hin hM hMd hsz hdf hv rfl ⟨by simp [NJ,St.b,look],ht0,by rw [ht0];exact hv1⟩ ⟨ts,vs,by rw [List.getElem?_append_right (by simp [hil]),List.length_map,hil,Nat.sub_self];rfl,hrow0,hts,hrep⟩ holt) ?_ ?_ ?_
 ·intro c v a w' hp;rcases hp with hp | hp<;>cases hp
 ·intro f args news hp;rcases hp with hp | hp
  ·cases hp
  ·cases hp;exact ⟨hor.1,fun M w' vs hk hM hr=>hor.2 M w' vs hk.size hM hr⟩
 ·intro ex nb s dec m bk' ρ a' w' _ _ hv2 _ hs;replace hv2:vc P (fun o=>o = .retr rs ts'∨o = .orc of oa on) (JH P tr E sz res ex s) (xs.map In.env ++ [.rows ts]++m) bk':=hv2;cases ex with
  | exit id=>exact hv2.elim
  | ret=>exact hv2.elim
  | normal=>
    unfold JH at hv2;simp only at hv2;split at hv2
    ·rename_i b0 hbt;split at hv2
     ·rename_i E' sz' cid hbx;split at hv2
      ·rename_i vs2 l hq;split at hv2
       ·rename_i hc;obtain ⟨rfl,rfl,hsb,hl⟩:=hc;obtain ⟨ts2,hcid,hpo⟩:=hv2;replace hpo:Out.retr (vs2.map (oK _)) ts2=Out.retr rs ts':=hpo.resolve_right (fun e=>by cases e);simp only [Out.retr.injEq] at hpo;obtain ⟨hrs,rfl⟩:=hpo;obtain ⟨ts3,xs3,hcid3,hown3,hlen3,hrep3⟩:=hs.bx b0 _ hbx;rw [hcid] at hcid3;simp only [Option.some.injEq,aF.rows.injEq] at hcid3;subst hcid3;have htv:=hs.tm tr;rw [hbt] at htv;have hval:a'.tmps.getD tr Go.undef=(ρ b0).val:=htv.2.1;have hown:own ρ b0 (.row E' sz' cid)=(ρ b0).val.ownBlock:=rfl
        have hS:bX ⟨M,⟨0,v,#[]⟩⟩ ρ s l (fun k=>M k∨(ρ b0).val.ownBlock=some k):=by
         refine ⟨fun k hk=>?_,fun b x k h1 h2 h3 hk=>?_⟩
         ·rcases hk with hk | hk
          ·exact .inl hk
          ·exact .inr ⟨b0,_,hbx,hsb,hk⟩
         ·rcases hk with hk | hk
          ·exact hs.old k hk (hs.lo b x k h1 h2).1
          ·have:=hs.inj b b0 x _ _ h1 hbx h2 hk;subst this;rcases h3 with h3 | h3
           ·rw [hsb] at h3;cases h3
           ·have:l.contains b=true:=by simpa using h3
            rw [hl] at this;cases this
        obtain ⟨us,hr,hrepr⟩:=oO hs hq hS;have hbel:=hs.below;refine hR a' w' us (ρ b0).val xs3 ⟨hbel.os,hbel.tape,hbel.output,hbel.size,fun k hk hne=>hbel.block k hk fun ho=>hne ?_⟩ hs.sz hs.df hr hval hown3 (fun k hk=>?_) (by rw [←hrs];exact hrepr) (hrep3.mono hS.jD)
        ·exact (show v.ownBlock=some k from ho).symm
        ·exact (hs.lo b0 _ k hbx hk).1
       ·exact hv2.elim
      ·exact hv2.elim
     ·exact hv2.elim
    ·exact hv2.elim
def Kw (P:Program) (T n:Nat) (res:List ResultVar) (e:Ex) (s:St):Tr:=match e with
 | .normal=>match (zE P s res).run s with
   | some (vs,l)=>Ji s T n vs l
   | none=>.fail 1008
 | _=>.fail 1023
def Qo (P:Program) (N:Nat) (hints:Nat→Option Hint) (c:Code) (ins:List (Nat×Arg)) (t0 T n:Nat) (res:List ResultVar):Tr:=
 exec P N hints c 0 0 1 (ins.length+1) (NJ ins t0 (.w (.one (.rp 0 n (.k (.int .i64 0)) 0))) (.part T n ins.length)) [] fun e nb ni s _=>Kw P T n res e s
theorem Ww {c c':Code} {ins:List (Nat×Arg)} {xs:List In} {N t0 T n:Nat} {hints:Nat→Option Hint} {res:List ResultVar} {cs cs':List aH} {rs:List aF} (hm:P.follows .mixedOrders=true) (hin:aY In.Is (ins.map (·.2)) xs)
  (h:vc P (fun o=>o = .retr rs [cs']) (Qo P N hints c' ins t0 T n res) (xs.map In.env ++ [.rows [cs]]) []) (hc:c'=c) {M:Nat→Prop} {w:World} {a:Act} {Q:Exit→Act→World→Prop} {g:Nat} {cur:Array Value}
  (hM:dL M w) (hMg:M g) (hsz:a.tmps.size=N) (hdf:a.defers = []) (hcn:cs.length=n)
  (hv:cI M w (xs.map In.ty) (ins.map fun p=>a.tmps.getD p.1 Go.undef)) (ht0:a.tmps.getD t0 Go.undef = .pointer (some ⟨g,0,none⟩)) (hg:w.heap[g]? = some (.cells cur T (0,0))) (hrep:aZ M w cs cur.toList)
  (hR:∀ a' w' us cur',w.grownBy w' (some g)→a'.tmps.size=N→a'.defers = []→(res.mapM (mM a'.tmps)).run P w' = .ok us w'→w'.heap[g]? = some (.cells cur' T (0,0))→cI M w' rs us→aZ M w' cs' cur'.toList→Q .normal a' w'):c.wp P Q a w:=by
 subst hc;have hil:xs.length=ins.length:=by have:=hin.length;simpa using this.symm
 have hcl:cur.size=n:=by have:=hrep.length;simp at this;omega
 obtain ⟨M1,hM1⟩:∃ M1:Nat→Prop,M1=fun k=>M k∧k≠g:=⟨_,rfl⟩
 obtain ⟨gh,hgh⟩:∃ gh:Gh,gh=⟨0, .slice (some ⟨g,0,none⟩) 1 1,cur⟩:=⟨_,rfl⟩
 have hob:∀ k,gh.val.ownBlock=some k↔k=g:=fun k=>by subst hgh;simp [Value.ownBlock,eq_comm]
 have hMM:(fun k=>M1 k∨gh.val.ownBlock=some k)=M:=by
  funext k
  apply propext;rw [hob,hM1]
  constructor
  ·rintro (h | rfl)
   ·exact h.1
   ·exact hMg
  ·intro h;by_cases e:k=g
   ·exact .inr e
   ·exact .inl ⟨h,e⟩
 have hglt:g<w.heap.size:=(Array.getElem?_eq_some_iff.1 hg).1;have hval:gh.val = .slice (some ⟨g,0,none⟩) 1 1:=by rw [hgh]
 have hcur:gh.cur=cur:=by rw [hgh]
 refine kA (M0:=⟨M1,gh⟩) (w0:=w) hm c' 0 0 1 (ins.length+1) _ [] _ (xs.map In.env ++ [.rows [cs]]) [] h (by simp [hil]) (by intro x hx;cases hx) (Nat.le_refl _) (fun _=>gh) a w _
  (QB (gh:=gh) (t0:=t0) (sv:=.w (.one (.rp 0 n (.k (.int .i64 0)) 0))) (bx:=.part T n ins.length) (y:=.rows [cs]) hin (by rw [hMM];exact hM) (fun k hk e=>by rw [hM1] at hk;exact hk.2 ((hob k).1 e)) hsz hdf (by rw [hMM];exact hv) rfl ?_ ?_ (fun k hk=>by rw [(hob k).1 hk];exact hglt)) ?_ uD.noR ?_
 ·exact ⟨by simp [NJ,St.b,look],g,0,1,1, .i64,0,hval,rfl,by omega,by rw [ht0];simp⟩
 ·rw [hMM];refine ⟨[cs],cur.toList,?_,⟨by simp [hcl], .inr ⟨g,0,1,cur,hval,hg,Nat.le_refl _,by simp [maxLen],by simp [hcl],?_⟩⟩,by intro t ht;rw [List.mem_singleton.1 ht];exact hcn,by simpa using hrep,by rw [hval];rfl,?_⟩
  ·rw [List.getElem?_append_right (by simp [hil]),List.length_map,hil,Nat.sub_self];rfl
  ·rw [show ([cs]:List (List aH)).length*n=cur.toList.length by simp [hcl],List.drop_zero]
   first | exact (List.take_of_length_le (by simp)).symm | exact List.take_of_length_le (by simp)
  ·intro g2 off2 len2 cap2 hv cur2 hg2;rw [hval] at hv;simp only [Value.slice.injEq,Option.some.injEq,Addr.mk.injEq,and_true] at hv;obtain ⟨⟨rfl,rfl⟩,rfl,rfl⟩:=hv;rw [hg] at hg2;simp only [Option.some.injEq,Obj.cells.injEq,and_true] at hg2;subst hg2;rw [hcur];exact ⟨rfl,fun _ _=>rfl⟩
 ·intro c v a w' hp;cases hp
 ·intro ex nb s dec m bk' ρ a' w' _ _ hv2 _ hs;replace hv2:vc P (fun o=>o = .retr rs [cs']) (Kw P T n res ex s) (xs.map In.env ++ [.rows [cs]]++m) bk':=hv2;cases ex with
  | exit id=>exact hv2.elim
  | ret=>exact hv2.elim
  | normal=>
    unfold Kw at hv2;simp only at hv2;split at hv2
    ·rename_i vs' l hq;unfold Ji at hv2;split at hv2
     ·rename_i E' sz' cid hb0;split at hv2
      ·rename_i hc;obtain ⟨rfl,rfl,hs0,hl0⟩:=hc;obtain ⟨ts2,hcid,hpo⟩:=hv2;have hpo:Out.retr _ ts2=Out.retr rs [cs']:=hpo;simp only [Out.retr.injEq] at hpo;obtain ⟨hrs,rfl⟩:=hpo;have hgh0:=hs.pt 0 E' sz' cid hb0;have hgh0:ρ 0=gh:=hgh0;have hown0:own ρ 0 (.part E' sz' cid)=some g:=by simp only [own,hgh0];exact (hob g).2 rfl
       have hS:bX ⟨M1,gh⟩ ρ s l M:=by
        refine ⟨fun k hk=>?_,fun b x k h1 h2 h3 hk=>?_⟩
        ·by_cases hkg:k=g
         ·subst hkg;exact .inr ⟨0,_,hb0,hs0,hown0⟩
         ·exact .inl (by rw [hM1];exact ⟨hk,hkg⟩)
        ·by_cases hkg:k=g
         ·subst hkg;have:=hs.inj b 0 x _ k h1 hb0 h2 hown0;subst this;rcases h3 with h3 | h3
          ·rw [hs0] at h3;cases h3
          ·have:l.contains 0=true:=by simpa using h3
           rw [hl0] at this;cases this
         ·exact hs.old k (by rw [hM1];exact ⟨hk,hkg⟩) (hs.lo b x k h1 h2).1
       obtain ⟨us,hr,hrepr⟩:=oO hs hq hS;obtain ⟨ts3,xs3,hcid3,⟨hxl,hown⟩,hlen3,hrep3,_,hfr⟩:=hs.bx 0 _ hb0;rw [hcid] at hcid3;simp only [Option.some.injEq,aF.rows.injEq] at hcid3;subst hcid3;rw [hgh0] at hown hfr;rcases hown with ⟨_,c,hv⟩ | ⟨g2,off2,cap2,cur2,hv,hg2,hnc,hcm,hfit2,htake⟩
       ·rw [hval] at hv;simp at hv
       ·rw [hval] at hv;simp only [Value.slice.injEq,Option.some.injEq,Addr.mk.injEq,and_true] at hv;obtain ⟨⟨rfl,rfl⟩,hll,rfl⟩:=hv;obtain ⟨hf1,hf2⟩:=hfr g 0 1 1 hval cur2 hg2;rw [hcur] at hf1 hf2;have hbel:=hs.below;refine hR a' w' us cur2 ⟨hbel.os,hbel.tape,hbel.output,hbel.size,fun k hk hne=>hbel.block k hk fun ho=>hne (by rw [(hob k).1 ho])⟩ hs.sz hs.df hr hg2 (by rw [←hrs];exact hrepr) ?_;have h3:=hrep3.mono hS.jD;rw [←htake] at h3;have hc2:cur2.toList.length=sz':=by simp [hf1,hcl]
        simpa [List.take_of_length_le,hc2] using h3
      ·exact hv2.elim
     ·exact hv2.elim
    ·exact hv2.elim
end
end Go.Sy
