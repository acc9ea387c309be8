/- Part. -/
import Derived.Test.YtacgmapjhpghkaaGreatDoorXe
set_option linter.all false
namespace Go.Sy
open Go Go.Proofs Tryz Ord
theorem PC(f:Nat->Rat)(n s:Nat):((List.range n).map f).getD s 0=if s<n then f s else 0:=by
 rw[rP,cn];split
 ·rename_i h;rw[kv h];rfl
 ·rename_i h;rw[iR (by rw[oh];omega)];rfl
theorem sG{p:List Rat}{i:Nat}(h:p.length<=i:=by omega):p.getD i 0=0:=by rw[rP,iR h];rfl
theorem xe(p q:List Rat)(i:Nat):(kH p q).getD i 0=p.getD i 0+q.getD i 0:=by
 rw[kH,ke,PC];split
 ·rfl
 ·rw[sG (p:=p),sG (p:=q)];grind
theorem Mg(p:List Rat)(k:Rat)(i:Nat):(wi p k).getD i 0=p.getD i 0*k:=by
 rw[wi,ke,PC];split
 ·rfl
 ·rw[sG (p:=p)];grind
theorem sK(p:List Rat)(i:Nat):(ly p).getD i 0=p.getD (i+1) 0*(((i:Int)+1:Int):Rat):=by
 rw[ly,ke,PC];split
 ·rfl
 ·rw[sG (p:=p)];grind
theorem NW{p q:List Rat}(h:∀i,p.getD i 0=q.getD i 0)(x:Rat):ev p x=ev q x:=by
 rw[<-ox x p (max p.length q.length) (by omega),<-ox x q (max p.length q.length) (by omega)]
 congr 1
 exact fW fun i _=>h i
theorem VH{p q:List Rat}(h:∀x,ev p x=ev q x)(i:Nat):p.getD i 0=q.getD i 0:=by
 have:trim p=trim q:=uR (gj _) (gj _) fun x=>by rw[lW,lW,h]
 rw[<-ke p,<-ke q,this]
theorem uy{p q:List Rat}(h:∀x,ev p x=ev q x)(x:Rat):ev (ly p) x=ev (ly q) x:=NW (fun i=>by rw[sK,sK,VH h]) x
theorem Qy(p q:List Rat)(x:Rat):ev (ly (kH p q)) x=ev (ly p) x+ev (ly q) x:=by
 rw[<-jx];exact NW (fun i=>by rw[sK,xe,xe,sK,sK];grind) x
theorem aa4(p:List Rat)(k x:Rat):ev (ly (wi p k)) x=ev (ly p) x*k:=by
 rw[<-ud];exact NW (fun i=>by rw[sK,Mg,Mg,sK];grind) x
theorem bd7(c:Rat)(r:List Rat)(x:Rat):ev (ly (c::r)) x=ev r x+x*ev (ly r) x:=by
 have h:ev (ly (c::r)) x=ev (kH r (0::ly r)) x:=NW (fun i=>by
  rw[sK,xe];cases i with
  | zero=>show r.getD 0 0*_=r.getD 0 0+0;have:(((0:Nat):Int)+1:Int)=1:=rfl;grind
  | succ i=>
    show r.getD (i+1) 0*_=r.getD (i+1) 0+(ly r).getD i 0;rw[sK]
    have e:((((i+1:Nat):Int)+1:Int):Rat)=(((i:Int)+1:Int):Rat)+1:=by
     rw[show(((i+1:Nat):Int)+1:Int)=((i:Int)+1)+1 by omega,Rat.intCast_add];rfl
    rw[e];grind) x
 rw[h,jx,bP];grind
theorem Mi{p q:List Rat}(h:∀x,ev p x=ev q x):∀r x,ev (LY p r) x=ev (LY q r) x
 | 0,x=>h x
 | r+1,x=>uy (Mi h r) x
theorem Cm(g:List Rat)(a t:Rat):ev (ly (fP g [-a,((1:Int):Rat)])) t=ev g t+(t-a)*ev (ly g) t:=by
 have e1:((1:Int):Rat)=1:=rfl;rw[uy (q:=kH (0::g) (wi g (-a))) (fun s=>by rw[mK,Ni,jx,bP,ud,e1];grind),Qy,bd7,aa4];grind
theorem xZ(g:List Rat)(a:Rat):∀r t,ev (LY (fP g [-a,((1:Int):Rat)]) (r+1)) t=(t-a)*ev (LY g (r+1)) t+(((r:Int)+1:Int):Rat)*ev (LY g r) t
 | 0,t=>by
   show ev (ly (fP g [-a,((1:Int):Rat)])) t=(t-a)*ev (ly g) t+_*ev g t;rw[Cm,show(((0:Nat):Int)+1:Int)=1 from rfl,show((1:Int):Rat)=1 from rfl];grind
 | r+1,t=>by
   have h:∀s,ev (LY (fP g [-a,((1:Int):Rat)]) (r+1)) s=ev (kH (fP (LY g (r+1)) [-a,((1:Int):Rat)]) (wi (LY g r) (((r:Int)+1:Int):Rat))) s:=fun s=>by
    rw[xZ g a r s,jx,mK,Ni,ud,show((1:Int):Rat)=1 from rfl];grind
   show ev (ly (LY (fP g [-a,((1:Int):Rat)]) (r+1))) t=(t-a)*ev (ly (LY g (r+1))) t+_;rw[uy h,Qy,Cm,aa4,show(((r+1:Nat):Int)+1:Int)=((r:Int)+1)+1 by omega,Rat.intCast_add,show((1:Int):Rat)=1 from rfl];show ev (LY g (r+1)) t+_+ev (LY g (r+1)) t*_=_;rw[show ly (LY g (r+1))=LY g (r+1+1)from rfl]
   grind
theorem af1(g:List Rat)(a t:Rat):ev (LY (fP g [-a,((1:Int):Rat)]) 0) t=(t-a)*ev g t:=by
 show ev (fP g [-a,((1:Int):Rat)]) t=_;rw[mK,Ni,show((1:Int):Rat)=1 from rfl];grind
def Zer(p:List Rat)(x:Rat)(s:Nat):Prop:=∀r,r<s->ev (LY p r) x=0
theorem Zer.mono{p:List Rat}{x:Rat}{s s':Nat}(h:Zer p x s)(hs:s'<=s):Zer p x s':=fun r hr=>h r (by omega)
theorem Zer.mul{g:List Rat}{a y:Rat}{s:Nat}(h:Zer g y s):Zer (fP g [-a,((1:Int):Rat)]) y s:=fun r hr=>by
 cases r with
 | zero=>rw[af1,show ev g y=0 from h 0 hr];grind
 | succ r=>rw[xZ,h (r+1) hr,h r (by omega)];grind
theorem Zer.div{g:List Rat}{a y:Rat}(hy:y≠a){s:Nat}(h:Zer (fP g [-a,((1:Int):Rat)]) y s):Zer g y s:=by
 intro r
 induction r with
 | zero=>
   intro hr;have:=h 0 hr;rw[af1]at this;rcases nz.1 this with h3 | h3
   ·exact absurd (show y=a by grind) hy
   ·exact h3
 | succ r ih=>
   intro hr;have:=h (r+1) hr;rw[xZ,ih (by omega)]at this;have h2:(y-a)*ev (LY g (r+1)) y=0:=by grind
   rcases nz.1 h2 with h3 | h3
   ·exact absurd (show y=a by grind) hy
   ·exact h3
theorem Zer.of{p q:List Rat}(h:∀x,ev p x=ev q x){x:Rat}{s:Nat}(hz:Zer p x s):Zer q x s:=fun r hr=>by rw[<-Mi h];exact hz r hr
def quo(a:Rat):List Rat->List Rat
 | []=>[]
 | _::p=>match p with
   | []=>[]
   | _::_=>ev p a::quo a p
end Go.Sy
