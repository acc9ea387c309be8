/- Part. -/
set_option linter.all false
namespace Ord
def val (B:Nat):List Nat→Nat
 | []=>0
 | d::ds=>d+B*val B ds
def iA (B:Nat) (n:Nat):List Nat:=
 if h:1<B∧n≠0 then n%B::iA B (n/B) else []
termination_by n
decreasing_by exact Nat.div_lt_self (by omega) h.1
theorem cJ (B:Nat):iA B 0 = []:=by rw [iA];simp
theorem dR {B n:Nat} (hB:1<B:=by omega) (h:n≠0:=by omega):iA B n=n%B::iA B (n/B):=by
 rw [iA,dif_pos ⟨hB,h⟩]
theorem yF {B:Nat} (hB:1<B) (n:Nat):val B (iA B n)=n:=by
 induction n using Nat.strongRecOn with
 | _ n ih=>
   by_cases h:n=0
   ·subst h;rw [cJ];rfl
   ·rw [dR hB h,val,ih _ (Nat.div_lt_self (by omega) hB)];exact Nat.mod_add_div n B
theorem sR {B:Nat} (n:Nat) (hB:1<B:=by omega):∀ d∈iA B n,d<B:=by
 induction n using Nat.strongRecOn with
 | _ n ih=>
   by_cases h:n=0
   ·subst h;rw [cJ];simp
   ·rw [dR hB h];intro d hd;rcases List.mem_cons.1 hd with rfl | hd
    ·exact Nat.mod_lt _ (by omega)
    ·exact ih _ (Nat.div_lt_self (by omega) hB) d hd
theorem iZ (B:Nat) (xs ys:List Nat):val B (xs++ys)=val B xs+B^xs.length*val B ys:=by
 induction xs with
 | nil=>simp [val]
 | cons x xs ih=>simp [val,ih,Nat.mul_add,Nat.pow_succ,Nat.add_assoc,Nat.mul_assoc,Nat.mul_left_comm,Nat.mul_comm]
theorem LI {B:Nat} (hB:0<B) (xs:List Nat) (h:∀ d∈xs,d<B):val B xs<B^xs.length:=by
 induction xs with
 | nil=>simp [val]
 | cons x xs ih=>
   have h1:=ih (fun d hd=>h d (List.mem_cons_of_mem _ hd));have h2:=h x List.mem_cons_self;simp only [val,List.length_cons,Nat.pow_succ]
   calc x+B*val B xs<B+B*val B xs:=by omega
    _=B*(val B xs+1):=by rw [Nat.mul_add,Nat.mul_one,Nat.add_comm]
    _≤B*B^xs.length:=Nat.mul_le_mul_left _ h1
    _=B^xs.length*B:=Nat.mul_comm _ _
theorem Qm {B:Nat} (hB:1<B) (xs:List Nat) (h:∀ d∈xs,d<B) (hl:∀ d,xs.getLast? = some d→d≠0):iA B (val B xs)=xs:=by
 induction xs with
 | nil=>simp [val,cJ]
 | cons x xs ih=>
   have hx:=h x List.mem_cons_self;have h1:∀ d∈xs,d<B:=fun d hd=>h d (List.mem_cons_of_mem _ hd);cases xs with
   | nil=>
     have:x≠0:=hl x (by simp);simp only [val,Nat.mul_zero,Nat.add_zero];rw [dR hB this,Nat.mod_eq_of_lt hx,Nat.div_eq_of_lt hx,cJ]
   | cons y ys=>
     have e:=ih h1 (fun d hd=>hl d (by rw [List.getLast?_cons_cons];exact hd))
     have hne:val B (y::ys)≠0:=by
      intro h0;rw [h0,cJ] at e;cases e
     have hne':val B (x::y::ys)≠0:=by
      rw [val];have:0<B*val B (y::ys):=Nat.mul_pos (by omega) (by omega);omega
     rw [dR hB hne'];rw [val,Nat.add_mul_mod_self_left,Nat.mod_eq_of_lt hx,Nat.add_mul_div_left _ _ (by omega:0<B),Nat.div_eq_of_lt hx,Nat.zero_add,e]
theorem Jg {B:Nat} (hB:1<B) (n:Nat):∀ d,(iA B n).getLast? = some d→d≠0:=by
 induction n using Nat.strongRecOn with
 | _ n ih=>
   by_cases h:n=0
   ·subst h;rw [cJ];simp
   ·rw [dR hB h];intro d hd;by_cases h2:n/B=0
    ·rw [h2,cJ] at hd;simp at hd;subst hd
     have:n<B:=by
      rcases Nat.lt_or_ge n B with h3 | h3
      ·exact h3
      ·have:=Nat.div_pos h3 (by omega);omega
     rw [Nat.mod_eq_of_lt this];exact h
    ·have e:iA B (n/B) ≠ []:=by rw [dR hB h2];simp
     have:=ih (n/B) (Nat.div_lt_self (by omega) hB) d;apply this;rw [List.getLast?_cons] at hd;rw [List.getLast?_eq_some_getLast e] at hd ⊢
     simpa using hd
theorem gE {B:Nat} {n k:Nat} (h:n<B^k:=by omega) (hB:1<B:=by omega):(iA B n).length≤k:=by
 induction k generalizing n with
 | zero=>have:n=0:=by simpa using h
         subst this;simp [cJ]
 | succ k ih=>
   by_cases h0:n=0
   ·subst h0;simp [cJ]
   ·rw [dR hB h0,List.length_cons]
    have:n/B<B^k:=by
     rw [Nat.div_lt_iff_lt_mul (by omega)];rw [Nat.pow_succ] at h;exact h
    exact Nat.succ_le_succ (ih this)
theorem gI {B:Nat} (hB:1<B) {n:Nat} (h:n≠0):B^((iA B n).length-1)≤n:=by
 induction n using Nat.strongRecOn with
 | _ n ih=>
   rw [dR hB h,List.length_cons,Nat.add_sub_cancel];by_cases h2:n/B=0
   ·rw [h2,cJ];simp;omega
   ·have:=ih (n/B) (Nat.div_lt_self (by omega) hB) h2;have hl:0<(iA B (n/B)).length:=by rw [dR hB h2];simp
    obtain ⟨k,hk⟩:∃ k,(iA B (n/B)).length=k+1:=⟨_,(Nat.sub_add_cancel hl).symm⟩
    rw [hk] at this ⊢;rw [Nat.add_sub_cancel] at this;rw [Nat.pow_succ]
    calc B^k*B≤(n/B)*B:=Nat.mul_le_mul_right _ this
     _≤n:=Nat.div_mul_le_self n B
theorem mY {B:Nat} (hB:1<B) (n:Nat):n<B^(iA B n).length:=by
 have:=LI (by omega:0<B) (iA B n) (sR n hB)
 rwa [yF hB] at this
end Ord
namespace Ord
def pd (B:Nat):Nat→Nat→List Nat
 | 0,_=>[]
 | n+1,x=>x%B::pd B n (x/B)
variable {B:Nat}
@[simp] theorem dG:∀ (n x:Nat),(pd B n x).length=n
  | 0,_=>rfl
  | n+1,x=>by simp [pd,dG n]
theorem Cg (hB:0<B):∀ (n x:Nat),∀ d∈pd B n x,d<B
 | 0,_,d,h=>by cases h
 | n+1,x,d,h=>by
   rcases List.mem_cons.1 h with rfl | h
   ·exact Nat.mod_lt _ hB
   ·exact Cg hB n _ d h
theorem qP:∀ (n x:Nat),val B (pd B n x)=x%B^n
 | 0,x=>by simp [pd,val,Nat.mod_one]
 | n+1,x=>by
   rw [pd,val,qP n,Nat.pow_succ,Nat.mul_comm (B^n) B,Nat.mod_mul]
theorem Sm (hB:0<B):∀ (ds:List Nat),(∀ d∈ds,d<B)→pd B ds.length (val B ds)=ds
 | [],_=>rfl
 | d::ds,h=>by
   have hd:=h d List.mem_cons_self;rw [List.length_cons,pd,val,Nat.add_mul_mod_self_left,Nat.mod_eq_of_lt hd,Nat.add_mul_div_left _ _ hB,Nat.div_eq_of_lt hd,Nat.zero_add,Sm hB ds fun x hx=>h x (List.mem_cons_of_mem _ hx)]
theorem KP (hB:0<B) {ds:List Nat} (h:∀ d∈ds,d<B) {n x:Nat} (hl:ds.length=n) (hv:val B ds=x):ds=pd B n x:=by
 subst hl hv;exact (Sm hB ds h).symm
theorem Hx:∀ {n i:Nat} (x:Nat),i<n→(pd B n x)[i]? = some (x/B^i%B)
 | 0,_,_,h=>by omega
 | n+1,0,x,_=>by simp [pd]
 | n+1,i+1,x,h=>by
   rw [pd,List.getElem?_cons_succ,Hx _ (by omega),Nat.div_div_eq_div_mul,Nat.pow_succ,Nat.mul_comm B]
theorem Jw:∀ (n i x:Nat),(pd B n x).drop i=pd B (n-i) (x/B^i)
 | n,0,x=>by simp
 | 0,i+1,x=>by simp [pd]
 | n+1,i+1,x=>by
   rw [pd,List.drop_succ_cons,Jw n i,Nat.div_div_eq_div_mul,Nat.pow_succ,Nat.mul_comm B,Nat.add_sub_add_right]
theorem HI:∀ {n k:Nat} (x:Nat),k≤n→(pd B n x).take k=pd B k x
 | n,0,x,_=>by simp [pd]
 | 0,k+1,x,h=>by omega
 | n+1,k+1,x,h=>by rw [pd,List.take_succ_cons,HI _ (by omega),pd]
theorem Uw (x:Nat) (hB:1<B:=by omega):iA B x=pd B (iA B x).length x:=KP (by omega) (sR x hB) rfl (yF hB x)
theorem Pf {n i k x y:Nat} (hx:x<B^n) (hy:y<B^k) (hB:0<B:=by omega) (hi:i+k≤n:=by omega):(pd B n x).take i++pd B k y++(pd B n x).drop (i+k)=pd B n (x%B^i+B^i*(y+B^k*(x/B^(i+k)))):=by
 apply KP hB
 ·intro d hd;simp only [List.mem_append] at hd;rcases hd with (hd | hd) | hd
  ·exact Cg hB _ _ d (List.mem_of_mem_take hd)
  ·exact Cg hB _ _ d hd
  ·exact Cg hB _ _ d (List.mem_of_mem_drop hd)
 ·simp;omega
 ·rw [iZ,iZ,HI _ (by omega),Jw,qP,qP,qP,Nat.mod_eq_of_lt hy]
  have h3:x/B^(i+k)<B^(n-(i+k)):=by
   rw [Nat.div_lt_iff_lt_mul (Nat.pow_pos hB),←Nat.pow_add,Nat.sub_add_cancel hi];exact hx
  rw [Nat.mod_eq_of_lt h3];simp only [List.length_append,dG,Nat.pow_add,Nat.mul_add,Nat.mul_assoc,Nat.add_assoc]
end Ord
namespace Ord
variable {B:Nat}
def DB (B:Nat) (ds:List Nat):Prop:=∀ d∈ds,d<B
theorem DB.take {ds:List Nat} (h:DB B ds) (n:Nat):DB B (ds.take n):=fun d hd=>h d (List.mem_of_mem_take hd)
theorem DB.drop {ds:List Nat} (h:DB B ds) (n:Nat):DB B (ds.drop n):=fun d hd=>h d (List.mem_of_mem_drop hd)
theorem DB.set {ds:List Nat} (h:DB B ds) {i x:Nat} (hx:x<B):DB B (ds.set i x):=fun d hd=>by
 rcases List.mem_or_eq_of_mem_set hd with hd | rfl
 ·exact h d hd
 ·exact hx
theorem DB.get {ds:List Nat} (h:DB B ds) {i d:Nat} (hd:ds[i]? = some d):d<B:=h d (List.mem_of_getElem? hd)
theorem DB.getD {ds:List Nat} (hB:0<B) (h:DB B ds) {i d:Nat} (hd:ds[i]?.getD 0=d):d<B:=by
 cases hx:ds[i]? with
 | none=>rw [hx] at hd;simp at hd;omega
 | some e=>rw [hx] at hd;simp at hd;subst hd;exact h.get hx
theorem DB.rep (hB:0<B) (n:Nat):DB B (List.replicate n 0):=fun d hd=>by
 obtain ⟨_,rfl⟩:=List.mem_replicate.1 hd;exact hB
theorem DB.iA (hB:1<B) (n:Nat):DB B (iA B n):=sR n hB
theorem DB.append {xs ys:List Nat} (h:DB B xs) (k:DB B ys):DB B (xs++ys):=fun d hd=>(List.mem_append.1 hd).elim (h d) (k d)
theorem DB.lt {xs:List Nat} (hB:0<B) (h:DB B xs):val B xs<B^xs.length:=LI hB xs h
theorem val_one (d:Nat):val B [d]=d:=by simp [val]
theorem take_succ {ds:List Nat} {i d:Nat} (h:ds[i]? = some d):ds.take (i+1)=ds.take i ++ [d]:=by
 rw [List.take_add_one,h];rfl
theorem eQ {ds:List Nat} {i d:Nat} (h:ds[i]? = some d):val B (ds.take (i+1))=val B (ds.take i)+B^i*d:=by
 have hi:i<ds.length:=(List.getElem?_eq_some_iff.1 h).1;rw [take_succ h,iZ,val_one,List.length_take,Nat.min_eq_left (by omega)]
theorem fY {ds:List Nat} {i d:Nat} (h:ds[i]?.getD 0=d):val B (ds.take (i+1))=val B (ds.take i)+B^i*d:=by
 cases hx:ds[i]? with
 | some e=>rw [hx] at h;simp at h;subst h;exact eQ hx
 | none=>
   rw [hx] at h;simp at h;subst h;have:=List.getElem?_eq_none_iff.1 hx;rw [List.take_of_length_le (by omega),List.take_of_length_le (by omega)];omega
theorem iI {os:List Nat} {i x:Nat} (h:i<os.length):val B ((os.set i x).take (i+1))=val B (os.take i)+B^i*x:=by
 rw [eQ (d:=x) (by simp [h])];rw [List.take_set_of_le (Nat.le_refl i)]
theorem Nc (n:Nat):val B (List.replicate n 0)=0:=by
 induction n with
 | zero=>rfl
 | succ n ih=>rw [List.replicate_succ,val,ih];omega
theorem Tv {z:Nat} {os:List Nat} {j old n:Nat} (hj:os[j]? = some old) (hjn:j<n:=by omega):val B ((os.set j z).take n)+B^j*old=val B (os.take n)+B^j*z:=by
 induction os generalizing j n with
 | nil=>simp at hj
 | cons d os ih=>
   obtain ⟨m,rfl⟩:∃ m,n=m+1:=⟨n-1,by omega⟩
   cases j with
   | zero=>
     simp only [List.getElem?_cons_zero,Option.some.injEq] at hj;subst hj;simp only [List.set_cons_zero,List.take_succ_cons,val,Nat.pow_zero];omega
   | succ j=>
     have:=ih (j:=j) (n:=m) (by simpa using hj) (by omega);simp only [List.set_cons_succ,List.take_succ_cons,val,Nat.pow_succ] at this ⊢;have h1:B^j*B*old=B*(B^j*old):=by rw [Nat.mul_right_comm,Nat.mul_comm]
     have h2:B^j*B*z=B*(B^j*z):=by rw [Nat.mul_right_comm,Nat.mul_comm]
     rw [h1,h2];have:=congrArg (fun t=>B*t) this;simp only [Nat.mul_add] at this;omega
structure LN (B:Nat) (xs ys:List Nat) (i:Nat) (os:List Nat):Prop where
 le:i≤xs.length
 len:os.length=xs.length+ys.length
 dg:DB B os
 eq:val B (os.take (i+ys.length))=val B (xs.take i)*val B ys
structure BIn (B:Nat) (xs ys:List Nat) (i x T k c:Nat) (os:List Nat):Prop where
 le:k≤ys.length
 len:os.length=xs.length+ys.length
 dg:DB B os
 c1:c<B
 eq:val B (os.take (i+ys.length))+B^(i+k)*c=T+x*(B^i*val B (ys.take k))
theorem LN.init (hB:0<B) (xs ys:List Nat):LN B xs ys 0 (List.replicate (xs.length+ys.length) 0):=⟨Nat.zero_le _,by simp,DB.rep hB _,by
 rw [List.take_replicate,Nc];simp [val]⟩
theorem LN.inn (hB:0<B) {xs ys os:List Nat} {i x:Nat} (h:LN B xs ys i os):BIn B xs ys i x (val B (xs.take i)*val B ys) 0 0 os:=⟨Nat.zero_le _,h.len,h.dg,by omega,by rw [h.eq];simp [val]⟩
theorem BIn.next {xs ys os:List Nat} {i x T k c y old z c':Nat} (h:BIn B xs ys i x T k c os) (hk:k<ys.length) (hy:ys[k]? = some y) (ho:os[i+k]? = some old) (hz:z<B) (hc:c'<B) (he:z+B*c'=c+(x*y+old)) :
  BIn B xs ys i x T (k+1) c' (os.set (i+k) z):=by
 refine ⟨hk,by rw [List.length_set];exact h.len,h.dg.set hz,hc,?_⟩;have h1:=Tv (B:=B) (z:=z) (n:=i+ys.length) ho;have h2:=congrArg (fun t=>B^(i+k)*t) he;have h3:=h.eq;rw [eQ hy];simp only [Nat.mul_add] at h2 ⊢;have e1:B^(i+(k+1))*c'=B^(i+k)*(B*c'):=by rw [←Nat.add_assoc,Nat.pow_succ,Nat.mul_assoc]
 have e2:x*(B^i*(B^k*y))=B^(i+k)*(x*y):=by rw [Nat.pow_add];simp only [Nat.mul_left_comm,Nat.mul_assoc]
 rw [e1,e2];omega
theorem BIn.out {xs ys os:List Nat} {i x c:Nat} (h:BIn B xs ys i x (val B (xs.take i)*val B ys) ys.length c os) (hx:xs[i]? = some x):LN B xs ys (i+1) (os.set (i+ys.length) c):=by
 have hi:i<xs.length:=(List.getElem?_eq_some_iff.1 hx).1;refine ⟨hi,by rw [List.length_set];exact h.len,h.dg.set h.c1,?_⟩;have h3:=h.eq;rw [List.take_length] at h3;rw [show i+1+ys.length=i+ys.length+1 by omega,iI (by rw [h.len];omega),eQ hx,h3,Nat.add_mul]
 congr 1
 rw [Nat.mul_left_comm,←Nat.mul_assoc]
theorem LN.fin {xs ys os:List Nat} (h:LN B xs ys xs.length os):val B os=val B xs*val B ys:=by
 have:=h.eq;rw [List.take_of_length_le (by rw [h.len];omega),List.take_length] at this;exact this
structure LB (B:Nat) (xs ys:List Nat) (n:Nat) (s:Int) (i:Nat) (c:Int) (os:List Nat):Prop where
 le:i≤n
 c0:-1≤c
 c1:c≤1
 len:os.length=n
 dg:DB B os
 eq:(val B (os.take i):Int)+(B^i:Nat)*c=(val B (xs.take i):Int)+s*(val B (ys.take i):Int)
theorem LB.init (hB:0<B) (xs ys:List Nat) (n:Nat) (s:Int):LB B xs ys n s 0 0 (List.replicate n 0):=⟨Nat.zero_le _,by omega,by omega,by simp,DB.rep hB _,by simp [val]⟩
theorem LB.next {xs ys os:List Nat} {n i x y z:Nat} {s c c':Int} (h:LB B xs ys n s i c os) (hi:i<n) (hx:xs[i]?.getD 0=x) (hy:ys[i]?.getD 0=y) (hc0:-1≤c') (hc1:c'≤1) (hz:z<B) (he:(z:Int)+B*c'=x+s*y+c) :
  LB B xs ys n s (i+1) c' (os.set i z):=by
 refine ⟨hi,hc0,hc1,by rw [List.length_set];exact h.len,h.dg.set hz,?_⟩;rw [iI (by rw [h.len];exact hi),fY hx,fY hy];have h1:=h.eq;have h2:=congrArg (fun t=>((B^i:Nat):Int)*t) he;simp only [Nat.pow_succ,Int.natCast_add,Int.natCast_mul,Int.mul_add] at h1 h2 ⊢;have e1:((B^i:Nat):Int)*(B:Int)*c'=((B^i:Nat):Int)*((B:Int)*c'):=Int.mul_assoc _ _ _;have e2:s*(((B^i:Nat):Int)*(y:Int))=((B^i:Nat):Int)*(s*(y:Int)):=Int.mul_left_comm _ _ _;rw [e1,e2];omega
theorem LB.fin {xs ys os:List Nat} {n:Nat} {s c:Int} (hB:0<B) (h:LB B xs ys n s n c os) (hx:xs.length≤n) (hy:ys.length≤n) {r:Nat} (hr:(r:Int)=(val B xs:Int)+s*(val B ys:Int)) (hl:r<B^n):val B os=r:=by
 have h1:=h.eq;have hlen:=h.len;rw [List.take_of_length_le (by omega),List.take_of_length_le hx,List.take_of_length_le hy,←hr] at h1;have h2:=DB.lt hB h.dg;rw [hlen] at h2;have h3:=h.c0;have h4:=h.c1
 have:c=0:=by
  rcases (by omega:c = -1∨c=0∨c=1) with rfl | rfl | rfl
  ·omega
  ·rfl
  ·omega
 subst this;omega
structure fR (B:Nat) (xs ys:List Nat) (t:Nat) (i c b:Nat) (os:List Nat):Prop where
 le:i≤xs.length
 b1:b≤1
 c1:c≤t
 c2:ys.length<i→c=0
 len:os.length=xs.length
 dg:DB B os
 rest:os.drop i=xs.drop i
 eq:val B (os.take i)+t*val B (ys.take i)=val B (xs.take i)+B^i*(c+b)
theorem fR.init {xs:List Nat} (hx:DB B xs) (ys:List Nat) (t:Nat):fR B xs ys t 0 0 0 xs:=⟨Nat.zero_le _,by omega,by omega,fun _=>rfl,rfl,hx,rfl,by simp [val]⟩
theorem fR.get {xs ys os:List Nat} {t i c b x:Nat} (h:fR B xs ys t i c b os) (hx:xs[i]? = some x):os[i]? = some x:=by
 have:=congrArg (fun l=>l[0]?) h.rest;simp only [List.getElem?_drop,Nat.add_zero] at this;rw [this,hx]
theorem fR.next {xs ys os:List Nat} {t i c b x y z b':Nat} (hB:0<B) (h:fR B xs ys t i c b os) (ht:t<B) (hx:xs[i]? = some x) (hy:ys[i]?.getD 0=y) (hyB:y<B) (hz:z<B) (hb:b'≤1) (he:z+(c+t*y)%B+b=x+B*b') :
  fR B xs ys t (i+1) ((c+t*y)/B) b' (os.set i z):=by
 have hi:i<xs.length:=(List.getElem?_eq_some_iff.1 hx).1;have hc:=h.c1;refine ⟨hi,hb,?_,?_,by rw [List.length_set];exact h.len,h.dg.set hz,?_,?_⟩
 ·have:(c+t*y)/B<t+1:=by
   rw [Nat.div_lt_iff_lt_mul hB];have h1:t*y≤t*(B-1):=Nat.mul_le_mul_left _ (by omega)
   have h2:(t+1)*B=t*(B-1)+t+B:=by
    obtain ⟨k,rfl⟩:∃ k,B=k+1:=⟨B-1,by omega⟩
    simp only [Nat.add_sub_cancel,Nat.add_mul,Nat.mul_add];omega
   omega
  omega
 ·intro hlt
  have:y=0:=by
   rw [←hy,List.getElem?_eq_none_iff.2 (by omega)];rfl
  subst this;simp only [Nat.mul_zero,Nat.add_zero];exact Nat.div_eq_of_lt (by omega)
 ·rw [List.drop_set_of_lt (by omega)];have:=congrArg (List.drop 1) h.rest
  simpa [List.drop_drop] using this
 ·have h1:=h.eq;have h2:=congrArg (fun q=>B^i*q) he;have h3:=congrArg (fun q=>B^i*q) (Nat.mod_add_div (c+t*y) B);rw [iI (by rw [h.len];exact hi),eQ hx,fY hy,Nat.pow_succ];simp only [Nat.mul_add] at h2 h3 ⊢;have e2:t*(B^i*y)=B^i*(t*y):=Nat.mul_left_comm _ _ _;have e3:B^i*B*((c+t*y)/B)=B^i*(B*((c+t*y)/B)):=Nat.mul_assoc _ _ _;have e4:B^i*B*b'=B^i*(B*b'):=Nat.mul_assoc _ _ _;rw [e2,e3,e4];simp only [Nat.mul_add] at h1;omega
theorem fR.fin {xs ys os:List Nat} {t c b:Nat} (hB:0<B) (h:fR B xs ys t xs.length c b os) (hx:DB B xs) (hl:ys.length<xs.length) :
  b=(if val B xs<t*val B ys then 1 else 0)∧os=pd B xs.length (val B xs+B^xs.length*b-t*val B ys):=by
 have h0:=h.c2 hl;subst h0;have h1:=h.eq;rw [List.take_of_length_le (by rw [h.len];omega),List.take_length,List.take_of_length_le (by omega),Nat.zero_add] at h1;have h2:=DB.lt hB h.dg;rw [h.len] at h2;have hb:=h.b1
 constructor
 ·split<;>rcases (by omega:b=0∨b=1) with rfl | rfl<;>omega
 ·refine KP hB h.dg h.len ?_;omega
end Ord
namespace Ord
theorem Ri {B X V n:Nat} (hV:0<V/B^n):X/V≤X/B^n/(V/B^n):=by
 rw [Nat.le_div_iff_mul_le hV]
 have hp:0<B^n:=by
  rcases Nat.eq_zero_or_pos (B^n) with h | h
  ·rw [h,Nat.div_zero] at hV;omega
  ·exact h
 rw [Nat.le_div_iff_mul_le hp,Nat.mul_assoc]
 calc X/V*(V/B^n*B^n)≤X/V*V:=Nat.mul_le_mul_left _ (Nat.div_mul_le_self _ _)
  _≤X:=Nat.div_mul_le_self _ _
theorem qH {X V g:Nat} (hV:0<V) (h2:X<(g+1)*V) (h1:g*V≤X:=by omega):X/V=g:=by
 apply Nat.le_antisymm
 ·have:X/V<g+1:=by rw [Nat.div_lt_iff_lt_mul hV];exact h2
  omega
 ·rw [Nat.le_div_iff_mul_le hV];exact h1
theorem DQ {B S V R Q i:Nat} (hB:0<B) (hV:0<V) (hS:S=R+V*B^(i+1)*Q) (hR:R/B^(i+1)<V) :
  R/B^i<V*B∧R/B^i/V<B∧S=(R%B^i+B^i*(R/B^i%V))+V*B^i*(R/B^i/V+B*Q)∧(R%B^i+B^i*(R/B^i%V))/B^i<V:=by
 have hp:0<B^i:=Nat.pow_pos hB
 have h1:R/B^i<V*B:=by
  rw [Nat.div_lt_iff_lt_mul hp];rw [Nat.div_lt_iff_lt_mul (Nat.pow_pos hB)] at hR;rw [Nat.pow_succ,Nat.mul_comm (B^i)] at hR;rw [Nat.mul_assoc];exact hR
 refine ⟨h1,?_,?_,?_⟩
 ·rw [Nat.div_lt_iff_lt_mul hV,Nat.mul_comm];exact h1
 ·have e1:=Nat.mod_add_div R (B^i);have e2:=Nat.mod_add_div (R/B^i) V;rw [hS]
  conv=>lhs;rw [←e1,←e2]
  simp only [Nat.pow_succ,Nat.mul_add];have:V*(B^i*B)*Q=V*B^i*(B*Q):=by simp only [Nat.mul_assoc]
  rw [this];have:B^i*(V*(R/B^i/V))=V*B^i*(R/B^i/V):=by rw [←Nat.mul_assoc,Nat.mul_comm (B^i)]
  rw [this];omega
 ·rw [Nat.add_mul_div_left _ _ hp,Nat.div_eq_of_lt (Nat.mod_lt _ hp),Nat.zero_add];exact Nat.mod_lt _ hV
theorem Pk {S V R Q:Nat} (hS:S=R+V*Q) (hR:R<V):Q=S/V∧R=S%V:=by
 constructor
 ·rw [hS,Nat.add_mul_div_left _ _ (by omega),Nat.div_eq_of_lt hR,Nat.zero_add]
 ·rw [hS,Nat.add_mul_mod_self_left,Nat.mod_eq_of_lt hR]
end Ord
namespace Ord
def Fit (B:Nat) (q:Rat):Prop:=q.num.natAbs<2^B∧q.den<2^B
theorem Fit.mono {B C:Nat} {q:Rat} (h:Fit B q) (hBC:B≤C):Fit C q:=
 have:=Nat.pow_le_pow_right (n:=2) (by omega) hBC
 ⟨Nat.lt_of_lt_of_le h.1 this,Nat.lt_of_lt_of_le h.2 this⟩
theorem Gf (n:Int) (g:Nat):(n/(g:Int)).natAbs≤n.natAbs+(if n<0 then 1 else 0)*0+(if (g:Int)∣n then 0 else 1):=by
 by_cases hg:g=0
 ·subst hg;simp
 ·by_cases hd:(g:Int)∣n
  ·rw [if_pos hd];obtain ⟨k,rfl⟩:=hd;rw [Int.mul_ediv_cancel_left _ (by omega),Int.natAbs_mul];simp only [Int.natAbs_natCast,Nat.mul_zero,Nat.add_zero];exact Nat.le_mul_of_pos_left _ (by omega)
  ·rw [if_neg hd];have h1:=Int.mul_ediv_add_emod n g;have h2:=Int.emod_nonneg n (b:=(g:Int)) (by omega);have h3:=Int.emod_lt_of_pos n (b:=(g:Int)) (by omega)
   have h4:(n/(g:Int)).natAbs*g≤n.natAbs+g:=by
    have:((n/(g:Int)).natAbs*g:Nat)=((g:Int)*(n/(g:Int))).natAbs:=by rw [Int.natAbs_mul,Int.natAbs_natCast,Nat.mul_comm]
    omega
   have h5:n.natAbs+g≤(n.natAbs+1)*g:=by
    rw [Nat.add_mul,Nat.one_mul];have:=Nat.le_mul_of_pos_right n.natAbs (by omega:0<g);omega
   have:=Nat.le_of_mul_le_mul_right (Nat.le_trans h4 h5) (by omega);omega
theorem Fit.mkRat {B:Nat} {n:Int} {d:Nat} (hn:n.natAbs<2^B) (hd:d<2^B) (h0:d≠0):Fit B (mkRat n d):=by
 rw [←Rat.normalize_eq_mkRat h0,Rat.normalize_eq h0];refine ⟨?_,Nat.lt_of_le_of_lt (Nat.div_le_self _ _) hd⟩;have:=Gf n (n.natAbs.gcd d);rw [if_pos (Int.ofNat_dvd_left.2 (Nat.gcd_dvd_left _ _))] at this;simp only [Nat.mul_zero,Nat.add_zero] at this;show (n/_).natAbs<_;exact Nat.lt_of_le_of_lt this hn
theorem bV {a b B C:Nat} (ha:a<2^B) (hb:b<2^C):a*b<2^(B+C):=by
 rw [Nat.pow_add];exact Nat.mul_lt_mul'' ha hb
theorem Fit.add {B C:Nat} {a b:Rat} (ha:Fit B a) (hb:Fit C b):Fit (B+C+1) (a+b):=by
 rw [Rat.add_def'];have h1:=bV ha.1 hb.2;have h2:=bV hb.1 ha.2;have h3:=bV ha.2 hb.2;rw [Nat.add_comm C B] at h2;refine Fit.mkRat ?_ ?_ (Nat.mul_ne_zero a.den_nz b.den_nz)
 ·rw [Nat.pow_succ]
  have:(a.num * ↑b.den+b.num * ↑a.den).natAbs≤a.num.natAbs*b.den+b.num.natAbs*a.den:=by
   refine Nat.le_trans (Int.natAbs_add_le _ _) ?_;rw [Int.natAbs_mul,Int.natAbs_mul,Int.natAbs_natCast,Int.natAbs_natCast];exact Nat.le_refl _
  omega
 ·rw [Nat.pow_succ];omega
theorem Fit.mul {B C:Nat} {a b:Rat} (ha:Fit B a) (hb:Fit C b):Fit (B+C) (a*b):=by
 rw [Rat.mul_def'];refine Fit.mkRat ?_ (bV ha.2 hb.2) (Nat.mul_ne_zero a.den_nz b.den_nz);rw [Int.natAbs_mul];exact bV ha.1 hb.1
theorem Fit.neg {B:Nat} {a:Rat} (ha:Fit B a):Fit B (-a):=by
 refine ⟨?_,?_⟩
 ·rw [Rat.neg_num,Int.natAbs_neg];exact ha.1
 ·rw [Rat.neg_den];exact ha.2
theorem Fit.sub {B C:Nat} {a b:Rat} (ha:Fit B a) (hb:Fit C b):Fit (B+C+1) (a-b):=by
 rw [Rat.sub_eq_add_neg];exact ha.add hb.neg
theorem Fit.inv {B:Nat} {a:Rat} (ha:Fit B a):Fit B a⁻¹:=by
 by_cases h:a=0
 ·subst h;rw [Rat.inv_zero];exact ha
 ·have hn:a.num≠0:=fun e=>h (Rat.num_eq_zero.1 e);refine ⟨?_,?_⟩
  ·rw [Rat.num_inv,Int.natAbs_mul,Int.natAbs_sign_of_ne_zero hn,Int.natAbs_natCast,Nat.one_mul];exact ha.2
  ·rw [Rat.den_inv,if_neg hn];exact ha.1
theorem Fit.div {B C:Nat} {a b:Rat} (ha:Fit B a) (hb:Fit C b):Fit (B+C) (a/b):=by
 rw [Rat.div_def];exact ha.mul hb.inv
theorem Fit.zero {B:Nat} (h:1≤B):Fit B 0:=by
 have:=Nat.pow_le_pow_right (n:=2) (by omega) h;exact ⟨by show (0:Int).natAbs<_;simp;omega,by show 1<_;omega⟩
theorem Fit.int {B:Nat} {n:Int} (hB:1≤B) (h:n.natAbs<2^B):Fit B (n:Rat):=by
 have:=Nat.pow_le_pow_right (n:=2) (by omega) hB;exact ⟨by rw [Rat.num_intCast];exact h,by rw [Rat.den_intCast];omega⟩
end Ord
namespace Ord
def bd (n:Nat):List Nat:=(iA 32768 n).reverse
theorem Yl (n:Nat):(bd n).length=(iA 32768 n).length:=by rw [bd,List.length_reverse]
theorem PQ {n k:Nat} (h:n<32768^k):(bd n).length≤k:=by rw [Yl];exact gE h
end Ord
