/- Part. -/
set_option linter.all false
namespace Ord
def val (B:Nat):List Nat->Nat
 | []=>0
 | d::ds=>d+B*val B ds
def lE (B:Nat) (n:Nat):List Nat:=
 if h:1<B/\n≠0 then n%B::lE B (n/B) else []
termination_by n
decreasing_by exact Nat.div_lt_self (by omega) h.1
theorem eD (B:Nat):lE B 0 = []:=by rw [lE];simp
theorem gS {B n:Nat} (hB:1<B:=by omega) (h:n≠0:=by omega):lE B n=n%B::lE B (n/B):=by
 rw [lE,dif_pos ⟨hB,h⟩]
theorem xA {B:Nat} (hB:1<B) (n:Nat):val B (lE B n)=n:=by
 induction n using Nat.strongRecOn with
 | _ n ih=>
   by_cases h:n=0
   .subst h;rw [eD];rfl
   .rw [gS hB h,val,ih _ (Nat.div_lt_self (by omega) hB)];exact Nat.mod_add_div n B
theorem BN {B:Nat} (n:Nat) (hB:1<B:=by omega):∀ d∈lE B n,d<B:=by
 induction n using Nat.strongRecOn with
 | _ n ih=>
   by_cases h:n=0
   .subst h;rw [eD];simp
   .rw [gS hB h];intro d hd;rcases List.mem_cons.1 hd with rfl | hd
    .exact Nat.mod_lt _ (by omega)
    .exact ih _ (Nat.div_lt_self (by omega) hB) d hd
theorem jE (B:Nat) (xs ys:List Nat):val B (xs++ys)=val B xs+B^xs.length*val B ys:=by
 induction xs with
 | nil=>simp [val]
 | cons x xs ih=>simp [val,ih,Nat.mul_add,Nat.pow_succ,Nat.add_assoc,Nat.mul_assoc,Nat.mul_left_comm,Nat.mul_comm]
theorem UO {B:Nat} (hB:0<B) (xs:List Nat) (h:∀ d∈xs,d<B):val B xs<B^xs.length:=by
 induction xs with
 | nil=>simp [val]
 | cons x xs ih=>
   have h1:=ih (fun d hd=>h d (List.mem_cons_of_mem _ hd));have h2:=h x List.mem_cons_self;simp only [val,List.length_cons,Nat.pow_succ]
   calc x+B*val B xs<B+B*val B xs:=by omega
    _=B*(val B xs+1):=by rw [Nat.mul_add,Nat.mul_one,Nat.add_comm]
    _<=B*B^xs.length:=Nat.mul_le_mul_left _ h1
    _=B^xs.length*B:=Nat.mul_comm _ _
theorem Rr {B:Nat} (hB:1<B) (xs:List Nat) (h:∀ d∈xs,d<B) (hl:∀ d,xs.getLast? = some d->d≠0):lE B (val B xs)=xs:=by
 induction xs with
 | nil=>simp [val,eD]
 | cons x xs ih=>
   have hx:=h x List.mem_cons_self;have h1:∀ d∈xs,d<B:=fun d hd=>h d (List.mem_cons_of_mem _ hd);cases xs with
   | nil=>
     have:x≠0:=hl x (by simp);simp only [val,Nat.mul_zero,Nat.add_zero];rw [gS hB this,Nat.mod_eq_of_lt hx,Nat.div_eq_of_lt hx,eD]
   | cons y ys=>
     have e:=ih h1 (fun d hd=>hl d (by rw [List.getLast?_cons_cons];exact hd))
     have hne:val B (y::ys)≠0:=by
      intro h0;rw [h0,eD] at e;cases e
     have hne':val B (x::y::ys)≠0:=by
      rw [val];have:0<B*val B (y::ys):=Nat.mul_pos (by omega) (by omega);omega
     rw [gS hB hne'];rw [val,Nat.add_mul_mod_self_left,Nat.mod_eq_of_lt hx,Nat.add_mul_div_left _ _ (by omega:0<B),Nat.div_eq_of_lt hx,Nat.zero_add,e]
theorem kC {B:Nat} {n k:Nat} (h:n<B^k:=by omega) (hB:1<B:=by omega):(lE B n).length<=k:=by
 induction k generalizing n with
 | zero=>have:n=0:=by simpa using h
         subst this;simp [eD]
 | succ k ih=>
   by_cases h0:n=0
   .subst h0;simp [eD]
   .rw [gS hB h0,List.length_cons]
    have:n/B<B^k:=by
     rw [Nat.div_lt_iff_lt_mul (by omega)];rw [Nat.pow_succ] at h;exact h
    exact Nat.succ_le_succ (ih this)
theorem gC {B:Nat} (hB:1<B) {n:Nat} (h:n≠0):B^((lE B n).length-1)<=n:=by
 induction n using Nat.strongRecOn with
 | _ n ih=>
   rw [gS hB h,List.length_cons,Nat.add_sub_cancel];by_cases h2:n/B=0
   .rw [h2,eD];simp;omega
   .have:=ih (n/B) (Nat.div_lt_self (by omega) hB) h2;have hl:0<(lE B (n/B)).length:=by rw [gS hB h2];simp
    obtain ⟨k,hk⟩:∃ k,(lE B (n/B)).length=k+1:=⟨_,(Nat.sub_add_cancel hl).symm⟩
    rw [hk] at this ⊢;rw [Nat.add_sub_cancel] at this;rw [Nat.pow_succ]
    calc B^k*B<=(n/B)*B:=Nat.mul_le_mul_right _ this
     _<=n:=Nat.div_mul_le_self n B
theorem lB {B:Nat} (hB:1<B) (n:Nat):n<B^(lE B n).length:=by
 have:=UO (by omega:0<B) (lE B n) (BN n hB)
 rwa [xA hB] at this
end Ord
namespace Ord
def pd (B:Nat):Nat->Nat->List Nat
 | 0,_=>[]
 | n+1,x=>x%B::pd B n (x/B)
variable {B:Nat}
@[simp] theorem eO:∀ (n x:Nat),(pd B n x).length=n
  | 0,_=>rfl
  | n+1,x=>by simp [pd,eO n]
theorem GI (hB:0<B):∀ (n x:Nat),∀ d∈pd B n x,d<B
 | 0,_,d,h=>by cases h
 | n+1,x,d,h=>by
   rcases List.mem_cons.1 h with rfl | h
   .exact Nat.mod_lt _ hB
   .exact GI hB n _ d h
theorem zL:∀ (n x:Nat),val B (pd B n x)=x%B^n
 | 0,x=>by simp [pd,val,Nat.mod_one]
 | n+1,x=>by
   rw [pd,val,zL n,Nat.pow_succ,Nat.mul_comm (B^n) B,Nat.mod_mul]
theorem aj9 (hB:0<B):∀ (ds:List Nat),(∀ d∈ds,d<B)->pd B ds.length (val B ds)=ds
 | [],_=>rfl
 | d::ds,h=>by
   have hd:=h d List.mem_cons_self;rw [List.length_cons,pd,val,Nat.add_mul_mod_self_left,Nat.mod_eq_of_lt hd,Nat.add_mul_div_left _ _ hB,Nat.div_eq_of_lt hd,Nat.zero_add,aj9 hB ds fun x hx=>h x (List.mem_cons_of_mem _ hx)]
theorem Td (hB:0<B) {ds:List Nat} (h:∀ d∈ds,d<B) {n x:Nat} (hl:ds.length=n) (hv:val B ds=x):ds=pd B n x:=by
 subst hl hv;exact (aj9 hB ds h).symm
theorem Da:∀ {n i:Nat} (x:Nat),i<n->(pd B n x)[i]? = some (x/B^i%B)
 | 0,_,_,h=>by omega
 | n+1,0,x,_=>by simp [pd]
 | n+1,i+1,x,h=>by
   rw [pd,List.getElem?_cons_succ,Da _ (by omega),Nat.div_div_eq_div_mul,Nat.pow_succ,Nat.mul_comm B]
theorem QG:∀ (n i x:Nat),(pd B n x).drop i=pd B (n-i) (x/B^i)
 | n,0,x=>by simp
 | 0,i+1,x=>by simp [pd]
 | n+1,i+1,x=>by
   rw [pd,List.drop_succ_cons,QG n i,Nat.div_div_eq_div_mul,Nat.pow_succ,Nat.mul_comm B,Nat.add_sub_add_right]
theorem OT:∀ {n k:Nat} (x:Nat),k<=n->(pd B n x).take k=pd B k x
 | n,0,x,_=>by simp [pd]
 | 0,k+1,x,h=>by omega
 | n+1,k+1,x,h=>by rw [pd,List.take_succ_cons,OT _ (by omega),pd]
theorem Xe (x:Nat) (hB:1<B:=by omega):lE B x=pd B (lE B x).length x:=Td (by omega) (BN x hB) rfl (xA hB x)
theorem YE {n i k x y:Nat} (hx:x<B^n) (hy:y<B^k) (hB:0<B:=by omega) (hi:i+k<=n:=by omega):(pd B n x).take i++pd B k y++(pd B n x).drop (i+k)=pd B n (x%B^i+B^i*(y+B^k*(x/B^(i+k)))):=by
 apply Td hB
 .intro d hd;simp only [List.mem_append] at hd;rcases hd with (hd | hd) | hd
  .exact GI hB _ _ d (List.mem_of_mem_take hd)
  .exact GI hB _ _ d hd
  .exact GI hB _ _ d (List.mem_of_mem_drop hd)
 .simp;omega
 .rw [jE,jE,OT _ (by omega),QG,zL,zL,zL,Nat.mod_eq_of_lt hy]
  have h3:x/B^(i+k)<B^(n-(i+k)):=by
   rw [Nat.div_lt_iff_lt_mul (Nat.pow_pos hB),<-Nat.pow_add,Nat.sub_add_cancel hi];exact hx
  rw [Nat.mod_eq_of_lt h3];simp only [List.length_append,eO,Nat.pow_add,Nat.mul_add,Nat.mul_assoc,Nat.add_assoc]
end Ord
namespace Ord
variable {B:Nat}
def DB (B:Nat) (ds:List Nat):Prop:=∀ d∈ds,d<B
theorem DB.take {ds:List Nat} (h:DB B ds) (n:Nat):DB B (ds.take n):=fun d hd=>h d (List.mem_of_mem_take hd)
theorem DB.drop {ds:List Nat} (h:DB B ds) (n:Nat):DB B (ds.drop n):=fun d hd=>h d (List.mem_of_mem_drop hd)
theorem DB.set {ds:List Nat} (h:DB B ds) {i x:Nat} (hx:x<B):DB B (ds.set i x):=fun d hd=>by
 rcases List.mem_or_eq_of_mem_set hd with hd | rfl
 .exact h d hd
 .exact hx
theorem DB.get {ds:List Nat} (h:DB B ds) {i d:Nat} (hd:ds[i]? = some d):d<B:=h d (List.mem_of_getElem? hd)
theorem DB.getD {ds:List Nat} (hB:0<B) (h:DB B ds) {i d:Nat} (hd:ds[i]?.getD 0=d):d<B:=by
 cases hx:ds[i]? with
 | none=>rw [hx] at hd;simp at hd;omega
 | some e=>rw [hx] at hd;simp at hd;subst hd;exact h.get hx
theorem DB.rep (hB:0<B) (n:Nat):DB B (List.replicate n 0):=fun d hd=>by
 obtain ⟨_,rfl⟩:=List.mem_replicate.1 hd;exact hB
theorem DB.lE (hB:1<B) (n:Nat):DB B (lE B n):=BN n hB
theorem DB.append {xs ys:List Nat} (h:DB B xs) (k:DB B ys):DB B (xs++ys):=fun d hd=>(List.mem_append.1 hd).elim (h d) (k d)
theorem DB.rev {xs:List Nat} (h:DB B xs):DB B xs.reverse:=fun d hd=>h d (List.mem_reverse.1 hd)
theorem DB.lt {xs:List Nat} (hB:0<B) (h:DB B xs):val B xs<B^xs.length:=UO hB xs h
theorem val_one (d:Nat):val B [d]=d:=by simp [val]
theorem take_succ {ds:List Nat} {i d:Nat} (h:ds[i]? = some d):ds.take (i+1)=ds.take i ++ [d]:=by
 rw [List.take_add_one,h];rfl
theorem fY {ds:List Nat} {i d:Nat} (h:ds[i]? = some d):val B (ds.take (i+1))=val B (ds.take i)+B^i*d:=by
 have hi:i<ds.length:=(List.getElem?_eq_some_iff.1 h).1;rw [take_succ h,jE,val_one,List.length_take,Nat.min_eq_left (by omega)]
theorem jS {ds:List Nat} {i d:Nat} (h:ds[i]?.getD 0=d):val B (ds.take (i+1))=val B (ds.take i)+B^i*d:=by
 cases hx:ds[i]? with
 | some e=>rw [hx] at h;simp at h;subst h;exact fY hx
 | none=>
   rw [hx] at h;simp at h;subst h;have:=List.getElem?_eq_none_iff.1 hx;rw [List.take_of_length_le (by omega),List.take_of_length_le (by omega)];omega
theorem lL {os:List Nat} {i x:Nat} (h:i<os.length):val B ((os.set i x).take (i+1))=val B (os.take i)+B^i*x:=by
 rw [fY (d:=x) (by simp [h])];rw [List.take_set_of_le (Nat.le_refl i)]
theorem WC (n:Nat):val B (List.replicate n 0)=0:=by
 induction n with
 | zero=>rfl
 | succ n ih=>rw [List.replicate_succ,val,ih];omega
theorem at0 {z:Nat} {os:List Nat} {j old n:Nat} (hj:os[j]? = some old) (hjn:j<n:=by omega):val B ((os.set j z).take n)+B^j*old=val B (os.take n)+B^j*z:=by
 induction os generalizing j n with
 | nil=>simp at hj
 | cons d os ih=>
   obtain ⟨m,rfl⟩:∃ m,n=m+1:=⟨n-1,by omega⟩
   cases j with
   | zero=>
     simp only [List.getElem?_cons_zero,Option.some.injEq] at hj;subst hj;simp only [List.set_cons_zero,List.take_succ_cons,val,Nat.pow_zero];omega
   | succ j=>
     have:=ih (j:=j) (n:=m) (by simpa using hj) (by omega);simp only [List.set_cons_succ,List.take_succ_cons,val,Nat.pow_succ] at this ⊢;have h1:B^j*B*old=B*(B^j*old):=by rw [Nat.mul_right_comm,Nat.mul_comm]
     have h2:B^j*B*z=B*(B^j*z):=by rw [Nat.mul_right_comm,Nat.mul_comm]
     rw [h1,h2];have:=congrArg (fun t=>B*t) this;simp only [Nat.mul_add] at this;omega
structure Jk (B:Nat) (xs ys:List Nat) (i:Nat) (os:List Nat):Prop where
 le:i<=xs.length
 len:os.length=xs.length+ys.length
 dg:DB B os
 eq:val B (os.take (i+ys.length))=val B (xs.take i)*val B ys
structure BIn (B:Nat) (xs ys:List Nat) (i x T k c:Nat) (os:List Nat):Prop where
 le:k<=ys.length
 len:os.length=xs.length+ys.length
 dg:DB B os
 c1:c<B
 eq:val B (os.take (i+ys.length))+B^(i+k)*c=T+x*(B^i*val B (ys.take k))
theorem Jk.init (hB:0<B) (xs ys:List Nat):Jk B xs ys 0 (List.replicate (xs.length+ys.length) 0):=⟨Nat.zero_le _,by simp,DB.rep hB _,by
 rw [List.take_replicate,WC];simp [val]⟩
theorem Jk.inn (hB:0<B) {xs ys os:List Nat} {i x:Nat} (h:Jk B xs ys i os):BIn B xs ys i x (val B (xs.take i)*val B ys) 0 0 os:=⟨Nat.zero_le _,h.len,h.dg,by omega,by rw [h.eq];simp [val]⟩
theorem BIn.next {xs ys os:List Nat} {i x T k c y old z c':Nat} (h:BIn B xs ys i x T k c os) (hk:k<ys.length) (hy:ys[k]? = some y) (ho:os[i+k]? = some old) (hz:z<B) (hc:c'<B) (he:z+B*c'=c+(x*y+old)) :
  BIn B xs ys i x T (k+1) c' (os.set (i+k) z):=by
 refine ⟨hk,by rw [List.length_set];exact h.len,h.dg.set hz,hc,?_⟩;have h1:=at0 (B:=B) (z:=z) (n:=i+ys.length) ho;have h2:=congrArg (fun t=>B^(i+k)*t) he;have h3:=h.eq;rw [fY hy];simp only [Nat.mul_add] at h2 ⊢;have e1:B^(i+(k+1))*c'=B^(i+k)*(B*c'):=by rw [<-Nat.add_assoc,Nat.pow_succ,Nat.mul_assoc]
 have e2:x*(B^i*(B^k*y))=B^(i+k)*(x*y):=by rw [Nat.pow_add];simp only [Nat.mul_left_comm,Nat.mul_assoc]
 rw [e1,e2];omega
theorem BIn.out {xs ys os:List Nat} {i x c:Nat} (h:BIn B xs ys i x (val B (xs.take i)*val B ys) ys.length c os) (hx:xs[i]? = some x):Jk B xs ys (i+1) (os.set (i+ys.length) c):=by
 have hi:i<xs.length:=(List.getElem?_eq_some_iff.1 hx).1;refine ⟨hi,by rw [List.length_set];exact h.len,h.dg.set h.c1,?_⟩;have h3:=h.eq;rw [List.take_length] at h3;rw [show i+1+ys.length=i+ys.length+1 by omega,lL (by rw [h.len];omega),fY hx,h3,Nat.add_mul]
 congr 1
 rw [Nat.mul_left_comm,<-Nat.mul_assoc]
theorem Jk.fin {xs ys os:List Nat} (h:Jk B xs ys xs.length os):val B os=val B xs*val B ys:=by
 have:=h.eq;rw [List.take_of_length_le (by rw [h.len];omega),List.take_length] at this;exact this
structure Ic (B:Nat) (xs ys:List Nat) (n:Nat) (s:Int) (i:Nat) (c:Int) (os:List Nat):Prop where
 le:i<=n
 c0:-1<=c
 c1:c<=1
 len:os.length=n
 dg:DB B os
 eq:(val B (os.take i):Int)+(B^i:Nat)*c=(val B (xs.take i):Int)+s*(val B (ys.take i):Int)
theorem Ic.init (hB:0<B) (xs ys:List Nat) (n:Nat) (s:Int):Ic B xs ys n s 0 0 (List.replicate n 0):=⟨Nat.zero_le _,by omega,by omega,by simp,DB.rep hB _,by simp [val]⟩
theorem Ic.next {xs ys os:List Nat} {n i x y z:Nat} {s c c':Int} (h:Ic B xs ys n s i c os) (hi:i<n) (hx:xs[i]?.getD 0=x) (hy:ys[i]?.getD 0=y) (hc0:-1<=c') (hc1:c'<=1) (hz:z<B) (he:(z:Int)+B*c'=x+s*y+c) :
  Ic B xs ys n s (i+1) c' (os.set i z):=by
 refine ⟨hi,hc0,hc1,by rw [List.length_set];exact h.len,h.dg.set hz,?_⟩;rw [lL (by rw [h.len];exact hi),jS hx,jS hy];have h1:=h.eq;have h2:=congrArg (fun t=>((B^i:Nat):Int)*t) he;simp only [Nat.pow_succ,Int.natCast_add,Int.natCast_mul,Int.mul_add] at h1 h2 ⊢;have e1:((B^i:Nat):Int)*(B:Int)*c'=((B^i:Nat):Int)*((B:Int)*c'):=Int.mul_assoc _ _ _;have e2:s*(((B^i:Nat):Int)*(y:Int))=((B^i:Nat):Int)*(s*(y:Int)):=Int.mul_left_comm _ _ _;rw [e1,e2];omega
theorem Ic.fin {xs ys os:List Nat} {n:Nat} {s c:Int} (hB:0<B) (h:Ic B xs ys n s n c os) (hx:xs.length<=n) (hy:ys.length<=n) {r:Nat} (hr:(r:Int)=(val B xs:Int)+s*(val B ys:Int)) (hl:r<B^n):val B os=r:=by
 have h1:=h.eq;have hlen:=h.len;rw [List.take_of_length_le (by omega),List.take_of_length_le hx,List.take_of_length_le hy,<-hr] at h1;have h2:=DB.lt hB h.dg;rw [hlen] at h2;have h3:=h.c0;have h4:=h.c1
 have:c=0:=by
  rcases (by omega:c = -1\/c=0\/c=1) with rfl | rfl | rfl
  .omega
  .rfl
  .omega
 subst this;omega
structure jI (B:Nat) (xs ys:List Nat) (t:Nat) (i c b:Nat) (os:List Nat):Prop where
 le:i<=xs.length
 b1:b<=1
 c1:c<=t
 c2:ys.length<i->c=0
 len:os.length=xs.length
 dg:DB B os
 rest:os.drop i=xs.drop i
 eq:val B (os.take i)+t*val B (ys.take i)=val B (xs.take i)+B^i*(c+b)
theorem jI.init {xs:List Nat} (hx:DB B xs) (ys:List Nat) (t:Nat):jI B xs ys t 0 0 0 xs:=⟨Nat.zero_le _,by omega,by omega,fun _=>rfl,rfl,hx,rfl,by simp [val]⟩
theorem jI.get {xs ys os:List Nat} {t i c b x:Nat} (h:jI B xs ys t i c b os) (hx:xs[i]? = some x):os[i]? = some x:=by
 have:=congrArg (fun l=>l[0]?) h.rest;simp only [List.getElem?_drop,Nat.add_zero] at this;rw [this,hx]
theorem jI.next {xs ys os:List Nat} {t i c b x y z b':Nat} (hB:0<B) (h:jI B xs ys t i c b os) (ht:t<B) (hx:xs[i]? = some x) (hy:ys[i]?.getD 0=y) (hyB:y<B) (hz:z<B) (hb:b'<=1) (he:z+(c+t*y)%B+b=x+B*b') :
  jI B xs ys t (i+1) ((c+t*y)/B) b' (os.set i z):=by
 have hi:i<xs.length:=(List.getElem?_eq_some_iff.1 hx).1;have hc:=h.c1;refine ⟨hi,hb,?_,?_,by rw [List.length_set];exact h.len,h.dg.set hz,?_,?_⟩
 .have:(c+t*y)/B<t+1:=by
   rw [Nat.div_lt_iff_lt_mul hB];have h1:t*y<=t*(B-1):=Nat.mul_le_mul_left _ (by omega)
   have h2:(t+1)*B=t*(B-1)+t+B:=by
    obtain ⟨k,rfl⟩:∃ k,B=k+1:=⟨B-1,by omega⟩
    simp only [Nat.add_sub_cancel,Nat.add_mul,Nat.mul_add];omega
   omega
  omega
 .intro hlt
  have:y=0:=by
   rw [<-hy,List.getElem?_eq_none_iff.2 (by omega)];rfl
  subst this;simp only [Nat.mul_zero,Nat.add_zero];exact Nat.div_eq_of_lt (by omega)
 .rw [List.drop_set_of_lt (by omega)];have:=congrArg (List.drop 1) h.rest
  simpa [List.drop_drop] using this
 .have h1:=h.eq;have h2:=congrArg (fun q=>B^i*q) he;have h3:=congrArg (fun q=>B^i*q) (Nat.mod_add_div (c+t*y) B);rw [lL (by rw [h.len];exact hi),fY hx,jS hy,Nat.pow_succ];simp only [Nat.mul_add] at h2 h3 ⊢;have e2:t*(B^i*y)=B^i*(t*y):=Nat.mul_left_comm _ _ _;have e3:B^i*B*((c+t*y)/B)=B^i*(B*((c+t*y)/B)):=Nat.mul_assoc _ _ _;have e4:B^i*B*b'=B^i*(B*b'):=Nat.mul_assoc _ _ _;rw [e2,e3,e4];simp only [Nat.mul_add] at h1;omega
theorem jI.fin {xs ys os:List Nat} {t c b:Nat} (hB:0<B) (h:jI B xs ys t xs.length c b os) (hx:DB B xs) (hl:ys.length<xs.length) :
  b=(if val B xs<t*val B ys then 1 else 0)/\os=pd B xs.length (val B xs+B^xs.length*b-t*val B ys):=by
 have h0:=h.c2 hl;subst h0;have h1:=h.eq;rw [List.take_of_length_le (by rw [h.len];omega),List.take_length,List.take_of_length_le (by omega),Nat.zero_add] at h1;have h2:=DB.lt hB h.dg;rw [h.len] at h2;have hb:=h.b1
 constructor
 .split<;>rcases (by omega:b=0\/b=1) with rfl | rfl<;>omega
 .refine Td hB h.dg h.len ?_;omega
end Ord
namespace Ord
theorem ad3 {B X V n:Nat} (hV:0<V/B^n):X/V<=X/B^n/(V/B^n):=by
 rw [Nat.le_div_iff_mul_le hV]
 have hp:0<B^n:=by
  rcases Nat.eq_zero_or_pos (B^n) with h | h
  .rw [h,Nat.div_zero] at hV;omega
  .exact h
 rw [Nat.le_div_iff_mul_le hp,Nat.mul_assoc]
 calc X/V*(V/B^n*B^n)<=X/V*V:=Nat.mul_le_mul_left _ (Nat.div_mul_le_self _ _)
  _<=X:=Nat.div_mul_le_self _ _
theorem yJ {X V g:Nat} (hV:0<V) (h2:X<(g+1)*V) (h1:g*V<=X:=by omega):X/V=g:=by
 apply Nat.le_antisymm
 .have:X/V<g+1:=by rw [Nat.div_lt_iff_lt_mul hV];exact h2
  omega
 .rw [Nat.le_div_iff_mul_le hV];exact h1
theorem HJ {B S V R Q i:Nat} (hB:0<B) (hV:0<V) (hS:S=R+V*B^(i+1)*Q) (hR:R/B^(i+1)<V) :
  R/B^i<V*B/\R/B^i/V<B/\S=(R%B^i+B^i*(R/B^i%V))+V*B^i*(R/B^i/V+B*Q)/\(R%B^i+B^i*(R/B^i%V))/B^i<V:=by
 have hp:0<B^i:=Nat.pow_pos hB
 have h1:R/B^i<V*B:=by
  rw [Nat.div_lt_iff_lt_mul hp];rw [Nat.div_lt_iff_lt_mul (Nat.pow_pos hB)] at hR;rw [Nat.pow_succ,Nat.mul_comm (B^i)] at hR;rw [Nat.mul_assoc];exact hR
 refine ⟨h1,?_,?_,?_⟩
 .rw [Nat.div_lt_iff_lt_mul hV,Nat.mul_comm];exact h1
 .have e1:=Nat.mod_add_div R (B^i);have e2:=Nat.mod_add_div (R/B^i) V;rw [hS]
  conv=>lhs;rw [<-e1,<-e2]
  simp only [Nat.pow_succ,Nat.mul_add];have:V*(B^i*B)*Q=V*B^i*(B*Q):=by simp only [Nat.mul_assoc]
  rw [this];have:B^i*(V*(R/B^i/V))=V*B^i*(R/B^i/V):=by rw [<-Nat.mul_assoc,Nat.mul_comm (B^i)]
  rw [this];omega
 .rw [Nat.add_mul_div_left _ _ hp,Nat.div_eq_of_lt (Nat.mod_lt _ hp),Nat.zero_add];exact Nat.mod_lt _ hV
theorem zR {S V R Q:Nat} (hS:S=R+V*Q) (hR:R<V):Q=S/V/\R=S%V:=by
 constructor
 .rw [hS,Nat.add_mul_div_left _ _ (by omega),Nat.div_eq_of_lt hR,Nat.zero_add]
 .rw [hS,Nat.add_mul_mod_self_left,Nat.mod_eq_of_lt hR]
theorem SS {B R i n X':Nat} (hR:R/B^(i+n)=0):R%B^i+B^i*(X'+B^n*(R/B^(i+n)))=R%B^i+B^i*X':=by rw [hR,Nat.mul_zero,Nat.add_zero]
end Ord
namespace Ord
def Fit (B:Nat) (q:Rat):Prop:=q.num.natAbs<2^B/\q.den<2^B
theorem Fit.mono {B C:Nat} {q:Rat} (h:Fit B q) (hBC:B<=C):Fit C q:=
 have:=Nat.pow_le_pow_right (n:=2) (by omega) hBC
 ⟨Nat.lt_of_lt_of_le h.1 this,Nat.lt_of_lt_of_le h.2 this⟩
theorem Mr (n:Int) (g:Nat):(n/(g:Int)).natAbs<=n.natAbs+(if n<0 then 1 else 0)*0+(if (g:Int)∣n then 0 else 1):=by
 by_cases hg:g=0
 .subst hg;simp
 .by_cases hd:(g:Int)∣n
  .rw [if_pos hd];obtain ⟨k,rfl⟩:=hd;rw [Int.mul_ediv_cancel_left _ (by omega),Int.natAbs_mul];simp only [Int.natAbs_natCast,Nat.mul_zero,Nat.add_zero];exact Nat.le_mul_of_pos_left _ (by omega)
  .rw [if_neg hd];have h1:=Int.mul_ediv_add_emod n g;have h2:=Int.emod_nonneg n (b:=(g:Int)) (by omega);have h3:=Int.emod_lt_of_pos n (b:=(g:Int)) (by omega)
   have h4:(n/(g:Int)).natAbs*g<=n.natAbs+g:=by
    have:((n/(g:Int)).natAbs*g:Nat)=((g:Int)*(n/(g:Int))).natAbs:=by rw [Int.natAbs_mul,Int.natAbs_natCast,Nat.mul_comm]
    omega
   have h5:n.natAbs+g<=(n.natAbs+1)*g:=by
    rw [Nat.add_mul,Nat.one_mul];have:=Nat.le_mul_of_pos_right n.natAbs (by omega:0<g);omega
   have:=Nat.le_of_mul_le_mul_right (Nat.le_trans h4 h5) (by omega);omega
theorem Fit.mkRat {B:Nat} {n:Int} {d:Nat} (hn:n.natAbs<2^B) (hd:d<2^B) (h0:d≠0):Fit B (mkRat n d):=by
 rw [<-Rat.normalize_eq_mkRat h0,Rat.normalize_eq h0];refine ⟨?_,Nat.lt_of_le_of_lt (Nat.div_le_self _ _) hd⟩;have:=Mr n (n.natAbs.gcd d);rw [if_pos (Int.ofNat_dvd_left.2 (Nat.gcd_dvd_left _ _))] at this;simp only [Nat.mul_zero,Nat.add_zero] at this;show (n/_).natAbs<_;exact Nat.lt_of_le_of_lt this hn
theorem two_pow_pos (B:Nat):0<2^B:=Nat.pow_pos (by omega)
theorem cL {a b B C:Nat} (ha:a<2^B) (hb:b<2^C):a*b<2^(B+C):=by
 rw [Nat.pow_add];exact Nat.mul_lt_mul'' ha hb
theorem Fit.add {B C:Nat} {a b:Rat} (ha:Fit B a) (hb:Fit C b):Fit (B+C+1) (a+b):=by
 rw [Rat.add_def'];have h1:=cL ha.1 hb.2;have h2:=cL hb.1 ha.2;have h3:=cL ha.2 hb.2;rw [Nat.add_comm C B] at h2;refine Fit.mkRat ?_ ?_ (Nat.mul_ne_zero a.den_nz b.den_nz)
 .rw [Nat.pow_succ]
  have:(a.num * ↑b.den+b.num * ↑a.den).natAbs<=a.num.natAbs*b.den+b.num.natAbs*a.den:=by
   refine Nat.le_trans (Int.natAbs_add_le _ _) ?_;rw [Int.natAbs_mul,Int.natAbs_mul,Int.natAbs_natCast,Int.natAbs_natCast];exact Nat.le_refl _
  omega
 .rw [Nat.pow_succ];omega
theorem Fit.mul {B C:Nat} {a b:Rat} (ha:Fit B a) (hb:Fit C b):Fit (B+C) (a*b):=by
 rw [Rat.mul_def'];refine Fit.mkRat ?_ (cL ha.2 hb.2) (Nat.mul_ne_zero a.den_nz b.den_nz);rw [Int.natAbs_mul];exact cL ha.1 hb.1
theorem Fit.neg {B:Nat} {a:Rat} (ha:Fit B a):Fit B (-a):=by
 refine ⟨?_,?_⟩
 .rw [Rat.neg_num,Int.natAbs_neg];exact ha.1
 .rw [Rat.neg_den];exact ha.2
theorem Fit.sub {B C:Nat} {a b:Rat} (ha:Fit B a) (hb:Fit C b):Fit (B+C+1) (a-b):=by
 rw [Rat.sub_eq_add_neg];exact ha.add hb.neg
theorem Fit.inv {B:Nat} {a:Rat} (ha:Fit B a):Fit B a⁻¹:=by
 by_cases h:a=0
 .subst h;rw [Rat.inv_zero];exact ha
 .have hn:a.num≠0:=fun e=>h (Rat.num_eq_zero.1 e);refine ⟨?_,?_⟩
  .rw [Rat.num_inv,Int.natAbs_mul,Int.natAbs_sign_of_ne_zero hn,Int.natAbs_natCast,Nat.one_mul];exact ha.2
  .rw [Rat.den_inv,if_neg hn];exact ha.1
theorem Fit.div {B C:Nat} {a b:Rat} (ha:Fit B a) (hb:Fit C b):Fit (B+C) (a/b):=by
 rw [Rat.div_def];exact ha.mul hb.inv
theorem Fit.zero {B:Nat} (h:1<=B):Fit B 0:=by
 have:=Nat.pow_le_pow_right (n:=2) (by omega) h;exact ⟨by show (0:Int).natAbs<_;simp;omega,by show 1<_;omega⟩
theorem Fit.int {B:Nat} {n:Int} (hB:1<=B) (h:n.natAbs<2^B):Fit B (n:Rat):=by
 have:=Nat.pow_le_pow_right (n:=2) (by omega) hB;exact ⟨by rw [Rat.num_intCast];exact h,by rw [Rat.den_intCast];omega⟩
end Ord
namespace Ord
def bd (n:Nat):List Nat:=(lE 32768 n).reverse
def bv (ds:List Nat):Nat:=val 32768 ds.reverse
theorem fJ (n:Nat):bv (bd n)=n:=by rw [bv,bd,List.reverse_reverse,xA (by omega)]
theorem iK (n:Nat):DB 32768 (bd n):=(DB.lE (by omega) n).rev
theorem QE:bd 0 = []:=by rw [bd,eD];rfl
theorem Pz {n:Nat}:bd n = []↔n=0:=by
 constructor
 .intro h;have:=congrArg bv h;rw [fJ] at this;exact this
 .rintro rfl;exact QE
theorem Vn (n:Nat):(bd n).length=(lE 32768 n).length:=by rw [bd,List.length_reverse]
theorem BL (d:Nat) (ds:List Nat):bv (d::ds)=bv ds+32768^ds.length*d:=by
 rw [bv,List.reverse_cons,jE,val_one,List.length_reverse];rfl
theorem Ca (ds:List Nat) (d:Nat):bv (ds ++ [d])=bv ds*32768+d:=by
 rw [bv,List.reverse_append];simp only [List.reverse_cons,List.reverse_nil,List.nil_append,List.singleton_append,val];rw [bv];omega
theorem Zu (xs ys:List Nat):bv (xs++ys)=bv xs*32768^ys.length+bv ys:=by
 rw [bv,List.reverse_append,jE,List.length_reverse,Nat.mul_comm,Nat.add_comm];rfl
theorem bt1 {ds:List Nat} (h:DB 32768 ds) (h0:∀ d,ds.head? = some d->d≠0):bd (bv ds)=ds:=by
 rw [bd,bv,Rr (by omega) _ h.rev,List.reverse_reverse];intro d hd;rw [List.getLast?_reverse] at hd;exact h0 d hd
theorem Ul {ds:List Nat} (h:DB 32768 ds):bv ds<32768^ds.length:=by
 have:=DB.lt (by omega) h.rev
 rwa [List.length_reverse] at this
theorem DJ (n:Nat):n<32768^(bd n).length:=by rw [Vn];exact lB (by omega) n
theorem by2 {n:Nat} (h:n≠0):32768^((bd n).length-1)<=n:=by rw [Vn];exact gC (by omega) h
theorem kM {n k:Nat} (h:n<32768^k):(bd n).length<=k:=by rw [Vn];exact kC h
theorem fO {m n:Nat} (h:m<=n):(bd m).length<=(bd n).length:=kM (Nat.lt_of_le_of_lt h (DJ n))
theorem Ru (n i:Nat):((bd n).reverse[i]?).getD 0=n/32768^i%32768:=by
 rw [bd,List.reverse_reverse];by_cases hi:i<(lE 32768 n).length
 .rw [Xe n,Da _ hi];rfl
 .rw [List.getElem?_eq_none_iff.2 (by omega),Option.getD_none,Nat.div_eq_of_lt,Nat.zero_mod];exact Nat.lt_of_lt_of_le (lB (by omega) n) (Nat.pow_le_pow_right (by omega) (by omega))
theorem BQ {ds:List Nat} {i:Nat} (h:i<ds.length:=by omega):ds[ds.length-1-i]? = ds.reverse[i]?:=by
 rw [List.getElem?_reverse h]
theorem QL {os:List Nat} {i z:Nat} (h:i<os.length):os.reverse.set (os.length-1-i) z=(os.set i z).reverse:=by
 apply List.ext_getElem?;intro j;rw [List.getElem?_set];simp only [List.length_reverse];by_cases hj:j<os.length
 .rw [List.getElem?_reverse hj,List.getElem?_reverse (by rw [List.length_set];exact hj),List.getElem?_set,List.length_set];by_cases e:os.length-1-i=j
  .rw [if_pos e,if_pos (by omega),if_pos (by omega),if_pos (by omega)]
  .rw [if_neg e,if_neg (by omega)]
 .rw [List.getElem?_eq_none_iff.2 (by simp;omega),List.getElem?_eq_none_iff.2 (by simp;omega)];split
  .split<;>first | rfl | omega
  .rfl
theorem Yx {ds:List Nat} {d:Nat} (h:ds[0]? = some d):bv ds=bv (ds.drop 1)+32768^(ds.length-1)*d:=by
 cases ds with
 | nil=>simp at h
 | cons x xs=>simp only [List.getElem?_cons_zero,Option.some.injEq] at h;subst h;simp [BL]
end Ord
namespace Ord
def ev (p:List Rat) (x:Rat):Rat:=p.foldr (fun a v=>v*x+a) 0
theorem dF (x:Rat):ev [] x=0:=rfl
theorem bE (a:Rat) (p:List Rat) (x:Rat):ev (a::p) x=ev p x*x+a:=rfl
theorem Ng (p q:List Rat) (x:Rat):ev (p++q) x=ev p x+x^p.length*ev q x:=by
 induction p with
 | nil=>simp only [List.nil_append,dF,List.length_nil];grind
 | cons a p ih=>simp only [List.cons_append,bE,ih,List.length_cons,Rat.pow_succ];grind
theorem aY9 (p:List Rat) (i:Nat) (a b x:Rat) (h:p[i]? = some a):ev (p.set i b) x=ev p x+(b-a)*x^i:=by
 induction p generalizing i with
 | nil=>simp at h
 | cons c p ih=>
   cases i with
   | zero=>
     simp only [List.getElem?_cons_zero,Option.some.injEq] at h;subst h;simp only [List.set_cons_zero,bE,Rat.pow_zero];grind
   | succ i=>
     simp only [List.getElem?_cons_succ] at h;simp only [List.set_cons_succ,bE,ih i h,Rat.pow_succ];grind
theorem aa2 (n:Nat) (x:Rat):ev (List.replicate n 0) x=0:=by
 induction n with
 | zero=>rfl
 | succ n ih=>rw [List.replicate_succ,bE,ih];grind
theorem wV {p:List Rat} {i:Nat} {a:Rat} (h:p[i]? = some a) (x:Rat):ev (p.take (i+1)) x=ev (p.take i) x+a*x^i:=by
 have hi:i<p.length:=(List.getElem?_eq_some_iff.1 h).1;rw [List.take_add_one,h,Option.toList_some,Ng,List.length_take,Nat.min_eq_left (by omega),bE,dF];grind
theorem Wp (k:Rat) (p:List Rat) (x:Rat):ev (p.map (· * k)) x=ev p x*k:=by
 induction p with
 | nil=>rw [List.map_nil,dF];grind
 | cons a p ih=>rw [List.map_cons,bE,bE,ih];grind
def Zx (c:Rat):List Rat->List Rat
 | []=>[]
 | [_]=>[]
 | _::b::p=>ev (b::p) c::Zx c (b::p)
theorem DR (c:Rat):∀ p:List Rat,(Zx c p).length=p.length-1
 | []=>rfl
 | [_]=>rfl
 | _::b::p=>by
   have:=DR c (b::p);simp only [List.length_cons] at this;simp only [Zx,List.length_cons,this];omega
theorem al5 (c x:Rat):∀ p:List Rat,ev p x=ev p c+(x-c)*ev (Zx c p) x
 | []=>by simp only [dF,Zx];grind
 | [a]=>by simp only [bE,dF,Zx];grind
 | a::b::p=>by
   have ih:=al5 c x (b::p);rw [bE a (b::p) x,bE a (b::p) c,Zx,bE (ev (b::p) c)];generalize ev (b::p) x=u at *;generalize ev (b::p) c=v at *;generalize ev (Zx c (b::p)) x=t at *;subst ih
   grind
theorem TN (c:Rat):∀ p:List Rat,ev p c=0->(∀ a∈Zx c p,a=0)->∀ a∈p,a=0
 | [],_,_=>by simp
 | [a],h,_=>by
   rw [bE,dF] at h;intro x hx;simp only [List.mem_singleton] at hx;subst hx;grind
 | a::b::p,h,hs=>by
   rw [Zx] at hs;have h1:ev (b::p) c=0:=hs _ List.mem_cons_self;have ih:=TN c (b::p) h1 fun y hy=>hs y (List.mem_cons_of_mem _ hy);rw [bE,h1] at h;intro x hx;rcases List.mem_cons.1 hx with rfl | hx
   .grind
   .exact ih x hx
theorem NU:∀ (n:Nat) (p:List Rat),p.length<=n->(∀ i:Nat,i<n->ev p (i:Rat)=0)->∀ a∈p,a=0
 | 0,p,hl,_=>by
   have:p = []:=List.eq_nil_of_length_eq_zero (by omega);subst this;simp
 | n+1,p,hl,h=>by
   have h0:=h n (by omega);refine TN _ p h0 (NU n (Zx (n:Rat) p) (by rw [DR];omega) fun i hi=>?_);have h1:=h i (by omega);rw [al5 (n:Rat) i p,h0] at h1
   have h2:((i:Rat)-(n:Rat))≠0:=by
    intro e;have e2:(i:Rat)=(n:Rat):=by grind
    have:=Rat.natCast_inj.1 e2;omega
   have h3:((i:Rat)-(n:Rat))*ev (Zx (n:Rat) p) i=0:=by grind
   rcases Rat.mul_eq_zero.1 h3 with h4 | h4
   .exact (h2 h4).elim
   .exact h4
def dif:List Rat->List Rat->List Rat
 | [],q=>q.map (fun a=>-a)
 | a::p,[]=>a::p
 | a::p,b::q=>(a-b)::dif p q
theorem ak8:∀ (p q:List Rat) (x:Rat),ev (dif p q) x=ev p x-ev q x
 | [],q,x=>by
   rw [dif,dF]
   induction q with
   | nil=>rw [List.map_nil,dF];grind
   | cons b q ih=>rw [List.map_cons,bE,bE,ih];grind
 | a::p,[],x=>by rw [dif,dF];grind
 | a::p,b::q,x=>by rw [dif,bE,bE,bE,ak8 p q x];grind
def oV (p:List Rat):Prop:=∀ a,p.getLast? = some a->a≠0
theorem oV.tail {a:Rat} {p:List Rat} (h:oV (a::p)):oV p:=fun b hb=>h b (by
 cases p with
 | nil=>cases hb
 | cons c p=>rw [List.getLast?_cons_cons];exact hb)
theorem GH {p:List Rat} (h:oV p) (h0:∀ a∈p,a=0):p = []:=by
 cases hp:p.getLast? with
 | none=>exact List.getLast?_eq_none_iff.1 hp
 | some a=>exact (h a hp (h0 a (List.mem_of_getLast? hp))).elim
theorem Sr:∀ {p q:List Rat},oV p->oV q->(∀ a∈dif p q,a=0)->p=q
 | [],q,_,hq,h=>by
   rw [dif] at h;refine (GH hq fun a ha=>?_).symm;have:=h (-a) (List.mem_map.2 ⟨a,ha,rfl⟩)
   grind
 | a::p,[],hp,_,h=>GH hp h
 | a::p,b::q,hp,hq,h=>by
   rw [dif] at h;have h1:=h _ List.mem_cons_self;have h2:=Sr hp.tail hq.tail fun x hx=>h x (List.mem_cons_of_mem _ hx);rw [h2,show a=b by grind]
theorem Al {p q:List Rat} (hp:oV p) (hq:oV q) (h:∀ x,ev p x=ev q x):p=q:=
 Sr hp hq (NU _ _ (Nat.le_refl _) fun i _=>by rw [ak8,h];grind)
end Ord
namespace Ord
def Bd (D S:Nat) (q:Rat):Prop:=q.den∣D/\q.num.natAbs<=S*q.den
theorem Bd.zero {D S:Nat}:Bd D S 0:=⟨⟨D,by simp⟩,by simp⟩
theorem Bd.one {D S:Nat} (h:1<=S):Bd D S 1:=⟨⟨D,by simp⟩,by simpa using h⟩
theorem Bd.int {D S:Nat} {n:Int} (h:n.natAbs<=S):Bd D S (n:Rat):=⟨⟨D,by simp⟩,by simpa using h⟩
theorem Bd.mono {D S E T:Nat} {q:Rat} (h:Bd D S q) (hD:D∣E) (hS:S<=T):Bd E T q:=
 ⟨Nat.dvd_trans h.1 hD,Nat.le_trans h.2 (Nat.mul_le_mul_right _ hS)⟩
theorem Bd.le {D S T:Nat} {q:Rat} (h:Bd D S q) (hS:S<=T):Bd D T q:=h.mono (Nat.dvd_refl _) hS
theorem Bd.neg {D S:Nat} {q:Rat} (h:Bd D S q):Bd D S (-q):=⟨h.1,by show (-q.num).natAbs<=S*q.den;rw [Int.natAbs_neg];exact h.2⟩
theorem Bd.mk {D S:Nat} {n:Int} (h0:D≠0) (h:n.natAbs<=S*D):Bd D S (mkRat n D):=by
 rw [<-Rat.normalize_eq_mkRat h0,Rat.normalize_eq h0];show D/n.natAbs.gcd D∣D/\(n/((n.natAbs.gcd D:Nat):Int)).natAbs<=S*(D/n.natAbs.gcd D);have hg:0<n.natAbs.gcd D:=Nat.gcd_pos_of_pos_right _ (by omega);have hd:=Nat.gcd_dvd_right n.natAbs D;have hn:=Nat.gcd_dvd_left n.natAbs D;generalize n.natAbs.gcd D=g at *;obtain ⟨d',rfl⟩:=hd;obtain ⟨k,hk⟩:=Int.ofNat_dvd_left.2 hn;subst hk
 constructor
 .rw [Nat.mul_div_cancel_left _ hg];exact Nat.dvd_mul_left _ _
 .rw [Nat.mul_div_cancel_left _ hg,Int.mul_ediv_cancel_left _ (by omega)];rw [Int.natAbs_mul,Int.natAbs_natCast,Nat.mul_left_comm] at h;exact Nat.le_of_mul_le_mul_left h hg
theorem Bd.ex {D S:Nat} {q:Rat} (h:Bd D S q) (h0:D≠0):∃ n:Int,q=mkRat n D/\n.natAbs<=S*D:=by
 obtain ⟨⟨k,rfl⟩,h2⟩:=h;have hk:k≠0:=fun e=>h0 (by rw [e,Nat.mul_zero]);refine ⟨q.num*k,?_,?_⟩
 .rw [Nat.mul_comm q.den k,Int.mul_comm,Rat.mkRat_mul_left hk,Rat.mkRat_self]
 .rw [Int.natAbs_mul,Int.natAbs_natCast,<-Nat.mul_assoc];exact Nat.mul_le_mul_right _ h2
theorem Bd.add {D S T:Nat} {a b:Rat} (h0:D≠0) (ha:Bd D S a) (hb:Bd D T b):Bd D (S+T) (a+b):=by
 obtain ⟨m,rfl,hm⟩:=ha.ex h0;obtain ⟨n,rfl,hn⟩:=hb.ex h0
 have e:mkRat m D+mkRat n D=mkRat (m+n) D:=by
  rw [Rat.mkRat_add_mkRat m n h0 h0,<-Int.add_mul,Rat.mkRat_mul_right h0]
 rw [e];refine Bd.mk h0 (Nat.le_trans (Int.natAbs_add_le _ _) ?_);rw [Nat.add_mul];exact Nat.add_le_add hm hn
theorem Bd.sub {D S T:Nat} {a b:Rat} (h0:D≠0) (ha:Bd D S a) (hb:Bd D T b):Bd D (S+T) (a-b):=by
 rw [Rat.sub_eq_add_neg];exact ha.add h0 hb.neg
theorem Bd.mul {D E S T:Nat} {a b:Rat} (h0:D≠0) (h1:E≠0) (ha:Bd D S a) (hb:Bd E T b):Bd (D*E) (S*T) (a*b):=by
 obtain ⟨m,rfl,hm⟩:=ha.ex h0;obtain ⟨n,rfl,hn⟩:=hb.ex h1;rw [Rat.mkRat_mul_mkRat];refine Bd.mk (Nat.mul_ne_zero h0 h1) ?_;rw [Int.natAbs_mul];have:=Nat.mul_le_mul hm hn;rw [Nat.mul_mul_mul_comm] at this;exact this
theorem Bd.fit {D S B:Nat} {q:Rat} (h:Bd D S q) (h0:D≠0) (h1:D<2^B) (h2:S*D<2^B):Fit B q:=by
 have hd:=Nat.le_of_dvd (by omega) h.1;exact ⟨Nat.lt_of_le_of_lt (Nat.le_trans h.2 (Nat.mul_le_mul_left _ hd)) h2,Nat.lt_of_le_of_lt hd h1⟩
end Ord
namespace Ord
def gK (a:Rat) (q:List Rat) (i:Nat) (out:List Rat):Nat->List Rat
 | 0=>out
 | k+1=>(gK a q i out k).set (i+k) ((gK a q i out k).getD (i+k) 0+a*q.getD k 0)
def mulL (p q:List Rat):Nat->List Rat
 | 0=>List.replicate (p.length+q.length-1) 0
 | i+1=>if p.getD i 0=0 then mulL p q i else gK (p.getD i 0) q i (mulL p q i) q.length
theorem kU (a:Rat) (q:List Rat) (i:Nat) (out:List Rat):∀ k,(gK a q i out k).length=out.length
 | 0=>rfl
 | k+1=>by rw [gK,List.length_set,kU a q i out k]
theorem gL (p q:List Rat):∀ i,(mulL p q i).length=p.length+q.length-1
 | 0=>by rw [mulL,List.length_replicate]
 | i+1=>by
   rw [mulL];split
   .exact gL p q i
   .rw [kU,gL p q i]
theorem aI {l:List Rat} {i:Nat} (h:i<l.length:=by omega):l[i]? = some (l.getD i 0):=by
 rw [List.getD_eq_getElem?_getD,List.getElem?_eq_getElem h];rfl
theorem TE (x:Rat) (i:Nat):∀ k:Nat,x^(i+k)=x^i*x^k
 | 0=>by rw [Nat.add_zero,Rat.pow_zero];grind
 | k+1=>by rw [<-Nat.add_assoc,Rat.pow_succ,TE x i k,Rat.pow_succ];grind
theorem Nk (a:Rat) (q:List Rat) (i:Nat) (out:List Rat) (x:Rat) (hl:i+q.length<=out.length):∀ k,k<=q.length->ev (gK a q i out k) x=ev out x+a*x^i*ev (q.take k) x
 | 0,_=>by rw [gK,List.take_zero,dF];grind
 | k+1,hk=>by
   have hget:=aI (l:=gK a q i out k) (i:=i+k) (by rw [kU];omega);rw [gK,aY9 _ _ _ _ x hget,Nk a q i out x hl k (by omega),wV (aI (l:=q)) x,TE]
   grind
theorem Xb (p q:List Rat) (x:Rat) (hq:0<q.length):∀ i,i<=p.length->ev (mulL p q i) x=ev (p.take i) x*ev q x
 | 0,_=>by rw [mulL,aa2,List.take_zero,dF];grind
 | i+1,hi=>by
   have ih:=Xb p q x hq i (by omega);rw [mulL,wV (aI (l:=p)) x];split
   .rename_i h0;rw [ih,h0];grind
   .rw [Nk _ _ _ _ x (by rw [gL];omega) _ (Nat.le_refl _),ih,List.take_length];grind
theorem lP {D S:Nat} {l:List Rat} (h:∀ a∈l,Bd D S a) (i:Nat):Bd D S (l.getD i 0):=by
 rw [List.getD_eq_getElem?_getD];cases hi:l[i]? with
 | none=>exact Bd.zero
 | some a=>exact h a (List.mem_of_getElem? hi)
def bx9 (D S T:Nat) (i k:Nat) (l:List Rat):Prop:=∀ j a,l[j]? = some a->Bd D (if i<=j/\j<i+k then S+T else S) a
theorem NZ {D E S T U:Nat} (h0:D≠0) (h1:E≠0) {a:Rat} {q:List Rat} (ha:Bd D S a) (hq:∀ b∈q,Bd E T b) {i:Nat} {out:List Rat} (ho:∀ x∈out,Bd (D*E) U x):∀ k,bx9 (D*E) U (S*T) i k (gK a q i out k)
 | 0=>fun j x hx=>by
   rw [if_neg (by omega)];exact ho x (List.mem_of_getElem? hx)
 | k+1=>fun j x hx=>by
   have ih:=NZ h0 h1 ha hq ho k (i:=i);rw [gK,List.getElem?_set] at hx;split at hx
   .rename_i e;subst e;split at hx
    .rename_i hlt;simp only [Option.some.injEq] at hx;subst hx;rw [if_pos (by omega)];refine Bd.add (Nat.mul_ne_zero h0 h1) ?_ (ha.mul h0 h1 (lP hq k));have:=ih (i+k) _ (aI hlt);rw [if_neg (by omega)] at this;exact this
    .cases hx
   .have:=ih j x hx;refine this.le ?_;by_cases h2:i<=j/\j<i+k
    .rw [if_pos h2,if_pos (by omega)];exact Nat.le_refl _
    .rw [if_neg h2];split
     .exact Nat.le_add_right _ _
     .exact Nat.le_refl _
theorem EW {D E S T U:Nat} (h0:D≠0) (h1:E≠0) {a:Rat} {q:List Rat} (ha:Bd D S a) (hq:∀ b∈q,Bd E T b) {i:Nat} {out:List Rat} (ho:∀ x∈out,Bd (D*E) U x) (k:Nat):∀ x∈gK a q i out k,Bd (D*E) (U+S*T) x:=fun x hx=>by
 obtain ⟨j,hj⟩:=List.mem_iff_getElem?.1 hx;refine (NZ h0 h1 ha hq ho k j x hj).le ?_;split
 .exact Nat.le_refl _
 .exact Nat.le_add_right _ _
theorem xD {D E S T:Nat} (h0:D≠0) (h1:E≠0) {p q:List Rat} (hp:∀ a∈p,Bd D S a) (hq:∀ b∈q,Bd E T b):∀ i,∀ x∈mulL p q i,Bd (D*E) (i*(S*T)) x
 | 0=>fun x hx=>by
   rw [mulL] at hx;obtain ⟨_,rfl⟩:=List.mem_replicate.1 hx;exact Bd.zero
 | i+1=>fun x hx=>by
   rw [mulL] at hx;rw [Nat.add_mul,Nat.one_mul];split at hx
   .exact (xD h0 h1 hp hq i x hx).le (Nat.le_add_right _ _)
   .exact EW h0 h1 (lP hp i) hq (xD h0 h1 hp hq i) _ x hx
theorem EA {D E S T B n:Nat} (h0:D≠0) (h1:E≠0) (hX:D*E*((n+1)*((S+1)*(T+1)))<2^B) :
  (∀ a,Bd D S a->Fit B a)/\(∀ b,Bd E T b->Fit B b)/\(∀ c (i:Nat),i<n->Bd (D*E) (i*(S*T)+S*T) c->Fit B c)/\(∀ c,Bd (D*E) (S*T) c->Fit B c):=by
 have hD:0<D:=Nat.pos_of_ne_zero h0;have hE:0<E:=Nat.pos_of_ne_zero h1;have hDE:0<D*E:=Nat.mul_pos hD hE
 have key:∀ X,X<=(n+1)*((S+1)*(T+1))->X*(D*E)<2^B:=fun X h=>by
  refine Nat.lt_of_le_of_lt ?_ hX;rw [Nat.mul_comm];exact Nat.mul_le_mul_left _ h
 have hST:(S+1)*(T+1)=S*T+S+T+1:=by rw [Nat.add_mul,Nat.mul_add];omega
 have hge:(S+1)*(T+1)<=(n+1)*((S+1)*(T+1)):=Nat.le_mul_of_pos_left _ (by omega);have k1:=key 1 (by omega);have kS:=key S (by omega);have kT:=key T (by omega);have kST:=key (S*T) (by omega);have hDle:D<=D*E:=Nat.le_mul_of_pos_right _ hE;have hEle:E<=D*E:=Nat.le_mul_of_pos_left _ hD;refine ⟨fun a ha=>ha.fit h0 (by omega) (Nat.lt_of_le_of_lt (Nat.mul_le_mul_left _ hDle) kS),fun b hb=>hb.fit h1 (by omega) (Nat.lt_of_le_of_lt (Nat.mul_le_mul_left _ hEle) kT),fun c i hi hc=>?_,fun c hc=>hc.fit (by omega) (by omega) kST⟩;refine hc.fit (by omega) (by omega) (key _ ?_);have e:i*(S*T)+S*T=(i+1)*(S*T):=by rw [Nat.add_mul,Nat.one_mul]
 rw [e];exact Nat.mul_le_mul (by omega) (by omega)
end Ord
