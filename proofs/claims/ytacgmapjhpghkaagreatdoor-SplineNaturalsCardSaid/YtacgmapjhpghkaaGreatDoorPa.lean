/- Part. -/
set_option linter.all false
abbrev b9:=List (List Rat)
abbrev c4:=List Rat
abbrev c6:=Nat->Prop
abbrev c7:=List Nat
abbrev c8:=Nat->Rat
abbrev c9:=Nat->Bool
abbrev dO:=List UInt8
abbrev iF:=Rat->Prop
theorem O{p:Prop}(h:p:=by omega):p:=h
theorem aT{p:Prop}(h:p:=by simp):p:=h
theorem bY{p:Prop}(h:p:=by decide):p:=h
theorem b5{p:Prop}(h:p:=by grind):p:=h
theorem b6{p:Prop}(h:p:=by simp;omega):p:=h
theorem b7{p:Prop}(h:p:=by decide +kernel):p:=h
theorem b8{p:Prop}(h:p:=by assumption):p:=h
def al:=@List.length_set
def bB:=@List.length_cons
def bI:=@Int.toNat_natCast
def bh:=@List.length_take
def dL:=@List.take_of_length_le
def aG:=@if_neg
def bu:=@List.length_nil
def bG:=@Nat.le_trans
def dU:=@List.length_replicate
def bR:=@Bool.and_eq_true
def bj:=@Int.natAbs_natCast
def cE:=@List.mem_cons_self
def cK:=@Array.length_toList
def cY:=@Nat.mul_le_mul_right
def aF:=@if_pos
def cg:=@List.mem_cons_of_mem
def cM:=@Nat.lt_of_lt_of_le
def ep:=@List.eq_nil_of_length_eq_zero
def cB:=@List.append_nil
def ek:=@List.getElem?_append_left
def cI:=@Option.some.inj
def cG:=@List.map_append
def bW:=@Nat.zero_add
def bz:=@decide_eq_true
def cq:=@List.size_toArray
def fA:=@List.getElem?_eq_none_iff
def fi:=@List.getElem?_append_right
def eE:=@Array.replicate_succ
def eF:=@Array.replicate_zero
def cZ:=@Option.map_some
def da:=@List.mem_singleton
def dz:=@Nat.mul_le_mul_left
def eI:=@List.append_toArray
def dF:=@List.length_drop
def bw:=@Nat.pow_succ
def dy:=@List.append_assoc
def bt:=@Nat.add_mul
def eN:=@Bool.false_eq_true
def cX:=@Prod.mk.injEq
def eJ:=@List.push_toArray
def cN:=@Nat.mul_comm
def cp:=@List.mem_cons
def eh:=@List.getElem?_take
def de:=@Nat.min_eq_left
def cV:=@Nat.add_zero
def fF:=@List.length_reverse
def dn:=@decide_eq_false
def gZ:=@Int.sign_eq_one_of_pos
def dx:=@List.mem_append
def fG:=@List.getElem?_drop
def gI:=@Nat.pow_le_pow_right
def jq:=@Array.getD_eq_getD_getElem?
def jW:=@List.drop_eq_getElem_cons
def fM:=@Nat.lt_of_le_of_lt
def gV:=@List.mem_append_left
def eA:=@Int.natAbs_mul
def fS:=@List.all_eq_true
def fR:=@Nat.div_eq_of_lt
def fL:=@Nat.mod_eq_of_lt
def dG:=@Prod.mk.inj
def jQ:=@List.getElem?_eq_none
def gU:=@List.ext_getElem?
def gX:=@List.flatten_cons
def gH:=@Option.getD_some
def ej:=@Nat.mul_assoc
def fO:=@List.mem_range
def kZ:=@Nat.div_lt_iff_lt_mul
def ke:=@List.mem_append_right
def eK:=@Nat.pow_add
def eG:=@Nat.mul_one
def lj:=@List.getElem?_set_self
def gy:=@List.range_succ
def fj:=@List.map_cons
def ju:=@Nat.eq_zero_or_pos
def gd:=@List.drop_zero
def fE:=@Nat.sub_self
def kY:=@List.map_congr_left
def jC:=@List.take_length
def lL:=@Bool.or_eq_false_iff
def ee:=@Nat.one_mul
def eH:=@beq_iff_eq
def nJ:=@List.getElem?_cons_zero
def ck:=@if_false
def jr:=@decide_eq_true_eq
def nK:=@Nat.div_div_eq_div_mul
def qa:=@Int.tdiv_eq_ediv_of_nonneg
def mL:=@List.mem_of_mem_take
def fP:=@Nat.mul_le_mul
def dr:=@Nat.mul_add
def kU:=@Array.getElem?_toList
def jE:=@Rat.div_mul_cancel
def bg:=@if_true
def eo:=@Nat.mul_zero
def kJ:=@List.getElem?_of_mem
def iZ:=@List.not_mem_nil
def ey:=@List.map_map
def pM:=@Rat.mul_le_mul_of_nonneg_left
def ma:=@Nat.le_mul_of_pos_right
def kP:=@List.replicate_succ
def kC:=@List.getElem?_range
def eC:=@Nat.mod_lt
def mY:=@List.drop_eq_nil_of_le
def lu:=@List.mem_iff_getElem
def gu:=@List.drop_drop
def kL:=@List.mem_replicate
def cu:=@and_true
def ez:=@Nat.pow_pos
def lH:=@List.flatten_append
def jH:=@Int.natCast_mul
def qD:=@Int.sign_eq_neg_one_of_neg
def iY:=@Int.natAbs_neg
def sE:=@List.drop_append_of_le_length
def pU:=@List.mem_or_eq_of_mem_set
def lW:=@Nat.add_sub_cancel
def gP:=@Nat.lt_or_ge
def jf:=@Rat.mul_eq_zero
def jI:=@List.take_zero
def mS:=@List.take_succ_cons
def oA:=@List.take_append_drop
def sZ:=@Nat.mul_lt_mul_of_pos_right
def gp:=@Nat.add_comm
def sa:=@Int.tmod_eq_emod_of_nonneg
def np:=@List.getElem?_set_ne
def jh:=@List.take_take
def kE:=@Nat.mul_ne_zero
def ra:=@Array.getElem?_eq_getElem
def pn:=@Nat.add_mul_div_left
def pF:=@List.mem_of_mem_drop
def qG:=@List.reverse_reverse
def pZ:=@List.getElem?_append
def kD:=@List.map_take
def nq:=@List.take_add_one
def nu:=@Nat.mul_left_comm
def nk:=@List.getElem?_set
def mf:=@Nat.mod_add_div
def mR:=@Rat.num_eq_zero
def jJ:=@Nat.mul_pos
def uR:=@Nat.add_mul_mod_self_left
def qQ:=@List.map_replicate
def nh:=@decide_eq_decide
def ue:=@Array.size_setIfInBounds
def lf:=@Nat.add_assoc
def kM:=@Nat.gcd_comm
def kO:=@Rat.pow_succ
def xg:=@List.take_append_of_le_length
def mg:=@List.drop_take
def uZ:=@List.getElem?_cons_succ
def uW:=@decide_eq_false_iff_not
def na:=@Bool.or_eq_true
def nU:=@Rat.intCast_mul
def rO:=@Nat.div_mul_le_self
def sL:=@Nat.pow_le_pow_left
def sH:=@List.mem_map_of_mem
def mX:=@List.map_drop
def uT:=@List.length_filter_le
def xM:=@List.getElem?_eq_some_iff
def pX:=@Nat.two_pow_pos
def mW:=@Nat.le_of_lt
def wO:=@Nat.gcd_pos_of_pos_right
def kQ:=@Rat.not_lt
def wy:=@List.getElem?_replicate
def rj:=@List.getElem_mem
def iQ:=@or_false
def mc:=@Rat.mul_pos
def yM:=@Option.map_eq_some_iff
def ub:=@List.set_cons_zero
def nm:=@decide_false
def ns:=@Nat.zero_mul
def nV:=@List.map_nil
def rm:=@Nat.div_le_self
def sO:=@Nat.div_lt_self
def wk:=@Nat.le_div_iff_mul_le
def wQ:=@List.getElem?_toArray
def uY:=@Nat.dvd_mul_right
def uU:=@List.flatMap_cons
def uG:=@Bool.not_eq_true'
def oC:=@Nat.div_pos
def uX:=@List.mem_flatMap
def pR:=@List.map_set
def qO:=@Rat.pow_zero
def pb:=@Rat.le_of_lt
def Cm:=@Int.sign_eq_zero_iff_zero
def BI:=@Option.isNone_iff_eq_none
def sS:=@Rat.lt_irrefl
def uf:=@Rat.num_intCast
def yH:=@Nat.one_le_two_pow
def nX:=@Nat.not_lt
def BW:=@List.length_eq_zero_iff
def pV:=@decide_true
def pK:=@Nat.div_one
def pf:=@Nat.le_refl
def Ta:=@List.findIdx?_eq_some_iff_getElem
def Bn:=@Nat.le_mul_of_pos_left
def Cp:=@Rat.normalize_eq_mkRat
def wU:=@of_decide_eq_true
def wa:=@Option.some.injEq
def xn:=@List.reverse_cons
def wz:=@Decidable.not_not
def sG:=@Nat.pow_zero
def jg:=@Ne.symm
def BN:=@List.singleton_append
def BT:=@List.getElem?_reverse
def Cu:=@List.mem_iff_getElem?
def Cw:=@List.length_singleton
def wY:=@Nat.le_of_not_lt
def xH:=@Nat.le_add_right
def yD:=@Nat.lt_succ_self
def Bu:=@List.mem_of_getElem?
def mQ:=@true_and
def xk:=@Nat.le_antisymm
def wJ:=@List.mem_filter
def Cf:=@List.drop_set_of_lt
def BO:=@Nat.add_le_add_left
def ud:=@Nat.le_of_eq
def uP:=@Nat.succ_mul
def Sr:=@List.getD_eq_getElem?_getD
def RU:=@Array.getElem?_append_left
def CC:=@List.set_cons_succ
def BP:=@Nat.mul_right_comm
def Ce:=@Nat.gcd_zero_right
def Cc:=@Rat.sub_eq_add_neg
def BS:=@Nat.sub_add_cancel
def Ck:=@Nat.pos_of_ne_zero
def Ch:=@Option.any_eq_true
def Cx:=@Int.natAbs_add_le
def uN:=@Nat.gcd_rec
def mZ:=@Iff.rfl
def Sl:=@Option.isSome_iff_exists
def BH:=@Option.getD_none
def BQ:=@List.drop_length
def BF:=@Int.natCast_ediv
def Cl:=@Rat.normalize_eq
def Bt:=@Nat.dvd_mul_left
def RP:=@List.drop_of_length_le
def ug:=@Nat.mod_le
def ur:=@Array.ext'
def Cv:=@Rat.den_intCast
def Cq:=@List.cons.injEq
def Sc:=@List.set_append_right
def SF:=@Bool.and_eq_false_iff
def ak2:=@List.length_filter_lt_length_iff_exists
def PM:=@List.getElem?_mapIdx
def BR:=@List.mapM_cons
def xu:=@Nat.zero_le
def pH:=@eq_comm
def TD:=@List.flatMap_append
def Bz:=@List.take_add
def Bp:=@Bool.true_and
def PY:=@Int.ofNat_dvd_left
def TB:=@List.filter_append
def yO:=@Int.not_lt
def Sw:=@Int.lt_trichotomy
def QR:=@List.getElem_drop
def UD:=@List.mem_range'_1
def ap9:=@Array.getElem?_setIfInBounds_ne
def aq5:=@List.eq_nil_iff_forall_not_mem
def TC:=@Int.natCast_emod
def TG:=@Nat.gcd_dvd_left
def Rs:=@Nat.lt_of_not_le
def TY:=@List.flatMap_nil
def Bo:=@Rat.neg_num
def Cn:=@Rat.neg_den
def QM:=@Nat.div_add_mod
def Rz:=@Int.ediv_nonneg
def UA:=@List.head?_cons
def Ra:=@List.foldr_cons
def TK:=@Int.mul_ne_zero
def SQ:=@Rat.num_nonneg
def ak9:=@List.getLast?_eq_getElem?
def as0:=@List.getLast?_eq_none_iff
def as8:=@List.extract_eq_take_drop
def ao9:=@List.findIdx?_eq_none_iff
def at1:=@Int.mul_ediv_cancel_left
def ao1:=@List.getElem?_eq_getElem
def Ql:=@Nat.le_of_dvd
def Tf:=@ByteArray.ext
def PF:=@List.all_cons
def QP:=@List.mapM_nil
def ar3:=@List.getLast?_cons_cons
def as4:=@Nat.mul_div_cancel_left
def aq8:=@List.append_cancel_left
def am7:=@Nat.add_sub_cancel_left
def aj3:=@List.filter_cons_of_neg
def ai1:=@List.filter_cons_of_pos
def al3:=@List.head?_eq_getElem?
def ah8:=@List.range_succ_eq_map
def aq4:=@List.reverse_replicate
def ap2:=@List.length_pos_of_mem
def Si:=@List.set_set
def Qc:=@Nat.lt_trans
def QG:=@Rat.mul_def'
def SA:=@Rat.add_def'
def Uu:=@Nat.sub_zero
def am3:=@ByteArray.data_append
def am9:=@List.replicate_succ'
def au0:=@List.getElem?_zipIdx
def Qj:=@Rat.div_def
def Tv:=@Rat.one_mul
def al8:=@List.take_set_of_le
def as7:=@List.take_replicate
def ao2:=@Nat.lt_mul_div_succ
def an0:=@List.drop_replicate
def as1:=@Rat.mkRat_mul_mkRat
def ak3:=@List.drop_succ_cons
def ai9:=@List.reverse_append
def ak7:=@List.replicate_zero
def ar8:=@List.length_pos_iff
namespace Ord
def val(B:Nat):List Nat->Nat
 | []=>0
 | d::ds=>d+B*val B ds
def mI(B:Nat)(n:Nat):List Nat:=
 if h:1<B/\n≠0 then n%B::mI B (n/B)else[]
termination_by n
decreasing_by exact sO O h.1
def dj(B:Nat):mI B 0=[]:=by rw[mI];simp
def gQ{B n:Nat}(hB:1<B:=by omega)(h:n≠0:=by omega):mI B n=n%B::mI B (n/B):=by
 rw[mI,dif_pos ⟨hB,h⟩]
def xC{B:Nat}(hB:1<B)(n:Nat):val B (mI B n)=n:=by
 induction n using Nat.strongRecOn with
 | _ n ih=>
   by_cases h:n=0
   .subst h;rw[dj];rfl
   .rw[gQ hB h,val,ih _ (sO O hB)];exact mf n B
def Bw{B:Nat}(n:Nat)(hB:1<B:=by omega):∀d∈mI B n,d<B:=by
 induction n using Nat.strongRecOn with
 | _ n ih=>
   by_cases h:n=0
   .subst h;rw[dj];simp
   .rw[gQ hB h];intro d hd;rcases cp.1 hd with rfl | hd
    .exact eC _ O
    .exact ih _ (sO O hB) d hd
def kX(B:Nat)(xs ys:c7):val B (xs++ys)=val B xs+B^xs.length*val B ys:=by
 induction xs with
 | nil=>simp[val]
 | cons x xs ih=>simp[val,ih,dr,bw,lf,ej,nu,cN]
def Zo{B:Nat}(hB:0<B)(xs:c7)(h:∀d∈xs,d<B):val B xs<B^xs.length:=by
 induction xs with
 | nil=>simp[val]
 | cons x xs ih=>
   have h1:=ih (fun d hd=>h d (cg _ hd));have h2:=h x cE;simp only[val,bB,bw]
   calc x+B*val B xs<B+B*val B xs:=O
    _=B*(val B xs+1):=by rw[dr,eG,gp]
    _<=B*B^xs.length:=dz _ h1
    _=B^xs.length*B:=cN _ _
def Vm{B:Nat}(hB:1<B)(xs:c7)(h:∀d∈xs,d<B)(hl:∀d,xs.getLast? = some d->d≠0):mI B (val B xs)=xs:=by
 induction xs with
 | nil=>simp[val,dj]
 | cons x xs ih=>
   have hx:=h x cE;have h1:∀d∈xs,d<B:=fun d hd=>h d (cg _ hd);cases xs with
   | nil=>
     have:x≠0:=hl x aT;simp only[val,eo,cV];rw[gQ hB this,fL hx,fR hx,dj]
   | cons y ys=>
     have e:=ih h1 (fun d hd=>hl d (by rw[ar3];exact hd))
     have hne:val B (y::ys)≠0:=by
      intro h0;rw[h0,dj]at e;cases e
     have hne':val B (x::y::ys)≠0:=by
      rw[val];have:0<B*val B (y::ys):=jJ O O;omega
     rw[gQ hB hne'];rw[val,uR,fL hx,pn _ _ (by omega:0<B),fR hx,bW,e]
def TJ{B:Nat}(hB:1<B)(n:Nat):∀d,(mI B n).getLast? = some d->d≠0:=by
 induction n using Nat.strongRecOn with
 | _ n ih=>
   by_cases h:n=0
   .subst h;rw[dj];simp
   .rw[gQ hB h];intro d hd;by_cases h2:n/B=0
    .rw[h2,dj]at hd;simp at hd;subst hd
     have:n<B:=by
      rcases gP n B with h3 | h3
      .exact h3
      .have:=oC h3 O;omega
     rw[fL this];exact h
    .have e:mI B (n/B)≠[]:=by rw[gQ hB h2];simp
     have:=ih (n/B) (sO O hB) d;apply this;rw[List.getLast?_cons]at hd;rw[List.getLast?_eq_some_getLast e]at hd|-
     simpa using hd
def mA{B:Nat}{n k:Nat}(h:n<B^k:=by omega)(hB:1<B:=by omega):(mI B n).length<=k:=by
 induction k generalizing n with
 | zero=>have:n=0:=by simpa using h
         subst this;simp[dj]
 | succ k ih=>
   by_cases h0:n=0
   .subst h0;simp[dj]
   .rw[gQ hB h0,bB]
    have:n/B<B^k:=by
     rw[kZ O];rw[bw]at h;exact h
    exact Nat.succ_le_succ (ih this)
def ix{B:Nat}(hB:1<B){n:Nat}(h:n≠0):B^((mI B n).length-1)<=n:=by
 induction n using Nat.strongRecOn with
 | _ n ih=>
   rw[gQ hB h,bB,lW];by_cases h2:n/B=0
   .rw[h2,dj];simp;omega
   .have:=ih (n/B) (sO O hB) h2;have hl:0<(mI B (n/B)).length:=by rw[gQ hB h2];simp
    obtain⟨k,hk⟩:∃k,(mI B (n/B)).length=k+1:=⟨_,(BS hl).symm⟩
    rw[hk]at this|-;rw[lW]at this;rw[bw]
    calc B^k*B<=(n/B)*B:=cY _ this
     _<=n:=rO n B
def mz{B:Nat}(hB:1<B)(n:Nat):n<B^(mI B n).length:=by
 have:=Zo (by omega:0<B) (mI B n) (Bw n hB)
 rwa[xC hB]at this
end Ord
namespace Ord
def pd(B:Nat):Nat->Nat->List Nat
 | 0,_=>[]
 | n+1,x=>x%B::pd B n (x/B)
variable{B:Nat}
@[simp] theorem fU:∀(n x:Nat),(pd B n x).length=n
  | 0,_=>rfl
  | n+1,x=>by simp[pd,fU n]
theorem GS(hB:0<B):∀(n x:Nat),∀d∈pd B n x,d<B
 | 0,_,d,h=>by cases h
 | n+1,x,d,h=>by
   rcases cp.1 h with rfl | h
   .exact eC _ hB
   .exact GS hB n _ d h
theorem yk:∀(n x:Nat),val B (pd B n x)=x%B^n
 | 0,x=>by simp[pd,val,Nat.mod_one]
 | n+1,x=>by
   rw[pd,val,yk n,bw,cN (B^n) B,Nat.mod_mul]
theorem aT4(hB:0<B):∀(ds:c7),(∀d∈ds,d<B)->pd B ds.length (val B ds)=ds
 | [],_=>rfl
 | d::ds,h=>by
   have hd:=h d cE;rw[bB,pd,val,uR,fL hd,pn _ _ hB,fR hd,bW,aT4 hB ds fun x hx=>h x (cg _ hx)]
def Xr(hB:0<B){ds:c7}(h:∀d∈ds,d<B){n x:Nat}(hl:ds.length=n)(hv:val B ds=x):ds=pd B n x:=by
 subst hl hv;exact(aT4 hB ds h).symm
theorem DA:∀{n i:Nat}(x:Nat),i<n->(pd B n x)[i]?=some (x/B^i%B)
 | 0,_,_,h=>O
 | n+1,0,x,_=>by simp[pd]
 | n+1,i+1,x,h=>by
   rw[pd,uZ,DA _ O,nK,bw,cN B]
theorem Uj:∀(n i x:Nat),(pd B n x).drop i=pd B (n-i) (x/B^i)
 | n,0,x=>aT
 | 0,i+1,x=>by simp[pd]
 | n+1,i+1,x=>by
   rw[pd,ak3,Uj n i,nK,bw,cN B,Nat.add_sub_add_right]
theorem QK:∀{n k:Nat}(x:Nat),k<=n->(pd B n x).take k=pd B k x
 | n,0,x,_=>by simp[pd]
 | 0,k+1,x,h=>O
 | n+1,k+1,x,h=>by rw[pd,mS,QK _ O,pd]
def an6(x:Nat)(hB:1<B:=by omega):mI B x=pd B (mI B x).length x:=Xr O (Bw x hB) rfl (xC hB x)
def ay1{n i k x y:Nat}(hx:x<B^n)(hy:y<B^k)(hB:0<B:=by omega)(hi:i+k<=n:=by omega):(pd B n x).take i++pd B k y++(pd B n x).drop (i+k)=pd B n (x%B^i+B^i*(y+B^k*(x/B^(i+k)))):=by
 apply Xr hB
 .intro d hd;simp only[dx]at hd;rcases hd with(hd | hd) | hd
  .exact GS hB _ _ d (mL hd)
  .exact GS hB _ _ d hd
  .exact GS hB _ _ d (pF hd)
 .simp;omega
 .rw[kX,kX,QK _ O,Uj,yk,yk,yk,fL hy]
  have h3:x/B^(i+k)<B^(n-(i+k)):=by
   rw[kZ (ez hB),<-eK,BS hi];exact hx
  rw[fL h3];simp only[List.length_append,fU,eK,dr,ej,lf]
end Ord
namespace Ord
variable{B:Nat}
def DB(B:Nat)(ds:c7):Prop:=∀d∈ds,d<B
def DB.take{ds:c7}(h:DB B ds)(n:Nat):DB B (ds.take n):=fun d hd=>h d (mL hd)
def DB.drop{ds:c7}(h:DB B ds)(n:Nat):DB B (ds.drop n):=fun d hd=>h d (pF hd)
def DB.set{ds:c7}(h:DB B ds){i x:Nat}(hx:x<B):DB B (ds.set i x):=fun d hd=>by
 rcases pU hd with hd | rfl
 .exact h d hd
 .exact hx
def DB.get{ds:c7}(h:DB B ds){i d:Nat}(hd:ds[i]?=some d):d<B:=h d (Bu hd)
def DB.getD{ds:c7}(hB:0<B)(h:DB B ds){i d:Nat}(hd:ds[i]?.getD 0=d):d<B:=by
 cases hx:ds[i]? with
 | none=>rw[hx]at hd;simp at hd;omega
 | some e=>rw[hx]at hd;simp at hd;subst hd;exact h.get hx
def DB.rep(hB:0<B)(n:Nat):DB B (List.replicate n 0):=fun d hd=>by
 obtain⟨_,rfl⟩:=kL.1 hd;exact hB
def DB.mI(hB:1<B)(n:Nat):DB B (mI B n):=Bw n hB
def DB.append{xs ys:c7}(h:DB B xs)(k:DB B ys):DB B (xs++ys):=fun d hd=>(dx.1 hd).elim (h d) (k d)
def DB.rev{xs:c7}(h:DB B xs):DB B xs.reverse:=fun d hd=>h d (List.mem_reverse.1 hd)
def DB.lt{xs:c7}(hB:0<B)(h:DB B xs):val B xs<B^xs.length:=Zo hB xs h
def val_one(d:Nat):val B [d]=d:=by simp[val]
def take_succ{ds:c7}{i d:Nat}(h:ds[i]?=some d):ds.take (i+1)=ds.take i++[d]:=by
 rw[nq,h];rfl
def iv{ds:c7}{i d:Nat}(h:ds[i]?=some d):val B (ds.take (i+1))=val B (ds.take i)+B^i*d:=by
 have hi:i<ds.length:=(xM.1 h).1;rw[take_succ h,kX,val_one,bh,de O]
def lQ{ds:c7}{i d:Nat}(h:ds[i]?.getD 0=d):val B (ds.take (i+1))=val B (ds.take i)+B^i*d:=by
 cases hx:ds[i]? with
 | some e=>rw[hx]at h;simp at h;subst h;exact iv hx
 | none=>
   rw[hx]at h;simp at h;subst h;have:=fA.1 hx;rw[dL O,dL O];omega
def nZ{os:c7}{i x:Nat}(h:i<os.length):val B ((os.set i x).take (i+1))=val B (os.take i)+B^i*x:=by
 rw[iv (d:=x) (by simp[h])];rw[al8 (pf i)]
def aj2(n:Nat):val B (List.replicate n 0)=0:=by
 induction n with
 | zero=>rfl
 | succ n ih=>rw[kP,val,ih];omega
def bd7{z:Nat}{os:c7}{j old n:Nat}(hj:os[j]?=some old)(hjn:j<n:=by omega):val B ((os.set j z).take n)+B^j*old=val B (os.take n)+B^j*z:=by
 induction os generalizing j n with
 | nil=>simp at hj
 | cons d os ih=>
   obtain⟨m,rfl⟩:∃m,n=m+1:=⟨n-1,O⟩
   cases j with
   | zero=>
     simp only[nJ,wa]at hj;subst hj;simp only[ub,mS,val,sG];omega
   | succ j=>
     have:=ih (j:=j) (n:=m) (by simpa using hj) O;simp only[CC,mS,val,bw]at this|-;have h1:B^j*B*old=B*(B^j*old):=by rw[BP,cN]
     have h2:B^j*B*z=B*(B^j*z):=by rw[BP,cN]
     rw[h1,h2];have:=congrArg (fun t=>B*t) this;simp only[dr]at this;omega
structure JD(B:Nat)(xs ys:c7)(i:Nat)(os:c7):Prop where
 le:i<=xs.length
 len:os.length=xs.length+ys.length
 dg:DB B os
 eq:val B (os.take (i+ys.length))=val B (xs.take i)*val B ys
structure BIn(B:Nat)(xs ys:c7)(i x T k c:Nat)(os:c7):Prop where
 le:k<=ys.length
 len:os.length=xs.length+ys.length
 dg:DB B os
 c1:c<B
 eq:val B (os.take (i+ys.length))+B^(i+k)*c=T+x*(B^i*val B (ys.take k))
def JD.init(hB:0<B)(xs ys:c7):JD B xs ys 0 (List.replicate (xs.length+ys.length) 0):=⟨xu _,aT,DB.rep hB _,by
 rw[as7,aj2];simp[val]⟩
def JD.inn(hB:0<B){xs ys os:c7}{i x:Nat}(h:JD B xs ys i os):BIn B xs ys i x (val B (xs.take i)*val B ys) 0 0 os:=⟨xu _,h.len,h.dg,O,by rw[h.eq];simp[val]⟩
def BIn.next{xs ys os:c7}{i x T k c y old z c':Nat}(h:BIn B xs ys i x T k c os)(hk:k<ys.length)(hy:ys[k]?=some y)(ho:os[i+k]?=some old)(hz:z<B)(hc:c'<B)(he:z+B*c'=c+(x*y+old)) :
  BIn B xs ys i x T (k+1) c' (os.set (i+k) z):=by
 refine⟨hk,by rw[al];exact h.len,h.dg.set hz,hc,?_⟩;have h1:=bd7 (B:=B) (z:=z) (n:=i+ys.length) ho;have h2:=congrArg (fun t=>B^(i+k)*t) he;have h3:=h.eq;rw[iv hy];simp only[dr]at h2|-;have e1:B^(i+(k+1))*c'=B^(i+k)*(B*c'):=by rw[<-lf,bw,ej]
 have e2:x*(B^i*(B^k*y))=B^(i+k)*(x*y):=by rw[eK];simp only[nu,ej]
 rw[e1,e2];omega
def BIn.out{xs ys os:c7}{i x c:Nat}(h:BIn B xs ys i x (val B (xs.take i)*val B ys) ys.length c os)(hx:xs[i]?=some x):JD B xs ys (i+1) (os.set (i+ys.length) c):=by
 have hi:i<xs.length:=(xM.1 hx).1;refine⟨hi,by rw[al];exact h.len,h.dg.set h.c1,?_⟩;have h3:=h.eq;rw[jC]at h3;rw[show i+1+ys.length=i+ys.length+1 by omega,nZ (by rw[h.len];omega),iv hx,h3,bt]
 congr 1
 rw[nu,<-ej]
def JD.fin{xs ys os:c7}(h:JD B xs ys xs.length os):val B os=val B xs*val B ys:=by
 have:=h.eq;rw[dL (by rw[h.len];omega),jC]at this;exact this
structure Ii(B:Nat)(xs ys:c7)(n:Nat)(s:Int)(i:Nat)(c:Int)(os:c7):Prop where
 le:i<=n
 c0:-1<=c
 c1:c<=1
 len:os.length=n
 dg:DB B os
 eq:(val B (os.take i):Int)+(B^i:Nat)*c=(val B (xs.take i):Int)+s*(val B (ys.take i):Int)
def Ii.init(hB:0<B)(xs ys:c7)(n:Nat)(s:Int):Ii B xs ys n s 0 0 (List.replicate n 0):=⟨xu _,O,O,aT,DB.rep hB _,by simp[val]⟩
def Ii.next{xs ys os:c7}{n i x y z:Nat}{s c c':Int}(h:Ii B xs ys n s i c os)(hi:i<n)(hx:xs[i]?.getD 0=x)(hy:ys[i]?.getD 0=y)(hc0:-1<=c')(hc1:c'<=1)(hz:z<B)(he:(z:Int)+B*c'=x+s*y+c) :
  Ii B xs ys n s (i+1) c' (os.set i z):=by
 refine⟨hi,hc0,hc1,by rw[al];exact h.len,h.dg.set hz,?_⟩;rw[nZ (by rw[h.len];exact hi),lQ hx,lQ hy];have h1:=h.eq;have h2:=congrArg (fun t=>((B^i:Nat):Int)*t) he;simp only[bw,Int.natCast_add,jH,Int.mul_add]at h1 h2|-;have e1:((B^i:Nat):Int)*(B:Int)*c'=((B^i:Nat):Int)*((B:Int)*c'):=Int.mul_assoc _ _ _;have e2:s*(((B^i:Nat):Int)*(y:Int))=((B^i:Nat):Int)*(s*(y:Int)):=Int.mul_left_comm _ _ _;rw[e1,e2];omega
def Ii.fin{xs ys os:c7}{n:Nat}{s c:Int}(hB:0<B)(h:Ii B xs ys n s n c os)(hx:xs.length<=n)(hy:ys.length<=n){r:Nat}(hr:(r:Int)=(val B xs:Int)+s*(val B ys:Int))(hl:r<B^n):val B os=r:=by
 have h1:=h.eq;have hlen:=h.len;rw[dL O,dL hx,dL hy,<-hr]at h1;have h2:=DB.lt hB h.dg;rw[hlen]at h2;have h3:=h.c0;have h4:=h.c1
 have:c=0:=by
  rcases(by omega:c=-1\/c=0\/c=1)with rfl | rfl | rfl
  .omega
  .rfl
  .omega
 subst this;omega
structure ki(B:Nat)(xs ys:c7)(t:Nat)(i c b:Nat)(os:c7):Prop where
 le:i<=xs.length
 b1:b<=1
 c1:c<=t
 c2:ys.length<i->c=0
 len:os.length=xs.length
 dg:DB B os
 rest:os.drop i=xs.drop i
 eq:val B (os.take i)+t*val B (ys.take i)=val B (xs.take i)+B^i*(c+b)
def ki.init{xs:c7}(hx:DB B xs)(ys:c7)(t:Nat):ki B xs ys t 0 0 0 xs:=⟨xu _,O,O,fun _=>rfl,rfl,hx,rfl,by simp[val]⟩
def ki.get{xs ys os:c7}{t i c b x:Nat}(h:ki B xs ys t i c b os)(hx:xs[i]?=some x):os[i]?=some x:=by
 have:=congrArg (fun l=>l[0]?) h.rest;simp only[fG,cV]at this;rw[this,hx]
def ki.next{xs ys os:c7}{t i c b x y z b':Nat}(hB:0<B)(h:ki B xs ys t i c b os)(ht:t<B)(hx:xs[i]?=some x)(hy:ys[i]?.getD 0=y)(hyB:y<B)(hz:z<B)(hb:b'<=1)(he:z+(c+t*y)%B+b=x+B*b') :
  ki B xs ys t (i+1) ((c+t*y)/B) b' (os.set i z):=by
 have hi:i<xs.length:=(xM.1 hx).1;have hc:=h.c1;refine⟨hi,hb,?_,?_,by rw[al];exact h.len,h.dg.set hz,?_,?_⟩
 .have:(c+t*y)/B<t+1:=by
   rw[kZ hB];have h1:t*y<=t*(B-1):=dz _ O
   have h2:(t+1)*B=t*(B-1)+t+B:=by
    obtain⟨k,rfl⟩:∃k,B=k+1:=⟨B-1,O⟩
    simp only[lW,bt,dr];omega
   omega
  omega
 .intro hlt
  have:y=0:=by
   rw[<-hy,fA.2 O];rfl
  subst this;simp only[eo,cV];exact fR O
 .rw[Cf O];have:=congrArg (List.drop 1) h.rest
  simpa[gu]using this
 .have h1:=h.eq;have h2:=congrArg (fun q=>B^i*q) he;have h3:=congrArg (fun q=>B^i*q) (mf (c+t*y) B);rw[nZ (by rw[h.len];exact hi),iv hx,lQ hy,bw];simp only[dr]at h2 h3|-;have e2:t*(B^i*y)=B^i*(t*y):=nu _ _ _;have e3:B^i*B*((c+t*y)/B)=B^i*(B*((c+t*y)/B)):=ej _ _ _;have e4:B^i*B*b'=B^i*(B*b'):=ej _ _ _;rw[e2,e3,e4];simp only[dr]at h1;omega
def ki.fin{xs ys os:c7}{t c b:Nat}(hB:0<B)(h:ki B xs ys t xs.length c b os)(hx:DB B xs)(hl:ys.length<xs.length) :
  b=(if val B xs<t*val B ys then 1 else 0)/\os=pd B xs.length (val B xs+B^xs.length*b-t*val B ys):=by
 have h0:=h.c2 hl;subst h0;have h1:=h.eq;rw[dL (by rw[h.len];omega),jC,dL O,bW]at h1;have h2:=DB.lt hB h.dg;rw[h.len]at h2;have hb:=h.b1
 constructor
 .split<;>rcases(by omega:b=0\/b=1)with rfl | rfl<;>omega
 .refine Xr hB h.dg h.len ?_;omega
end Ord
namespace Ord
def aL8{B X V n:Nat}(hV:0<V/B^n):X/V<=X/B^n/(V/B^n):=by
 rw[wk hV]
 have hp:0<B^n:=by
  rcases ju (B^n)with h | h
  .rw[h,Nat.div_zero]at hV;omega
  .exact h
 rw[wk hp,ej]
 calc X/V*(V/B^n*B^n)<=X/V*V:=dz _ (rO _ _)
  _<=X:=rO _ _
def yL{X V g:Nat}(hV:0<V)(h2:X<(g+1)*V)(h1:g*V<=X:=by omega):X/V=g:=by
 apply xk
 .have:X/V<g+1:=by rw[kZ hV];exact h2
  omega
 .rw[wk hV];exact h1
def HK{B S V R Q i:Nat}(hB:0<B)(hV:0<V)(hS:S=R+V*B^(i+1)*Q)(hR:R/B^(i+1)<V) :
  R/B^i<V*B/\R/B^i/V<B/\S=(R%B^i+B^i*(R/B^i%V))+V*B^i*(R/B^i/V+B*Q)/\(R%B^i+B^i*(R/B^i%V))/B^i<V:=by
 have hp:0<B^i:=ez hB
 have h1:R/B^i<V*B:=by
  rw[kZ hp];rw[kZ (ez hB)]at hR;rw[bw,cN (B^i)]at hR;rw[ej];exact hR
 refine⟨h1,?_,?_,?_⟩
 .rw[kZ hV,cN];exact h1
 .have e1:=mf R (B^i);have e2:=mf (R/B^i) V;rw[hS]
  conv=>lhs;rw[<-e1,<-e2]
  simp only[bw,dr];have:V*(B^i*B)*Q=V*B^i*(B*Q):=by simp only[ej]
  rw[this];have:B^i*(V*(R/B^i/V))=V*B^i*(R/B^i/V):=by rw[<-ej,cN (B^i)]
  rw[this];omega
 .rw[pn _ _ hp,fR (eC _ hp),bW];exact eC _ hV
def yz{S V R Q:Nat}(hS:S=R+V*Q)(hR:R<V):Q=S/V/\R=S%V:=by
 constructor
 .rw[hS,pn _ _ O,fR hR,bW]
 .rw[hS,uR,fL hR]
def WZ{B R i n X':Nat}(hR:R/B^(i+n)=0):R%B^i+B^i*(X'+B^n*(R/B^(i+n)))=R%B^i+B^i*X':=by rw[hR,eo,cV]
end Ord
namespace Ord
def Fit(B:Nat)(q:Rat):Prop:=q.num.natAbs<2^B/\q.den<2^B
def Fit.mono{B C:Nat}{q:Rat}(h:Fit B q)(hBC:B<=C):Fit C q:=
 have:=gI (n:=2) O hBC
 ⟨cM h.1 this,cM h.2 this⟩
def Nj(n:Int)(g:Nat):(n/(g:Int)).natAbs<=n.natAbs+(if n<0 then 1 else 0)*0+(if(g:Int)∣n then 0 else 1):=by
 by_cases hg:g=0
 .subst hg;simp
 .by_cases hd:(g:Int)∣n
  .rw[aF hd];obtain⟨k,rfl⟩:=hd;rw[at1 _ O,eA];simp only[bj,eo,cV];exact Bn _ O
  .rw[aG hd];have h1:=Int.mul_ediv_add_emod n g;have h2:=Int.emod_nonneg n (b:=(g:Int)) O;have h3:=Int.emod_lt_of_pos n (b:=(g:Int)) O
   have h4:(n/(g:Int)).natAbs*g<=n.natAbs+g:=by
    have:((n/(g:Int)).natAbs*g:Nat)=((g:Int)*(n/(g:Int))).natAbs:=by rw[eA,bj,cN]
    omega
   have h5:n.natAbs+g<=(n.natAbs+1)*g:=by
    rw[bt,ee];have:=ma n.natAbs (by omega:0<g);omega
   have:=Nat.le_of_mul_le_mul_right (bG h4 h5) O;omega
def Fit.mkRat{B:Nat}{n:Int}{d:Nat}(hn:n.natAbs<2^B)(hd:d<2^B)(h0:d≠0):Fit B (mkRat n d):=by
 rw[<-Cp h0,Cl h0];refine⟨?_,fM (rm _ _) hd⟩;have:=Nj n (n.natAbs.gcd d);rw[aF (PY.2 (TG _ _))]at this;simp only[eo,cV]at this;show(n/_).natAbs<_;exact fM this hn
def ba{a b B C:Nat}(ha:a<2^B)(hb:b<2^C):a*b<2^(B+C):=by
 rw[eK];exact Nat.mul_lt_mul'' ha hb
def Fit.add{B C:Nat}{a b:Rat}(ha:Fit B a)(hb:Fit C b):Fit (B+C+1) (a+b):=by
 rw[SA];have h1:=ba ha.1 hb.2;have h2:=ba hb.1 ha.2;have h3:=ba ha.2 hb.2;rw[gp C B]at h2;refine Fit.mkRat ?_ ?_ (kE a.den_nz b.den_nz)
 .rw[bw]
  have:(a.num * ↑b.den+b.num * ↑a.den).natAbs<=a.num.natAbs*b.den+b.num.natAbs*a.den:=by
   refine bG (Cx _ _) ?_;rw[eA,eA,bj,bj];exact pf _
  omega
 .rw[bw];omega
def Fit.mul{B C:Nat}{a b:Rat}(ha:Fit B a)(hb:Fit C b):Fit (B+C) (a*b):=by
 rw[QG];refine Fit.mkRat ?_ (ba ha.2 hb.2) (kE a.den_nz b.den_nz);rw[eA];exact ba ha.1 hb.1
def Fit.neg{B:Nat}{a:Rat}(ha:Fit B a):Fit B (-a):=by
 refine⟨?_,?_⟩
 .rw[Bo,iY];exact ha.1
 .rw[Cn];exact ha.2
def Fit.sub{B C:Nat}{a b:Rat}(ha:Fit B a)(hb:Fit C b):Fit (B+C+1) (a-b):=by
 rw[Cc];exact ha.add hb.neg
def Fit.inv{B:Nat}{a:Rat}(ha:Fit B a):Fit B a⁻¹:=by
 by_cases h:a=0
 .subst h;rw[Rat.inv_zero];exact ha
 .have hn:a.num≠0:=fun e=>h (mR.1 e);refine⟨?_,?_⟩
  .rw[Rat.num_inv,eA,Int.natAbs_sign_of_ne_zero hn,bj,ee];exact ha.2
  .rw[Rat.den_inv,aG hn];exact ha.1
def Fit.div{B C:Nat}{a b:Rat}(ha:Fit B a)(hb:Fit C b):Fit (B+C) (a/b):=by
 rw[Qj];exact ha.mul hb.inv
def Fit.zero{B:Nat}(h:1<=B):Fit B 0:=by
 have:=gI (n:=2) O h;exact⟨by show(0:Int).natAbs<_;simp;omega,by show 1<_;omega⟩
def Fit.int{B:Nat}{n:Int}(hB:1<=B)(h:n.natAbs<2^B):Fit B (n:Rat):=by
 have:=gI (n:=2) O hB;exact⟨by rw[uf];exact h,by rw[Cv];omega⟩
end Ord
namespace Ord
def bd(n:Nat):List Nat:=(mI 32768 n).reverse
def bv(ds:c7):Nat:=val 32768 ds.reverse
def iD(n:Nat):bv (bd n)=n:=by rw[bv,bd,qG,xC O]
def jo(n:Nat):DB 32768 (bd n):=(DB.mI O n).rev
def Cr:bd 0=[]:=by rw[bd,dj];rfl
def Fo{n:Nat}:bd n=[]↔n=0:=by
 constructor
 .intro h;have:=congrArg bv h;rw[iD]at this;exact this
 .rintro rfl;exact Cr
def ZO(n:Nat):(bd n).length=(mI 32768 n).length:=by rw[bd,fF]
def Bv(d:Nat)(ds:c7):bv (d::ds)=bv ds+32768^ds.length*d:=by
 rw[bv,xn,kX,val_one,fF];rfl
def Co(ds:c7)(d:Nat):bv (ds++[d])=bv ds*32768+d:=by
 rw[bv,ai9];simp only[xn,List.reverse_nil,List.nil_append,BN,val];rw[bv];omega
def aC3(xs ys:c7):bv (xs++ys)=bv xs*32768^ys.length+bv ys:=by
 rw[bv,ai9,kX,fF,cN,gp];rfl
def cm9{ds:c7}(h:DB 32768 ds)(h0:∀d,ds.head? = some d->d≠0):bd (bv ds)=ds:=by
 rw[bd,bv,Vm O _ h.rev,qG];intro d hd;rw[List.getLast?_reverse]at hd;exact h0 d hd
def YH{ds:c7}(h:DB 32768 ds):bv ds<32768^ds.length:=by
 have:=DB.lt O h.rev
 rwa[fF]at this
def Eo(n:Nat):n<32768^(bd n).length:=by rw[ZO];exact mz O n
def cu5{n:Nat}(h:n≠0):32768^((bd n).length-1)<=n:=by rw[ZO];exact ix O h
def lE{n k:Nat}(h:n<32768^k):(bd n).length<=k:=by rw[ZO];exact mA h
def gR{m n:Nat}(h:m<=n):(bd m).length<=(bd n).length:=lE (fM h (Eo n))
def VK{n:Nat}(h:n<32768:=by omega)(h0:n≠0:=by omega):bd n=[n]:=by
 rw[bd,gQ O h0,fL h,fR h,dj];rfl
def Vq(n i:Nat):((bd n).reverse[i]?).getD 0=n/32768^i%32768:=by
 rw[bd,qG];by_cases hi:i<(mI 32768 n).length
 .rw[an6 n,DA _ hi];rfl
 .rw[fA.2 O,BH,fR,Nat.zero_mod];exact cM (mz O n) (gI O O)
def BE{ds:c7}{i:Nat}(h:i<ds.length:=by omega):ds[ds.length-1-i]?=ds.reverse[i]?:=by
 rw[BT h]
def Ur{os:c7}{i z:Nat}(h:i<os.length):os.reverse.set (os.length-1-i) z=(os.set i z).reverse:=by
 apply gU;intro j;rw[nk];simp only[fF];by_cases hj:j<os.length
 .rw[BT hj,BT (by rw[al];exact hj),nk,al];by_cases e:os.length-1-i=j
  .rw[aF e,aF O,aF O,aF O]
  .rw[aG e,aG O]
 .rw[fA.2 b6,fA.2 b6];split
  .split<;>first | rfl | omega
  .rfl
def ax6{ds:c7}{d:Nat}(h:ds[0]?=some d):bv ds=bv (ds.drop 1)+32768^(ds.length-1)*d:=by
 cases ds with
 | nil=>simp at h
 | cons x xs=>simp only[nJ,wa]at h;subst h;simp[Bv]
end Ord
namespace Ord
def ev(p:c4)(x:Rat):Rat:=p.foldr (fun a v=>v*x+a) 0
def cU(x:Rat):ev [] x=0:=rfl
def ak(a:Rat)(p:c4)(x:Rat):ev (a::p) x=ev p x*x+a:=rfl
def Og(p q:c4)(x:Rat):ev (p++q) x=ev p x+x^p.length*ev q x:=by
 induction p with
 | nil=>simp only[List.nil_append,cU,bu];grind
 | cons a p ih=>simp only[List.cons_append,ak,ih,bB,kO];grind
def bP0(p:c4)(i:Nat)(a b x:Rat)(h:p[i]?=some a):ev (p.set i b) x=ev p x+(b-a)*x^i:=by
 induction p generalizing i with
 | nil=>simp at h
 | cons c p ih=>
   cases i with
   | zero=>
     simp only[nJ,wa]at h;subst h;simp only[ub,ak,qO];grind
   | succ i=>
     simp only[uZ]at h;simp only[CC,ak,ih i h,kO];grind
def aH7(n:Nat)(x:Rat):ev (List.replicate n 0) x=0:=by
 induction n with
 | zero=>rfl
 | succ n ih=>rw[kP,ak,ih];grind
def wq{p:c4}{i:Nat}{a:Rat}(h:p[i]?=some a)(x:Rat):ev (p.take (i+1)) x=ev (p.take i) x+a*x^i:=by
 have hi:i<p.length:=(xM.1 h).1;rw[nq,h,Option.toList_some,Og,bh,de O,ak,cU];grind
def ah1(k:Rat)(p:c4)(x:Rat):ev (p.map (· * k)) x=ev p x*k:=by
 induction p with
 | nil=>rw[nV,cU];grind
 | cons a p ih=>rw[fj,ak,ak,ih];grind
def syn(c:Rat):List Rat->List Rat
 | []=>[]
 | [_]=>[]
 | _::b::p=>ev (b::p) c::syn c (b::p)
theorem Eu(c:Rat):∀p:List Rat,(syn c p).length=p.length-1
 | []=>rfl
 | [_]=>rfl
 | _::b::p=>by
   have:=Eu c (b::p);simp only[bB]at this;simp only[syn,bB,this];omega
theorem aV1(c x:Rat):∀p:List Rat,ev p x=ev p c+(x-c)*ev (syn c p) x
 | []=>by simp only[cU,syn];grind
 | [a]=>by simp only[ak,cU,syn];grind
 | a::b::p=>by
   have ih:=aV1 c x (b::p);rw[ak a (b::p) x,ak a (b::p) c,syn,ak (ev (b::p) c)];generalize ev (b::p) x=u at *;generalize ev (b::p) c=v at *;generalize ev (syn c (b::p)) x=t at *;subst ih
   grind
theorem Yg(c:Rat):∀p:List Rat,ev p c=0->(∀a∈syn c p,a=0)->∀a∈p,a=0
 | [],_,_=>aT
 | [a],h,_=>by
   rw[ak,cU]at h;intro x hx;simp only[da]at hx;subst hx;grind
 | a::b::p,h,hs=>by
   rw[syn]at hs;have h1:ev (b::p) c=0:=hs _ cE;have ih:=Yg c (b::p) h1 fun y hy=>hs y (cg _ hy);rw[ak,h1]at h;intro x hx;rcases cp.1 hx with rfl | hx
   .grind
   .exact ih x hx
theorem Pb:∀(n:Nat)(p:c4),p.length<=n->(∀i:Nat,i<n->ev p (i:Rat)=0)->∀a∈p,a=0
 | 0,p,hl,_=>by
   have:p=[]:=ep O;subst this;simp
 | n+1,p,hl,h=>by
   have h0:=h n O;refine Yg _ p h0 (Pb n (syn (n:Rat) p) (by rw[Eu];omega) fun i hi=>?_);have h1:=h i O;rw[aV1 (n:Rat) i p,h0]at h1
   have h2:((i:Rat)-(n:Rat))≠0:=by
    intro e;have e2:(i:Rat)=(n:Rat):=b5
    have:=Rat.natCast_inj.1 e2;omega
   have h3:((i:Rat)-(n:Rat))*ev (syn (n:Rat) p) i=0:=b5
   rcases jf.1 h3 with h4 | h4
   .exact(h2 h4).elim
   .exact h4
def dif:List Rat->List Rat->List Rat
 | [],q=>q.map (fun a=>-a)
 | a::p,[]=>a::p
 | a::p,b::q=>(a-b)::dif p q
theorem aU3:∀(p q:c4)(x:Rat),ev (dif p q) x=ev p x-ev q x
 | [],q,x=>by
   rw[dif,cU]
   induction q with
   | nil=>rw[nV,cU];grind
   | cons b q ih=>rw[fj,ak,ak,ih];grind
 | a::p,[],x=>by rw[dif,cU];grind
 | a::p,b::q,x=>by rw[dif,ak,ak,ak,aU3 p q x];grind
def qx(p:c4):Prop:=∀a,p.getLast? = some a->a≠0
def qx.tail{a:Rat}{p:c4}(h:qx (a::p)):qx p:=fun b hb=>h b (by
 cases p with
 | nil=>cases hb
 | cons c p=>rw[ar3];exact hb)
def GR{p:c4}(h:qx p)(h0:∀a∈p,a=0):p=[]:=by
 cases hp:p.getLast? with
 | none=>exact as0.1 hp
 | some a=>exact(h a hp (h0 a (List.mem_of_getLast? hp))).elim
theorem Wu:∀{p q:c4},qx p->qx q->(∀a∈dif p q,a=0)->p=q
 | [],q,_,hq,h=>by
   rw[dif]at h;refine(GR hq fun a ha=>?_).symm;have:=h (-a) (List.mem_map.2 ⟨a,ha,rfl⟩)
   grind
 | a::p,[],hp,_,h=>GR hp h
 | a::p,b::q,hp,hq,h=>by
   rw[dif]at h;have h1:=h _ cE;have h2:=Wu hp.tail hq.tail fun x hx=>h x (cg _ hx);rw[h2,show a=b by grind]
def zd{p q:c4}(hp:qx p)(hq:qx q)(h:∀x,ev p x=ev q x):p=q:=
 Wu hp hq (Pb _ _ (pf _) fun i _=>by rw[aU3,h];grind)
end Ord
namespace Ord
def Bd(D S:Nat)(q:Rat):Prop:=q.den∣D/\q.num.natAbs<=S*q.den
def Bd.zero{D S:Nat}:Bd D S 0:=⟨⟨D,aT⟩,aT⟩
def Bd.one{D S:Nat}(h:1<=S):Bd D S 1:=⟨⟨D,aT⟩,by simpa using h⟩
def Bd.int{D S:Nat}{n:Int}(h:n.natAbs<=S):Bd D S (n:Rat):=⟨⟨D,aT⟩,by simpa using h⟩
def Bd.mono{D S E T:Nat}{q:Rat}(h:Bd D S q)(hD:D∣E)(hS:S<=T):Bd E T q:=
 ⟨Nat.dvd_trans h.1 hD,bG h.2 (cY _ hS)⟩
def Bd.le{D S T:Nat}{q:Rat}(h:Bd D S q)(hS:S<=T):Bd D T q:=h.mono (Nat.dvd_refl _) hS
def Bd.neg{D S:Nat}{q:Rat}(h:Bd D S q):Bd D S (-q):=⟨h.1,by show(-q.num).natAbs<=S*q.den;rw[iY];exact h.2⟩
def Bd.mk{D S:Nat}{n:Int}(h0:D≠0)(h:n.natAbs<=S*D):Bd D S (mkRat n D):=by
 rw[<-Cp h0,Cl h0];show D/n.natAbs.gcd D∣D/\(n/((n.natAbs.gcd D:Nat):Int)).natAbs<=S*(D/n.natAbs.gcd D);have hg:0<n.natAbs.gcd D:=wO _ O;have hd:=Nat.gcd_dvd_right n.natAbs D;have hn:=TG n.natAbs D;generalize n.natAbs.gcd D=g at *;obtain⟨d',rfl⟩:=hd;obtain⟨k,hk⟩:=PY.2 hn;subst hk
 constructor
 .rw[as4 _ hg];exact Bt _ _
 .rw[as4 _ hg,at1 _ O];rw[eA,bj,nu]at h;exact Nat.le_of_mul_le_mul_left h hg
def Bd.ex{D S:Nat}{q:Rat}(h:Bd D S q)(h0:D≠0):∃n:Int,q=mkRat n D/\n.natAbs<=S*D:=by
 obtain⟨⟨k,rfl⟩,h2⟩:=h;have hk:k≠0:=fun e=>h0 (by rw[e,eo]);refine⟨q.num*k,?_,?_⟩
 .rw[cN q.den k,Int.mul_comm,Rat.mkRat_mul_left hk,Rat.mkRat_self]
 .rw[eA,bj,<-ej];exact cY _ h2
def Bd.add{D S T:Nat}{a b:Rat}(h0:D≠0)(ha:Bd D S a)(hb:Bd D T b):Bd D (S+T) (a+b):=by
 obtain⟨m,rfl,hm⟩:=ha.ex h0;obtain⟨n,rfl,hn⟩:=hb.ex h0
 have e:mkRat m D+mkRat n D=mkRat (m+n) D:=by
  rw[Rat.mkRat_add_mkRat m n h0 h0,<-Int.add_mul,Rat.mkRat_mul_right h0]
 rw[e];refine Bd.mk h0 (bG (Cx _ _) ?_);rw[bt];exact Nat.add_le_add hm hn
def Bd.sub{D S T:Nat}{a b:Rat}(h0:D≠0)(ha:Bd D S a)(hb:Bd D T b):Bd D (S+T) (a-b):=by
 rw[Cc];exact ha.add h0 hb.neg
def Bd.mul{D E S T:Nat}{a b:Rat}(h0:D≠0)(h1:E≠0)(ha:Bd D S a)(hb:Bd E T b):Bd (D*E) (S*T) (a*b):=by
 obtain⟨m,rfl,hm⟩:=ha.ex h0;obtain⟨n,rfl,hn⟩:=hb.ex h1;rw[as1];refine Bd.mk (kE h0 h1) ?_;rw[eA];have:=fP hm hn;rw[Nat.mul_mul_mul_comm]at this;exact this
def Bd.fit{D S B:Nat}{q:Rat}(h:Bd D S q)(h0:D≠0)(h1:D<2^B)(h2:S*D<2^B):Fit B q:=by
 have hd:=Ql O h.1;exact⟨fM (bG h.2 (dz _ hd)) h2,fM hd h1⟩
end Ord
namespace Ord
def jP(a:Rat)(q:c4)(i:Nat)(out:c4):Nat->List Rat
 | 0=>out
 | k+1=>(jP a q i out k).set (i+k) ((jP a q i out k).getD (i+k) 0+a*q.getD k 0)
def mulL(p q:c4):Nat->List Rat
 | 0=>List.replicate (p.length+q.length-1) 0
 | i+1=>if p.getD i 0=0 then mulL p q i else jP (p.getD i 0) q i (mulL p q i) q.length
theorem mb(a:Rat)(q:c4)(i:Nat)(out:c4):∀k,(jP a q i out k).length=out.length
 | 0=>rfl
 | k+1=>by rw[jP,al,mb a q i out k]
theorem jR(p q:c4):∀i,(mulL p q i).length=p.length+q.length-1
 | 0=>by rw[mulL,dU]
 | i+1=>by
   rw[mulL];split
   .exact jR p q i
   .rw[mb,jR p q i]
def aa{l:c4}{i:Nat}(h:i<l.length:=by omega):l[i]?=some (l.getD i 0):=by
 rw[Sr,ao1 h];rfl
theorem XX(x:Rat)(i:Nat):∀k:Nat,x^(i+k)=x^i*x^k
 | 0=>by rw[cV,qO];grind
 | k+1=>by rw[<-lf,kO,XX x i k,kO];grind
theorem Ol(a:Rat)(q:c4)(i:Nat)(out:c4)(x:Rat)(hl:i+q.length<=out.length):∀k,k<=q.length->ev (jP a q i out k) x=ev out x+a*x^i*ev (q.take k) x
 | 0,_=>by rw[jP,jI,cU];grind
 | k+1,hk=>by
   have hget:=aa (l:=jP a q i out k) (i:=i+k) (by rw[mb];omega);rw[jP,bP0 _ _ _ _ x hget,Ol a q i out x hl k O,wq (aa (l:=q)) x,XX]
   grind
theorem am6(p q:c4)(x:Rat)(hq:0<q.length):∀i,i<=p.length->ev (mulL p q i) x=ev (p.take i) x*ev q x
 | 0,_=>by rw[mulL,aH7,jI,cU];grind
 | i+1,hi=>by
   have ih:=am6 p q x hq i O;rw[mulL,wq (aa (l:=p)) x];split
   .rename_i h0;rw[ih,h0];grind
   .rw[Ol _ _ _ _ x (by rw[jR];omega) _ (pf _),ih,jC];grind
def lR{D S:Nat}{l:c4}(h:∀a∈l,Bd D S a)(i:Nat):Bd D S (l.getD i 0):=by
 rw[Sr];cases hi:l[i]? with
 | none=>exact Bd.zero
 | some a=>exact h a (Bu hi)
def ct9(D S T:Nat)(i k:Nat)(l:c4):Prop:=∀j a,l[j]?=some a->Bd D (if i<=j/\j<i+k then S+T else S) a
theorem Ph{D E S T U:Nat}(h0:D≠0)(h1:E≠0){a:Rat}{q:c4}(ha:Bd D S a)(hq:∀b∈q,Bd E T b){i:Nat}{out:c4}(ho:∀x∈out,Bd (D*E) U x):∀k,ct9 (D*E) U (S*T) i k (jP a q i out k)
 | 0=>fun j x hx=>by
   rw[aG O];exact ho x (Bu hx)
 | k+1=>fun j x hx=>by
   have ih:=Ph h0 h1 ha hq ho k (i:=i);rw[jP,nk]at hx;split at hx
   .rename_i e;subst e;split at hx
    .rename_i hlt;simp only[wa]at hx;subst hx;rw[aF O];refine Bd.add (kE h0 h1) ?_ (ha.mul h0 h1 (lR hq k));have:=ih (i+k) _ (aa hlt);rw[aG O]at this;exact this
    .cases hx
   .have:=ih j x hx;refine this.le ?_;by_cases h2:i<=j/\j<i+k
    .rw[aF h2,aF O];exact pf _
    .rw[aG h2];split
     .exact xH _ _
     .exact pf _
def Fy{D E S T U:Nat}(h0:D≠0)(h1:E≠0){a:Rat}{q:c4}(ha:Bd D S a)(hq:∀b∈q,Bd E T b){i:Nat}{out:c4}(ho:∀x∈out,Bd (D*E) U x)(k:Nat):∀x∈jP a q i out k,Bd (D*E) (U+S*T) x:=fun x hx=>by
 obtain⟨j,hj⟩:=Cu.1 hx;refine(Ph h0 h1 ha hq ho k j x hj).le ?_;split
 .exact pf _
 .exact xH _ _
theorem xJ{D E S T:Nat}(h0:D≠0)(h1:E≠0){p q:c4}(hp:∀a∈p,Bd D S a)(hq:∀b∈q,Bd E T b):∀i,∀x∈mulL p q i,Bd (D*E) (i*(S*T)) x
 | 0=>fun x hx=>by
   rw[mulL]at hx;obtain⟨_,rfl⟩:=kL.1 hx;exact Bd.zero
 | i+1=>fun x hx=>by
   rw[mulL]at hx;rw[bt,ee];split at hx
   .exact(xJ h0 h1 hp hq i x hx).le (xH _ _)
   .exact Fy h0 h1 (lR hp i) hq (xJ h0 h1 hp hq i) _ x hx
def Fg{D E S T B n:Nat}(h0:D≠0)(h1:E≠0)(hX:D*E*((n+1)*((S+1)*(T+1)))<2^B) :
  (∀a,Bd D S a->Fit B a)/\(∀b,Bd E T b->Fit B b)/\(∀c(i:Nat),i<n->Bd (D*E) (i*(S*T)+S*T) c->Fit B c)/\(∀c,Bd (D*E) (S*T) c->Fit B c):=by
 have hD:0<D:=Ck h0;have hE:0<E:=Ck h1;have hDE:0<D*E:=jJ hD hE
 have key:∀X,X<=(n+1)*((S+1)*(T+1))->X*(D*E)<2^B:=fun X h=>by
  refine fM ?_ hX;rw[cN];exact dz _ h
 have hST:(S+1)*(T+1)=S*T+S+T+1:=by rw[bt,dr];omega
 have hge:(S+1)*(T+1)<=(n+1)*((S+1)*(T+1)):=Bn _ O;have k1:=key 1 O;have kS:=key S O;have kT:=key T O;have kST:=key (S*T) O;have hDle:D<=D*E:=ma _ hE;have hEle:E<=D*E:=Bn _ hD;refine⟨fun a ha=>ha.fit h0 O (fM (dz _ hDle) kS),fun b hb=>hb.fit h1 O (fM (dz _ hEle) kT),fun c i hi hc=>?_,fun c hc=>hc.fit O O kST⟩;refine hc.fit O O (key _ ?_);have e:i*(S*T)+S*T=(i+1)*(S*T):=by rw[bt,ee]
 rw[e];exact fP O O
end Ord
