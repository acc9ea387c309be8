/- Part. -/
set_option linter.all false
abbrev j0:=List (List Rat)
abbrev j1:=List Rat
abbrev j2:=Nat->Prop
abbrev j3:=List Nat
abbrev j4:=Nat->Rat
abbrev j7:=Nat->Bool
abbrev k5:=Rat×Rat
abbrev k6:=Nat->Rat×Rat
abbrev k7:=List Int
abbrev k8:=List UInt8
abbrev k9:=Rat->Prop
theorem O{p:Prop}(h:p:=by omega):p:=h
theorem bY{p:Prop}(h:p:=by simp):p:=h
theorem dO{p:Prop}(h:p:=by decide):p:=h
theorem e9{p:Prop}(h:p:=by grind):p:=h
theorem iF{p:Prop}(h:p:=by simp;omega):p:=h
theorem iN{p:Prop}(h:p:=by decide +kernel):p:=h
theorem iS{p:Prop}(h:p:=by assumption):p:=h
def af:=@Rat.mul_nonneg
def an:=@Nat.le_trans
def eL:=@Rat.mul_le_mul_of_nonneg_right
def eC:=@Rat.mul_le_mul_of_nonneg_left
def cH:=@Int.natAbs_natCast
def bm:=@List.length_cons
def cg:=@Nat.mul_le_mul_right
def cd:=@Nat.mul_le_mul_left
def aD:=@if_neg
def cB:=@Nat.pow_le_pow_right
def bV:=@Int.toNat_natCast
def ak:=@Rat.le_refl
def cU:=@List.take_of_length_le
def bP:=@List.length_take
def bt:=@Nat.lt_of_lt_of_le
def bf:=@Bool.and_eq_true
def aw:=@Nat.pow_pos
def aI:=@if_pos
def dn:=@Nat.le_mul_of_pos_right
def cV:=@Nat.lt_of_le_of_lt
def bE:=@Rat.pow_succ
def bF:=@Nat.pow_succ
def bG:=@Nat.lt_or_ge
def bH:=@Rat.le_trans
def et:=@List.getElem?_append_left
def cI:=@List.length_set
def bQ:=@Rat.pow_zero
def ij:=@List.eq_nil_of_length_eq_zero
def iG:=@Array.getD_eq_getD_getElem?
def di:=@Rat.div_mul_cancel
def cF:=@Prod.mk.injEq
def gm:=@List.getElem?_eq_none_iff
def ck:=@List.length_nil
def fY:=@Int.sign_eq_one_of_pos
def bw:=@Nat.zero_add
def ba:=@Nat.add_mul
def dD:=@List.append_nil
def cD:=@Nat.mul_comm
def eF:=@Bool.false_eq_true
def jP:=@List.getElem?_append_right
def fX:=@Array.replicate_succ
def fW:=@Array.replicate_zero
def dE:=@Nat.mul_le_mul
def gE:=@List.getElem?_eq_none
def eo:=@List.mem_singleton
def da:=@Nat.mul_ne_zero
def fj:=@List.mem_cons_of_mem
def fU:=@List.append_toArray
def fV:=@List.length_reverse
def dw:=@List.length_drop
def fH:=@decide_eq_true_iff
def dC:=@Nat.mul_assoc
def ed:=@List.size_toArray
def kB:=@List.getD_eq_getElem?_getD
def jJ:=@decide_eq_false_iff_not
def eW:=@List.take_length
def gL:=@Nat.pos_iff_ne_zero
def gN:=@Nat.pow_le_pow_left
def cu:=@Nat.add_zero
def fi:=@List.getElem?_take
def fS:=@List.push_toArray
def gG:=@List.mem_cons_self
def eS:=@Option.map_some
def dx:=@Int.natAbs_mul
def cZ:=@Nat.one_mul
def jh:=@Nat.le_mul_of_pos_left
def iL:=@Array.length_toList
def ep:=@List.map_append
def ej:=@decide_eq_false
def ek:=@Nat.min_eq_left
def dH:=@Prod.mk.inj
def iI:=@Nat.eq_zero_or_pos
def dy:=@List.map_cons
def gi:=@of_decide_eq_true
def gX:=@List.append_assoc
def mR:=@Rat.le_of_mul_le_mul_right
def gM:=@List.all_eq_true
def jg:=@List.mem_of_mem_take
def ji:=@List.mem_append_left
def gj:=@Nat.div_eq_of_lt
def gk:=@Nat.mod_eq_of_lt
def jd:=@List.getElem?_range
def ee:=@List.mem_cons
def lh:=@Nat.div_lt_iff_lt_mul
def ib:=@Option.getD_some
def gJ:=@decide_eq_true
def gF:=@List.drop_zero
def dU:=@beq_iff_eq
def iM:=@List.mem_append
def iK:=@Int.natCast_mul
def kH:=@List.getElem?_drop
def nL:=@List.getElem?_cons_zero
def eH:=@Nat.pow_add
def dN:=@Nat.mul_pos
def iR:=@Nat.pos_of_ne_zero
def kO:=@List.mem_append_right
def bu:=@if_false
def iY:=@List.flatten_cons
def dc:=@Nat.mul_one
def eG:=@List.map_map
def nY:=@Int.tdiv_eq_ediv_of_nonneg
def dk:=@Rat.pow_pos
def bZ:=@if_true
def lH:=@List.length_replicate
def gO:=@List.mem_range
def mW:=@Nat.div_div_eq_div_mul
def eJ:=@Rat.div_def
def pP:=@Int.sign_eq_neg_one_of_neg
def kh:=@of_decide_eq_false
def iC:=@Int.natAbs_neg
def ow:=@List.drop_eq_getElem_cons
def jm:=@List.not_mem_nil
def jB:=@Rat.num_intCast
def mZ:=@Nat.pow_lt_pow_right
def kd:=@List.ext_getElem?
def iX:=@List.drop_drop
def fu:=@Nat.mul_zero
def eK:=@Nat.mod_lt
def fO:=@Nat.mul_add
def mG:=@List.map_congr_left
def kV:=@decide_eq_decide
def ng:=@Bool.or_eq_false_iff
def iB:=@Nat.add_comm
def ke:=@Option.some.inj
def jF:=@Nat.add_assoc
def oB:=@List.flatten_append
def nw:=@List.replicate_succ
def pQ:=@List.take_append_drop
def uP:=@Int.tmod_eq_emod_of_nonneg
def pL:=@List.mem_of_getElem?
def ny:=@Nat.add_sub_cancel
def kR:=@List.take_zero
def lM:=@Rat.num_eq_zero
def rP:=@Rat.intCast_le_intCast
def jK:=@Rat.mul_comm
def jD:=@List.map_nil
def pN:=@List.take_succ_cons
def xD:=@List.take_append_of_le_length
def wo:=@List.drop_append_of_le_length
def nX:=@Nat.dvd_mul_right
def nm:=@List.take_add_one
def ns:=@Nat.mul_left_comm
def ml:=@List.range_succ
def jj:=@Nat.sub_self
def jt:=@Nat.pow_zero
def pC:=@List.mem_replicate
def sK:=@List.reverse_reverse
def nZ:=@Nat.succ_le_succ
def jI:=@Nat.le_refl
def xG:=@Nat.mul_lt_mul_of_pos_right
def uf:=@List.getElem?_set_self
def pM:=@decide_eq_true_eq
def nk:=@Rat.mul_eq_zero
def oA:=@Nat.div_le_self
def nj:=@Nat.mod_add_div
def xC:=@List.mem_or_eq_of_mem_set
def wq:=@Rat.le_of_mul_le_mul_left
def wg:=@Array.getElem?_eq_getElem
def tz:=@Array.getElem?_toList
def rn:=@List.map_replicate
def rl:=@Rat.natCast_nonneg
def lR:=@Nat.gcd_comm
def uk:=@Nat.add_mul_div_left
def uA:=@List.mem_of_mem_drop
def kX:=@Nat.pow_mul
def kZ:=@Rat.one_mul
def wz:=@List.getElem?_cons_succ
def pG:=@Nat.not_lt_zero
def pF:=@Rat.den_intCast
def pH:=@Bool.or_eq_true
def uC:=@Nat.div_mul_le_self
def xV:=@List.drop_eq_nil_of_le
def rV:=@Nat.dvd_mul_left
def uH:=@Rat.intCast_nonneg
def ox:=@List.drop_take
def pR:=@List.take_take
def Bk:=@Int.sign_eq_zero_iff_zero
def Bv:=@Nat.add_mul_mod_self_left
def AI:=@List.getElem?_eq_some_iff
def rZ:=@Rat.intCast_pos
def xO:=@List.getElem?_of_mem
def wh:=@List.getElem?_append
def na:=@Nat.le_of_lt
def np:=@Nat.le_of_eq
def nV:=@Nat.zero_mul
def iV:=@and_true
def AE:=@Array.size_setIfInBounds
def An:=@Nat.gcd_pos_of_pos_right
def ou:=@List.map_take
def Bn:=@List.getElem?_replicate
def Aw:=@Nat.add_sub_cancel_left
def uJ:=@Rat.mkRat_eq_div
def uu:=@Nat.le_add_right
def pO:=@Rat.zero_mul
def pD:=@Rat.le_of_lt
def pJ:=@Nat.dvd_refl
def oz:=@decide_false
def uj:=@Rat.intCast_mul
def uX:=@Nat.div_lt_self
def jr:=@or_false
def rL:=@List.map_drop
def Aq:=@Nat.le_div_iff_mul_le
def FH:=@Array.getElem?_append_left
def tw:=@Int.mul_nonneg
def nt:=@Nat.not_lt
def rN:=@Rat.le_total
def Fi:=@Option.isNone_iff_eq_none
def uZ:=@Nat.le_of_dvd
def AJ:=@Rat.sub_eq_add_neg
def AG:=@List.set_cons_zero
def AD:=@List.set_cons_succ
def pE:=@Rat.not_lt
def rm:=@Nat.zero_le
def sF:=@Nat.div_pos
def sH:=@decide_true
def rO:=@Nat.div_one
def Fv:=@Rat.normalize_eq_mkRat
def Bh:=@Option.some.injEq
def zf:=@List.reverse_cons
def zV:=@Bool.not_eq_true'
def Fu:=@List.singleton_append
def FJ:=@List.getElem?_reverse
def EY:=@List.mem_iff_getElem?
def FK:=@List.getElem?_toArray
def zi:=@Nat.le_of_not_lt
def Bi:=@Int.natCast_ediv
def uB:=@Int.le_refl
def uV:=@Int.neg_mul
def BD:=@Rat.intCast_neg
def Az:=@Nat.pow_dvd_pow
def AU:=@List.mem_filter
def Ga:=@List.drop_set_of_lt
def FV:=@List.mem_map_of_mem
def xj:=@List.map_set
def xZ:=@Int.mul_comm
def Fb:=@Rat.mul_inv_cancel
def FQ:=@Nat.mul_right_comm
def FW:=@Nat.gcd_zero_right
def FG:=@Int.natAbs_add_le
def Fs:=@List.getElem?_set
def xF:=@Nat.gcd_rec
def QP:=@Int.mul_ediv_cancel_left
def RX:=@Option.isSome_iff_exists
def zX:=@Int.mul_assoc
def Ba:=@Nat.dvd_trans
def Ro:=@List.length_eq_zero_iff
def FP:=@Nat.lt_succ_self
def Gm:=@Option.getD_none
def Gi:=@Rat.normalize_eq
def Sl:=@Option.map_eq_some_iff
def xX:=@Nat.mod_le
def xH:=@Int.not_lt
def xK:=@Array.ext'
def Fk:=@Nat.div_add_mod
def EZ:=@Int.natCast_add
def Sv:=@List.length_singleton
def Zz:=@List.length_filter_lt_length_iff_exists
def ab0:=@Array.getElem?_setIfInBounds_self_of_lt
def Fe:=@Rat.pow_nonneg
def FZ:=@Int.mul_le_mul
def Fl:=@List.mapM_cons
def zS:=@Rat.le_ceil
def zZ:=@Nat.pow_one
def RV:=@List.getD_cons_zero
def Sz:=@Rat.mkRat_mul_mkRat
def Sc:=@Nat.add_le_add_left
def Rl:=@Int.natCast_nonneg
def Sr:=@Int.ofNat_dvd_left
def RA:=@List.length_append
def Ay:=@Rat.le_iff
def Sw:=@Int.lt_trichotomy
def QH:=@List.length_range
def RG:=@List.flatMap_cons
def Fg:=@Nat.succ_mul
def FL:=@Nat.le_total
def FY:=@Rat.mul_def'
def af6:=@Array.getElem?_setIfInBounds_ne
def ZT:=@Int.mul_le_mul_of_nonneg_right
def ag1:=@List.eq_nil_iff_forall_not_mem
def Rw:=@Nat.le_max_right
def Rx:=@List.drop_length
def PU:=@Int.natCast_emod
def RY:=@Nat.gcd_dvd_left
def FB:=@Rat.mul_pos
def Fp:=@Int.add_mul
def Fw:=@Int.one_mul
def Gq:=@Rat.neg_num
def Ft:=@Rat.neg_den
def Qe:=@Nat.le_antisymm
def QZ:=@Int.ediv_nonneg
def ai1:=@Rat.mul_lt_mul_of_pos_right
def ad5:=@Int.natAbs_sign_of_ne_zero
def QJ:=@Rat.num_nonneg
def Sa:=@Nat.add_le_add
def ac7:=@List.extract_eq_take_drop
def ah2:=@List.getLast?_eq_none_iff
def ab6:=@List.getElem?_eq_getElem
def Qw:=@List.all_cons
def RL:=@List.take_add
def PY:=@List.mapM_nil
def ZH:=@List.pairwise_singleton
def Zl:=@List.getLast?_cons_cons
def af3:=@Nat.mul_div_cancel_left
def FA:=@forall_eq
def Zm:=@List.length_pos_of_mem
def YS:=@List.head?_eq_getElem?
def Zt:=@List.range_succ_eq_map
def ah7:=@List.reverse_replicate
def Qi:=@Nat.mul_succ
def QR:=@Nat.sub_zero
def PR:=@Nat.lt_trans
def RM:=@Rat.add_def'
def ac8:=@List.length_filter_le
def ac0:=@List.getElem?_zipIdx
def Qm:=@Nat.le_succ
def QF:=@Int.mul_add
def ZW:=@Int.mul_ediv_cancel
def aa2:=@List.drop_succ_cons
def ai2:=@List.take_set_of_le
def Zn:=@List.take_replicate
def af0:=@Nat.lt_mul_div_succ
def YT:=@List.reverse_append
def ZP:=@List.replicate_zero
def ZS:=@List.length_pos_iff
namespace Ord
def val(B:Nat):List Nat->Nat
 | []=>0
 | d::ds=>d+B*val B ds
def oW(B:Nat)(n:Nat):List Nat:=
 if h:1<B/\n≠0 then n%B::oW B (n/B)else[]
termination_by n
decreasing_by exact uX O h.1
def eN B:oW B 0=[]:=by rw[oW];simp
def jU{B n}(hB:1<B:=by omega)(h:n≠0:=by omega):oW B n=n%B::oW B (n/B):=by
 rw[oW,dif_pos ⟨hB,h⟩]
def Aj{B}(hB:1<B)n:val B (oW B n)=n:=by
 induction n using Nat.strongRecOn with
 | _ n ih=>
   by_cases h:n=0
   .subst h;rw[eN];rfl
   .rw[jU hB h,val,ih _ (uX O hB)];exact nj n B
def Fh{B}n(hB:1<B:=by omega):∀d∈oW B n,d<B:=by
 induction n using Nat.strongRecOn with
 | _ n ih=>
   by_cases h:n=0
   .subst h;rw[eN];simp
   .rw[jU hB h];intro d hd;rcases ee.1 hd with rfl | hd
    .exact eK _ O
    .exact ih _ (uX O hB) d hd
def lW B xs ys:val B (xs++ys)=val B xs+B^xs.length*val B ys:=by
 induction xs with
 | nil=>simp[val]
 | cons x xs ih=>simp[val,ih,fO,bF,jF,dC,ns,cD]
def Wy{B}(hB:0<B)(xs:j3)(h:∀d∈xs,d<B):val B xs<B^xs.length:=by
 induction xs with
 | nil=>simp[val]
 | cons x xs ih=>
   have h1:=ih (fun d hd=>h d (fj _ hd));have h2:=h x gG;simp
   calc x+B*val B xs<B+B*val B xs:=O
    _=B*(val B xs+1):=by rw[fO,dc,iB]
    _<=B*B^xs.length:=cd _ h1
    _=B^xs.length*B:=cD _ _
def Ti{B}(hB:1<B)(xs:j3)(h:∀d∈xs,d<B)(hl:∀d,xs.getLast? = some d->d≠0):oW B (val B xs)=xs:=by
 induction xs with
 | nil=>simp[val,eN]
 | cons x xs ih=>
   have hx:=h x gG;have h1:∀d∈xs,d<B:=fun d hd=>h d (fj _ hd);cases xs with
   | nil=>
     have:x≠0:=hl x bY;simp only[val,fu,cu];rw[jU hB this,gk hx,gj hx,eN]
   | cons y ys=>
     have e:=ih h1 (fun d hd=>hl d (by rw[Zl];exact hd))
     have hne:val B (y::ys)≠0:=by
      intro h0;rw[h0,eN]at e;cases e
     have hne':val B (x::y::ys)≠0:=by
      rw[val];have:0<B*val B (y::ys):=dN O O;omega
     rw[jU hB hne'];rw[val,Bv,gk hx,uk _ _ (by omega:0<B),gj hx,bw,e]
def mo{B n k}(h:n<B^k:=by omega)(hB:1<B:=by omega):(oW B n).length<=k:=by
 induction k generalizing n with
 | zero=>have:n=0:=by simpa using h
         subst this;simp[eN]
 | succ k ih=>
   by_cases h0:n=0
   .subst h0;simp[eN]
   .rw[jU hB h0,bm]
    have:n/B<B^k:=by
     rw[lh O];rw[bF]at h;exact h
    exact nZ (ih this)
def jb{B}(hB:1<B){n}(h:n≠0):B^((oW B n).length-1)<=n:=by
 induction n using Nat.strongRecOn with
 | _ n ih=>
   rw[jU hB h,bm,ny];by_cases h2:n/B=0
   .rw[h2,eN];simp;omega
   .have:=ih (n/B) (uX O hB) h2;have hl:0<(oW B (n/B)).length:=by rw[jU hB h2];simp
    have⟨k,hk⟩:∃k,(oW B (n/B)).length=k+1:=⟨_,(Nat.sub_add_cancel hl).symm⟩
    rw[hk]at this|-;rw[ny]at this;rw[bF]
    calc B^k*B<=(n/B)*B:=cg _ this
     _<=n:=uC n B
def oN{B}(hB:1<B)n:n<B^(oW B n).length:=by
 have:=Wy (by omega:0<B) (oW B n) (Fh n hB)
 rwa[Aj hB]at this
end Ord
namespace Ord
def pd(B:Nat):Nat->Nat->List Nat
 | 0,_=>[]
 | n+1,x=>x%B::pd B n (x/B)
variable{B:Nat}
@[simp] theorem gB:∀(n x:Nat),(pd B n x).length=n
  | 0,_=>rfl
  | n+1,x=>by simp[pd,gB n]
theorem KY(hB:0<B):∀n x,∀d∈pd B n x,d<B
 | 0,_,d,h=>by cases h
 | n+1,x,d,h=>by
   rcases ee.1 h with rfl | h
   .exact eK _ hB
   .exact KY hB n _ d h
theorem Cc:∀n x,val B (pd B n x)=x%B^n
 | 0,x=>by simp[pd,val,Nat.mod_one]
 | n+1,x=>by
   rw[pd,val,Cc n,bF,cD (B^n) B,Nat.mod_mul]
theorem aM6(hB:0<B):∀(ds:j3),(∀d∈ds,d<B)->pd B ds.length (val B ds)=ds
 | [],_=>rfl
 | d::ds,h=>by
   have hd:=h d gG;rw[bm,pd,val,Bv,gk hd,uk _ _ hB,gj hd,bw,aM6 hB ds fun x hx=>h x (fj _ hx)]
def UH(hB:0<B){ds:j3}(h:∀d∈ds,d<B){n x}(hl:ds.length=n)(hv:val B ds=x):ds=pd B n x:=by
 subst hl hv;exact(aM6 hB ds h).symm
theorem Hy:∀{n i}x,i<n->(pd B n x)[i]?=some (x/B^i%B)
 | 0,_,_,h=>O
 | n+1,0,x,_=>by simp[pd]
 | n+1,i+1,x,h=>by
   rw[pd,wz,Hy _ O,mW,bF,cD B]
theorem Sk:∀n i x,(pd B n x).drop i=pd B (n-i) (x/B^i)
 | n,0,x=>bY
 | 0,i+1,x=>by simp[pd]
 | n+1,i+1,x=>by
   rw[pd,aa2,Sk n i,mW,bF,cD B,Nat.add_sub_add_right]
theorem QL:∀{n k}x,k<=n->(pd B n x).take k=pd B k x
 | n,0,x,_=>by simp[pd]
 | 0,k+1,x,h=>O
 | n+1,k+1,x,h=>by rw[pd,pN,QL _ O,pd]
def aa9 x(hB:1<B:=by omega):oW B x=pd B (oW B x).length x:=UH O (Fh x hB) rfl (Aj hB x)
def an5{n i k x y}(hx:x<B^n)(hy:y<B^k)(hB:0<B:=by omega)(hi:i+k<=n:=by omega):(pd B n x).take i++pd B k y++(pd B n x).drop (i+k)=pd B n (x%B^i+B^i*(y+B^k*(x/B^(i+k)))):=by
 apply UH hB
 .intro d hd;simp only[iM]at hd;rcases hd with(hd | hd) | hd
  .exact KY hB _ _ d (jg hd)
  .exact KY hB _ _ d hd
  .exact KY hB _ _ d (uA hd)
 .simp;omega
 .rw[lW,lW,QL _ O,Sk,Cc,Cc,Cc,gk hy]
  have h3:x/B^(i+k)<B^(n-(i+k)):=by
   rw[lh (aw hB),<-eH,Nat.sub_add_cancel hi];exact hx
  rw[gk h3];simp only[RA,gB,eH,fO,dC,jF]
end Ord
namespace Ord
variable{B:Nat}
def DB(B:Nat)(ds:j3):Prop:=∀d∈ds,d<B
def DB.take{ds}(h:DB B ds)n:DB B (ds.take n):=fun d hd=>h d (jg hd)
def DB.drop{ds}(h:DB B ds)n:DB B (ds.drop n):=fun d hd=>h d (uA hd)
def DB.set{ds}(h:DB B ds){i x:Nat}(hx:x<B):DB B (ds.set i x):=fun d hd=>by
 rcases xC hd with hd | rfl
 .exact h d hd
 .exact hx
def DB.get{ds}(h:DB B ds){i d:Nat}(hd:ds[i]?=some d):d<B:=h d (pL hd)
def DB.getD{ds}(hB:0<B)(h:DB B ds){i d:Nat}(hd:ds[i]?.getD 0=d):d<B:=by
 cases hx:ds[i]? with
 | none=>rw[hx]at hd;simp at hd;omega
 | some e=>rw[hx]at hd;simp at hd;subst hd;exact h.get hx
def DB.rep(hB:0<B)(n:Nat):DB B (List.replicate n 0):=fun d hd=>by
 obtain⟨_,rfl⟩:=pC.1 hd;exact hB
def DB.oW(hB:1<B)(n:Nat):DB B (oW B n):=Fh n hB
def DB.append{xs ys}(h:DB B xs)(k:DB B ys):DB B (xs++ys):=fun d hd=>(iM.1 hd).elim (h d) (k d)
def DB.rev{xs}(h:DB B xs):DB B xs.reverse:=fun d hd=>h d (List.mem_reverse.1 hd)
def DB.lt{xs:j3}(hB:0<B)(h:DB B xs):val B xs<B^xs.length:=Wy hB xs h
def val_one d:val B [d]=d:=by simp[val]
def take_succ{ds:j3}{i d}(h:ds[i]?=some d):ds.take (i+1)=ds.take i++[d]:=by
 rw[nm,h];rfl
def jY{ds:j3}{i d}(h:ds[i]?=some d):val B (ds.take (i+1))=val B (ds.take i)+B^i*d:=by
 have hi:i<ds.length:=(AI.1 h).1;rw[take_succ h,lW,val_one,bP,ek O]
def mK{ds:j3}{i d}(h:ds[i]?.getD 0=d):val B (ds.take (i+1))=val B (ds.take i)+B^i*d:=by
 cases hx:ds[i]? with
 | some e=>rw[hx]at h;simp at h;subst h;exact jY hx
 | none=>
   rw[hx]at h;simp at h;subst h;have:=gm.1 hx;rw[cU O,cU O];omega
def oy{os:j3}{i x}(h:i<os.length):val B ((os.set i x).take (i+1))=val B (os.take i)+B^i*x:=by
 rw[jY (d:=x) (by simp[h])];rw[ai2 (jI i)]
def Zg n:val B (List.replicate n 0)=0:=by
 induction n with
 | zero=>rfl
 | succ n ih=>rw[nw,val,ih];omega
def aY0{z}{os:j3}{j old n:Nat}(hj:os[j]?=some old)(hjn:j<n:=by omega):val B ((os.set j z).take n)+B^j*old=val B (os.take n)+B^j*z:=by
 induction os generalizing j n with
 | nil=>simp at hj
 | cons d os ih=>
   obtain⟨m,rfl⟩:∃m,n=m+1:=⟨n-1,O⟩
   cases j with
   | zero=>
     simp only[nL,Bh]at hj;subst hj;simp only[AG,pN,val,jt];omega
   | succ j=>
     have:=ih (j:=j) (n:=m) (by simpa using hj) O;simp only[AD,pN,val,bF]at this|-;have h1:B^j*B*old=B*(B^j*old):=by rw[FQ,cD]
     have h2:B^j*B*z=B*(B^j*z):=by rw[FQ,cD]
     rw[h1,h2];have:=congrArg (fun t=>B*t) this;simp only[fO]at this;omega
structure MK(B:Nat)(xs ys:j3)(i:Nat)(os:j3):Prop where
 le:i<=xs.length
 len:os.length=xs.length+ys.length
 dg:DB B os
 eq:val B (os.take (i+ys.length))=val B (xs.take i)*val B ys
structure BIn(B:Nat)(xs ys:j3)(i x T k c:Nat)(os:j3):Prop where
 le:k<=ys.length
 len:os.length=xs.length+ys.length
 dg:DB B os
 c1:c<B
 eq:val B (os.take (i+ys.length))+B^(i+k)*c=T+x*(B^i*val B (ys.take k))
def MK.init(hB:0<B)xs ys:MK B xs ys 0 (List.replicate (xs.length+ys.length) 0):=⟨rm _,bY,DB.rep hB _,by
 rw[Zn,Zg];simp[val]⟩
def MK.inn(hB:0<B){xs ys os i x}(h:MK B xs ys i os):BIn B xs ys i x (val B (xs.take i)*val B ys) 0 0 os:=⟨rm _,h.len,h.dg,O,by rw[h.eq];simp[val]⟩
def BIn.next{xs ys os:j3}{i x T k c y old z c':Nat}(h:BIn B xs ys i x T k c os)(hk:k<ys.length)(hy:ys[k]?=some y)(ho:os[i+k]?=some old)(hz:z<B)(hc:c'<B)(he:z+B*c'=c+(x*y+old)) :
  BIn B xs ys i x T (k+1) c' (os.set (i+k) z):=by
 refine⟨hk,by rw[cI];exact h.len,h.dg.set hz,hc,?_⟩;have h1:=aY0 (B:=B) (z:=z) (n:=i+ys.length) ho;have h2:=congrArg (fun t=>B^(i+k)*t) he;have h3:=h.eq;rw[jY hy];simp only[fO]at h2|-;have e1:B^(i+(k+1))*c'=B^(i+k)*(B*c'):=by rw[<-jF,bF,dC]
 have e2:x*(B^i*(B^k*y))=B^(i+k)*(x*y):=by rw[eH];simp only[ns,dC]
 rw[e1,e2];omega
def BIn.out{xs ys os:j3}{i x c:Nat}(h:BIn B xs ys i x (val B (xs.take i)*val B ys) ys.length c os)(hx:xs[i]?=some x):MK B xs ys (i+1) (os.set (i+ys.length) c):=by
 have hi:i<xs.length:=(AI.1 hx).1;refine⟨hi,by rw[cI];exact h.len,h.dg.set h.c1,?_⟩;have h3:=h.eq;rw[eW]at h3;rw[show i+1+ys.length=i+ys.length+1 by omega,oy (by rw[h.len];omega),jY hx,h3,ba]
 congr 1
 rw[ns,<-dC]
def MK.fin{xs ys os:j3}(h:MK B xs ys xs.length os):val B os=val B xs*val B ys:=by
 have:=h.eq;rw[cU (by rw[h.len];omega),eW]at this;exact this
structure Mc(B:Nat)(xs ys:j3)(n:Nat)(s:Int)(i:Nat)(c:Int)(os:j3):Prop where
 le:i<=n
 c0:-1<=c
 c1:c<=1
 len:os.length=n
 dg:DB B os
 eq:(val B (os.take i):Int)+(B^i:Nat)*c=(val B (xs.take i):Int)+s*(val B (ys.take i):Int)
def Mc.init(hB:0<B)xs ys n s:Mc B xs ys n s 0 0 (List.replicate n 0):=⟨rm _,O,O,bY,DB.rep hB _,by simp[val]⟩
def Mc.next{xs ys os:j3}{n i x y z}{s c c':Int}(h:Mc B xs ys n s i c os)(hi:i<n)(hx:xs[i]?.getD 0=x)(hy:ys[i]?.getD 0=y)(hc0:-1<=c')(hc1:c'<=1)(hz:z<B)(he:(z:Int)+B*c'=x+s*y+c) :
  Mc B xs ys n s (i+1) c' (os.set i z):=by
 refine⟨hi,hc0,hc1,by rw[cI];exact h.len,h.dg.set hz,?_⟩;rw[oy (by rw[h.len];exact hi),mK hx,mK hy];have h1:=h.eq;have h2:=congrArg (fun t=>((B^i:Nat):Int)*t) he;simp only[bF,EZ,iK,QF]at h1 h2|-;have e1:((B^i:Nat):Int)*(B:Int)*c'=((B^i:Nat):Int)*((B:Int)*c'):=zX _ _ _;have e2:s*(((B^i:Nat):Int)*(y:Int))=((B^i:Nat):Int)*(s*(y:Int)):=Int.mul_left_comm _ _ _;rw[e1,e2];omega
def Mc.fin{xs ys os n s c}(hB:0<B)(h:Mc B xs ys n s n c os)(hx:xs.length<=n)(hy:ys.length<=n){r:Nat}(hr:(r:Int)=(val B xs:Int)+s*(val B ys:Int))(hl:r<B^n):val B os=r:=by
 have h1:=h.eq;have hlen:=h.len;rw[cU O,cU hx,cU hy,<-hr]at h1;have h2:=DB.lt hB h.dg;rw[hlen]at h2;have h3:=h.c0;have h4:=h.c1
 have:c=0:=by
  rcases(by omega:c=-1\/c=0\/c=1)with rfl | rfl | rfl
  .omega
  .rfl
  .omega
 subst this;omega
structure lk(B:Nat)(xs ys:j3)(t:Nat)(i c b:Nat)(os:j3):Prop where
 le:i<=xs.length
 b1:b<=1
 c1:c<=t
 c2:ys.length<i->c=0
 len:os.length=xs.length
 dg:DB B os
 rest:os.drop i=xs.drop i
 eq:val B (os.take i)+t*val B (ys.take i)=val B (xs.take i)+B^i*(c+b)
def lk.init{xs}(hx:DB B xs)ys t:lk B xs ys t 0 0 0 xs:=⟨rm _,O,O,fun _=>rfl,rfl,hx,rfl,by simp[val]⟩
def lk.get{xs ys os}{t i c b x:Nat}(h:lk B xs ys t i c b os)(hx:xs[i]?=some x):os[i]?=some x:=by
 have:=congrArg (fun l=>l[0]?) h.rest;simp at this;rw[this,hx]
def lk.next{xs ys os:j3}{t i c b x y z b'}(hB:0<B)(h:lk B xs ys t i c b os)(ht:t<B)(hx:xs[i]?=some x)(hy:ys[i]?.getD 0=y)(hyB:y<B)(hz:z<B)(hb:b'<=1)(he:z+(c+t*y)%B+b=x+B*b') :
  lk B xs ys t (i+1) ((c+t*y)/B) b' (os.set i z):=by
 have hi:i<xs.length:=(AI.1 hx).1;have hc:=h.c1;refine⟨hi,hb,?_,?_,by rw[cI];exact h.len,h.dg.set hz,?_,?_⟩
 .have:(c+t*y)/B<t+1:=by
   rw[lh hB];have h1:t*y<=t*(B-1):=cd _ O
   have h2:(t+1)*B=t*(B-1)+t+B:=by
    obtain⟨k,rfl⟩:∃k,B=k+1:=⟨B-1,O⟩
    simp only[ny,ba,fO];omega
   omega
  omega
 .intro hlt
  have:y=0:=by
   rw[<-hy,gm.2 O];rfl
  subst this;simp only[fu,cu];exact gj O
 .rw[Ga O];have:=congrArg (List.drop 1) h.rest
  simpa[iX]using this
 .have h1:=h.eq;have h2:=congrArg (fun q=>B^i*q) he;have h3:=congrArg (fun q=>B^i*q) (nj (c+t*y) B);rw[oy (by rw[h.len];exact hi),jY hx,mK hy,bF];simp only[fO]at h2 h3|-;have e2:t*(B^i*y)=B^i*(t*y):=ns _ _ _;have e3:B^i*B*((c+t*y)/B)=B^i*(B*((c+t*y)/B)):=dC _ _ _;have e4:B^i*B*b'=B^i*(B*b'):=dC _ _ _;rw[e2,e3,e4];simp only[fO]at h1;omega
def lk.fin{xs ys os}{t c b:Nat}(hB:0<B)(h:lk B xs ys t xs.length c b os)(hx:DB B xs)(hl:ys.length<xs.length) :
  b=(if val B xs<t*val B ys then 1 else 0)/\os=pd B xs.length (val B xs+B^xs.length*b-t*val B ys):=by
 have h0:=h.c2 hl;subst h0;have h1:=h.eq;rw[cU (by rw[h.len];omega),eW,cU O,bw]at h1;have h2:=DB.lt hB h.dg;rw[h.len]at h2;have hb:=h.b1
 constructor
 .split<;>rcases(by omega:b=0\/b=1)with rfl | rfl<;>omega
 .refine UH hB h.dg h.len ?_;omega
end Ord
namespace Ord
def aE2{B X V n}(hV:0<V/B^n):X/V<=X/B^n/(V/B^n):=by
 rw[Aq hV]
 have hp:0<B^n:=by
  rcases iI (B^n)with h | h
  .rw[h,Nat.div_zero]at hV;omega
  .exact h
 rw[Aq hp,dC]
 calc X/V*(V/B^n*B^n)<=X/V*V:=cd _ (uC _ _)
  _<=X:=uC _ _
def Br{X V g}(hV:0<V)(h2:X<(g+1)*V)(h1:g*V<=X:=by omega):X/V=g:=by
 apply Qe
 .have:X/V<g+1:=by rw[lh hV];exact h2
  omega
 .rw[Aq hV];exact h1
def LO{B S V R Q i}(hB:0<B)(hV:0<V)(hS:S=R+V*B^(i+1)*Q)(hR:R/B^(i+1)<V) :
  R/B^i<V*B/\R/B^i/V<B/\S=(R%B^i+B^i*(R/B^i%V))+V*B^i*(R/B^i/V+B*Q)/\(R%B^i+B^i*(R/B^i%V))/B^i<V:=by
 have hp:0<B^i:=aw hB
 have h1:R/B^i<V*B:=by
  rw[lh hp];rw[lh (aw hB)]at hR;rw[bF,cD (B^i)]at hR;rw[dC];exact hR
 refine⟨h1,?_,?_,?_⟩
 .rw[lh hV,cD];exact h1
 .have e1:=nj R (B^i);have e2:=nj (R/B^i) V;rw[hS]
  conv=>lhs;rw[<-e1,<-e2]
  simp only[bF,fO];have:V*(B^i*B)*Q=V*B^i*(B*Q):=by simp only[dC]
  rw[this];have:B^i*(V*(R/B^i/V))=V*B^i*(R/B^i/V):=by rw[<-dC,cD (B^i)]
  rw[this];omega
 .rw[uk _ _ hp,gj (eK _ hp),bw];exact eK _ hV
def Cm{S V R Q:Nat}(hS:S=R+V*Q)(hR:R<V):Q=S/V/\R=S%V:=by
 constructor
 .rw[hS,uk _ _ O,gj hR,bw]
 .rw[hS,Bv,gk hR]
def Ur{B R i n X'}(hR:R/B^(i+n)=0):R%B^i+B^i*(X'+B^n*(R/B^(i+n)))=R%B^i+B^i*X':=by rw[hR,fu,cu]
end Ord
namespace Ord
def Fit(B:Nat)(q:Rat):Prop:=q.num.natAbs<2^B/\q.den<2^B
def Fit.mono{B C:Nat}{q:Rat}(h:Fit B q)(hBC:B<=C):Fit C q:=
 have:=cB (n:=2) O hBC
 ⟨bt h.1 this,bt h.2 this⟩
def NV(n:Int)(g:Nat):(n/(g:Int)).natAbs<=n.natAbs+(if n<0 then 1 else 0)*0+(if(g:Int)∣n then 0 else 1):=by
 by_cases hg:g=0
 .subst hg;simp
 .by_cases hd:(g:Int)∣n
  .rw[aI hd];obtain⟨k,rfl⟩:=hd;rw[QP _ O,dx];simp only[cH,fu,cu];exact jh _ O
  .rw[aD hd];have h1:=Int.mul_ediv_add_emod n g;have h2:=Int.emod_nonneg n (b:=(g:Int)) O;have h3:=Int.emod_lt_of_pos n (b:=(g:Int)) O
   have h4:(n/(g:Int)).natAbs*g<=n.natAbs+g:=by
    have:((n/(g:Int)).natAbs*g:Nat)=((g:Int)*(n/(g:Int))).natAbs:=by rw[dx,cH,cD]
    omega
   have h5:n.natAbs+g<=(n.natAbs+1)*g:=by
    rw[ba,cZ];have:=dn n.natAbs (by omega:0<g);omega
   have:=Nat.le_of_mul_le_mul_right (an h4 h5) O;omega
def Fit.mkRat{B:Nat}{n:Int}{d:Nat}(hn:n.natAbs<2^B)(hd:d<2^B)(h0:d≠0):Fit B (mkRat n d):=by
 rw[<-Fv h0,Gi h0];refine⟨?_,cV (oA _ _) hd⟩;have:=NV n (n.natAbs.gcd d);rw[aI (Sr.2 (RY _ _))]at this;simp only[fu,cu]at this;show(n/_).natAbs<_;exact cV this hn
def bR{a b B C}(ha:a<2^B)(hb:b<2^C):a*b<2^(B+C):=by
 rw[eH];exact Nat.mul_lt_mul'' ha hb
def Fit.add{B C:Nat}{a b:Rat}(ha:Fit B a)(hb:Fit C b):Fit (B+C+1) (a+b):=by
 rw[RM];have h1:=bR ha.1 hb.2;have h2:=bR hb.1 ha.2;have h3:=bR ha.2 hb.2;rw[iB C B]at h2;refine Fit.mkRat ?_ ?_ (da a.den_nz b.den_nz)
 .rw[bF]
  have:(a.num * ↑b.den+b.num * ↑a.den).natAbs<=a.num.natAbs*b.den+b.num.natAbs*a.den:=by
   refine an (FG _ _) ?_;rw[dx,dx,cH,cH];exact jI _
  omega
 .rw[bF];omega
def Fit.mul{B C:Nat}{a b:Rat}(ha:Fit B a)(hb:Fit C b):Fit (B+C) (a*b):=by
 rw[FY];refine Fit.mkRat ?_ (bR ha.2 hb.2) (da a.den_nz b.den_nz);rw[dx];exact bR ha.1 hb.1
def Fit.neg{B:Nat}{a:Rat}(ha:Fit B a):Fit B (-a):=by
 refine⟨?_,?_⟩
 .rw[Gq,iC];exact ha.1
 .rw[Ft];exact ha.2
def Fit.sub{B C:Nat}{a b:Rat}(ha:Fit B a)(hb:Fit C b):Fit (B+C+1) (a-b):=by
 rw[AJ];exact ha.add hb.neg
def Fit.inv{B:Nat}{a:Rat}(ha:Fit B a):Fit B a⁻¹:=by
 by_cases h:a=0
 .subst h;rw[Rat.inv_zero];exact ha
 .have hn:a.num≠0:=fun e=>h (lM.1 e);refine⟨?_,?_⟩
  .rw[Rat.num_inv,dx,ad5 hn,cH,cZ];exact ha.2
  .rw[Rat.den_inv,aD hn];exact ha.1
def Fit.div{B C:Nat}{a b:Rat}(ha:Fit B a)(hb:Fit C b):Fit (B+C) (a/b):=by
 rw[eJ];exact ha.mul hb.inv
def Fit.zero{B:Nat}(h:1<=B):Fit B 0:=by
 have:=cB (n:=2) O h;exact⟨by show(0:Int).natAbs<_;simp;omega,by show 1<_;omega⟩
def Fit.int{B:Nat}{n:Int}(hB:1<=B)(h:n.natAbs<2^B):Fit B (n:Rat):=by
 have:=cB (n:=2) O hB;exact⟨by rw[jB];exact h,by rw[pF];omega⟩
end Ord
namespace Ord
def bd(n:Nat):List Nat:=(oW 32768 n).reverse
def bv(ds:j3):Nat:=val 32768 ds.reverse
def il(n:Nat):bv (bd n)=n:=by rw[bv,bd,sK,Aj O]
def kr n:DB 32768 (bd n):=(DB.oW O n).rev
def Gg:bd 0=[]:=by rw[bd,eN];rfl
def Jb{n:Nat}:bd n=[]↔n=0:=by
 constructor
 .intro h;have:=congrArg bv h;rw[il]at this;exact this
 .rintro rfl;exact Gg
def Xw n:(bd n).length=(oW 32768 n).length:=by rw[bd,fV]
def Ff(d:Nat)(ds:j3):bv (d::ds)=bv ds+32768^ds.length*d:=by
 rw[bv,zf,lW,val_one,fV];rfl
def Gc(ds:j3)(d:Nat):bv (ds++[d])=bv ds*32768+d:=by
 rw[bv,YT];simp only[zf,List.reverse_nil,List.nil_append,Fu,val];rw[bv];omega
def as0(xs ys:j3):bv (xs++ys)=bv xs*32768^ys.length+bv ys:=by
 rw[bv,YT,lW,fV,cD,iB];rfl
def cq4{ds:j3}(h:DB 32768 ds)(h0:∀d,ds.head? = some d->d≠0):bd (bv ds)=ds:=by
 rw[bd,bv,Ti O _ h.rev,sK];intro d hd;rw[List.getLast?_reverse]at hd;exact h0 d hd
def VW{ds:j3}(h:DB 32768 ds):bv ds<32768^ds.length:=by
 have:=DB.lt O h.rev
 rwa[fV]at this
def HS n:n<32768^(bd n).length:=by rw[Xw];exact oN O n
def cw8{n}(h:n≠0):32768^((bd n).length-1)<=n:=by rw[Xw];exact jb O h
def mA{n k}(h:n<32768^k):(bd n).length<=k:=by rw[Xw];exact mo h
def iD{m n}(h:m<=n):(bd m).length<=(bd n).length:=mA (cV h (HS n))
def TB{n}(h:n<32768:=by omega)(h0:n≠0:=by omega):bd n=[n]:=by
 rw[bd,jU O h0,gk h,gj h,eN];rfl
def Tm n i:((bd n).reverse[i]?).getD 0=n/32768^i%32768:=by
 rw[bd,sK];by_cases hi:i<(oW 32768 n).length
 .rw[aa9 n,Hy _ hi];rfl
 .rw[gm.2 O,Gm,gj,Nat.zero_mod];exact bt (oN O n) (cB O O)
def Fm{ds:j3}{i:Nat}(h:i<ds.length:=by omega):ds[ds.length-1-i]?=ds.reverse[i]?:=by
 rw[FJ h]
def Sq{os:j3}{i z:Nat}(h:i<os.length):os.reverse.set (os.length-1-i) z=(os.set i z).reverse:=by
 apply kd;intro j;rw[Fs];simp only[fV];by_cases hj:j<os.length
 .rw[FJ hj,FJ (by rw[cI];exact hj),Fs,cI];by_cases e:os.length-1-i=j
  .rw[aI e,aI O,aI O,aI O]
  .rw[aD e,aD O]
 .rw[gm.2 iF,gm.2 iF];split
  .split<;>first | rfl | omega
  .rfl
def am6{ds:j3}{d:Nat}(h:ds[0]?=some d):bv ds=bv (ds.drop 1)+32768^(ds.length-1)*d:=by
 cases ds with
 | nil=>simp at h
 | cons x xs=>simp only[nL,Bh]at h;subst h;simp[Ff]
end Ord
