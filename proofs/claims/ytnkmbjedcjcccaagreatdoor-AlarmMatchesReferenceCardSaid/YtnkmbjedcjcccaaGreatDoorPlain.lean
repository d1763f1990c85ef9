/-
  Contracts and plain lemmas. By an AI agent.
-/
import Derived.Lib.ItoaNum
import Derived.Lib.Strings
import Derived.Lib.Atoi
import Derived.Lib.AtoiAll
set_option linter.all false
namespace Go.Num
def num:List Int->Int
 | []=>0
 | d::ds=>d+10000 * num ds
def Dg(xs:List Int):Prop:=∀ d∈xs,0<=d/\d < 10000
def trimL:List Int->List Int
 | []=>[]
 | d::ds=>if d=0/\trimL ds=[] then [] else d::trimL ds
def wg(xs:List Int):Prop:=Dg xs/\trimL xs=xs
theorem qz(xs ys:List Int):num (xs++ys)=num xs+10000 ^ xs.length * num ys:=by
 induction xs with
 | nil=>simp[num]
 | cons d ds ih=>simp only[List.cons_append,num,ih,List.length_cons,Int.pow_succ];grind
theorem num_nonneg{xs:List Int}(h:Dg xs):0<=num xs:=by
 induction xs with
 | nil=>simp[num]
 | cons d ds ih=>
  have h1:=h d (by simp)
  have h2:=ih fun x hx=>h x (by simp[hx])
  simp only[num];omega
theorem C8{xs:List Int}(h:Dg xs):num xs < 10000 ^ xs.length:=by
 induction xs with
 | nil=>simp[num]
 | cons d ds ih=>
  have h1:=h d (by simp)
  have h2:=ih fun x hx=>h x (by simp[hx])
  simp only[num,List.length_cons,Int.pow_succ];omega
theorem m7(xs:List Int):num (trimL xs)=num xs:=by
 induction xs with
 | nil=>rfl
 | cons d ds ih=>
  simp only[trimL]
  split
  ·next h=>rw[h.2]at ih;simp only[num]at ih ⊢;omega
  ·simp only[num,ih]
theorem xT(xs:List Int):trimL (trimL xs)=trimL xs:=by
 induction xs with
 | nil=>rfl
 | cons d ds ih=>
  simp only[trimL]
  split
  ·rfl
  ·next h=>simp only[trimL,ih,h,↓reduceIte]
theorem BV{xs:List Int}{d:Int}(h:d∈trimL xs):d∈xs:=by
 induction xs with
 | nil=>exact h
 | cons x xs ih=>
  simp only[trimL]at h
  split at h
  ·simp at h
  ·rcases List.mem_cons.1 h with h | h
   ·simp[h]
   ·simp[ih h]
theorem wg.trimL{xs:List Int}(h:Dg xs):wg (trimL xs):=⟨fun d hd=>h d (BV hd),xT xs⟩
theorem mz(xs:List Int):trimL (xs++[0])=trimL xs:=by
 induction xs with
 | nil=>rfl
 | cons d ds ih=>simp only[List.cons_append,trimL,ih]
theorem uW{d:Int}(hd:d≠0)(xs:List Int):trimL (xs++[d])=xs++[d]:=by
 induction xs with
 | nil=>simp[trimL,hd]
 | cons x xs ih=>simp[trimL,ih]
theorem wg.tail{d:Int}{ds:List Int}(h:wg (d::ds)):wg ds:=by
 refine⟨fun x hx=>h.1 x (by simp[hx]),?_⟩
 have:=h.2
 simp only[Num.trimL]at this
 split at this
 ·simp at this
 ·simpa using this
theorem wg.pos{xs:List Int}(h:wg xs)(hne:xs≠[]):0 < num xs:=by
 induction xs with
 | nil=>exact absurd rfl hne
 | cons d ds ih=>
  have hd:=h.1 d (by simp)
  by_cases hds:ds=[]
  ·subst hds
   have:=h.2
   simp only[Num.trimL]at this
   by_cases h0:d=0
   ·simp[h0]at this
   ·simp only[num];omega
  ·have:=ih h.tail hds
   simp only[num];omega
theorem wg.ge{xs:List Int}(h:wg xs)(hne:xs≠[]):10000 ^ (xs.length - 1)<=num xs:=by
 induction xs with
 | nil=>exact absurd rfl hne
 | cons d ds ih=>
  have hd:=h.1 d (by simp)
  by_cases hds:ds=[]
  ·subst hds
   have:=h.pos (by simp)
   simp only[num,List.length_cons,List.length_nil]at this ⊢
   simp at this ⊢;omega
  ·have:=ih h.tail hds
   obtain⟨x,xs,rfl⟩:=List.exists_cons_of_ne_nil hds
   simp only[List.length_cons,Nat.add_sub_cancel]at this ⊢
   rw[Int.pow_succ]
   simp only[num]at this ⊢;omega
theorem pow_mono{a b:Nat}(h:a<=b):(10000:Int) ^ a<=10000 ^ b:=by
 obtain⟨k,rfl⟩:=Nat.exists_eq_add_of_le h
 induction k with
 | zero=>simp
 | succ k ih=>
  have:=ih (by omega)
  rw[<-Nat.add_assoc,Int.pow_succ]
  have h0:(0:Int) < 10000 ^ (a+k):=Int.pow_pos (by decide)
  omega
theorem wg.len{xs:List Int}(h:wg xs){k:Nat}(hk:num xs < 10000 ^ k):xs.length<=k:=by
 by_cases hne:xs=[]
 ·subst hne;simp
 ·have h1:=h.ge hne
  refine Classical.byContradiction fun hc=>?_
  have:=pow_mono (a:=k) (b:=xs.length - 1) (by omega)
  omega
def ux(D:Nat->Int):Nat->Int
 | 0=>0
 | n+1=>ux D n+D n * 10000 ^ n
theorem EF{D:Nat->Int}{n:Nat}(h:∀ i,n<=i->D i=0){m:Nat}(hm:n<=m):ux D m=ux D n:=by
 obtain⟨k,rfl⟩:=Nat.exists_eq_add_of_le hm
 induction k with
 | zero=>rfl
 | succ k ih=>rw[<-Nat.add_assoc];simp only[ux];rw[ih (by omega),h (n+k) (by omega)];omega
def uX(xs:List Int)(i:Nat):Int:=xs[i]?.getD 0
theorem EG(xs:List Int)(n:Nat):ux (uX xs) n=num (xs.take n):=by
 induction n with
 | zero=>simp[ux,num]
 | succ n ih=>
  simp only[ux,ih]
  rw[List.take_add_one,qz]
  unfold uX
  by_cases h:n < xs.length
  ·rw[List.getElem?_eq_getElem h]
   simp only[Option.getD_some,Option.toList_some,num,List.length_take,Nat.min_eq_left (Nat.le_of_lt h)]
   rw[Int.mul_comm];simp
  ·rw[List.getElem?_eq_none (by omega)]
   simp[num]
theorem wh{xs:List Int}{n:Nat}(h:xs.length<=n):ux (uX xs) n=num xs:=by
 rw[EG,List.take_of_length_le h]
theorem MH(D E:Nat->Int)(n:Nat):ux (fun i=>D i+E i) n=ux D n+ux E n:=by
 induction n with
 | zero=>rfl
 | succ n ih=>simp only[ux,ih,Int.add_mul];omega
theorem MI(D E:Nat->Int)(n:Nat):ux (fun i=>D i - E i) n=ux D n - ux E n:=by
 induction n with
 | zero=>rfl
 | succ n ih=>simp only[ux,ih,Int.sub_mul];omega
theorem MJ(D:Nat->Int)(k:Int)(n:Nat):ux (fun i=>D i * k) n=ux D n * k:=by
 induction n with
 | zero=>simp[ux]
 | succ n ih=>simp only[ux,ih,Int.add_mul];grind
theorem iJ{xs:List Int}(h:Dg xs)(i:Nat):0<=uX xs i/\uX xs i < 10000:=by
 unfold uX
 cases hx:xs[i]? with
 | none=>simp
 | some d=>exact h d (List.mem_of_getElem? hx)
theorem wj{xs:List Int}{i:Nat}(h:xs.length<=i):uX xs i=0:=by unfold uX;rw[List.getElem?_eq_none h];rfl
theorem wY(xs:List Int)(i:Nat)(h:i<=xs.length):num xs=num (xs.take i)+10000 ^ i * num (xs.drop i):=by
 conv=>lhs;rw[<-List.take_append_drop i xs]
 rw[qz,List.length_take,Nat.min_eq_left h]
theorem Dg.take{xs:List Int}(h:Dg xs)(i:Nat):Dg (xs.take i):=fun d hd=>h d (List.mem_of_mem_take hd)
theorem Dg.drop{xs:List Int}(h:Dg xs)(i:Nat):Dg (xs.drop i):=fun d hd=>h d (List.mem_of_mem_drop hd)
theorem BW{xs ys:List Int}(hx:Dg xs)(hy:Dg ys){i:Nat}(h1:i < xs.length)(h2:i < ys.length)(hd:xs.drop (i+1)=ys.drop (i+1))(hlt:xs[i] < ys[i]):num xs < num ys:=by
 rw[wY xs i (by omega),wY ys i (by omega),List.drop_eq_getElem_cons h1,List.drop_eq_getElem_cons h2,hd]
 simp only[num]
 have a1:=C8 (hx.take i)
 have a2:=num_nonneg (hy.take i)
 rw[List.length_take,Nat.min_eq_left (by omega)]at a1
 have hp:(0:Int) < 10000 ^ i:=Int.pow_pos (by decide)
 obtain⟨k,hk⟩:∃ k,ys[i]=xs[i]+1+k/\0<=k:=⟨ys[i] - xs[i] - 1,by omega,by omega⟩
 rw[hk.1]
 have:(10000:Int) ^ i * (xs[i]+1+k+10000 * num (ys.drop (i+1)))=10000 ^ i * (xs[i]+10000 * num (ys.drop (i+1)))+10000 ^ i+10000 ^ i * k:=by grind
 rw[this]
 have:=Int.mul_nonneg (Int.le_of_lt hp) hk.2
 omega
theorem wg.lt_of_len{xs ys:List Int}(hx:wg xs)(hy:wg ys)(h:xs.length < ys.length):num xs < num ys:=by
 have h1:=C8 hx.1
 have h2:=hy.ge (by intro hc;subst hc;simp at h)
 have:=pow_mono (a:=xs.length) (b:=ys.length - 1) (by omega)
 omega
theorem wg.cons{d:Int}{xs:List Int}(h:wg xs)(hne:xs≠[])(h0:0<=d)(h1:d < 10000):wg (d::xs):=by
 refine⟨fun x hx=>?_,?_⟩
 ·rcases List.mem_cons.1 hx with rfl | hx
  ·exact⟨h0,h1⟩
  ·exact h.1 x hx
 ·simp only[Num.trimL,h.2]
  rw[if_neg fun hc=>hne hc.2]
theorem EH{xs:List Int}(h:Dg xs)(i:Nat):num (xs.drop i)<=num xs:=by
 by_cases hi:i<=xs.length
 ·rw[wY xs i hi]
  have h1:=num_nonneg (h.take i)
  have h2:=num_nonneg (h.drop i)
  have hp:(0:Int) < 10000 ^ i:=Int.pow_pos (by decide)
  have:num (xs.drop i) * 1<=num (xs.drop i) * 10000 ^ i:=Int.mul_le_mul_of_nonneg_left (by omega) h2
  rw[Int.mul_comm]at this
  rw[Int.mul_comm (10000 ^ i)]
  omega
 ·rw[List.drop_of_length_le (by omega)];exact num_nonneg h
open Go.Lib
theorem C9{α:Type}{p:List α->Prop}(l:List α)(nil:p [])(append_singleton:∀ l a,p l->p (l++[a])):p l:=by
 have h:∀ m:List α,p m.reverse:=by
  intro m
  induction m with
  | nil=>exact nil
  | cons a m ih=>rw[List.reverse_cons];exact append_singleton _ _ ih
 simpa using h l.reverse
theorem Ao{α:Type}{l:List α}(m:List α)(h:l≠[]):(l++m).head?=l.head?:=by
 cases l with
 | nil=>exact absurd rfl h
 | cons a l=>rfl
def lG(b:UInt8):Prop:=48<=b.toNat/\b.toNat<=57
instance (b:UInt8):Decidable (lG b):=by unfold lG;infer_instance
def dv(l:List UInt8):Nat:=l.foldl (fun a b=>a * 10+(b.toNat - 48)) 0
theorem oC(l:List UInt8)(b:UInt8):dv (l++[b])=dv l * 10+(b.toNat - 48):=by simp[dv,List.foldl_append]
theorem na(l m:List UInt8):dv (l++m)=dv l * 10 ^ m.length+dv m:=by
 induction m using C9 with
 | nil=>simp[dv]
 | append_singleton m b ih=>
  rw[<-List.append_assoc,oC,ih,oC]
  simp only[List.length_append,List.length_cons,List.length_nil,Nat.pow_succ]
  grind
theorem Ga{α:Type}(l:List α):l=[]\/∃ m b,l=m++[b]:=by
 rcases List.eq_nil_or_concat l with h | ⟨m,b,h⟩
 ·exact .inl h
 ·exact .inr ⟨m,b,by simpa using h⟩
theorem jp{d:Nat}(h:d < 10):(UInt8.ofNat (48+d)).toNat=48+d:=by
 simp only[UInt8.toNat_ofNat'];omega
theorem jD{u:Nat}(h:u < 10):decDigits u=[UInt8.ofNat (48+u)]:=by rw[decDigits,dif_pos h]
theorem uY{u:Nat}(h:¬u < 10):decDigits u=decDigits (u / 10)++[UInt8.ofNat (48+u % 10)]:=by rw[decDigits,dif_neg h]
theorem sU(u:Nat):decDigits u≠[]:=by
 by_cases h:u < 10
 ·rw[jD h];simp
 ·rw[uY h];simp
theorem oD(u:Nat):∀ b∈decDigits u,lG b:=by
 induction u using Nat.strongRecOn with
 | _ u ih=>
  by_cases h:u < 10
  ·rw[jD h]
   intro b hb
   simp only[List.mem_singleton]at hb
   subst hb
   unfold lG;rw[jp h];omega
  ·rw[uY h]
   intro b hb
   rcases List.mem_append.1 hb with hb | hb
   ·exact ih _ (by omega) b hb
   ·simp only[List.mem_singleton]at hb
    subst hb
    unfold lG;rw[jp (by omega)];omega
theorem uZ(u:Nat):dv (decDigits u)=u:=by
 induction u using Nat.strongRecOn with
 | _ u ih=>
  by_cases h:u < 10
  ·rw[jD h]
   simp only[dv,List.foldl_cons,List.foldl_nil,jp h];omega
  ·rw[uY h,oC,ih _ (by omega),jp (by omega)];omega
theorem NC{l:List UInt8}(h:∀ b∈l,lG b):dv l < 10 ^ l.length:=by
 induction l using C9 with
 | nil=>simp[dv]
 | append_singleton l b ih=>
  have h1:=ih fun x hx=>h x (by simp[hx])
  have h2:=h b (by simp)
  unfold lG at h2
  rw[oC]
  simp only[List.length_append,List.length_cons,List.length_nil,Nat.pow_succ]
  omega
theorem sV{a b:UInt8}(h:a.toNat=b.toNat):a=b:=UInt8.toNat_inj.1 h
theorem Ap{l:List UInt8}(h:∀ b∈l,lG b)(hne:l≠[])(hh:l.length=1\/l.head?≠some 48):decDigits (dv l)=l:=by
 induction l using C9 with
 | nil=>exact absurd rfl hne
 | append_singleton l b ih=>
  have h2:=h b (by simp)
  unfold lG at h2
  have hb:UInt8.ofNat (48+(b.toNat - 48))=b:=sV (by rw[jp (by omega)];omega)
  rw[oC]
  by_cases hl:l=[]
  ·subst hl
   rw[show dv []=0 from rfl,jD (by omega)]
   simp only[Nat.zero_mul,Nat.zero_add,hb,List.nil_append]
  ·have hhl:l.head?≠some 48:=by
    rcases hh with hh | hh
    ·exact absurd (by simpa using hh) hl
    ·rw[Ao _ hl]at hh;exact hh
   have ih':=ih (fun x hx=>h x (by simp[hx])) hl (.inr hhl)
   have hpos:0 < dv l:=by
    refine Nat.pos_of_ne_zero fun hc=>?_
    rw[hc,jD (by decide)]at ih'
    rw[<-ih']at hhl
    exact hhl rfl
   rw[uY (by omega),show(dv l * 10+(b.toNat - 48)) / 10=dv l from by omega,show(dv l * 10+(b.toNat - 48)) % 10=b.toNat - 48 from by omega,ih',hb]
theorem Aq{u:Nat}(h:u≠0):(decDigits u).head?≠some 48:=by
 induction u using Nat.strongRecOn with
 | _ u ih=>
  by_cases h1:u < 10
  ·rw[jD h1]
   intro hc
   simp only[List.head?_cons,Option.some.injEq]at hc
   have:=congrArg UInt8.toNat hc
   rw[jp h1]at this
   have h3:(48:UInt8).toNat=48:=rfl
   omega
  ·rw[uY h1,Ao _ (sU _)]
   exact ih _ (by omega) (by omega)
theorem mX{u k:Nat}(hk:1<=k):(decDigits u).length<=k↔u < 10 ^ k:=by
 constructor
 ·intro h
  have h1:=NC (oD u)
  rw[uZ]at h1
  exact Nat.lt_of_lt_of_le h1 (Nat.pow_le_pow_right (by decide) h)
 ·intro h
  induction k generalizing u with
  | zero=>omega
  | succ k ih=>
   by_cases h1:u < 10
   ·rw[jD h1];simp
   ·rw[uY h1]
    have hk:1<=k:=by
     refine Nat.pos_of_ne_zero fun hc=>?_
     subst hc;simp at h;omega
    have:=ih (u:=u / 10) hk (by rw[Nat.pow_succ]at h;omega)
    simp;omega
theorem MK{a d:Nat}(ha:0 < a){k:Nat}(hd:d < 10 ^ k)(hk:1<=k):decDigits (a * 10 ^ k+d)=decDigits a++(List.replicate (k - (decDigits d).length) 48++decDigits d):=by
 have hl:=(mX hk).2 hd
 rw[<-Ap (l:=decDigits a++(List.replicate (k - (decDigits d).length) 48++decDigits d))]
 ·congr 1
  have h0:∀ n,dv (List.replicate n 48)=0:=by
   intro n
   induction n with
   | zero=>rfl
   | succ n ih=>rw[List.replicate_succ',oC,ih];rfl
  rw[na,uZ,na,h0,uZ]
  simp only[List.length_append,List.length_replicate]
  rw[show k - (decDigits d).length+(decDigits d).length=k from by omega]
  omega
 ·intro b hb
  rcases List.mem_append.1 hb with hb | hb
  ·exact oD a b hb
  ·rcases List.mem_append.1 hb with hb | hb
   ·rw[List.mem_replicate]at hb
    rw[hb.2];decide
   ·exact oD d b hb
 ·simp[sU]
 ·right
  rw[Ao _ (sU _)]
  exact Aq (by omega)
@[irreducible] def cr:Nat:=10 ^ 200
def cI(s:List UInt8):Bool:=
 decide ((trimPrefix s [45]≠[]/\(trimPrefix s [45]).length<=200/\∀ b∈trimPrefix s [45],lG b)/\(s=[48]\/(trimPrefix s [45]).head?≠some 48))
theorem Ar(l:List UInt8):trimPrefix (45::l) [45]=l:=by simp[trimPrefix,hasPrefix]
theorem Au{l:List UInt8}(h:l.head?≠some 45):trimPrefix l [45]=l:=by
 cases l with
 | nil=>simp[trimPrefix,hasPrefix]
 | cons a l=>
  have:a≠45:=by simpa using h
  simp[trimPrefix,hasPrefix,this.symm]
theorem qA(u:Nat):(decDigits u).head?≠some 45:=by
 intro hc
 have:=oD u 45 (List.mem_of_mem_head? hc)
 revert this;decide
theorem wZ(z:Int):trimPrefix (itoa z) [45]=decDigits z.natAbs:=by
 unfold itoa
 split
 ·exact Ar _
 ·rw[Au (qA _)]
  congr 1;omega
theorem lH(z:Int):cI (itoa z)=decide (z.natAbs < cr):=by
 unfold cI
 rw[wZ]
 rw[decide_eq_decide]
 have h1:=sU z.natAbs
 have h2:=oD z.natAbs
 have h3:(decDigits z.natAbs).length<=200↔z.natAbs < cr:=by unfold cr;exact mX (by decide)
 have h4:itoa z=[48]\/(decDigits z.natAbs).head?≠some 48:=by
  by_cases hz:z=0
  ·left;subst hz;unfold itoa;rw[if_neg (by decide)];exact jD (by decide)
  ·right;exact Aq (by omega)
 constructor
 ·exact fun h=>h3.1 h.1.2.1
 ·exact fun h=>⟨⟨h1,h3.2 h,h2⟩,h4⟩
theorem kO{s:List UInt8}(h:cI s=true):∃ z:Int,z.natAbs < cr/\s=itoa z:=by
 have h':=h
 unfold cI at h
 obtain⟨⟨h1,h2,h3⟩,h4⟩:=of_decide_eq_true h
 by_cases hs:s.head?=some 45
 ·obtain⟨l,rfl⟩:∃ l,s=45::l:=by
   cases s with
   | nil=>simp at hs
   | cons a l=>simp at hs;exact⟨l,by rw[hs]⟩
  rw[Ar]at h1 h2 h3 h4
  have h5:l.head?≠some 48:=by
   rcases h4 with h4 | h4
   ·simp at h4
   ·exact h4
  have h6:=Ap h3 h1 (.inr h5)
  have h7:0 < dv l:=by
   refine Nat.pos_of_ne_zero fun hc=>?_
   rw[hc,jD (by decide)]at h6
   rw[<-h6]at h5;exact h5 rfl
  have h8:45::l=itoa (-(dv l:Int)):=by
   unfold itoa
   rw[if_pos (by omega),show(-(dv l:Int)).natAbs=dv l from by omega,h6]
  refine⟨_,?_,h8⟩
  rw[h8,lH]at h'
  exact of_decide_eq_true h'
 ·rw[Au hs]at h1 h2 h3 h4
  have h6:=Ap h3 h1 (by
   rcases h4 with h4 | h4
   ·left;rw[h4];rfl
   ·exact .inr h4)
  have h8:s=itoa (dv s:Int):=by
   unfold itoa
   rw[if_neg (by omega),Int.toNat_natCast,h6]
  refine⟨_,?_,h8⟩
  rw[h8,lH]at h'
  exact of_decide_eq_true h'
theorem js{x y:Int}(h:itoa x=itoa y):x=y:=by
 have h1:=congrArg (fun l=>dv (trimPrefix l [45])) h
 simp only[wZ,uZ]at h1
 have h2:=congrArg List.head? h
 by_cases hx:x < 0
 ·by_cases hy:y < 0
  ·omega
  ·unfold itoa at h2
   rw[if_pos hx,if_neg hy]at h2
   exact absurd h2.symm (qA _)
 ·by_cases hy:y < 0
  ·unfold itoa at h2
   rw[if_neg hx,if_pos hy]at h2
   exact absurd h2 (qA _)
  ·omega
theorem Gb(l:List UInt8)(h:∀ b∈l,lG b)(acc:Nat):decFrom acc l=some (acc * 10 ^ l.length+dv l):=by
 induction l generalizing acc with
 | nil=>simp[decFrom,dv]
 | cons b r ih=>
  have hb:=h b (by simp)
  have hdv:digitVal b=some (b.toNat - 48):=by unfold digitVal;unfold lG at hb;rw[if_pos hb]
  rw[decFrom,hdv]
  simp only
  rw[ih (fun x hx=>h x (by simp[hx]))]
  have:dv (b::r)=dv [b] * 10 ^ r.length+dv r:=na [b] r
  rw[this]
  have h1:dv [b]=b.toNat - 48:=by simp[dv]
  rw[h1]
  simp only[List.length_cons,Nat.pow_succ]
  congr 1
  grind
theorem ML{l:List UInt8}(h:∀ b∈l,lG b)(hne:l≠[]):atoi l=some (dv l:Int):=by
 cases l with
 | nil=>exact absurd rfl hne
 | cons b r=>
  have hb:=h b (by simp)
  unfold lG at hb
  have h1:(b == 45)=false:=by
   rw[beq_eq_false_iff_ne];rintro rfl;revert hb;decide
  have h2:(b == 43)=false:=by
   rw[beq_eq_false_iff_ne];rintro rfl;revert hb;decide
  unfold atoi
  simp only[h1,h2]
  unfold decNat
  have:=Gb (b::r) h 0
  simp[this]
theorem PH{D:List UInt8}{k f:Nat}(hk:k<=D.length)(hf:f<=k):dv (D.drop f)=dv ((D.take k).drop f) * 10 ^ (D.length - k)+dv (D.drop k):=by
 have:D.drop f=(D.take k).drop f++D.drop k:=by
  have h1:D=D.take k++D.drop k:=(List.take_append_drop k D).symm
  conv=>lhs;rw[h1]
  rw[List.drop_append_of_le_length (by simp;omega)]
 rw[this,na]
 simp
theorem KF(xs:List Int)(n:Int):num (xs++[n])=num xs+10000 ^ xs.length * n:=by
 rw[qz];simp[num]
theorem Da(b:UInt8)(r:List UInt8):dv (b::r)=(b.toNat - 48) * 10 ^ r.length+dv r:=by
 have:dv (b::r)=dv [b] * 10 ^ r.length+dv r:=na [b] r
 rw[this];simp[dv]
theorem KG(l:List UInt8)(h:∀ b∈l,lG b)(acc:Nat)(ha:acc < 18446744073709551616):
 parseUint10 acc l=if acc * 10 ^ l.length+dv l < 18446744073709551616 then .ok (acc * 10 ^ l.length+dv l) else .range:=by
 induction l generalizing acc with
 | nil=>simp[parseUint10,dv,ha]
 | cons b r ih=>
  have hb:=h b (by simp)
  have hb':=hb
  unfold lG at hb'
  have hp:1<=10 ^ r.length:=Nat.one_le_pow _ _ (by decide)
  have hv:acc * 10 ^ (b::r).length+dv (b::r)=(acc * 10+(b.toNat - 48)) * 10 ^ r.length+dv r:=by
   rw[Da];simp only[List.length_cons,Nat.pow_succ];grind
  have hge:acc * 10+(b.toNat - 48)<=(acc * 10+(b.toNat - 48)) * 10 ^ r.length:=Nat.le_mul_of_pos_right _ hp
  rw[hv,parseUint10,if_pos hb']
  split
  ·rw[if_neg (by omega)]
  ·split
   ·rw[if_neg (by omega)]
   ·exact ih (fun x hx=>h x (by simp[hx])) _ (by omega)
theorem kP(z:Int):atoiAll (itoa z)=if -9223372036854775808<=z/\z<=9223372036854775807 then .ok z else .range:=by
 have hD:=oD z.natAbs
 have hne:=sU z.natAbs
 have hpm:parseMag (decDigits z.natAbs)=if z.natAbs < 18446744073709551616 then .ok z.natAbs else .range:=by
  unfold parseMag
  rw[if_neg hne,KG _ hD 0 (by decide),uZ]
  simp
 by_cases hz:z < 0
 ·have hi:itoa z=45::decDigits z.natAbs:=by unfold itoa;rw[if_pos hz]
  rw[hi]
  unfold atoiAll
  simp only[show(45:UInt8).toNat=45 from rfl,or_true,if_true,hpm]
  by_cases h1:z.natAbs < 18446744073709551616
  ·rw[if_pos h1]
   simp only[not_true,false_and,if_false,true_and,if_true]
   by_cases h2:9223372036854775808 < z.natAbs
   ·rw[if_pos h2,if_neg (by omega)]
   ·rw[if_neg h2,if_pos (by omega)]
    congr 1;omega
  ·rw[if_neg h1]
   simp only
   rw[if_neg (by omega)]
 ·have hi:itoa z=decDigits z.natAbs:=by unfold itoa;rw[if_neg hz,show z.toNat=z.natAbs from by omega]
  rw[hi]
  obtain⟨c,r,hcr⟩:=List.exists_cons_of_ne_nil hne
  have hc:=hD c (by rw[hcr];simp)
  unfold lG at hc
  rw[hcr]at hpm ⊢
  unfold atoiAll
  simp only
  rw[if_neg (by omega:¬(c.toNat=43\/c.toNat=45)),hpm]
  have h45:¬c.toNat=45:=by omega
  by_cases h1:z.natAbs < 18446744073709551616
  ·rw[if_pos h1]
   simp only[h45,not_false_eq_true,true_and,false_and,if_false]
   by_cases h2:9223372036854775808<=z.natAbs
   ·rw[if_pos h2,if_neg (by omega)]
   ·rw[if_neg h2,if_pos (by omega)]
    congr 1;omega
  ·rw[if_neg h1]
   simp only
   rw[if_neg (by omega)]
structure Fr(p q:Int):Prop where
 hp:p.natAbs < cr
 q0:0 < q
 hq:q.natAbs < cr
 hg:Int.gcd p q=1
def dU(d n:Int):Int:=if d < 0 then -n else n
def ND(n d:Int):Int:=dU d n / (Int.gcd n d:Int)
def H2(n d:Int):Int:=dU d d / (Int.gcd n d:Int)
theorem lI(d n:Int):(dU d n).natAbs=n.natAbs:=by unfold dU;split <;> omega
theorem H3{d:Int}(h:d≠0):0 < dU d d:=by unfold dU;split <;> omega
theorem pN(n d:Int):Int.gcd (dU d n) (dU d d)=Int.gcd n d:=by
 unfold dU;split
 ·rw[Int.gcd_neg,Int.neg_gcd]
 ·rfl
theorem KH(n d:Int):(Int.gcd n d:Int) ∣ dU d n:=by
 have:=Int.gcd_dvd_left (dU d n) (dU d d);rwa [pN]at this
theorem KI(n d:Int):(Int.gcd n d:Int) ∣ dU d d:=by
 have:=Int.gcd_dvd_right (dU d n) (dU d d);rwa [pN]at this
theorem mc{n d:Int}(hd:d≠0):(0:Int) < (Int.gcd n d:Int):=by
 have:=Int.gcd_pos_iff.2 (.inr hd:n≠0\/d≠0);omega
theorem yP(n d:Int):ND n d * (Int.gcd n d:Int)=dU d n:=Int.ediv_mul_cancel (KH n d)
theorem wk(n d:Int):H2 n d * (Int.gcd n d:Int)=dU d d:=Int.ediv_mul_cancel (KI n d)
theorem KJ{n d:Int}(hd:d≠0):ND n d * d=n * H2 n d:=by
 have hg:=mc (n:=n) hd
 have e1:=yP n d
 have e2:=wk n d
 have key:dU d n * d=n * dU d d:=by unfold dU;split <;> simp[Int.neg_mul,Int.mul_neg]
 rw[<-e1,<-e2]at key
 refine Int.eq_of_mul_eq_mul_right (a:=(Int.gcd n d:Int)) (by omega) ?_
 rw[Int.mul_right_comm,key,Int.mul_assoc]
theorem Db{n d:Int}(hd:d≠0):0 < H2 n d:=by
 have hg:=mc (n:=n) hd
 have e2:=wk n d
 have h:=H3 hd
 rw[<-e2]at h
 exact Int.pos_of_mul_pos_left h hg
theorem lQ{a g s:Int}(hg:0 < g)(h:a * g=s):a.natAbs<=s.natAbs:=by
 rw[<-h,Int.natAbs_mul]
 exact Nat.le_mul_of_pos_right _ (by omega)
theorem KL{n d:Int}(hd:d≠0):Int.gcd (ND n d) (H2 n d)=1:=by
 have hg:=mc (n:=n) hd
 have h:=pN n d
 rw[<-yP n d,<-wk n d,Int.gcd_mul_right]at h
 simp only[Int.natAbs_natCast]at h
 exact Nat.eq_of_mul_eq_mul_right (by omega:0 < Int.gcd n d) (by rw[h];simp)
theorem RQ{n d:Int}(hn:n.natAbs < cr)(hd:d.natAbs < cr)(h0:d≠0):Fr (ND n d) (H2 n d):=by
 have hg:=mc (n:=n) h0
 have h1:=lQ hg (yP n d)
 have h2:=lQ hg (wk n d)
 rw[lI]at h1 h2
 exact⟨by omega,Db h0,by omega,KL h0⟩
theorem wl{p q p' q':Int}(g:Int.gcd p q=1)(h:p * q'=p' * q):q ∣ q':=by
 have h1:q.natAbs ∣ p.natAbs * q'.natAbs:=by
  rw[<-Int.natAbs_mul,h,Int.natAbs_mul];exact Nat.dvd_mul_left _ _
 have h2:Nat.Coprime q.natAbs p.natAbs:=by
  show Nat.gcd _ _=1
  rw[Nat.gcd_comm];exact g
 exact Int.natAbs_dvd_natAbs.1 (h2.dvd_of_dvd_mul_left h1)
theorem Hg{p q p' q':Int}(hq:0 < q)(hq':0 < q')(g:Int.gcd p q=1)(g':Int.gcd p' q'=1)(h:p * q'=p' * q):p=p'/\q=q':=by
 have e:q=q':=Int.dvd_antisymm (by omega) (by omega) (wl g h) (wl g' h.symm)
 subst e
 exact⟨Int.eq_of_mul_eq_mul_right (by omega) h,rfl⟩
theorem KM{p q:Int}(hq:0 < q)(g:Int.gcd p q=1):ND p q=p/\H2 p q=q:=by
 unfold ND H2 dU
 rw[if_neg (by omega),if_neg (by omega),g]
 simp
theorem wm{p q p' q':Int}(hq:0 < q)(hq':0 < q')(h:p / q < p' / q'):p * q' < p' * q:=by
 have h1:=Int.mul_ediv_add_emod p q
 have h2:=Int.emod_lt_of_pos p hq
 have h3:=Int.mul_ediv_add_emod p' q'
 have h4:=Int.emod_nonneg p' (show q'≠0 by omega)
 have a1:p < q * (p / q+1):=by rw[Int.mul_add,Int.mul_one];omega
 have a2:q' * (p' / q')<=p':=by omega
 have b1:p * q' < q * (p / q+1) * q':=Int.mul_lt_mul_of_pos_right a1 hq'
 have b2:q' * (p' / q') * q<=p' * q:=Int.mul_le_mul_of_nonneg_right a2 (Int.le_of_lt hq)
 have b3:q * (p / q+1) * q'<=q' * (p' / q') * q:=by
  have:q * q' * (p / q+1)<=q * q' * (p' / q'):=Int.mul_le_mul_of_nonneg_left (by omega) (Int.le_of_lt (Int.mul_pos hq hq'))
  calc q * (p / q+1) * q'=q * q' * (p / q+1):=by grind
   _<=q * q' * (p' / q'):=this
   _=_:=by grind
 omega
theorem H4{p q p' q':Int}(h:p / q=p' / q'):p * q' - p' * q=(p % q) * q' - (p' % q') * q:=by
 have h1:=Int.mul_ediv_add_emod p q
 have h3:=Int.mul_ediv_add_emod p' q'
 rw[<-h]at h3
 generalize p / q=u at h1 h3
 generalize p % q=r at h1 ⊢
 generalize p' % q'=s at h3 ⊢
 subst h1;subst h3
 grind
theorem xd(x:Rat):(x.den:Rat)≠0:=by
 have:=x.den_nz
 exact_mod_cast this
theorem mY(x:Rat):(x.num:Rat) / (x.den:Rat)=x:=by
 have h:=Rat.num_divInt_den x
 rw[Rat.divInt_eq_div]at h
 exact_mod_cast h
theorem yQ(x:Rat):Int.gcd x.num (x.den:Int)=1:=x.reduced
theorem KN{d:Int}(h:d≠0):(d:Rat)≠0:=by exact_mod_cast h
theorem H5{a b c d:Int}(hb:b≠0)(hd:d≠0)(h:(a:Rat) / b=(c:Rat) / d):a * d=c * b:=by
 have h1:=KN hb
 have h2:=KN hd
 have:(a:Rat) * d=c * b:=by
  rw[Rat.div_def,Rat.div_def]at h
  grind
 exact_mod_cast this
theorem den_pos(x:Rat):(0:Int) < (x.den:Int):=by have:=x.den_nz;omega
theorem KO(x:Rat):(x.num:Rat) / ((x.den:Int):Rat)=x:=by have:=mY x;exact_mod_cast this
theorem Av{n d:Int}(hd:d≠0):((n:Rat) / d).num=ND n d/\((((n:Rat) / d).den:Nat):Int)=H2 n d:=by
 have hq:=den_pos ((n:Rat) / d)
 refine Hg hq (Db hd) (yQ _) (KL hd) ?_
 have h1:(((n:Rat) / d).num:Rat) / ((((n:Rat) / d).den:Int):Rat)=(n:Rat) / d:=KO _
 have h2:=H5 (by omega) hd h1
 have h3:=KJ (n:=n) hd
 have h4:=Db (n:=n) hd
 refine Int.eq_of_mul_eq_mul_right (a:=d) hd ?_
 calc ((n:Rat) / d).num * H2 n d * d=(((n:Rat) / d).num * d) * H2 n d:=by grind
  _=(n * (((n:Rat) / d).den:Int)) * H2 n d:=by rw[h2]
  _=(n * H2 n d) * (((n:Rat) / d).den:Int):=by grind
  _=_:=by rw[<-h3];grind
theorem Fr.rat{p q:Int}(h:Fr p q):((p:Rat) / q).num=p/\((((p:Rat) / q).den:Nat):Int)=q:=by
 have h0:=h.q0
 obtain⟨h1,h2⟩:=Av (n:=p) (d:=q) (by omega)
 obtain⟨h3,h4⟩:=KM h.q0 h.hg
 rw[h3]at h1;rw[h4]at h2
 exact⟨h1,h2⟩
structure RB(x:Rat):Prop where
 n:x.num.natAbs < cr
 d:((x.den:Nat):Int).natAbs < cr
theorem Fr.rb{p q:Int}(h:Fr p q):RB ((p:Rat) / q):=by
 obtain⟨h1,h2⟩:=h.rat
 exact⟨by rw[h1];exact h.hp,by rw[h2];exact h.hq⟩
theorem Gc{n d:Int}(hn:n.natAbs < cr)(hd:d.natAbs < cr)(h0:d≠0):RB ((n:Rat) / d):=by
 obtain⟨h1,h2⟩:=Av (n:=n) h0
 have h:=RQ hn hd h0
 exact⟨by rw[h1];exact h.hp,by rw[h2];exact h.hq⟩
theorem Dc{x y:Rat}(h1:x.num=y.num)(h2:x.den=y.den):x=y:=by
 rw[<-mY x,<-mY y,h1,h2]
theorem Hh(x y:Rat):(((x.num * (y.den:Int)+y.num * (x.den:Int)):Int):Rat) / (((x.den:Int) * (y.den:Int):Int):Rat)=x+y:=by
 have h1:=xd x
 have h2:=xd y
 have e1:=mY x
 have e2:=mY y
 push_cast
 generalize (x.num:Rat)=a at *
 generalize (y.num:Rat)=b at *
 generalize (x.den:Rat)=c at *
 generalize (y.den:Rat)=d at *
 subst e1;subst e2
 grind
theorem Hi(x y:Rat):(((x.num * (y.den:Int) - y.num * (x.den:Int)):Int):Rat) / (((x.den:Int) * (y.den:Int):Int):Rat)=x - y:=by
 have h1:=xd x
 have h2:=xd y
 have e1:=mY x
 have e2:=mY y
 push_cast
 generalize (x.num:Rat)=a at *
 generalize (y.num:Rat)=b at *
 generalize (x.den:Rat)=c at *
 generalize (y.den:Rat)=d at *
 subst e1;subst e2
 grind
theorem Hj(x y:Rat):(((x.num * y.num):Int):Rat) / (((x.den:Int) * (y.den:Int):Int):Rat)=x * y:=by
 have h1:=xd x
 have h2:=xd y
 have e1:=mY x
 have e2:=mY y
 push_cast
 generalize (x.num:Rat)=a at *
 generalize (y.num:Rat)=b at *
 generalize (x.den:Rat)=c at *
 generalize (y.den:Rat)=d at *
 subst e1;subst e2
 grind
theorem RR(x y:Rat):x < y↔x.num * (y.den:Int) < y.num * (x.den:Int):=Rat.lt_iff x y
theorem TP(x y:Rat):x=y↔x.num * (y.den:Int)=y.num * (x.den:Int):=by
 constructor
 ·rintro rfl;rfl
 ·intro h
  obtain⟨h1,h2⟩:=Hg (den_pos x) (den_pos y) (yQ x) (yQ y) h
  exact Dc h1 (by omega)
theorem PJ{n d:Int}(hd:d≠0):((n:Rat) / d).num.natAbs<=n.natAbs:=by
 rw[(Av (n:=n) hd).1,<-lI d n]
 exact lQ (mc (n:=n) hd) (yP n d)
theorem PK{n d:Int}(hd:d≠0):((((n:Rat) / d).den:Nat):Int).natAbs<=d.natAbs:=by
 rw[(Av (n:=n) hd).2,<-lI d d]
 exact lQ (mc (n:=n) hd) (wk n d)
theorem sW(x y:Rat):(x.den:Int) * (y.den:Int)≠0:=Int.mul_ne_zero (Int.ne_of_gt (den_pos x)) (Int.ne_of_gt (den_pos y))
end Go.Num
namespace Go.Num
abbrev El:=Rat×Rat
def kept:Nat->List El->List El
 | _,[]=>[]
 | k,e::l=>if k % 2=1 then e::kept (k / 2) l else kept (k / 2) l
def wt:Nat->List El->Rat
 | _,[]=>1
 | k,e::l=>(if k % 2=1 then e.2 else 1 - e.2) * wt (k / 2) l
def mA:Nat->(Nat->Rat)->Rat
 | 0,_=>0
 | n+1,F=>mA n F+F n
theorem u0{F G:Nat->Rat}:∀ {n:Nat},(∀ k,k < n->F k=G k)->mA n F=mA n G
 | 0,_=>rfl
 | n+1,h=>by rw[mA,mA,u0 (fun k hk=>h k (by omega)),h n (by omega)]
theorem Aw(F:Nat->Rat):∀ n:Nat,mA (2 * n) F=mA n (fun k=>F (2 * k)+F (2 * k+1))
 | 0=>rfl
 | n+1=>by
  show mA (2 * n+1+1) F=_
  rw[mA,mA,Aw F n,mA];grind
theorem Ax(F G:Nat->Rat):∀ n:Nat,mA n (fun k=>F k+G k)=mA n F+mA n G
 | 0=>by simp[mA];grind
 | n+1=>by rw[mA,mA,mA,Ax F G n];grind
theorem u3(F:Nat->Rat)(c:Rat):∀ n:Nat,mA n (fun k=>c * F k)=c * mA n F
 | 0=>by simp[mA]
 | n+1=>by rw[mA,mA,u3 F c n];grind
section
variable{D E M N:Nat}{x y:Rat}
end
end Go.Num
set_option maxRecDepth 100000
namespace Go.Alm
structure Ft where
 tr:Int
 sp:Int
 sv:Int
 ve:Int
 op:Int
 pe:Int
 da:Int
 lo:Int
 hi:Int
 by':Int
structure Wt where
 op:Int
 ve:Int
 lim:Int
 mu:Rat
 al:Rat
 bet:Rat
 st:Int
 th:Int
 sn:Int
 we:Rat
 ru:Bool
def EI:Rat:=(1000000000000:Int)
def dn(x:Rat):Rat:=((x * EI).floor:Rat) / EI
def gO(w:Wt)(late:Bool):Rat:=1+w.bet * ((if late then 1 else 0) - w.mu)
def Dn(we al:Rat):Bool:=decide (1<=we * al)
def look(w:Wt)(late:Bool):Wt:={ w with we:=dn (w.we * gO w late),sn:=w.sn+1,ru:=Dn (dn (w.we * gO w late)) w.al }
def kQ(t:Int)(w:Wt)(f:Ft):Bool:=!w.ru && (f.op == w.op) && (f.ve == w.ve) && decide (t < f.tr)
def one(t:Int)(w:Wt)(f:Ft):Wt:=
 let v:=if kQ t w f then look w (decide (w.lim < f.lo)) else w
 { v with th:=max v.th f.tr }
def obs1(t:Int)(w:Wt)(l:List Ft):Wt:=l.foldl (one t) w
def obs(ws:List Wt)(l:List Ft):List Wt:=ws.map fun w=>obs1 w.th w l
def dD(ws vs:List Wt)(i:Nat):List Nat:=
 match ws,vs with
 | w::ws,v::vs=>(if !w.ru && v.ru then [i] else [])++dD ws vs (i+1)
 | _,_=>[]
theorem Hk:0 < EI:=by unfold EI;decide
theorem RT(x:Rat):dn x<=x:=by
 unfold dn
 have h:=Rat.floor_le (x * EI)
 have hk:=Hk
 have hi:0 < EI⁻¹:=Rat.inv_pos.2 hk
 have h1:=Rat.mul_le_mul_of_nonneg_left h (show 0<=EI⁻¹ by grind)
 have h2:EI * EI⁻¹=1:=Rat.mul_inv_cancel _ (by grind)
 have h3:EI⁻¹ * (x * EI)=x:=by grind
 rw[h3]at h1
 rw[Rat.div_def]
 grind
theorem H6{x:Rat}(h:0<=x):0<=dn x:=by
 unfold dn
 have hk:=Hk
 have h1:0<=x * EI:=Rat.mul_nonneg h (by grind)
 have h2:(0:Int)<=(x * EI).floor:=Rat.le_floor_iff.2 (by simpa using h1)
 have h3:(0:Rat)<=((x * EI).floor:Rat):=by
  have:=(Rat.intCast_le_intCast (a:=0) (b:=(x * EI).floor)).2 h2
  simpa using this
 rw[Rat.div_def]
 exact Rat.mul_nonneg h3 (by have:=Rat.inv_pos.2 hk;grind)
structure Ok(w:Wt):Prop where
 al:0<=w.al
 be:0<=w.bet
 mu0:0<=w.mu
 bm:w.bet * w.mu<=1
 we:0<=w.we
 m1:w.mu<=1
theorem Gf{w:Wt}(h:Ok w)(b:Bool):0<=gO w b:=by
 unfold gO
 cases b
 ·have:=h.bm
  simp only[Bool.false_eq_true,if_false]
  grind
 ·have:=Rat.mul_nonneg h.be (show 0<=1 - w.mu by have:=h.m1;grind)
  simp only[if_true]
  grind
def TQ(m:Rat)(w:Wt):Rat:=if m<=w.mu then(if w.ru then 1 else w.al * w.we) else 0
def fL(f:Wt->Rat):List Wt->Rat
 | []=>0
 | w::l=>f w+fL f l
def MN(mk:Nat->Bool->Ft):Nat->List Bool->List Ft
 | _,[]=>[]
 | i,b::y=>mk i b::MN mk (i+1) y
theorem Gg(t:Int)(w:Wt)(f:Ft):(one t w f).th=max w.th f.tr:=by
 unfold one
 show max (if kQ t w f then look w _ else w).th f.tr=_
 split <;> rfl
structure Mk(mk:Nat->Bool->Ft)(lm:Int):Prop where
 tr:∀ i b,(mk i b).tr=i
 op:∀ i b,(mk i b).op=1
 ve:∀ i b,(mk i b).ve=2
 lo:∀ i b,decide (lm < (mk i b).lo)=b
end Go.Alm
set_option maxRecDepth 100000
namespace Go.Alm
theorem sX(w:Wt)(t:Int)(l:List Ft):(obs1 t w l).al=w.al/\(obs1 t w l).mu=w.mu/\(obs1 t w l).lim=w.lim/\(obs1 t w l).bet=w.bet/\(obs1 t w l).op=w.op/\(obs1 t w l).ve=w.ve/\(obs1 t w l).st=w.st/\(w.ru=true->(obs1 t w l).ru=true):=by
 induction l generalizing w with
 | nil=>exact⟨rfl,rfl,rfl,rfl,rfl,rfl,rfl,id⟩
 | cons f l ih=>
  have h:=ih (one t w f)
  have e:(one t w f).al=w.al/\(one t w f).mu=w.mu/\(one t w f).lim=w.lim/\(one t w f).bet=w.bet/\(one t w f).op=w.op/\(one t w f).ve=w.ve/\(one t w f).st=w.st/\(w.ru=true->(one t w f).ru=true):=by
   unfold one
   by_cases c:kQ t w f=true
   ·rw[if_pos c]
    refine⟨rfl,rfl,rfl,rfl,rfl,rfl,rfl,fun hr=>?_⟩
    unfold kQ at c
    rw[hr]at c
    simp at c
   ·rw[if_neg c]
    exact⟨rfl,rfl,rfl,rfl,rfl,rfl,rfl,id⟩
  obtain⟨a1,a2,a3,a4,a5,a6,a7,a8⟩:=h
  obtain⟨b1,b2,b3,b4,b5,b6,b7,b8⟩:=e
  exact⟨a1.trans b1,a2.trans b2,a3.trans b3,a4.trans b4,a5.trans b5,a6.trans b6,a7.trans b7,fun h=>a8 (b8 h)⟩
def al(w:Wt):Rat:=w.al
def KQ(m:Rat):List Wt->List Wt->Bool
 | w::ws,v::vs=>(!w.ru && v.ru && decide (m<=v.mu)) || KQ m ws vs
 | _,_=>false
abbrev PM:=Nat×(Nat->List Wt->List Wt)
def PN(m:Rat)(mk:Nat->Bool->Ft):List PM->Nat->List Wt->Nat->Bool->List Bool->List Wt×Bool
 | [],i,ws,sn,wr,y=>(obs ws (MN mk i y),wr || KQ m ws (obs ws (MN mk i y)))
 | (c,R)::p,i,ws,sn,wr,y=>
  PN m mk p (i+min c y.length) (R (sn+(dD ws (obs ws (MN mk i (y.take c))) 0).length) (obs ws (MN mk i (y.take c)))) (sn+(dD ws (obs ws (MN mk i (y.take c))) 0).length) (wr || KQ m ws (obs ws (MN mk i (y.take c)))) (y.drop c)
structure Inv(m B:Rat)(mk:Nat->Bool->Ft)(ws:List Wt)(wr:Bool):Prop where
 ok:∀ w∈ws,Mk mk w.lim/\Ok w
 sp:fL al ws<=B
 wr:wr=true->∃ w∈ws,w.ru=true/\m<=w.mu
def NF(m B:Rat)(mk:Nat->Bool->Ft)(R:Nat->List Wt->List Wt):Prop:=
 ∀ sn ws,(∀ w∈ws,Mk mk w.lim/\Ok w)->fL al ws<=B->R sn ws=ws\/∃ w,R sn ws=ws++[w]/\Mk mk w.lim/\Ok w/\TQ m w<=w.al/\fL al (ws++[w])<=B
end Go.Alm
set_option maxRecDepth 100000
namespace Go.Alm
open Go.Num (mA Aw Ax u3 u0)
def NG:Nat->Nat->List Bool
 | 0,_=>[]
 | n+1,k=>decide (k % 2=1)::NG n (k / 2)
def UD(m:Rat):List Bool->Rat
 | []=>1
 | b::y=>(if b then m else 1 - m) * UD m y
theorem EJ(t:Int)(w:Wt)(f:Ft):(w.ru=true->(one t w f).we=w.we/\(one t w f).sn=w.sn/\(one t w f).ru=true)/\w.sn<=(one t w f).sn/\w.th<=(one t w f).th/\(one t w f).sn<=w.sn+1:=by
 refine⟨fun hr=>?_,?_,by rw[Gg];omega,?_⟩
 ·have c:kQ t w f=false:=by unfold kQ;rw[hr];rfl
  unfold one
  rw[c]
  exact⟨rfl,rfl,hr⟩
 ·unfold one
  split
  ·show w.sn<=w.sn+1;omega
  ·exact Int.le_refl _
 ·unfold one
  split
  ·exact Int.le_refl _
  ·show w.sn<=w.sn+1;omega
theorem xe(t:Int):∀(l:List Ft) (w:Wt),(w.ru=true->(obs1 t w l).we=w.we/\(obs1 t w l).sn=w.sn/\(obs1 t w l).ru=true)/\w.sn<=(obs1 t w l).sn/\w.th<=(obs1 t w l).th/\(obs1 t w l).sn<=w.sn+l.length
 | [],w=>⟨fun h=>⟨rfl,rfl,h⟩,Int.le_refl _,Int.le_refl _,by show w.sn<=w.sn+(0:Nat);omega⟩
 | f::l,w=>by
  have h1:=EJ t w f
  have h2:=xe t l (one t w f)
  refine⟨fun hr=>?_,Int.le_trans h1.2.1 h2.2.1,Int.le_trans h1.2.2.1 h2.2.2.1,?_⟩
  ·have a:=h1.1 hr
   have b:=h2.1 a.2.2
   exact⟨b.1.trans a.1,b.2.1.trans a.2.1,b.2.2⟩
  ·have:=h2.2.2.2
   have:=h1.2.2.2
   show(obs1 t (one t w f) l).sn<=_
   rw[List.length_cons]
   omega
theorem Hl(t:Int):∀(l:List Ft) (w:Wt),(∀ f∈l,f.tr<=(obs1 t w l).th)/\((obs1 t w l).th=w.th\/∃ f∈l,(obs1 t w l).th=f.tr)
 | [],w=>⟨fun f h=>(by cases h),.inl rfl⟩
 | f::l,w=>by
  have h:=Hl t l (one t w f)
  have k:=(xe t l (one t w f)).2.2.1
  rw[Gg]at k
  refine⟨fun x hx=>?_,?_⟩
  ·rcases List.mem_cons.1 hx with e | hx
   ·rw[e];show f.tr<=(obs1 t (one t w f) l).th;omega
   ·exact h.1 x hx
  ·rcases h.2 with e | ⟨x,hx,e⟩
   ·rw[Gg]at e
    by_cases c:f.tr<=w.th
    ·exact .inl (by show(obs1 t (one t w f) l).th=_;rw[e];omega)
    ·exact .inr ⟨f,List.mem_cons_self,by show(obs1 t (one t w f) l).th=_;rw[e];omega⟩
   ·exact .inr ⟨x,List.mem_cons_of_mem _ hx,e⟩
structure Bet(w v:Wt):Prop where
 op:w.op=v.op
 ve:w.ve=v.ve
 lim:w.lim=v.lim
 mu:w.mu=v.mu
 al:w.al=v.al
 bet:w.bet=v.bet
 ru:w.ru=true->v.ru=true
 we:v.ru=false->w.we<=v.we
def TR(w:Wt)(l:List Ft):List Ft:=l.filter fun f=>(f.op == w.op) && (f.ve == w.ve) && decide (w.st < f.tr)
def EK(w:Wt):List Ft->Rat
 | []=>1
 | f::l=>gO w (decide (w.lim < f.lo)) * EK w l
structure Wl(w v:Wt)(c:List Ft)(k:Nat):Prop where
 hk:k<=c.length
 sn:v.sn=w.sn+k
 le:v.we<=w.we * EK w (c.take k)
 ru:v.ru=false->k=c.length
 wn:v.sn≠w.sn->v.ru=Dn v.we w.al
end Go.Alm
set_option maxRecDepth 100000
namespace Go.Alm
structure Sm(m:Int)(x:Rat):Prop where
 ge:0<=x
 le:x<=(m:Rat)
 dn:x.den<=1000
structure VW(n:Int)(w:Wt):Prop where
 op:0<=w.op/\w.op<=11
 ve:0<=w.ve/\w.ve<=9
 lim:0<=w.lim/\w.lim<=4398046511104
 st: -1<=w.st/\w.st<=999
 th:w.st<=w.th/\w.th<=999
 sn:0<=w.sn/\w.sn<=n
 mu:Sm 1 w.mu
 al:Sm 1 w.al
 bet:Sm 1000 w.bet
 mu0:w.mu≠0
 mu1:w.mu≠1
 al0:w.al≠0
 we0:0<=w.we
 we1:w.we<=((1000000:Int):Rat)
 wd:w.we.den ∣ 1000000000000
 bm:w.bet * w.mu<=1
 ru:w.ru=Dn w.we w.al
theorem Sm.big{m:Int}{x:Rat}(h:Sm m x)(h0:x≠0):1<=x * 1000:=by
 have hd:(0:Rat) < (x.den:Nat):=by
  have:=x.den_pos
  exact_mod_cast this
 have e:x * ((x.den:Nat):Rat)=(x.num:Rat):=by
  have h1:(x.num:Rat) / ((x.den:Nat):Rat)=x:=by
   have:=Rat.divInt_eq_div x.num (x.den:Int)
   rw[Rat.num_divInt_den]at this
   exact this.symm
  have h2:((x.den:Nat):Rat)≠0:=by grind
  have h3:=Rat.div_def (x.num:Rat) ((x.den:Nat):Rat)
  have h4:=Rat.mul_inv_cancel _ h2
  grind
 have hn:1<=x.num:=by
  have:=Rat.num_nonneg.2 h.ge
  have:x.num≠0:=fun hz=>h0 (Rat.num_eq_zero.1 hz)
  omega
 have hn':(1:Rat)<=(x.num:Rat):=by exact_mod_cast hn
 have hd':((x.den:Nat):Rat)<=1000:=by exact_mod_cast h.dn
 have:=Rat.mul_le_mul_of_nonneg_left hd' h.ge
 grind
theorem VW.mono{n m:Int}{w:Wt}(h:VW n w)(hm:n<=m):VW m w:=
 ⟨h.op,h.ve,h.lim,h.st,h.th,⟨h.sn.1,by have:=h.sn.2;omega⟩,h.mu,h.al,h.bet,h.mu0,h.mu1,h.al0,h.we0,h.we1,h.wd,h.bm,h.ru⟩
theorem VW.ok{n:Int}{w:Wt}(h:VW n w):Ok w:=⟨h.al.ge,h.bet.ge,h.mu.ge,h.bm,h.we0,by have:=h.mu.le;exact_mod_cast this⟩
theorem PO(x:Rat):(dn x).den ∣ 1000000000000:=by
 unfold dn EI
 rw[<-Rat.divInt_eq_div,Rat.den_divInt,if_neg (by decide)]
 exact Nat.div_dvd_of_dvd (by
  have:=Int.gcd_dvd_left (1000000000000:Int) ((x * ((1000000000000:Int):Rat)).floor)
  exact Int.natAbs_dvd_natAbs.2 this)
theorem RU{x c:Rat}(h:x<=c):dn x<=c:=Rat.le_trans (RT x) h
theorem VW.fct_le{n:Int}{w:Wt}(h:VW n w)(b:Bool):gO w b<=1000:=by
 have h1:=h.mu.big h.mu0
 have h2:=h.bet.le
 have h2:w.bet<=1000:=by exact_mod_cast h2
 have h3:=h.bet.ge
 have h4:=Rat.mul_le_mul_of_nonneg_left h1 h3
 have h5:=Rat.mul_nonneg h3 h.mu.ge
 unfold gO
 cases b
 ·simp only[Bool.false_eq_true,if_false];grind
 ·simp only[if_true];grind
theorem VW.we_lt{n:Int}{w:Wt}(h:VW n w)(hr:w.ru=false):w.we<=1000:=by
 have h1:=h.al.big h.al0
 have h2:¬1<=w.we * w.al:=by
  have:=h.ru
  rw[hr]at this
  exact of_decide_eq_false this.symm
 have h3:=Rat.mul_le_mul_of_nonneg_left h1 h.we0
 have h4:w.we * w.al < 1:=Rat.not_le.1 h2
 grind
theorem VW.prod{n:Int}{w:Wt}(h:VW n w)(hr:w.ru=false)(b:Bool):w.we * gO w b<=((1000000:Int):Rat):=by
 have h1:=h.we_lt hr
 have h2:=h.fct_le b
 have h3:=Rat.mul_le_mul_of_nonneg_left h2 h.we0
 have h4:w.we * 1000<=1000000:=by grind
 have h5:((1000000:Int):Rat)=1000000:=rfl
 rw[h5]
 exact Rat.le_trans h3 h4
theorem VW.look{n:Int}{w:Wt}(h:VW n w)(hr:w.ru=false)(b:Bool):VW (n+1) (Alm.look w b):=
 ⟨h.op,h.ve,h.lim,h.st,h.th,⟨by have:=h.sn.1;show 0<=w.sn+1;omega,by have:=h.sn.2;show w.sn+1<=n+1;omega⟩,h.mu,h.al,h.bet,h.mu0,h.mu1,h.al0,H6 (Rat.mul_nonneg h.we0 (Gf h.ok b)),RU (h.prod hr b),PO _,h.bm,rfl⟩
theorem VW.thr{n:Int}{w:Wt}(h:VW n w){t:Int}(h1:w.th<=t)(h2:t<=999):VW n { w with th:=t }:=
 ⟨h.op,h.ve,h.lim,h.st,⟨by have:=h.th.1;show w.st<=t;omega,h2⟩,h.sn,h.mu,h.al,h.bet,h.mu0,h.mu1,h.al0,h.we0,h.we1,h.wd,h.bm,h.ru⟩
theorem Hm{t:Int}{w:Wt}{f:Ft}(h:kQ t w f=true):w.ru=false:=by
 unfold kQ at h
 cases hr:w.ru
 ·rfl
 ·rw[hr]at h;exact absurd h (by simp only[Bool.not_true,Bool.false_and];decide)
theorem VW.one{n:Int}{w:Wt}(h:VW n w)(t:Int){f:Ft}(hf:f.tr<=999):VW (n+1) (one t w f):=by
 have hth:=h.th.2
 show VW (n+1) { (if kQ t w f then Alm.look w (decide (w.lim < f.lo)) else w) with th:=max (if kQ t w f then Alm.look w (decide (w.lim < f.lo)) else w).th f.tr }
 by_cases c:kQ t w f=true
 ·rw[if_pos c]
  exact(h.look (Hm c) _).thr (by show w.th<=max w.th f.tr;omega) (by show max w.th f.tr<=999;omega)
 ·rw[if_neg c]
  exact(h.mono (by omega)).thr (by omega) (by omega)
theorem VW.obs1(t:Int):∀ {l:List Ft} {n:Int} {w:Wt},VW n w->(∀ f∈l,f.tr<=999)->VW (n+l.length) (obs1 t w l)
 | [],n,w,h,_=>h.mono (by simp)
 | f::l,n,w,h,hf=>by
  have h1:=VW.obs1 t (l:=l) (h.one t (hf f List.mem_cons_self)) fun x hx=>hf x (List.mem_cons_of_mem _ hx)
  rw[List.length_cons]
  refine h1.mono ?_
  omega
structure VA(B:Rat)(ws:List Wt):Prop where
 b:Sm 1 B
 len:ws.length<=12
 ok:∀ w∈ws,VW 1000000 w
 sp:fL al ws<=B
theorem xU(f:Wt->Rat)(a b:List Wt):fL f (a++b)=fL f a+fL f b:=by
 induction a with
 | nil=>show fL f b=0+fL f b;grind
 | cons w a ih=>rw[List.cons_append,fL,fL,ih];grind
def fresh(ws:List Wt)(w:Wt):Wt:={ w with st:=ws.foldl (fun s v=>max s v.th) w.st,th:=ws.foldl (fun s v=>max s v.th) w.st,sn:=0,we:=1,ru:=decide (w.al=1) }
theorem MO(ws:List Wt):∀ s:Int,s<=ws.foldl (fun s v=>max s v.th) s/\(∀ w∈ws,w.th<=ws.foldl (fun s v=>max s v.th) s)/\(ws.foldl (fun s v=>max s v.th) s=s\/∃ w∈ws,ws.foldl (fun s v=>max s v.th) s=w.th):=by
 induction ws with
 | nil=>exact fun s=>⟨Int.le_refl _,by simp,.inl rfl⟩
 | cons v ws ih=>
  intro s
  obtain⟨h1,h2,h3⟩:=ih (max s v.th)
  rw[List.foldl_cons]
  refine⟨by omega,fun w hw=>?_,?_⟩
  ·rcases List.mem_cons.1 hw with e | hw
   ·rw[e];omega
   ·exact h2 w hw
  ·rcases h3 with h3 | ⟨w,hw,h3⟩
   ·by_cases c:v.th<=s
    ·exact .inl (by omega)
    ·exact .inr ⟨v,List.mem_cons_self,by omega⟩
   ·exact .inr ⟨w,List.mem_cons_of_mem _ hw,h3⟩
end Go.Alm
set_option maxRecDepth 100000
namespace Go.Alm
theorem MP(x:Rat):x * ((x.den:Nat):Rat)=(x.num:Rat):=by
 have h1:(x.num:Rat) / ((x.den:Nat):Rat)=x:=by
  have:=Rat.divInt_eq_div x.num (x.den:Int)
  rw[Rat.num_divInt_den]at this
  exact this.symm
 have hd:(0:Rat) < ((x.den:Nat):Rat):=by
  have:=x.den_pos
  exact_mod_cast this
 have h2:((x.den:Nat):Rat)≠0:=by grind
 have h3:=Rat.div_def (x.num:Rat) ((x.den:Nat):Rat)
 have h4:=Rat.mul_inv_cancel _ h2
 grind
theorem H7(x:Rat)(T:Int):(x * (T:Rat)).floor=(x.num * T) / (x.den:Int):=by
 have hd:(0:Rat) < ((x.den:Nat):Rat):=by
  have:=x.den_pos
  exact_mod_cast this
 have hdi:(0:Int) < (x.den:Int):=by have:=x.den_pos;omega
 have e:=MP x
 have key:∀ z:Int,(z:Rat)<=x * (T:Rat)↔z * (x.den:Int)<=x.num * T:=fun z=>by
  have e1:x * (T:Rat) * ((x.den:Nat):Rat)=((x.num * T:Int):Rat):=by
   rw[Rat.intCast_mul,<-e];grind
  have e2:(z:Rat) * ((x.den:Nat):Rat)=((z * (x.den:Int):Int):Rat):=by
   rw[Rat.intCast_mul];rfl
  constructor
  ·intro h
   have:=Rat.mul_le_mul_of_nonneg_right h (show 0<=((x.den:Nat):Rat) by grind)
   rw[e1,e2]at this
   exact Rat.intCast_le_intCast.1 this
  ·intro h
   have h:=Rat.intCast_le_intCast.2 h
   rw[<-e1,<-e2]at h
   exact Rat.le_of_mul_le_mul_right h hd
 refine Int.le_antisymm ?_ ?_
 ·exact Int.le_ediv_of_mul_le hdi ((key _).1 (Rat.floor_le _))
 ·exact Rat.le_floor_iff.2 ((key _).2 (Int.ediv_mul_le _ (by omega)))
theorem RV(x:Rat):dn x=((x.num * 1000000000000 / (x.den:Int):Int):Rat) / ((1000000000000:Int):Rat):=by
 unfold dn EI
 rw[H7]
end Go.Alm
namespace Go.Alm
theorem Ay{w v:Wt}:∀ {a b:List Wt} {k:Nat},a.length=b.length->dD (a++[w]) (b++[v]) k=dD a b k++(if !w.ru && v.ru then [k+a.length] else [])
 | [],[],k,_=>by
  show(if !w.ru && v.ru then [k] else [])++[]=[]++_
  simp
 | x::a,y::b,k,h=>by
  have:=Ay (w:=w) (v:=v) (a:=a) (b:=b) (k:=k+1) (by simpa using h)
  rw[List.cons_append,List.cons_append,dD,dD,this,List.append_assoc,List.length_cons,show k+(a.length+1)=k+1+a.length by omega]
 | [],y::b,k,h=>by simp at h
 | x::a,[],k,h=>by simp at h
theorem qB(ws:List Wt)(l:List Ft):(obs ws l).length=ws.length:=List.length_map _
theorem Az{ws:List Wt}{l:List Ft}{i:Nat}{w:Wt}(h:ws[i]?=some w):obs (ws.take (i+1)) l=obs (ws.take i) l++[obs1 w.th w l]:=by
 unfold obs
 rw[List.take_add_one,h,List.map_append]
 rfl
theorem BX{t:Int}{w:Wt}{l:List Ft}{j:Nat}{f:Ft}(h:l[j]?=some f):obs1 t w (l.take (j+1))=one t (obs1 t w (l.take j)) f:=by
 unfold obs1
 rw[List.take_add_one,h,List.foldl_append]
 rfl
theorem PP{t:Int}{w:Wt}{f:Ft}(h:w.ru=true):(one t w f).ru=true:=(EJ t w f).1 h |>.2.2
theorem H8{t:Int}{w v:Wt}{f:Ft}{i:Nat}(hv:w.ru=true->v.ru=true):(if !w.ru && v.ru then [i] else [])++(if !v.ru && (one t v f).ru then [i] else [])=(if !w.ru && (one t v f).ru then [i] else []):=by
 cases hw:w.ru
 ·cases h2:v.ru
  ·cases (one t v f).ru <;> rfl
  ·rw[PP h2];rfl
 ·rw[hv hw];rfl
theorem nf:∀(a b:List Wt) (k:Nat),(dD a b k).length<=a.length
 | [],_,_=>by simp[dD]
 | x::a,[],_=>by simp[dD]
 | x::a,y::b,k=>by
  have:=nf a b (k+1)
  rw[dD,List.length_append,List.length_cons]
  split <;> simp <;> omega
end Go.Alm
namespace Go.Alm
def AA(t:Int)(w:Wt)(f:Ft):Wt:=if kQ t w f then look w (decide (w.lim < f.lo)) else w
def obsN(t:Int)(w:Wt)(l:List Ft):Wt:=l.foldl (Alm.AA t) w
theorem H9{t:Int}{w:Wt}{l:List Ft}{j:Nat}{f:Ft}(h:l[j]?=some f):obsN t w (l.take (j+1))=Alm.AA t (obsN t w (l.take j)) f:=by
 unfold obsN
 rw[List.take_add_one,h,List.foldl_append]
 rfl
theorem MQ(t:Int)(w:Wt)(f:Ft):one t w f={ Alm.AA t w f with th:=max w.th f.tr }:=by
 unfold one Alm.AA
 by_cases c:kQ t w f=true
 ·simp only[if_pos c];rfl
 ·simp only[if_neg c];try rfl
theorem PQ(t:Int)(w:Wt)(f:Ft)(x:Int):Alm.AA t { w with th:=x } f={ Alm.AA t w f with th:=x }:=by
 unfold Alm.AA
 have:kQ t { w with th:=x } f=kQ t w f:=rfl
 rw[this]
 by_cases c:kQ t w f=true
 ·simp only[if_pos c];rfl
 ·simp only[if_neg c];try rfl
theorem Hn(t:Int):∀(l:List Ft) (w:Wt) (x:Int),obsN t { w with th:=x } l={ obsN t w l with th:=x }
 | [],w,x=>rfl
 | f::l,w,x=>by
  show obsN t (Alm.AA t { w with th:=x } f) l={ obsN t (Alm.AA t w f) l with th:=x }
  rw[PQ,Hn t l]
theorem AB(t:Int):∀(l:List Ft) (w:Wt),obs1 t w l={ obsN t w l with th:=(obs1 t w l).th }
 | [],w=>rfl
 | f::l,w=>by
  show obs1 t (one t w f) l={ obsN t (Alm.AA t w f) l with th:=(obs1 t (one t w f) l).th }
  have h:=AB t l (one t w f)
  have e:obsN t (one t w f) l={ obsN t (Alm.AA t w f) l with th:=max w.th f.tr }:=by rw[MQ,Hn]
  rw[e]at h
  exact h
theorem EL(t:Int)(w:Wt)(l:List Ft):(obsN t w l).th=w.th:=by
 have:∀(l:List Ft) (w:Wt),(obsN t w l).th=w.th:=by
  intro l
  induction l with
  | nil=>intro w;rfl
  | cons f l ih=>
   intro w
   show(obsN t (Alm.AA t w f) l).th=_
   rw[ih]
   unfold Alm.AA
   split <;> rfl
 exact this l w
theorem Ho(t:Int)(w:Wt)(l:List Ft):(obsN t w l).ru=(obs1 t w l).ru:=by
 rw[AB t l w]
theorem VW.obsN{n:Int}{w:Wt}(h:VW n w)(t:Int){l:List Ft}(hf:∀ f∈l,f.tr<=999):VW (n+l.length) (Alm.obsN t w l):=by
 have h1:=VW.obs1 t h hf
 rw[AB t l w]at h1
 have e:Alm.obsN t w l={ Alm.obsN t w l with th:=w.th }:=by
  have:=EL t w l
  rw[<-this]
 rw[e]
 have:=h.th
 exact⟨h1.op,h1.ve,h1.lim,h1.st,⟨by have a:=(sX w t l).2.2.2.2.2.2.1;rw[AB t l w]at a;have a:(Alm.obsN t w l).st=w.st:=a;show(Alm.obsN t w l).st<=w.th;omega,this.2⟩,h1.sn,h1.mu,h1.al,h1.bet,h1.mu0,h1.mu1,h1.al0,h1.we0,h1.we1,h1.wd,h1.bm,h1.ru⟩
theorem MR{t:Int}{w:Wt}{l:List Ft}{f:Ft}(hl:f∈l)(hm:∀ g∈l,g.tr<=f.tr):(Alm.obs1 t w l).th=max w.th f.tr:=by
 have h1:=Hl t l w
 have h2:=(xe t l w).2.2.1
 have h3:=h1.1 f hl
 rcases h1.2 with e | ⟨g,hg,e⟩
 ·omega
 ·have:=hm g hg
  omega
end Go.Alm
set_option maxRecDepth 100000
namespace Go.Alm
theorem BZ:∀ {ws vs:List Wt} {k i:Nat},i∈dD ws vs k->∃ j w v,i=k+j/\ws[j]?=some w/\vs[j]?=some v/\w.ru=false/\v.ru=true
 | [],vs,k,i,h=>by simp[dD]at h
 | w::ws,[],k,i,h=>by simp[dD]at h
 | w::ws,v::vs,k,i,h=>by
  rw[dD]at h
  rcases List.mem_append.1 h with h | h
  ·by_cases c:(!w.ru && v.ru)=true
   ·rw[if_pos c,List.mem_singleton]at h
    rw[Bool.and_eq_true,Bool.not_eq_true']at c
    exact⟨0,w,v,by omega,rfl,rfl,c.1,c.2⟩
   ·rw[if_neg c]at h;cases h
  ·obtain⟨j,a,b,h1,h2,h3,h4,h5⟩:=BZ h
   exact⟨j+1,a,b,by omega,by simpa using h2,by simpa using h3,h4,h5⟩
structure RgI(ws:List Wt)(rg:List Nat):Prop where
 nd:rg.Nodup
 ru:∀ i∈rg,∃ w,ws[i]?=some w/\w.ru=true
def Sx(x:Rat):Prop:=∃ z:Int,x * 60=(z:Rat)
end Go.Alm
set_option maxRecDepth 100000
namespace Go.Alm
open Go.Num (mA Aw Ax u3 u0)
def KR(m:Rat)(vs:List Wt)(i:Nat):Bool:=match vs[i]? with | some v=>decide (m<=v.mu) | none=>false
def DN(D:Nat)(x:Rat):Prop:=∃ z:Int,x * ((D:Int):Rat)=(z:Rat)
end Go.Alm
