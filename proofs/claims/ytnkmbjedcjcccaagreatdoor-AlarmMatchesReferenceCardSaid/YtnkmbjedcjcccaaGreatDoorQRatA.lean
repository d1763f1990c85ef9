/-
  Contracts and plain lemmas. By an AI agent.
-/
import Derived.Test.YtnkmbjedcjcccaaGreatDoorRefU
import Derived.Test.YtnkmbjedcjcccaaGreatDoorRefW
import Derived.Test.YtnkmbjedcjcccaaGreatDoorStrY
import Derived.Test.YtnkmbjedcjcccaaGreatDoorPlain
import Derived.Test.YtnkmbjedcjcccaaGreatDoorEng
set_option linter.all false
namespace Go.Proofs.YtnkmbjedcjcccaaGreatDoor
open Tryz
open Go Go.Eng Go.Proofs Go.Num Go.RowKit
set_option maxRecDepth 100000
noncomputable def rz(s:List UInt8):Int:=if h:cI s=true then Classical.choose (kO h) else 0
theorem kD{s:List UInt8}(h:cI s=true):(rz s).natAbs < cr/\s=Lib.itoa (rz s):=by
 unfold rz
 rw[dif_pos h]
 exact Classical.choose_spec (kO h)
def uB(z:Int):List UInt8:=if z.natAbs < cr then Lib.itoa z else []
def nh(z:Int):Int:=if z.natAbs < cr then 0 else 30
theorem yB(z:Int):jE z=.tuple #[bh (uB z),.int .i64 (nh z)]:=by
 unfold jE uB nh
 split <;> rfl
noncomputable def lw(f:Int->Int->Int)(p q:List UInt8):List UInt8:=if cI p && cI q then uB (f (rz p) (rz q)) else []
noncomputable def me(f:Int->Int->Int)(p q:List UInt8):Int:=if cI p && cI q then nh (f (rz p) (rz q)) else 30
theorem B8{f:Int->Int->Int}{p q:List UInt8}(h:(cI p && cI q)=false):(.tuple #[bh [],.int .i64 30]:Value)=.tuple #[bh (lw f p q),.int .i64 (me f p q)]:=by
 unfold lw me;rw[h];rfl
theorem E8{f:Int->Int->Int}{p q:List UInt8}(h:(cI p && cI q)=true):jE (f (rz p) (rz q))=.tuple #[bh (lw f p q),.int .i64 (me f p q)]:=by
 unfold lw me;rw[h,yB];rfl
section
variable{p q:List UInt8}{w:World}(hp:p.length<=1000000)(hq:q.length<=1000000)
include hp hq
theorem M3(ht:kA w):Calls prog 75 #[bh p,bh q] w (bQ fun r w'=>bK w w'/\r=.tuple #[bh (lw (fun a b=>a+b) p q),.int .i64 (me (fun a b=>a+b) p q)]):=by
 cases h:(cI p && cI q) with
 | false=>exact bQ.lit (Ie hp hq h) (B8 h)
 | true=>
  have h':=h
  simp only[Bool.and_eq_true]at h
  obtain⟨x0,x1⟩:=kD h.1
  obtain⟨y0,y1⟩:=kD h.2
  have:=RY (x:=rz p) (y:=rz q) (w:=w) x0 y0 ht
  rw[<-x1,<-y1]at this
  exact bQ.lit this (E8 (f:=fun a b=>a+b) h')
theorem Qn(ht:kA w):Calls prog 68 #[bh p,bh q] w (bQ fun r w'=>bK w w'/\r=.tuple #[bh (lw (fun a b=>a - b) p q),.int .i64 (me (fun a b=>a - b) p q)]):=by
 cases h:(cI p && cI q) with
 | false=>exact bQ.lit (Ig hp hq h) (B8 h)
 | true=>
  have h':=h
  simp only[Bool.and_eq_true]at h
  obtain⟨x0,x1⟩:=kD h.1
  obtain⟨y0,y1⟩:=kD h.2
  have:=NH (x:=rz p) (y:=rz q) (w:=w) x0 y0 ht
  rw[<-x1,<-y1]at this
  exact bQ.lit this (E8 (f:=fun a b=>a - b) h')
theorem Qo(ht:kA w):Calls prog 106 #[bh p,bh q] w (bQ fun r w'=>bK w w'/\r=.tuple #[bh (lw (fun a b=>a * b) p q),.int .i64 (me (fun a b=>a * b) p q)]):=by
 cases h:(cI p && cI q) with
 | false=>exact bQ.lit (Ih hp hq h) (B8 h)
 | true=>
  have h':=h
  simp only[Bool.and_eq_true]at h
  obtain⟨x0,x1⟩:=kD h.1
  obtain⟨y0,y1⟩:=kD h.2
  have:=RZ (x:=rz p) (y:=rz q) (w:=w) x0 y0 ht
  rw[<-x1,<-y1]at this
  exact bQ.lit this (E8 (f:=fun a b=>a * b) h')
noncomputable def rA(p q:List UInt8):Bool:=cI p && cI q && decide (rz q≠0)
noncomputable def B9(p q:List UInt8):List UInt8:=if rA p q then Lib.itoa (rz p / rz q) else []
noncomputable def IY(p q:List UInt8):List UInt8:=if rA p q then Lib.itoa (rz p % rz q) else []
noncomputable def Ca(p q:List UInt8):Int:=if rA p q then 0 else 30
omit hp hq in
theorem Gs{p q:List UInt8}(h:rA p q=false):(.tuple #[bh [],bh [],.int .i64 30]:Value)=.tuple #[bh (B9 p q),bh (IY p q),.int .i64 (Ca p q)]:=by
 unfold B9 IY Ca;rw[h];rfl
omit hp hq in
theorem NW{p q:List UInt8}(h:rA p q=true):(.tuple #[bh (Lib.itoa (rz p / rz q)),bh (Lib.itoa (rz p % rz q)),.int .i64 0]:Value)=.tuple #[bh (B9 p q),bh (IY p q),.int .i64 (Ca p q)]:=by
 unfold B9 IY Ca;rw[h];rfl
theorem Qp(ht:kA w):Calls prog 73 #[bh p,bh q] w (bQ fun r w'=>bK w w'/\r=.tuple #[bh (B9 p q),bh (IY p q),.int .i64 (Ca p q)]):=by
 cases h:(cI p && cI q) with
 | false=>exact bQ.lit (Ii hp hq h) (Gs (by unfold rA;rw[h];rfl))
 | true=>
  have h':=h
  simp only[Bool.and_eq_true]at h
  obtain⟨x0,x1⟩:=kD h.1
  obtain⟨y0,y1⟩:=kD h.2
  by_cases hz:rz q=0
  ·have:=Gh (x:=rz p) (w:=w) x0
   rw[<-x1,<-hz,<-y1]at this
   exact bQ.lit this (Gs (by unfold rA;rw[h',hz];rfl))
  ·have hok:rA p q=true:=by unfold rA;rw[h'];simpa using hz
   have:=Hv (x:=rz p) (y:=rz q) (w:=w) x0 y0 hz ht rfl rfl
   rw[<-x1,<-y1]at this
   exact bQ.lit this (NW hok)
end
theorem jc{z:Int}(h:z.natAbs < cr):rz (Lib.itoa z)=z:=by
 have:=(kD (s:=Lib.itoa z) (gZ h)).2
 exact(js this).symm
theorem nV{f:Int->Int->Int}{x y:Int}(hx:x.natAbs < cr)(hy:y.natAbs < cr):lw f (Lib.itoa x) (Lib.itoa y)=uB (f x y):=by
 unfold lw;rw[gZ hx,gZ hy,jc hx,jc hy];rfl
theorem nW{f:Int->Int->Int}{x y:Int}(hx:x.natAbs < cr)(hy:y.natAbs < cr):me f (Lib.itoa x) (Lib.itoa y)=nh (f x y):=by
 unfold me;rw[gZ hx,gZ hy,jc hx,jc hy];rfl
theorem Dw{x y:Int}(hx:x.natAbs < cr)(hy:y.natAbs < cr)(h:y≠0):rA (Lib.itoa x) (Lib.itoa y)=true:=by
 unfold rA;rw[gZ hx,gZ hy,jc hy];simpa using h
theorem Lu{x y:Int}(hx:x.natAbs < cr)(hy:y.natAbs < cr)(h:y≠0):B9 (Lib.itoa x) (Lib.itoa y)=Lib.itoa (x / y):=by
 unfold B9;rw[Dw hx hy h,jc hx,jc hy];rfl
theorem Lv{x y:Int}(hx:x.natAbs < cr)(hy:y.natAbs < cr)(h:y≠0):Ca (Lib.itoa x) (Lib.itoa y)=0:=by
 unfold Ca;rw[Dw hx hy h];rfl
theorem gh{z:Int}(h:z.natAbs < cr):uB z=Lib.itoa z:=if_pos h
theorem Cb{z:Int}(h:z.natAbs < cr):nh z=0:=if_pos h
theorem yX{z:Int}(h:¬z.natAbs < cr):nh z=30:=if_neg h
theorem IZ(z:Int):(uB z).length<=1000000:=by
 unfold uB;split
 ·next h=>exact cv h
 ·simp
theorem yY(f:Int->Int->Int)(p q:List UInt8):(lw f p q).length<=1000000:=by
 unfold lw;split
 ·exact IZ _
 ·simp
abbrev R3:=List UInt8×List UInt8×Int
abbrev fv(t:R3):Value:=.agg #[bh t.1,bh t.2.1]
abbrev rv(t:R3):Value:=.tuple #[fv t,.int .i64 t.2.2]
abbrev fz(p q:Int):Value:=.agg #[bh (Lib.itoa p),bh (Lib.itoa q)]
abbrev fq(x:Rat):Value:=fz x.num (x.den:Int)
def rQ(x:Rat):R3:=(Lib.itoa x.num,Lib.itoa (x.den:Int),0)
def gq:R3:=([],[],40)
def R7(n d:Int):R3:=(Lib.itoa (ND n d),Lib.itoa (H2 n d),0)
theorem M4{n d:Int}(h:d≠0):R7 n d=rQ ((n:Rat) / d):=by
 obtain⟨h1,h2⟩:=Av (n:=n) h
 unfold R7 rQ;rw[h1,h2]
def ie(n d:Int):R3:=if d=0 then gq else rQ ((n:Rat) / d)
def Bv(s:Int->Int->Int)(x y:Rat):Prop:=
 ((x.num * (y.den:Int)).natAbs < cr/\(y.num * (x.den:Int)).natAbs < cr)/\(s (x.num * (y.den:Int)) (y.num * (x.den:Int))).natAbs < cr/\((x.den:Int) * (y.den:Int)).natAbs < cr
def NX(x y:Rat):Prop:=(x.num * y.num).natAbs < cr/\((x.den:Int) * (y.den:Int)).natAbs < cr
open Classical in
noncomputable def ph(x y:Rat):R3:=if Bv (fun a b=>a+b) x y then rQ (x+y) else gq
open Classical in
noncomputable def pj(x y:Rat):R3:=if Bv (fun a b=>a - b) x y then rQ (x - y) else gq
open Classical in
noncomputable def rd(x y:Rat):R3:=if NX x y then rQ (x * y) else gq
def vd(p q m c:Int):Int:=dK (p * c) (m * q)
def ig(x y:Rat):Int:=vd x.num (x.den:Int) y.num (y.den:Int)
def rB(k:Int):Int:=10 ^ k.toNat
def vf(up:Bool)(x:Rat)(k:Int):Int:=if up=true/\(x.num * rB k) % (x.den:Int)≠0 then(x.num * rB k) / (x.den:Int)+1 else(x.num * rB k) / (x.den:Int)
def NY(up:Bool)(x:Rat)(k:Int):Prop:=(0<=k/\k<=30)/\(x.num * rB k).natAbs < cr/\(vf up x k).natAbs < cr
open Classical in
noncomputable def ko(up:Bool)(k:Int)(x:Rat):R3:=if NY up x k then rQ ((vf up x k:Rat) / (rB k:Int)) else gq
theorem Lw(k:Int):0 < rB k:=Int.pow_pos (by decide)
theorem I0(x y:Int):dK x y= - dK y x:=by unfold dK;split <;> split <;> (try split) <;> omega
theorem Dx{p q m c:Int}(hq:0 < q)(hc:0 < c)(h:p / q≠m / c):vd p q m c=dK (p / q) (m / c):=by
 unfold vd
 rcases Int.lt_or_gt_of_ne h with h | h
 ·rw[iU h,iU (wm hq hc h)]
 ·rw[kS h,kS (wm hc hq h)]
theorem I1{a b c d:Int}(h:a - b=c - d):dK a b=dK c d:=by
 unfold dK;split <;> split <;> (try split) <;> (try split) <;> omega
theorem vg{p q m c:Int}(h:p / q=m / c):vd p q m c=dK (p % q * c) (m % c * q):=I1 (H4 h)
theorem I4{q c r s:Int}:dK (r * c) (s * q)= - vd q r c s:=by
 unfold vd;rw[I0,Int.mul_comm s q,Int.mul_comm r c]
theorem Gu{p q m c:Int}(h:p / q=m / c)(hr:p % q=0)(hs:m % c=0):vd p q m c=0:=by
 rw[vg h,hr,hs];simp[dK]
theorem Gv{p q m c:Int}(hq:0 < q)(hc:0 < c)(h:p / q=m / c)(hr:p % q=0)(hs:m % c≠0):vd p q m c= -1:=by
 rw[vg h,hr,Int.zero_mul]
 have:=Int.emod_nonneg m (show c≠0 by omega)
 exact iU (Int.mul_pos (by omega) hq)
theorem Gw{p q m c:Int}(hq:0 < q)(hc:0 < c)(h:p / q=m / c)(hr:p % q≠0)(hs:m % c=0):vd p q m c=1:=by
 rw[vg h,hs,Int.zero_mul]
 have:=Int.emod_nonneg p (show q≠0 by omega)
 exact kS (Int.mul_pos (by omega) hc)
theorem Gx{p q m c:Int}(h:p / q=m / c):vd p q m c= - vd q (p % q) c (m % c):=by
 rw[vg h,I4]
theorem uC(x y:Int):dK x y= -1\/dK x y=0\/dK x y=1:=by
 unfold dK;split;exact .inl rfl;split;exact .inr (.inr rfl);exact .inr (.inl rfl)
theorem Bw{x y:Int}(h:dK x y=0):x=y:=by
 unfold dK at h;split at h;omega;split at h;omega;omega
theorem Lx{x y:Rat}(h:x < y):ig x y= -1:=iU ((RR x y).1 h)
theorem Ly{x y:Rat}(h:y < x):ig x y=1:=kS ((RR y x).1 h)
theorem Lz{x y:Rat}(h:x=y):ig x y=0:=qD ((TP x y).1 h)
theorem yZ(x y:Rat):(x < y/\ig x y= -1)\/(x=y/\ig x y=0)\/(y < x/\ig x y=1):=by
 by_cases h1:x < y
 ·exact .inl ⟨h1,Lx h1⟩
 ·by_cases h2:y < x
  ·exact .inr (.inr ⟨h2,Ly h2⟩)
  ·exact .inr (.inl (by have h3:=Rat.le_antisymm (Rat.not_lt.1 h2) (Rat.not_lt.1 h1);exact⟨h3,Lz h3⟩))
def kB(n d:List UInt8):Prop:=∃ x:Rat,n=Lib.itoa x.num/\d=Lib.itoa (x.den:Int)/\RB x
theorem ni{x:Rat}:kB (Lib.itoa x.num) (Lib.itoa (x.den:Int))↔RB x:=by
 constructor
 ·rintro⟨y,h1,h2,h⟩
  have e1:=js h1
  have e2:=js h2
  rw[Dc e1 (by omega)];exact h
 ·exact fun h=>⟨x,rfl,rfl,h⟩
open Classical in
noncomputable def pk{α:Type}(f:Rat->Rat->α)(u:α)(n d m c:List UInt8):α:=
 if h:kB n d/\kB m c then f (Classical.choose h.1) (Classical.choose h.2) else u
theorem zd{x:Rat}(h:kB (Lib.itoa x.num) (Lib.itoa (x.den:Int))):Classical.choose h=x:=by
 have:=Classical.choose_spec h
 have e1:=js this.1
 have e2:=js this.2.1
 exact(Dc e1 (by omega)).symm
theorem mJ{α:Type}{f:Rat->Rat->α}{u:α}{x y:Rat}(h:RB x)(k:RB y):pk f u (Lib.itoa x.num) (Lib.itoa (x.den:Int)) (Lib.itoa y.num) (Lib.itoa (y.den:Int))=f x y:=by
 unfold pk
 have H:kB (Lib.itoa x.num) (Lib.itoa (x.den:Int))/\kB (Lib.itoa y.num) (Lib.itoa (y.den:Int)):=⟨ni.2 h,ni.2 k⟩
 rw[dif_pos H,zd H.1,zd H.2]
theorem jF{α:Type}{f:Rat->Rat->α}{u:α}{n d m c:List UInt8}(h:¬(kB n d/\kB m c)):pk f u n d m c=u:=by
 unfold pk;rw[dif_neg h]
noncomputable def E9{α:Type}(f:Rat->α)(u:α)(n d:List UInt8):α:=pk (fun x _=>f x) u n d n d
theorem s7{α:Type}{f:Rat->α}{u:α}{x:Rat}(h:RB x):E9 f u (Lib.itoa x.num) (Lib.itoa (x.den:Int))=f x:=mJ h h
theorem Dy{α:Type}{f:Rat->α}{u:α}{n d:List UInt8}(h:¬kB n d):E9 f u n d=u:=jF (fun k=>h k.1)
theorem Bz{p q:Int}(hp:p.natAbs < cr)(hq:q.natAbs < cr):kB (Lib.itoa p) (Lib.itoa q)↔0 < q/\Int.gcd p q=1:=by
 constructor
 ·rintro⟨x,h1,h2,h⟩
  rw[js h1,js h2]
  exact⟨den_pos x,yQ x⟩
 ·rintro⟨h0,hg⟩
  have hf:Fr p q:=⟨hp,h0,hq,hg⟩
  obtain⟨e1,e2⟩:=hf.rat
  exact⟨(p:Rat) / q,by rw[e1],by rw[e2],hf.rb⟩
theorem s8{n d:List UInt8}(h:kB n d):cI n=true/\cI d=true:=by
 obtain⟨x,rfl,rfl,h⟩:=h
 exact⟨gZ h.n,gZ h.d⟩
def SR(a b:Nat)(x:Rat):Prop:=Sz a x.num/\Sz b (x.den:Int)
theorem SR.mono{a b c d:Nat}{x:Rat}(h:SR a b x)(h1:a<=c)(h2:b<=d):SR c d x:=⟨h.1.mono h1,h.2.mono h2⟩
theorem SR.of{n d:Int}{a b:Nat}(hn:Sz a n)(hd:Sz b d)(h0:d≠0):SR a b ((n:Rat) / d):=
 ⟨Nat.lt_of_le_of_lt (PJ h0) hn,Nat.lt_of_le_of_lt (PK h0) hd⟩
theorem SR.rb{a b:Nat}{x:Rat}(h:SR a b x)(ha:a<=200)(hb:b<=200):RB x:=⟨h.1.max ha,h.2.max hb⟩
section
variable{a b c d k:Nat}{x y:Rat}(hx:SR a b x)(hy:SR c d y)(h1:a+d<=k)(h2:c+b<=k)
include hx hy h1 h2
theorem SR.add:SR (k+1) (b+d) (x+y):=by
 rw[<-Hh x y]
 exact .of (((hx.1.mul hy.2).mono h1).add ((hy.1.mul hx.2).mono h2)) (hx.2.mul hy.2) (sW x y)
theorem SR.sub:SR (k+1) (b+d) (x - y):=by
 rw[<-Hi x y]
 exact .of (((hx.1.mul hy.2).mono h1).sub ((hy.1.mul hx.2).mono h2)) (hx.2.mul hy.2) (sW x y)
theorem LA(hk:k<=199)(hb:b+d<=200):ph x y=rQ (x+y):=by
 unfold ph
 rw[if_pos]
 exact⟨⟨(hx.1.mul hy.2).max (by omega),(hy.1.mul hx.2).max (by omega)⟩,(((hx.1.mul hy.2).mono h1).add ((hy.1.mul hx.2).mono h2)).max (by omega),(hx.2.mul hy.2).max hb⟩
theorem LB(hk:k<=199)(hb:b+d<=200):pj x y=rQ (x - y):=by
 unfold pj
 rw[if_pos]
 exact⟨⟨(hx.1.mul hy.2).max (by omega),(hy.1.mul hx.2).max (by omega)⟩,(((hx.1.mul hy.2).mono h1).sub ((hy.1.mul hx.2).mono h2)).max (by omega),(hx.2.mul hy.2).max hb⟩
end
section
variable{a b c d:Nat}{x y:Rat}(hx:SR a b x)(hy:SR c d y)
include hx hy
theorem SR.mul:SR (a+c) (b+d) (x * y):=by
 rw[<-Hj x y]
 exact .of (hx.1.mul hy.1) (hx.2.mul hy.2) (sW x y)
theorem LC(ha:a+c<=200)(hb:b+d<=200):rd x y=rQ (x * y):=by
 unfold rd
 rw[if_pos]
 exact⟨(hx.1.mul hy.1).max ha,(hx.2.mul hy.2).max hb⟩
end
theorem HA(x y:Rat):ph x y=gq\/(ph x y=rQ (x+y)/\RB (x+y)):=by
 unfold ph
 split
 ·next h=>exact .inr ⟨rfl,by rw[<-Hh x y];exact Gc h.2.1 h.2.2 (sW x y)⟩
 ·exact .inl rfl
theorem HB(x y:Rat):pj x y=gq\/(pj x y=rQ (x - y)/\RB (x - y)):=by
 unfold pj
 split
 ·next h=>exact .inr ⟨rfl,by rw[<-Hi x y];exact Gc h.2.1 h.2.2 (sW x y)⟩
 ·exact .inl rfl
theorem HC(x y:Rat):rd x y=gq\/(rd x y=rQ (x * y)/\RB (x * y)):=by
 unfold rd
 split
 ·next h=>exact .inr ⟨rfl,by rw[<-Hj x y];exact Gc h.1 h.2 (sW x y)⟩
 ·exact .inl rfl
abbrev pt(g:Nat):Value:=.pointer (some ⟨g,0,none⟩)
abbrev tR:TypeId:=25
abbrev tS:TypeId:=9
section
variable{w w0:World}{K:Value->World->Prop}{KW:World->Prop}{g:Nat}{a b:List UInt8}
theorem kT(hk:∀ g w1,bK w w1->w.heap.size<=g->g < w1.heap.size->cM w1 g tR [bh a,bh b]->K (pt g) w1):Bx prog tR (.agg #[bh a,bh b]) w K:=by
 (repeat (first|simp -dsimp[go_sem]|simp -dsimp (disch:=omega)only[gL,gI]))
 exact hk _ _ ((bK.refl w).al _) (Nat.le_refl _) (by simp) (cM.al w [bh a,bh b] _)
theorem tG(hk:∀ g w1,bK w w1->w.heap.size<=g->g < w1.heap.size->cM w1 g tR [bh [],bh []]->K (pt g) w1):Al prog tR w K:=by
 (repeat (first|simp -dsimp[go_sem]|simp -dsimp (disch:=omega)only[gL,gI]))
 exact hk _ _ ((bK.refl w).al _) (Nat.le_refl _) (by simp) (cM.al w [bh [],bh []] _)
theorem R8(hk:K (.agg #[bh a,bh b]) w):Bd prog tR [(0,bh a),(1,bh b)] w K:=by
 (repeat (first|simp -dsimp[go_sem]|simp -dsimp (disch:=omega)only[gL,gI]))
 exact hk
theorem I5(hk:K (.agg #[bh [],bh []]) w):Bd prog tR [] w K:=by
 (repeat (first|simp -dsimp[go_sem]|simp -dsimp (disch:=omega)only[gL,gI]))
 exact hk
theorem Qq(hk:K (.agg #[bh [],bh b]) w):Bd prog tR [(1,bh b)] w K:=by
 (repeat (first|simp -dsimp[go_sem]|simp -dsimp (disch:=omega)only[gL,gI]))
 exact hk
theorem kV(h:cM w g tR [bh a,bh b])(hk:K (.agg #[bh a,bh b]) w):Ld prog tR (pt g) w K:=by
 (repeat (first|simp -dsimp[go_sem,h.cell (i:=0) rfl,h.cell (i:=1) rfl]|simp -dsimp (disch:=omega)only[gL,gI]))
 exact hk
theorem xX(h:cM w g tR [bh a,bh b])(hk:K (bh a) w):Fa prog tR (pt g) 0 w fun t w=>Ld prog tS t w K:=by
 (repeat (first|simp -dsimp[go_sem,h.cell (i:=0) rfl]|simp -dsimp (disch:=omega)only[gL,gI]))
 exact hk
theorem yC(h:cM w g tR [bh a,bh b])(hk:K (bh b) w):Fa prog tR (pt g) 1 w fun t w=>Ld prog tS t w K:=by
 (repeat (first|simp -dsimp[go_sem,h.cell (i:=1) rfl]|simp -dsimp (disch:=omega)only[gL,gI]))
 exact hk
theorem TX(h:cM w g tR [bh a,bh b])(hk:K (.pointer (some ⟨g,0,none⟩)) w):Fa prog tR (pt g) 0 w K:=by
 (repeat (first|simp -dsimp[go_sem]|simp -dsimp (disch:=omega)only[gL,gI]))
 exact hk
theorem LD(h:cM w g tR [bh a,bh b])(hk:K (.pointer (some ⟨g,1,none⟩)) w):Fa prog tR (pt g) 1 w K:=by
 (repeat (first|simp -dsimp[go_sem]|simp -dsimp (disch:=omega)only[gL,gI]))
 exact hk
theorem TY(h:cM w g tR [bh a,bh b])(hk:K (bh a) w):Ld prog tS (.pointer (some ⟨g,0,none⟩)) w K:=by
 (repeat (first|simp -dsimp[go_sem,h.cell (i:=0) rfl]|simp -dsimp (disch:=omega)only[gL,gI]))
 exact hk
theorem ld1(h:cM w g tR [bh a,bh b])(hk:K (bh b) w):Ld prog tS (.pointer (some ⟨g,1,none⟩)) w K:=by
 (repeat (first|simp -dsimp[go_sem,h.cell (i:=1) rfl]|simp -dsimp (disch:=omega)only[gL,gI]))
 exact hk
theorem TZ(h:cM w g tR [bh a,bh b]){KP:Value->Prop}(hk:KP (bh a)):Dv prog true (Instr.fieldAt tR (pt g) 0) w.drew fun t=>Dv prog false (Instr.loadAt tS t) w.drew KP:=by
 have h1:w.drew.cell? ⟨g,0,none⟩=some (bh a):=h.cell (i:=0) rfl
 (repeat (first|simp -dsimp[go_sem,h1]|simp -dsimp (disch:=omega)only[gL,gI]))
 exact hk
theorem T0(h:cM w g tR [bh a,bh b]){KP:Value->Prop}(hk:KP (bh b)):Dv prog true (Instr.fieldAt tR (pt g) 1) w.drew fun t=>Dv prog false (Instr.loadAt tS t) w.drew KP:=by
 have h1:w.drew.cell? ⟨g,1,none⟩=some (bh b):=h.cell (i:=1) rfl
 (repeat (first|simp -dsimp[go_sem,h1]|simp -dsimp (disch:=omega)only[gL,gI]))
 exact hk
end
noncomputable def xo(n d:List UInt8):Bool:=@decide (kB n d) (Classical.propDecidable _)
theorem iu{n d:List UInt8}(h:kB n d):xo n d=true:=by unfold xo;exact @decide_eq_true _ (Classical.propDecidable _) h
theorem jd{n d:List UInt8}(h:¬kB n d):xo n d=false:=by unfold xo;exact @decide_eq_false _ (Classical.propDecidable _) h
theorem M5{y:Int}(h:y=1):(Lib.itoa y == [49])=true:=by rw[h,l1];rfl
theorem I7{y:Int}(h:y≠1):(Lib.itoa y == [49])=false:=by
 rw[beq_eq_false_iff_ne,<-l1]
 exact fun hc=>h (js hc)
theorem yD{p q:Int}(hp:p.natAbs < cr)(hq:q.natAbs < cr):((Int.gcd p q:Nat):Int).natAbs < cr:=by
 by_cases h:q=0
 ·subst h
  have:Int.gcd p 0=p.natAbs:=Int.gcd_zero
  rw[this];simpa using hp
 ·have h1:=Int.gcd_dvd_right p q
  have h2:=Nat.le_of_dvd (by omega) (Int.natAbs_dvd_natAbs.2 h1)
  omega
section
variable{n d:List UInt8}{w:World}(hn:n.length<=1000000)(hd:d.length<=1000000)
theorem Cd{q c:Int}(hq:q.natAbs < cr)(e:dK q 0=c):Calls prog 74 #[bh (Lib.itoa q),bh [48]] w (bQ fun r w'=>bK w w'/\r=.int .i64 c):=by
 have:=xh (w:=w) hq m0 e
 rwa [wp]at this
theorem yE{q c:Int}(hq:q.natAbs < cr)(e:dK q 0=c):Calls prog 85 #[bh (Lib.itoa q),bh [48]] w (bQ fun r w'=>bK w w'/\r=.int .i64 c):=by
 have:=gK (w:=w) hq m0 e
 rwa [wp]at this
theorem qF{b:Bool}(hn:n.length<=1000000)(h:cI n=b):Calls prog 118 #[bh n] w (bQ fun r w'=>bK w w'/\r=.bool b):=bQ.lit (zh hn) (by rw[h])
theorem I8{p q:Int}(hp:p.natAbs < cr)(hq:q.natAbs < cr)(ht:kA w):Calls prog 107 #[bh (Lib.itoa p),bh (Lib.itoa q)] w (bQ fun r w'=>bK w w'/\r=.tuple #[bh (Lib.itoa (Int.gcd p q:Int)),.int .i64 0]):=
 R5 hp hq (yD hp hq) ht rfl
theorem Gy{p q:Int}(hp:p.natAbs < cr)(hq:q.natAbs < cr):Calls prog 119 #[bh (Lib.itoa p),bh (Lib.itoa q)] w (bQ fun r w'=>bK w w'/\r=.tuple #[bh (Lib.itoa (Int.gcd p q:Int)),.int .i64 0]):=
 bQ.lit (Pe hp hq) (ES (yD hp hq))
include hn hd
theorem jG(ht:kA w):Calls prog 72 #[.agg #[bh n,bh d]] w (bQ fun r w'=>bK w w'/\r=.bool (xo n d)):=by
 by_cases hv:cI n=true
 ·by_cases hv':cI d=true
  ·obtain⟨p,hp,rfl⟩:=kO hv
   obtain⟨q,hq,rfl⟩:=kO hv'
   by_cases h0:0 < q
   ·have main:∀ b:Bool,(Lib.itoa (Int.gcd p q:Int) == [49])=b->Calls prog 72 #[.agg #[bh (Lib.itoa p),bh (Lib.itoa q)]] w (bQ fun r w'=>bK w w'/\r=.bool b):=by
     intro b hb
     apply jx
     unfold ij
     refine kT fun g w1 x1 _ _ b1=>?_
     (refine xX ‹_› ?_)
     refine fA dG (yy hn hv) fun w2 x2=>?_
     replace b1:=b1.ext x2
     (refine ct ?_;refine ah ?_;refine LD ‹_› ?_;refine ah ?_;refine ld1 ‹_› ?_;refine ah ?_)
     refine fA dG (yy hd hv') fun w3 x3=>?_
     replace b1:=b1.ext x3
     (refine ah ?_;refine ct ?_;refine aw ?_;refine ah ?_;refine LD ‹_› ?_;refine ah ?_;refine ld1 ‹_› ?_;refine ah ?_)
     refine fA fP (Cd hq (kS h0)) fun w4 x4=>?_
     replace b1:=b1.ext x4
     (refine ah ?_;(refine jg ?_ ?_;focus omega);refine aw ?_;refine cf ?_;refine xX ‹_› ?_;refine yC ‹_› ?_)
     refine pU tZ (I8 hp hq (((ht.ext x1).ext x2).ext x3 |>.ext x4)) fun w5 x5=>?_
     cases b <;> ((repeat (first | refine aP ?_ | refine ah ?_ | refine aR ?_ | refine aK ?_ | refine CR ?_ | refine aQ ?_ | refine aw ?_ | refine co ?_ | refine cf ?_ | refine ct ?_ | refine d7 ?_ | refine CS ?_ | refine yK ?_ | (refine fC ?_ ?_;focus assumption) | (refine jw ?_ ?_;focus assumption) | (refine yL ?_ ?_;focus assumption) | (refine yI ?_ ?_ ?_;(focus assumption);(focus decide)) | (refine yJ ?_ ?_ ?_;(focus assumption);(focus decide)) | (refine tt ?_ ?_ ?_;(focus assumption);(focus decide)) | (refine tu ?_ ?_ ?_;(focus assumption);(focus decide)) | (refine ea ?_ ?_;focus omega) | (refine io ?_ ?_;focus omega) | (refine gi ?_ ?_;focus omega) | (refine cE ?_ ?_;focus omega) | (refine cy ?_ ?_;focus omega) | (refine cD ?_ ?_;focus omega) | (refine eB ?_ ?_;focus omega) | (refine d9 ?_ ?_;focus omega) | (refine fp ?_ ?_;focus omega) | (refine jg ?_ ?_;focus omega) | (refine ft ?_ ?_;focus omega) | (refine jB ?_ ?_;focus omega) | (refine cF ?_ ?_ ?_;(focus omega);(focus omega)) | (refine tN ?_ ?_ ?_;(focus omega);(focus omega)) | refine xX ‹_› ?_ | refine yC ‹_› ?_ | refine kV ‹_› ?_ | refine TZ ‹_› ?_ | refine T0 ‹_› ?_ | refine TX ‹_› ?_ | refine LD ‹_› ?_ | refine TY ‹_› ?_ | refine ld1 ‹_› ?_ | refine R8 ?_ | refine I5 ?_ | refine Qq ?_ | refine gN ?_ | refine Sw ?_));exact bQ.mk ⟨(((x1.tr x2).tr x3).tr x4).tr x5,rfl⟩)
    by_cases h1:Int.gcd p q=1
    ·rw[iu ((Bz hp hq).2 ⟨h0,h1⟩)]
     exact main true (M5 (by omega))
    ·rw[jd (fun h=>h1 ((Bz hp hq).1 h).2)]
     exact main false (I7 (by omega))
   ·rw[jd (fun h=>h0 ((Bz hp hq).1 h).1)]
    apply jx
    unfold ij
    refine kT fun g w1 x1 _ _ b1=>?_
    (refine xX ‹_› ?_)
    refine fA dG (yy hn hv) fun w2 x2=>?_
    replace b1:=b1.ext x2
    (refine ct ?_;refine ah ?_;refine LD ‹_› ?_;refine ah ?_;refine ld1 ‹_› ?_;refine ah ?_)
    refine fA dG (yy hd hv') fun w3 x3=>?_
    replace b1:=b1.ext x3
    (refine ah ?_;refine ct ?_;refine aw ?_;refine ah ?_;refine LD ‹_› ?_;refine ah ?_;refine ld1 ‹_› ?_;refine ah ?_)
    refine fA fP (Cd hq rfl) fun w4 x4=>?_
    have:=De (x:=q) (y:=0) (by omega)
    (refine ah ?_;(refine fp ?_ ?_;focus omega);refine aw ?_;refine co ?_)
    exact bQ.mk ⟨((x1.tr x2).tr x3).tr x4,rfl⟩
  ·rw[jd (fun h=>hv' (s8 h).2)]
   apply jx
   unfold ij
   refine kT fun g w1 x1 _ _ b1=>?_
   (refine xX ‹_› ?_)
   refine fA dG (yy hn hv) fun w2 x2=>?_
   replace b1:=b1.ext x2
   (refine ct ?_;refine ah ?_;refine LD ‹_› ?_;refine ah ?_;refine ld1 ‹_› ?_;refine ah ?_)
   refine fA dG (yy hd (by simpa using hv')) fun w3 x3=>?_
   (refine ah ?_;refine d7 ?_;refine aw ?_;refine aR ?_;refine aR ?_;refine aR ?_;refine aR ?_;refine aQ ?_;refine co ?_)
   exact bQ.mk ⟨(x1.tr x2).tr x3,rfl⟩
 ·rw[jd (fun h=>hv (s8 h).1)]
  apply jx
  unfold ij
  refine kT fun g w1 x1 _ _ b1=>?_
  (refine xX ‹_› ?_)
  refine fA dG (yy hn (by simpa using hv)) fun w2 x2=>?_
  (refine d7 ?_;refine aR ?_;refine aR ?_;refine aR ?_;refine aR ?_;refine aQ ?_;refine aR ?_;refine aR ?_;refine aR ?_;refine aR ?_;refine aQ ?_;refine co ?_)
  exact bQ.mk ⟨x1.tr x2,rfl⟩
theorem eK:Calls prog 79 #[.agg #[bh n,bh d]] w (bQ fun r w'=>bK w w'/\r=.bool (xo n d)):=by
 by_cases hv:cI n=true
 ·by_cases hv':cI d=true
  ·obtain⟨p,hp,rfl⟩:=kO hv
   obtain⟨q,hq,rfl⟩:=kO hv'
   by_cases h0:0 < q
   ·have main:∀ b:Bool,(Lib.itoa (Int.gcd p q:Int) == [49])=b->Calls prog 79 #[.agg #[bh (Lib.itoa p),bh (Lib.itoa q)]] w (bQ fun r w'=>bK w w'/\r=.bool b):=by
     intro b hb
     apply lN
     unfold jK
     refine kT fun g w1 x1 _ _ b1=>?_
     (refine xX ‹_› ?_)
     refine fA cp (qF hn hv) fun w2 x2=>?_
     replace b1:=b1.ext x2
     (refine yC ‹_› ?_)
     refine fA cp (qF hd hv') fun w3 x3=>?_
     replace b1:=b1.ext x3
     (refine ct ?_;refine ah ?_;refine ah ?_;refine ct ?_;refine aw ?_;refine ah ?_;refine LD ‹_› ?_;refine ah ?_;refine ld1 ‹_› ?_;refine ah ?_)
     refine fA dp (yE hq (kS h0)) fun w4 x4=>?_
     replace b1:=b1.ext x4
     (refine ah ?_;(refine jg ?_ ?_;focus omega);refine aw ?_;refine cf ?_;refine xX ‹_› ?_;refine yC ‹_› ?_)
     refine pU xB (Gy hp hq) fun w5 x5=>?_
     cases b <;> ((repeat (first | refine aP ?_ | refine ah ?_ | refine aR ?_ | refine aK ?_ | refine CR ?_ | refine aQ ?_ | refine aw ?_ | refine co ?_ | refine cf ?_ | refine ct ?_ | refine d7 ?_ | refine CS ?_ | refine yK ?_ | (refine fC ?_ ?_;focus assumption) | (refine jw ?_ ?_;focus assumption) | (refine yL ?_ ?_;focus assumption) | (refine yI ?_ ?_ ?_;(focus assumption);(focus decide)) | (refine yJ ?_ ?_ ?_;(focus assumption);(focus decide)) | (refine tt ?_ ?_ ?_;(focus assumption);(focus decide)) | (refine tu ?_ ?_ ?_;(focus assumption);(focus decide)) | (refine ea ?_ ?_;focus omega) | (refine io ?_ ?_;focus omega) | (refine gi ?_ ?_;focus omega) | (refine cE ?_ ?_;focus omega) | (refine cy ?_ ?_;focus omega) | (refine cD ?_ ?_;focus omega) | (refine eB ?_ ?_;focus omega) | (refine d9 ?_ ?_;focus omega) | (refine fp ?_ ?_;focus omega) | (refine jg ?_ ?_;focus omega) | (refine ft ?_ ?_;focus omega) | (refine jB ?_ ?_;focus omega) | (refine cF ?_ ?_ ?_;(focus omega);(focus omega)) | (refine tN ?_ ?_ ?_;(focus omega);(focus omega)) | refine xX ‹_› ?_ | refine yC ‹_› ?_ | refine kV ‹_› ?_ | refine TZ ‹_› ?_ | refine T0 ‹_› ?_ | refine TX ‹_› ?_ | refine LD ‹_› ?_ | refine TY ‹_› ?_ | refine ld1 ‹_› ?_ | refine R8 ?_ | refine I5 ?_ | refine Qq ?_ | refine gN ?_ | refine Sw ?_));exact bQ.mk ⟨(((x1.tr x2).tr x3).tr x4).tr x5,rfl⟩)
    by_cases h1:Int.gcd p q=1
    ·rw[iu ((Bz hp hq).2 ⟨h0,h1⟩)]
     exact main true (M5 (by omega))
    ·rw[jd (fun h=>h1 ((Bz hp hq).1 h).2)]
     exact main false (I7 (by omega))
   ·rw[jd (fun h=>h0 ((Bz hp hq).1 h).1)]
    apply lN
    unfold jK
    refine kT fun g w1 x1 _ _ b1=>?_
    (refine xX ‹_› ?_)
    refine fA cp (qF hn hv) fun w2 x2=>?_
    replace b1:=b1.ext x2
    (refine yC ‹_› ?_)
    refine fA cp (qF hd hv') fun w3 x3=>?_
    replace b1:=b1.ext x3
    (refine ct ?_;refine ah ?_;refine ah ?_;refine ct ?_;refine aw ?_;refine ah ?_;refine LD ‹_› ?_;refine ah ?_;refine ld1 ‹_› ?_;refine ah ?_)
    refine fA dp (yE hq rfl) fun w4 x4=>?_
    have:=De (x:=q) (y:=0) (by omega)
    (refine ah ?_;(refine fp ?_ ?_;focus omega);refine aw ?_;refine co ?_)
    exact bQ.mk ⟨((x1.tr x2).tr x3).tr x4,rfl⟩
  ·rw[jd (fun h=>hv' (s8 h).2)]
   apply lN
   unfold jK
   refine kT fun g w1 x1 _ _ b1=>?_
   (refine xX ‹_› ?_)
   refine fA cp (qF hn hv) fun w2 x2=>?_
   replace b1:=b1.ext x2
   (refine yC ‹_› ?_)
   refine fA cp (qF hd (by simpa using hv')) fun w3 x3=>?_
   (refine ct ?_;refine ah ?_;refine ah ?_;refine d7 ?_;refine aw ?_;refine aR ?_;refine aR ?_;refine aR ?_;refine aR ?_;refine aQ ?_;refine co ?_)
   exact bQ.mk ⟨(x1.tr x2).tr x3,rfl⟩
 ·rw[jd (fun h=>hv (s8 h).1)]
  obtain⟨v,hv'⟩:∃ v,cI d=v:=⟨_,rfl⟩
  apply lN
  unfold jK
  refine kT fun g w1 x1 _ _ b1=>?_
  (refine xX ‹_› ?_)
  refine fA cp (qF hn (by simpa using hv)) fun w2 x2=>?_
  replace b1:=b1.ext x2
  (refine yC ‹_› ?_)
  refine fA cp (qF hd hv') fun w3 x3=>?_
  (refine d7 ?_;refine aR ?_;refine aR ?_;refine aQ ?_;refine aR ?_;refine aR ?_;refine aR ?_;refine aR ?_;refine aQ ?_;refine co ?_)
  exact bQ.mk ⟨(x1.tr x2).tr x3,rfl⟩
end
structure Own(g:Nat)(w w':World):Prop where
 below:Below g w w'
 other:∀ k,k≠g->k < w.heap.size->w'.heap[k]?=w.heap[k]?
theorem Own.refl(g:Nat)(w:World):Own g w w:=⟨.refl _ _,fun _ _ _=>rfl⟩
theorem Own.trans{g:Nat}{a b c:World}(h:Own g a b)(k:Own g b c):Own g a c:=
 ⟨h.below.trans k.below,fun i hi hs=>(k.other i hi (Nat.lt_of_lt_of_le hs h.below.size)).trans (h.other i hi hs)⟩
theorem Own.ofExt{g:Nat}{w w':World}(h:bK w w')(hg:g<=w.heap.size):Own g w w':=⟨h.mono hg,fun k _ hk=>h.block k hk⟩
theorem Own.set(g i:Nat)(w:World)(u:Value):Own g w (w.setCell ⟨g,i,none⟩ u):=
 ⟨Below.setCell (.refl _ _) (Nat.le_refl g) u,fun k hk _=>heap_setCell_other w ⟨g,i,none⟩ k u (fun e=>hk e)⟩
theorem dP{g b:Nat}{W W':World}{ty:TypeId}{cs:List Value}(h:cM W b ty cs)(hb:b≠g)(o:Own g W W'):cM W' b ty cs:=(o.other b hb h.lt).trans h
theorem Own.ext{g:Nat}{w0 w w':World}(h:bK w0 w)(hg:w0.heap.size<=g)(o:Own g w w'):bK w0 w':=Below.trans h (o.below.mono hg)
abbrev tW:TypeId:=113
def Ce(b:Bool)(A:List UInt8):List UInt8:=if b then [] else A
def Dk(b:Bool)(e:Int):Bool:=b || (e !=0)
theorem Cf{b:Bool}{A:List UInt8}(h:A.length<=1000000):(Ce b A).length<=1000000:=by
 unfold Ce;split
 ·simp
 ·exact h
section
variable{w w0:World}{K:Value->World->Prop}{KW:World->Prop}{g:Nat}{b b':Bool}
theorem LF(hk:∀ g w1,bK w w1->w.heap.size<=g->g < w1.heap.size->cM w1 g tW [.bool b]->K (pt g) w1):Bx prog tW (.agg #[.bool b]) w K:=by
 (repeat (first|simp -dsimp[go_sem]|simp -dsimp (disch:=omega)only[gL,gI]))
 exact hk _ _ ((bK.refl w).al _) (Nat.le_refl _) (by simp) (cM.al w [.bool b] _)
theorem NZ(hk:K (.agg #[.bool b]) w):Bd prog tW [(0,.bool b)] w K:=by
 (repeat (first|simp -dsimp[go_sem]|simp -dsimp (disch:=omega)only[gL,gI]))
 exact hk
theorem Qr(hk:K (.agg #[.bool false]) w):Bd prog tW [] w K:=by
 (repeat (first|simp -dsimp[go_sem]|simp -dsimp (disch:=omega)only[gL,gI]))
 exact hk
theorem Cg(hk:K (pt g) w):Nc (pt g) w K:=by
 (repeat (first|simp -dsimp[go_sem]|simp -dsimp (disch:=omega)only[gL,gI]))
 exact hk
theorem Ip(h:cM w g tW [.bool b])(hk:K (.bool b) w):Fa prog tW (pt g) 0 w fun t w=>Ld prog 4 t w K:=by
 (repeat (first|simp -dsimp[go_sem,h.cell (i:=0) rfl]|simp -dsimp (disch:=omega)only[gL,gI]))
 exact hk
theorem N0(h:cM w g tW [.bool b])(hk:∀ w',Own g w w'->cM w' g tW [.bool b']->KW w'):Fa prog tW (pt g) 0 w fun t w=>cL prog 4 t (.bool b') w KW:=by
 (repeat (first|simp -dsimp[go_sem,h.cell (i:=0) rfl,h.frz 0]|simp -dsimp (disch:=omega)only[gL,gI]))
 exact hk _ (.set g 0 w _) (h.set1 _)
end
def K4(g:Nat)(w:World)(v:Value)(b:Bool)(r:Value)(w':World):Prop:=r=v/\Own g w w'/\cM w' g tW [.bool b]
section
variable{w:World}{g:Nat}{b:Bool}(h:cM w g tW [.bool b])
include h
theorem I9{f:FuncId}{s t A:List UInt8}{e:Int}(hn:Enters prog f)(hc:Calls prog f #[bh s,bh t] w (bQ fun r w'=>bK w w'/\r=.tuple #[bh A,.int .i64 e])):
 Calls prog 102 #[pt g,.func (.func f) #[] #[],bh s,bh t] w (bQ (K4 g w (bh (Ce b A)) (Dk b e))):=by
 cases b with
 | true=>
  apply nH
  unfold kh
  refine Cg ?_
  refine Ip h ?_
  (refine co ?_)
  exact bQ.mk ⟨rfl,.refl _ _,h⟩
 | false=>
  apply nH
  unfold kh
  refine Cg ?_
  refine Ip h ?_
  (refine cf ?_)
  refine Ek hn (S:=fun r w'=>bK w w'/\r=.tuple #[bh A,.int .i64 e]) hc ?_
  rintro _ w1 ⟨x1,rfl⟩
  refine gN ?_
  have h1:=h.ext x1
  have fin:∀ b':Bool,b'=(e !=0)->Nc (pt g) w1 (fun t25 w=>Fa prog 113 t25 0 w fun t26 w=>cL prog 4 t26 (.bool b') w fun w=>(bQ (K4 g w1 (bh A) (e !=0))) (.returned (bh A)) w):=by
   intro b' hb
   refine Cg ?_
   refine N0 h1 fun w2 o2 h2=>?_
   subst hb
   exact bQ.mk ⟨rfl,o2,h2⟩
  have o1:Own g w w1:=.ofExt x1 (Nat.le_of_lt h.lt)
  have imp:∀ r w',K4 g w1 (bh A) (e !=0) r w'->K4 g w (bh (Ce false A)) (Dk false e) r w':=fun r w' ⟨h1,h2,h3⟩=>⟨h1,o1.trans h2,h3⟩
  by_cases he:e=0
  ·refine cE (by omega) (Cg ?_)
   refine N0 h1 fun w2 o2 h2=>?_
   exact bQ.mk (imp _ _ ⟨rfl,o2,by rw[he];exact h2⟩)
  ·refine gi (by omega) (Cg ?_)
   refine N0 h1 fun w2 o2 h2=>?_
   have hb:(e !=0)=true:=by simpa using he
   exact bQ.mk (imp _ _ ⟨rfl,o2,by rw[hb];exact h2⟩)
variable{s t:List UInt8}(hs:s.length<=1000000)(ht:t.length<=1000000)(hT:kA w)
include hs ht hT
theorem wz:Calls prog 70 #[pt g,bh s,bh t] w (bQ (K4 g w (bh (Ce b (lw (fun a b=>a * b) s t))) (Dk b (me (fun a b=>a * b) s t)))):=by
 apply tD
 unfold mF
 refine cu eG (I9 h A0 (Qo hs ht hT)) fun v w1 hv=>?_
 exact bQ.mk hv
omit h in
theorem LG:Calls prog 145 #[bh s,bh t] w (bQ fun r w'=>bK w w'/\r=.tuple #[bh (B9 s t),.int .i64 (Ca s t)]):=by
 apply nK
 unfold jk
 refine MF lM (Qp hs ht hT) fun w1 x1=>?_
 exact bQ.mk ⟨x1,rfl⟩
theorem LH:Calls prog 108 #[pt g,bh s,bh t] w (bQ (K4 g w (bh (Ce b (B9 s t))) (Dk b (Ca s t)))):=by
 apply oQ
 unfold jM
 refine cu eG (I9 h nL (LG hs ht hT)) fun v w1 hv=>?_
 exact bQ.mk hv
end
abbrev tL:TypeId:=147
def rC:List (List UInt8×List UInt8)->List Value
 | []=>[]
 | (n,d)::l=>bh n::bh d::rC l
theorem Fb{l:List (List UInt8×List UInt8)}{j:Nat}{n d:List UInt8}(h:l[j]?=some (n,d)):(rC l)[j * 2]?=some (bh n)/\(rC l)[j * 2+1]?=some (bh d):=by
 induction l generalizing j with
 | nil=>simp at h
 | cons x l ih=>
  obtain⟨a,b⟩:=x
  cases j with
  | zero=>
   simp only[List.getElem?_cons_zero,Option.some.injEq,Prod.mk.injEq]at h
   obtain⟨rfl,rfl⟩:=h
   exact⟨rfl,rfl⟩
  | succ j=>
   simp only[List.getElem?_cons_succ]at h
   have:=ih h
   rw[show(j+1) * 2=j * 2+2 from by omega]
   exact this
theorem SC{w:World}{K:Value->World->Prop}{s:Nat}{l:List (List UInt8×List UInt8)}{i:Int}{j k:Nat}{n d:List UInt8}(h:cM w s tR (rC l))(hk:k=l.length)(hi:i=j)(hj:l[j]?=some (n,d))(hK:K (.agg #[bh n,bh d]) w):
 Ia prog tL (.slice (some ⟨s,0,none⟩) k k) (.int .i64 i) w fun a w=>Ld prog tR a w K:=by
 subst hi;subst hk
 obtain⟨h0,h1⟩:=Fb hj
 have hl:j < l.length:=(List.getElem?_eq_some_iff.1 hj).1
 have c0:=h.cell h0
 have c1:=h.cell h1
 simp -dsimp[go_sem,c0,c1,hl]
 exact hK
theorem Ja{w:World}{KW:World->Prop}{g:Nat}{a b a' b':List UInt8}(h:cM w g tR [bh a',bh b'])(hk:∀ w',Own g w w'->cM w' g tR [bh a,bh b]->KW w'):cL prog tR (pt g) (.agg #[bh a,bh b]) w KW:=by
 have h1:=h.set 0 (bh a)
 have h2:=h1.set 1 (bh b)
 (repeat (first|simp -dsimp[go_sem,h.cell (i:=0) rfl,h.cell (i:=1) rfl,h.frz 0,h.frz 1]|simp -dsimp (disch:=omega)only[gL,gI]))
 exact hk _ ((Own.set g 0 w _).trans (Own.set g 1 _ _)) h2
theorem yF{w:World}{g s k:Nat}{b:Bool}{l:List (List UInt8×List UInt8)}(h:cM w g tW [.bool b])(hs:cM w s tR (rC l))(hgs:s≠g)(hk:k=l.length)(hk1:k<=1000)(hl:∀ x∈l,x.1.length<=1000000/\x.2.length<=1000000)(hT:kA w)(hgT:∀ W,Own g w W->kA W):
 Calls prog 69 #[pt g,.slice (some ⟨s,0,none⟩) k k] w (bQ (K4 g w (.tuple #[]) (b || l.any fun x=>!xo x.1 x.2))):=by
 have hL:∃ e,prog.underlying 147=some (.slice e):=⟨_,underlying147⟩
 apply ri
 unfold kX
 refine dw hL ?_
 obtain⟨I,hI⟩:∃ I:Value->World->Prop,I=(fun i W=>∃ j:Nat,j<=k/\i=.int .i64 j/\Own g w W/\cM W g tW [.bool (b || (l.take j).any fun x=>!xo x.1 x.2)]):=⟨_,rfl⟩
 obtain⟨μ,hμ⟩:∃ μ:Value->World->Nat,μ=(fun i _=>match i with | .int _ i'=>k - i'.toNat | _=>0):=⟨_,rfl⟩
 refine jt.mk I μ (by rw[hI];exact⟨0,by omega,rfl,.refl _ _,by simpa using h⟩) ?_
 intro i W hh
 rw[hI]at hh
 obtain⟨j,hj,rfl,hO,hB⟩:=hh
 by_cases hjk:j < k
 ·have hjl:j < l.length:=by omega
  obtain⟨n,d,hnd⟩:∃ n d,l[j]?=some (n,d):=⟨l[j].1,l[j].2,by rw[List.getElem?_eq_getElem hjl]⟩
  have hmem:=hl (n,d) (List.mem_of_getElem? hnd)
  have hTW:=hgT W hO
  have htake:(l.take (j+1)).any (fun x=>!xo x.1 x.2)=((l.take j).any (fun x=>!xo x.1 x.2) || !xo n d):=by
   rw[List.take_add_one,hnd,List.any_append]
   simp
  have fin:∀ W',Own g W W'->∀ b',b'=(b || (l.take (j+1)).any fun x=>!xo x.1 x.2)->cM W' g tW [.bool b']->
   I (.int .i64 (j+1)) W'/\μ (.int .i64 (j+1)) W' < μ (.int .i64 j) W:=by
   intro W' o b' hb hB'
   subst hb
   rw[hI,hμ]
   exact⟨⟨j+1,by omega,by simp,hO.trans o,hB'⟩,by simp only[];omega⟩
  refine cy (by omega) ?_
  (refine co ?_)
  refine SC (dP hs hgs hO) hk rfl hnd ?_
  refine tG fun g5 W1 x1 hg5 hg5' b5=>?_
  have o1:Own g W W1:=.ofExt x1 (Nat.le_of_lt hB.lt)
  refine Ja b5 fun W2 o2 b5=>?_
  have hne:g≠g5:=by have:=hB.lt;omega
  have hB2:=dP (hB.ext x1) hne o2
  have hx2:bK W W2:=o2.ext x1 hg5
  have o2':Own g W W2:=.ofExt hx2 (Nat.le_of_lt hB.lt)
  refine Cg ?_
  refine Ip hB2 ?_
  by_cases hb:(b || (l.take j).any fun x=>!xo x.1 x.2)=true
  ·rw[hb]
   (refine aR ?_;refine aR ?_;refine aR ?_;refine aQ ?_)
   refine Cg ?_
   refine N0 hB2 fun W3 o3 hB3=>?_
   refine cF (by omega) (by omega) ?_
   exact fin W3 (o2'.trans o3) true (by rw[htake,<-Bool.or_assoc,hb];rfl) hB3
  ·have hb':(b || (l.take j).any fun x=>!xo x.1 x.2)=false:=by simpa using hb
   rw[hb']
   (refine ah ?_)
   refine kV b5 ?_
   refine fA dk (jG hmem.1 hmem.2 (hTW.ext hx2)) fun W3 x3=>?_
   have o3:Own g W2 W3:=.ofExt x3 (Nat.le_of_lt hB2.lt)
   have hB3:=hB2.ext x3
   by_cases ho:xo n d=true
   ·rw[ho]
    (refine ah ?_;refine ct ?_;refine aw ?_)
    refine Cg ?_
    refine N0 hB3 fun W4 o4 hB4=>?_
    refine cF (by omega) (by omega) ?_
    exact fin W4 ((o2'.trans o3).trans o4) false (by rw[htake,<-Bool.or_assoc,hb',ho];rfl) hB4
   ·have ho':xo n d=false:=by simpa using ho
    rw[ho']
    (refine ah ?_;refine d7 ?_;refine aw ?_)
    refine Cg ?_
    refine N0 hB3 fun W4 o4 hB4=>?_
    refine cF (by omega) (by omega) ?_
    exact fin W4 ((o2'.trans o3).trans o4) true (by rw[htake,<-Bool.or_assoc,hb',ho'];rfl) hB4
 ·refine cD (by omega) ?_
  (refine cf ?_)
  have:l.take j=l:=List.take_of_length_le (by omega)
  rw[this]at hB
  exact bQ.mk ⟨rfl,hO,hB⟩
theorem LI{n d:List UInt8}{w:World}{K:Value->World->Prop}(hk:∀ s w1,bK w w1->w.heap.size<=s->cM w1 s tR (rC [(n,d)])->K (.slice (some ⟨s,0,none⟩) 1 1) w1):
 Bs prog tL 1 [(0,.agg #[bh n,bh d])] w K:=by
 rw[Pq]
 have hr:(Instr.buildSlice tL 1 [(0,(.agg #[bh n,bh d]:Value))].toArray).run prog w=.ok (.slice (some ⟨w.heap.size,0,none⟩) 1 1) (w.alloc (.cells #[bh n,bh d] tR)):=by
  obtain⟨i,hi,hz,hs⟩:∃ i,prog.info? tR=some i/\i.zero=some (.agg #[.string ⟨#[]⟩,.string ⟨#[]⟩])/\i.size=2:=⟨Tryz.t25,by kernel_rfl,by kernel_rfl,by kernel_rfl⟩
  exact run_buildSlice w _ _ 1 _ _ i _ underlying147 hi hz (by rw[hs];decide) (by rw[hs];decide) (by rw[hs];simp only[Instr.fill,Value.cells];kernel_rfl)
 rw[hr]
 exact hk _ _ ((bK.refl w).al _) (Nat.le_refl _) (cM.al w [bh n,bh d] _)
theorem Qs{n d m c:List UInt8}{w:World}{K:Value->World->Prop}(hk:∀ s w1,bK w w1->w.heap.size<=s->cM w1 s tR (rC [(n,d),(m,c)])->K (.slice (some ⟨s,0,none⟩) 2 2) w1):
 Bs prog tL 2 [(0,.agg #[bh n,bh d]),(1,.agg #[bh m,bh c])] w K:=by
 rw[Pq]
 have hr:(Instr.buildSlice tL 2 [(0,(.agg #[bh n,bh d]:Value)),(1,.agg #[bh m,bh c])].toArray).run prog w=.ok (.slice (some ⟨w.heap.size,0,none⟩) 2 2) (w.alloc (.cells #[bh n,bh d,bh m,bh c] tR)):=by
  obtain⟨i,hi,hz,hs⟩:∃ i,prog.info? tR=some i/\i.zero=some (.agg #[.string ⟨#[]⟩,.string ⟨#[]⟩])/\i.size=2:=⟨Tryz.t25,by kernel_rfl,by kernel_rfl,by kernel_rfl⟩
  exact run_buildSlice w _ _ 2 _ _ i _ underlying147 hi hz (by rw[hs];decide) (by rw[hs];decide) (by rw[hs];simp only[Instr.fill,Value.cells];kernel_rfl)
 rw[hr]
 exact hk _ _ ((bK.refl w).al _) (Nat.le_refl _) (cM.al w [bh n,bh d,bh m,bh c] _)
theorem qG{w:World}{g:Nat}{a b a' b':List UInt8}{R:Value->World->Prop}(h:cM w g tR [bh a',bh b'])(hk:∀ w',Own g w w'->R (.agg #[bh a,bh b]) w'):
 cL prog tR (pt g) (.agg #[bh a,bh b]) w fun w=>Rc prog tR (pt g) w fun r0=>R r0 w:=by
 refine Ja h fun w' o h'=>?_
 have:=hk w' o
 (repeat (first|simp -dsimp[go_sem,h'.cell (i:=0) rfl,h'.cell (i:=1) rfl]|simp -dsimp (disch:=omega)only[gL,gI]))
 exact this
theorem xq(A:List UInt8):Ce false A=A:=rfl
def Jb(g:Nat)(w:World)(t:R3)(r:Value)(w':World):Prop:=Own g w w'/\r=rv t
theorem ej{w:World}{g:Nat}{n d:List UInt8}(h:cM w g tW [.bool true]):Calls prog 71 #[pt g,bh n,bh d] w (bQ (Jb g w gq)):=by
 apply ii
 unfold fM
 refine tG fun g6 w1 x1 hg6 _ b6=>?_
 have o1:Own g w w1:=.ofExt x1 (Nat.le_of_lt h.lt)
 refine Cg ?_
 refine Ip (h.ext x1) ?_
 (refine aR ?_;refine aR ?_;refine aQ ?_;refine co ?_)
 refine I5 ?_
 refine qG b6 fun w2 o2=>?_
 have x2:bK w w2:=o2.ext x1 hg6
 exact bQ.mk ⟨.ofExt x2 (Nat.le_of_lt h.lt),rfl⟩
theorem ze{w:World}{g:Nat}{n:List UInt8}(h:cM w g tW [.bool false]):Calls prog 71 #[pt g,bh n,bh [48]] w (bQ (Jb g w gq)):=by
 apply ii
 unfold fM
 refine tG fun g6 w1 x1 hg6 _ b6=>?_
 refine Cg ?_
 refine Ip (h.ext x1) ?_
 (refine ah ?_;refine ah ?_;refine CS ?_;refine aw ?_;refine co ?_)
 refine I5 ?_
 refine qG b6 fun w2 o2=>?_
 have x2:bK w w2:=o2.ext x1 hg6
 exact bQ.mk ⟨.ofExt x2 (Nat.le_of_lt h.lt),rfl⟩
theorem Jc{w:World}{g:Nat}{f:FuncId}{s t A:List UInt8}(h:cM w g tW [.bool false])(hn:Enters prog f)(hc:Calls prog f #[bh s,bh t] w (bQ fun r w'=>bK w w'/\r=.tuple #[bh A,.int .i64 0])):
 Calls prog 102 #[pt g,.func (.func f) #[] #[],bh s,bh t] w (bQ (K4 g w (bh A) false)):=I9 h hn hc
theorem Dz{w:World}{g:Nat}{x y:Int}(h:cM w g tW [.bool false])(hx:x.natAbs < cr)(hy:y.natAbs < cr)(hy0:y≠0)(hT:kA w):
 Calls prog 108 #[pt g,bh (Lib.itoa x),bh (Lib.itoa y)] w (bQ (K4 g w (bh (Lib.itoa (x / y))) false)):=by
 have:=LH h (cv hx) (cv hy) hT
 rw[Lu hx hy hy0,Lv hx hy hy0]at this
 exact this
theorem Jd{x:Int}{w:World}(hx:x.natAbs < cr)(ht:kA w):Calls prog 68 #[bh [48],bh (Lib.itoa x)] w (bQ fun r w'=>bK w w'/\r=.tuple #[bh (Lib.itoa (-x)),.int .i64 0]):=by
 have:=R4 (w:=w) (x:=0) (y:=x) (s:= -x) m0 hx (by omega) ht (by omega)
 rwa [wp]at this
theorem td{w:World}{g:Nat}{x y:Int}(h:cM w g tW [.bool false])(hx:x.natAbs < cr)(hy:y.natAbs < cr)(hgT:∀ W,Own g w W->kA W):Calls prog 71 #[pt g,bh (Lib.itoa x),bh (Lib.itoa y)] w (bQ (Jb g w (ie x y))):=by
 by_cases hy0:y=0
 ·subst hy0
  have:=ze (n:=Lib.itoa x) h
  rw[<-wp]at this
  exact this
 have hz:=Bp hy0
 have hG:(Int.gcd (dU y x) (dU y y):Int)=(Int.gcd x y:Int):=by rw[pN]
 have hg0:=mc (n:=x) hy0
 have hgm:=yD hx hy
 have hsx:(dU y x).natAbs < cr:=by rw[lI];exact hx
 have hsy:(dU y y).natAbs < cr:=by rw[lI];exact hy
 have e:ie x y=R7 x y:=by unfold ie;rw[if_neg hy0,M4 hy0]
 rw[e]
 apply ii
 unfold fM
 refine tG fun g6 w1 x1 hg6 _ b6=>?_
 have h1:=h.ext x1
 have o1:Own g w w1:=.ofExt x1 (Nat.le_of_lt h.lt)
 have hne:g6≠g:=by have:=h.lt;omega
 refine Cg ?_
 refine Ip h1 ?_
 (refine ah ?_;refine ah ?_;(refine fC ?_ ?_;focus assumption);refine aw ?_;refine cf ?_)
 refine vt.mk ?_
 intro K hK
 have back:∀ W,Own g w1 W->cM W g tW [.bool false]->K (bh (Lib.itoa (dU y x))) (bh (Lib.itoa (dU y y))) W:=by
  intro W o hW
  refine hK _ _ W ?_
  have c:=I8 (w:=W) hsx hsy (hgT W (o1.trans o))
  rw[hG]at c
  refine cu eG (Jc hW tZ c) ?_
  rintro _ W1 ⟨rfl,o2,hW1⟩
  refine cu jN (Dz hW1 hsx hgm (by omega) (hgT W1 (o1.trans (o.trans o2)))) ?_
  rintro _ W2 ⟨rfl,o3,hW2⟩
  refine cu jN (Dz hW2 hsy hgm (by omega) (hgT W2 (o1.trans ((o.trans o2).trans o3)))) ?_
  rintro _ W4 ⟨rfl,o4',hW4⟩
  refine R8 ?_
  have o4:Own g w1 W4:=((o.trans o2).trans o3).trans o4'
  have b64:=dP b6 hne o4
  refine tG fun g9 W5 x5 hg9 _ b9=>?_
  refine Ja b9 fun W6 o6 b9'=>?_
  have x6:bK W4 W6:=o6.ext x5 hg9
  have hW6:=hW4.ext x6
  refine Cg ?_
  refine Ip hW6 ?_
  (refine cf ?_)
  refine kV b9' ?_
  refine qG (b64.ext x6) fun W7 o7=>?_
  have x7:∀ k,k≠g->k < w.heap.size->W7.heap[k]?=w.heap[k]?:=by
   intro k hk hks
   have s1:=x1.size
   have s4:=o4.below.size
   have s6:=x6.size
   rw[o7.other k (by omega) (by omega),x6.block k (by omega),o4.other k hk (by omega),x1.block k hks]
  refine bQ.mk ⟨⟨?_,x7⟩,rfl⟩
  have hgl:=h.lt
  have s1:=x1.size
  have s4:=o4.below.size
  exact(((o1.below).trans (o4.below)).trans (x6.mono (by omega))).trans (o7.below.mono (by omega))
 by_cases hneg:y < 0
 ·have e1:dU y x= -x:=by unfold dU;rw[if_pos hneg]
  have e2:dU y y= -y:=by unfold dU;rw[if_pos hneg]
  rw[e1,e2]at back
  refine fA fP (Cd hy (iU hneg)) fun w2 x2=>?_
  have h2:=h1.ext x2
  have o2:Own g w1 w2:=.ofExt x2 (Nat.le_of_lt h1.lt)
  ((refine cy ?_ ?_;focus omega);refine co ?_)
  refine cu eG (Jc h2 oM (Jd hx (hgT w2 (o1.trans o2)))) ?_
  rintro _ w3 ⟨rfl,o3,h3⟩
  refine cu eG (Jc h3 oM (Jd hy (hgT w3 (o1.trans (o2.trans o3))))) ?_
  rintro _ w4 ⟨rfl,o4,h4⟩
  exact back w4 ((o2.trans o3).trans o4) h4
 ·have e1:dU y x=x:=by unfold dU;rw[if_neg hneg]
  have e2:dU y y=y:=by unfold dU;rw[if_neg hneg]
  rw[e1,e2]at back
  refine fA fP (Cd hy rfl) fun w2 x2=>?_
  have h2:=h1.ext x2
  have o2:Own g w1 w2:=.ofExt x2 (Nat.le_of_lt h1.lt)
  have:=tw (x:=y) (y:=0) (by omega)
  ((refine cD ?_ ?_;focus omega);refine cf ?_)
  exact back w2 o2 h2
noncomputable def DA(n d:List UInt8):R3:=if cI n && cI d then ie (rz n) (rz d) else gq
theorem DB{x y:Int}(hx:x.natAbs < cr)(hy:y.natAbs < cr):DA (Lib.itoa x) (Lib.itoa y)=ie x y:=by
 unfold DA;rw[gZ hx,gZ hy,jc hx,jc hy];rfl
theorem BA{n d:List UInt8}(h:(cI n && cI d)=false):DA n d=gq:=by unfold DA;rw[h];rfl
section
variable{n d m c:List UInt8}{w:World}(hn:n.length<=1000000)(hd:d.length<=1000000)(hm:m.length<=1000000)(hc:c.length<=1000000)(hT:kA w)
include hn hd hT
theorem N1:Calls prog 100 #[bh n,bh d] w (bQ fun r w'=>bK w w'/\r=rv (DA n d)):=by
 by_cases hv:cI n=true
 ·by_cases hv':cI d=true
  ·obtain⟨p,hp,rfl⟩:=kO hv
   obtain⟨q,hq,rfl⟩:=kO hv'
   rw[DB hp hq]
   apply mr
   unfold jZ
   refine tG fun g4 w1 x1 hg4 hg4' b4=>?_
   refine fA dG (yy hn hv) fun w2 x2=>?_
   (refine ct ?_;refine ah ?_;refine ah ?_)
   refine fA dG (yy hd hv') fun w3 x3=>?_
   (refine ah ?_;refine ct ?_;refine aw ?_)
   refine NZ ?_
   refine LF fun g w4 x4 hg _ h4=>?_
   have xx:=((x1.tr x2).tr x3).tr x4
   have b44:=((b4.ext x2).ext x3).ext x4
   have hw0:w.heap.size<=g:=by have:=x1.size;have:=x2.size;have:=x3.size;omega
   have hne:g4≠g:=by have:=((b4.ext x2).ext x3).lt;omega
   refine cu dH (td h4 hp hq (fun W o=>hT.ext (o.ext xx hw0))) ?_
   rintro _ W ⟨o,rfl⟩
   refine gN (qG (dP b44 hne o) fun W2 o2=>?_)
   exact bQ.mk ⟨o2.ext (o.ext xx hw0) hg4,rfl⟩
  ·have hv2:cI d=false:=by simpa using hv'
   rw[BA (by rw[hv,hv2];rfl)]
   apply mr
   unfold jZ
   refine tG fun g4 w1 x1 hg4 hg4' b4=>?_
   refine fA dG (yy hn hv) fun w2 x2=>?_
   (refine ct ?_;refine ah ?_;refine ah ?_)
   refine fA dG (yy hd hv2) fun w3 x3=>?_
   (refine ah ?_;refine d7 ?_;refine aw ?_)
   refine NZ ?_
   refine LF fun g w4 x4 hg _ h4=>?_
   have xx:=((x1.tr x2).tr x3).tr x4
   have b44:=((b4.ext x2).ext x3).ext x4
   have hw0:w.heap.size<=g:=by have:=x1.size;have:=x2.size;have:=x3.size;omega
   have hne:g4≠g:=by have:=((b4.ext x2).ext x3).lt;omega
   refine cu dH (ej h4) ?_
   rintro _ W ⟨o,rfl⟩
   refine gN (qG (dP b44 hne o) fun W2 o2=>?_)
   exact bQ.mk ⟨o2.ext (o.ext xx hw0) hg4,rfl⟩
 ·have hv2:cI n=false:=by simpa using hv
  rw[BA (by rw[hv2];rfl)]
  apply mr
  unfold jZ
  refine tG fun g4 w1 x1 hg4 hg4' b4=>?_
  refine fA dG (yy hn hv2) fun w2 x2=>?_
  (refine d7 ?_;refine aR ?_;refine aR ?_;refine aR ?_;refine aQ ?_)
  refine NZ ?_
  refine LF fun g w4 x4 hg _ h4=>?_
  have xx:=(x1.tr x2).tr x4
  have b44:=(b4.ext x2).ext x4
  have hw0:w.heap.size<=g:=by have:=x1.size;have:=x2.size;omega
  have hne:g4≠g:=by have:=(b4.ext x2).lt;omega
  refine cu dH (ej h4) ?_
  rintro _ W ⟨o,rfl⟩
  refine gN (qG (dP b44 hne o) fun W2 o2=>?_)
  exact bQ.mk ⟨o2.ext (o.ext xx hw0) hg4,rfl⟩
omit hn hd in
theorem SD{x y:Int}(hx0: -9223372036854775808<=x)(hx1:x<=9223372036854775807)(hy0: -9223372036854775808<=y)(hy1:y<=9223372036854775807):
 Calls prog 66 #[.int .i64 x,.int .i64 y] w (bQ fun r w'=>bK w w'/\r=rv (ie x y)):=by
 have mx:=EM hx0 hx1
 have my:=EM hy0 hy1
 apply AY
 unfold tP
 refine tG fun g4 w1 x1 hg4 hg4' b4=>?_
 refine fA oo (B1 hx0 hx1 (hT.ext x1)) fun w2 x2=>?_
 refine fA oo (B1 hy0 hy1 ((hT.ext x1).ext x2)) fun w3 x3=>?_
 have cm:=N1 (cv mx) (cv my) (((hT.ext x1).ext x2).ext x3)
 rw[DB mx my]at cm
 refine pU yi cm fun w4 x4=>?_
 have xx:=((x1.tr x2).tr x3).tr x4
 refine qG (((b4.ext x2).ext x3).ext x4) fun W2 o2=>?_
 exact bQ.mk ⟨o2.ext xx hg4,rfl⟩
end
noncomputable def AO(n d m c:List UInt8):Bool:=!xo n d || !xo m c
theorem Je{n d m c:List UInt8}(h:kB n d/\kB m c):AO n d m c=false:=by unfold AO;rw[iu h.1,iu h.2];rfl
theorem Jf{n d m c:List UInt8}(h:¬(kB n d/\kB m c)):AO n d m c=true:=by
 unfold AO
 by_cases h1:kB n d
 ·rw[jd (fun h2=>h ⟨h1,h2⟩)];simp
 ·rw[jd h1];rfl
theorem lS{z:Int}:Dk false (nh z)=!decide (z.natAbs < cr):=by
 unfold Dk nh
 by_cases h:z.natAbs < cr
 ·rw[if_pos h,decide_eq_true h];rfl
 ·rw[if_neg h,decide_eq_false h];rfl
theorem LJ{w:World}{g:Nat}{f:Int->Int->Int}{F:Rat->Rat->Rat}{n d m c:List UInt8}{Q:Rat->Rat->R3}
 (hQ1:∀ x y,Bv f x y->Q x y=rQ (F x y)) (hQ0:∀ x y,¬Bv f x y->Q x y=gq)
 (hF:∀ x y:Rat,((f (x.num * (y.den:Int)) (y.num * (x.den:Int)):Int):Rat) / (((x.den:Int) * (y.den:Int):Int):Rat)=F x y)
 {b0 b1 b2 b3 b4:Bool} {n1 n2 n3 n4:List UInt8} (e0:b0=AO n d m c)
 (e1:n1=Ce b0 (lw (fun a b=>a * b) n c)) (f1:b1=Dk b0 (me (fun a b=>a * b) n c))
 (e2:n2=Ce b1 (lw (fun a b=>a * b) m d)) (f2:b2=Dk b1 (me (fun a b=>a * b) m d))
 (e3:n3=Ce b2 (lw f n1 n2)) (f3:b3=Dk b2 (me f n1 n2))
 (e4:n4=Ce b3 (lw (fun a b=>a * b) d c)) (f4:b4=Dk b3 (me (fun a b=>a * b) d c))
 (h:cM w g tW [.bool b4]) (hgT:∀ W,Own g w W->kA W):Calls prog 71 #[pt g,bh n3,bh n4] w (bQ (Jb g w (pk Q gq n d m c))):=by
 by_cases ok:kB n d/\kB m c
 ·obtain⟨⟨x,rfl,rfl,hx⟩,⟨y,rfl,rfl,hy⟩⟩:=ok
  rw[mJ hx hy]
  rw[Je ⟨⟨x,rfl,rfl,hx⟩,⟨y,rfl,rfl,hy⟩⟩]at e0
  subst e0
  rw[nW hx.n hy.d,lS]at f1
  rw[nV hx.n hy.d,xq]at e1
  by_cases s1:(x.num * (y.den:Int)).natAbs < cr
  ·rw[decide_eq_true s1]at f1
   subst f1
   rw[gh s1]at e1
   rw[Bool.not_true,nW hy.n hx.d,lS]at f2
   rw[Bool.not_true,nV hy.n hx.d,xq]at e2
   by_cases s2:(y.num * (x.den:Int)).natAbs < cr
   ·rw[decide_eq_true s2]at f2
    subst f2
    rw[gh s2]at e2
    rw[Bool.not_true,e1,e2,nW s1 s2,lS]at f3
    rw[Bool.not_true,e1,e2,nV s1 s2,xq]at e3
    by_cases s3:(f (x.num * (y.den:Int)) (y.num * (x.den:Int))).natAbs < cr
    ·rw[decide_eq_true s3]at f3
     subst f3
     rw[gh s3]at e3
     rw[Bool.not_true,nW hx.d hy.d,lS]at f4
     rw[Bool.not_true,nV hx.d hy.d,xq]at e4
     by_cases s4:((x.den:Int) * (y.den:Int)).natAbs < cr
     ·rw[decide_eq_true s4]at f4
      rw[gh s4]at e4
      subst f4;subst e3;subst e4
      rw[hQ1 x y ⟨⟨s1,s2⟩,s3,s4⟩]
      have:=td h s3 s4 hgT
      unfold ie at this
      rw[if_neg (sW x y),hF]at this
      exact this
     ·rw[decide_eq_false s4]at f4
      subst f4
      rw[hQ0 x y (fun h=>s4 h.2.2)]
      exact ej h
    ·rw[decide_eq_false s3]at f3
     subst f3;subst f4
     rw[hQ0 x y (fun h=>s3 h.2.1)]
     exact ej h
   ·rw[decide_eq_false s2]at f2
    subst f2;subst f3;subst f4
    rw[hQ0 x y (fun h=>s2 h.1.2)]
    exact ej h
  ·rw[decide_eq_false s1]at f1
   subst f1;subst f2;subst f3;subst f4
   rw[hQ0 x y (fun h=>s1 h.1.1)]
   exact ej h
 ·rw[jF ok]
  rw[Jf ok]at e0
  subst e0;subst f1;subst f2;subst f3;subst f4
  exact ej h
end Go.Proofs.YtnkmbjedcjcccaaGreatDoor
