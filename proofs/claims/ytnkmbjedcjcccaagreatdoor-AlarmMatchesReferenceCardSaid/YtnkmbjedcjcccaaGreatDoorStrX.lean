/-
  Contracts and plain lemmas. By an AI agent.
-/
import Derived.Test.YtnkmbjedcjcccaaGreatDoorNum
import Derived.Test.YtnkmbjedcjcccaaGreatDoorShelf
import Derived.Lib.Builder
import Derived.Lib.AppendStr
import Derived.Lib.OthersKept
import Derived.Test.YtnkmbjedcjcccaaGreatDoorPlain
import Derived.Deep.WholeRow
import Derived.Lib.AsciiSet
import Derived.Lib.SmallJoins
import Derived.Lib.FrozenHead
import Derived.Lib.AppendIntMem
import Derived.Lib.AtoiErrMem
set_option linter.all false
namespace Go.Proofs.YtnkmbjedcjcccaaGreatDoor
open Tryz
open Go Go.Eng Go.Proofs Go.Num Go.RowKit
set_option maxRecDepth 100000
abbrev tB:TypeId:=173
abbrev tU:TypeId:=5
theorem Di:∃ j,prog.info? 173=some j/\j.size=2:=Option.map_eq_some_iff.1 (by kernel_rfl:(prog.info? 173).map (·.size)=some 2)
theorem Dj:liesAt prog prog.depth 173 (2 / prog.cellsOf 173) 0 173 1=true:=by kernel_rfl
theorem EV{B b:Nat}{bs:List Value}{w:World}(h:Lib.IsBuilder tB tU B b bs w):
 Calls prog 173 #[.pointer (some ⟨b,0,none⟩)] w (bQ fun r w'=>r=.tuple #[]/\Lib.BuilderAt tB tU B b (.pointer (some ⟨b,0,none⟩)) bs w'/\(w'=w\/w'=w.setCell ⟨b,0,none⟩ (.pointer (some ⟨b,0,none⟩)))):=by
 obtain⟨j,hj,hjs⟩:=Di
 apply mP
 unfold iR
 rcases h with h | h
 ·(repeat (first|simp -dsimp[go_sem,h.cell0]|simp -dsimp (disch:=omega)only[gL,gI]))
  rw[Lib.run_to_unsafe w ⟨b,0,none⟩ underlying170 underlying223 hj (by rw[hjs];decide) h.shape (Nat.zero_lt_succ 1)]
  (repeat (first|simp -dsimp[go_sem]|simp -dsimp (disch:=omega)only[gL,gI]))
  show N _ _ _ _ _
  unfold N
  rw[run_callFunc_extern func195 (by kernel_rfl) (by kernel_rfl) (by kernel_rfl) (e:=Extern.AbiNoEscape.same) (by kernel_rfl),Lib.run_noEscape]
  simp only[Result.andThen,Mw]
  rw[Tr,Lib.run_from_unsafe w ⟨b,0,none⟩ underlying223 underlying170 hj h.shape Dj]
  (repeat (first|simp -dsimp[go_sem,h.cell0,h.frozen0]|simp -dsimp (disch:=omega)only[gL,gI]))
  exact bQ.mk ⟨rfl,h.used _,.inr rfl⟩
 ·(repeat (first|simp -dsimp[go_sem,h.cell0,Lib.run_neq_ptr_same w ⟨b,0,none⟩ underlying170 hj]|simp -dsimp (disch:=omega)only[gL,gI]))
  exact bQ.mk ⟨rfl,h,.inl rfl⟩
theorem OthersKept.kf{e:TypeId}{b:Nat}{B:Nat}{W W':World}(h:Lib.OthersKept e (some b) W W')(hs:W.heap.size<=W'.heap.size){cs:Array Value}{ty:TypeId}{fz:Nat×Nat}(hb:W.heap[b]?=some (.cells cs ty fz)):Kf B W W':=by
 refine⟨hs,fun k _ hk ho=>?_⟩
 rcases ho with ⟨r,hr⟩ | ⟨r,hr⟩
 ·rw[h k _ hr (by intro hc;cases hc;rw[hb]at hr;simp at hr) (by simp),hr]
 ·rw[h k _ hr (by intro hc;cases hc;rw[hb]at hr;simp at hr) (by simp),hr]
theorem Bq{B b:Nat}{bs:List Value}{s:ByteArray}{w:World}(h:Lib.IsBuilder tB tU B b bs w)(hlen:bs.length+s.size<=1000000)(hB:B<=w.heap.size):
 Calls prog 142 #[.pointer (some ⟨b,0,none⟩),.string s] w (bQ fun r w'=>r=.tuple #[.int .i64 s.size,.nilIface]/\Lib.IsBuilder tB tU B b (bs++Lib.strCells s) w'/\Below B w w'/\Lib.OthersKept tU (some b) w w'):=by
 have hBb:B<=b:=by rcases h with h | h <;> exact h.1
 apply l7
 unfold ik
 refine cu mQ (EV h) ?_
 rintro _ w1 ⟨rfl,h1,h2⟩
 have e1:Below B w w1:=by
  rcases h2 with rfl | rfl
  ·exact .refl _ _
  ·exact bK.stB (.refl _ _) hBb _
 have k1:Lib.OthersKept tU (some b) w w1:=by
  rcases h2 with rfl | rfl
  ·exact .refl _ _ _
  ·exact Lib.OthersKept.setCell (b:=b) (.refl _ _ _) ⟨b,0,none⟩ rfl _
 have s1:w1.heap.size=w.heap.size:=by
  rcases h2 with rfl | rfl <;> simp
 obtain⟨_,v,hb,hown,hne⟩:=h1
 have hc1:w1.cell? ⟨b,1,none⟩=some v:=by simp[World.cell?,hb]
 obtain⟨v',w2,hr,ho',hg,_⟩:=Lib.run_append_own_string w1 B 171 9 171 5 Tryz.t5 underlying171 underlying9 (by kernel_rfl) (by kernel_rfl) (by kernel_rfl) (by kernel_rfl) v bs.length bs hown s (by unfold maxLen;omega) (by omega) (by omega)
 (repeat (first|simp -dsimp[go_sem,hc1]|simp -dsimp (disch:=omega)only[gL,gI]))
 show V _ _ _ _
 rw[nU]
 show VK (Sem.run _ (Builtin.append_ #[171,9] 171 #[v,.string s]) w1) _
 rw[hr,Ri]
 have hb2:w2.heap[b]?=some (.cells #[.pointer (some ⟨b,0,none⟩),v] tB (0,0)):=(hg.block b (Array.getElem?_eq_some_iff.1 hb).1 (fun hc=>hne hc.symm)).trans hb
 have hc2:w2.cell? ⟨b,1,none⟩=some v:=by simp[World.cell?,hb2]
 have hf2:w2.frozen? ⟨b,1,none⟩=false:=by simp[World.frozen?,hb2]
 have hown':w2.ownsRow B tU 1 v' (bs++Lib.strCells s).length (bs++Lib.strCells s):=by
  have:(bs++Lib.strCells s).length=bs.length+s.size:=by
   have:=ho'.1;omega
  rw[this];exact ho'
 have hput:=Lib.BuilderAt.put hBb hb2 hown' (by decide:tB≠tU)
 have e2:Below B w1 w2:=World.grownBy.below hg (by omega) fun k hk=>(World.ownsRow.lt hown k hk).1
 have k2:Lib.OthersKept tU (some b) w1 w2:=by
  refine Lib.OthersKept.grown (.refl _ _ _) hg fun g hg'=>?_
  rcases hown.2 with ⟨rfl,_⟩ | ⟨g',cap,cur,rfl,_,hgg,_⟩
  ·simp[Value.ownBlock]at hg'
  ·simp only[Value.ownBlock,Option.some.injEq]at hg'
   subst hg';exact⟨_,_,hgg⟩
 obtain⟨a,n,c,hv'⟩:∃ a n c,v'=.slice a n c:=by
  rcases hown'.2 with ⟨rfl,_⟩ | ⟨g',cap,cur,rfl,_⟩ <;> exact⟨_,_,_,rfl⟩
 subst hv'
 (repeat (first|simp -dsimp[go_sem,hc2,hf2]|simp -dsimp (disch:=omega)only[gL,gI]))
 refine bQ.mk ⟨by simp,.inr hput,(e1.trans e2).trans (bK.stB (.refl _ _) hBb _),(k1.trans k2).trans (Lib.OthersKept.setCell (b:=b) (.refl _ _ _) ⟨b,1,none⟩ rfl _)⟩
theorem dI(l:List UInt8):(ByteArray.mk l.toArray).size=l.length:=rfl
def MY(l:List UInt8):List UInt8:=l.dropWhile fun b=>decide (lG b)
theorem Gi{s:List UInt8}{b:Nat}{w:World}(hl:s.length<=1000000)(hs:∀ x∈s,w.cell? ⟨b,x.toNat,none⟩=some (.bool (decide (lG x)))):
 Calls prog 191 #[bh s,.pointer (some ⟨b,0,none⟩)] w (bQ fun r w'=>w'=w/\r=bh (MY s)):=by
 apply pG
 unfold ky
 obtain⟨I,hI⟩:∃ I:Value->World->Prop,I=(fun v W=>W=w/\∃ l,v=bh l/\(∀ x∈l,x∈s)/\l.length<=1000000/\MY l=MY s):=⟨_,rfl⟩
 obtain⟨μ,hμ⟩:∃ μ:Value->World->Nat,μ=(fun v _=>match v with | .string s=>s.size | _=>0):=⟨_,rfl⟩
 refine jt.mk I μ (by rw[hI];exact⟨rfl,s,rfl,fun _ h=>h,hl,rfl⟩) ?_
 intro v W hh
 rw[hI]at hh
 obtain⟨rfl,l,rfl,h1,h2,h3⟩:=hh
 cases l with
 | nil=>
  (repeat (first|simp -dsimp[go_sem,dI]|simp -dsimp (disch:=omega)only[gL,gI]))
  exact bQ.mk ⟨rfl,by rw[<-h3];rfl⟩
 | cons a r=>
  (repeat (first|simp -dsimp[go_sem,dI]|simp -dsimp (disch:=omega)only[gL,gI]))
  have ha:=hs a (h1 a (by simp))
  refine cu iT (HW (Tryz.asciiSet_contains b a _ W ha)) ?_
  rintro _ _ ⟨rfl,rfl⟩
  by_cases hd:lG a
  ·(repeat (first|simp -dsimp[go_sem,hd,dI]|simp -dsimp (disch:=omega)only[gL,gI]))
   rw[hI,hμ]
   refine⟨⟨rfl,r,by rw[ByteArray.extract_mk];simp,fun x hx=>h1 x (by simp[hx]),by simp at h2;omega,?_⟩,?_⟩
   ·rw[<-h3];simp[MY,hd]
   ·simp[go_sem]
  ·(repeat (first|simp -dsimp[go_sem,hd]|simp -dsimp (disch:=omega)only[gL,gI]))
   exact bQ.mk ⟨rfl,by rw[<-h3];simp[MY,hd]⟩
def rr(l:List UInt8):List UInt8:=(l.reverse.dropWhile fun b=>decide (lG b)).reverse
theorem Ik(l:List UInt8)(a:UInt8):rr (l++[a])=if lG a then rr l else l++[a]:=by
 by_cases h:lG a <;> simp[rr,h]
theorem EW{s:List UInt8}{b:Nat}{w:World}(hl:s.length<=1000000)(hs:∀ x∈s,w.cell? ⟨b,x.toNat,none⟩=some (.bool (decide (lG x)))):
 Calls prog 192 #[bh s,.pointer (some ⟨b,0,none⟩)] w (bQ fun r w'=>w'=w/\r=bh (rr s)):=by
 apply oY
 unfold jT
 obtain⟨I,hI⟩:∃ I:Value->World->Prop,I=(fun v W=>W=w/\∃ l,v=bh l/\(∀ x∈l,x∈s)/\l.length<=1000000/\rr l=rr s):=⟨_,rfl⟩
 obtain⟨μ,hμ⟩:∃ μ:Value->World->Nat,μ=(fun v _=>match v with | .string s=>s.size | _=>0):=⟨_,rfl⟩
 refine jt.mk I μ (by rw[hI];exact⟨rfl,s,rfl,fun _ h=>h,hl,rfl⟩) ?_
 intro v W hh
 rw[hI]at hh
 obtain⟨rfl,l,rfl,h1,h2,h3⟩:=hh
 rcases Ga l with rfl | ⟨r,a,rfl⟩
 ·(repeat (first|simp -dsimp[go_sem,dI]|simp -dsimp (disch:=omega)only[gL,gI]))
  exact bQ.mk ⟨rfl,by rw[<-h3];rfl⟩
 ·have hlen:(r++[a]).length=r.length+1:=by simp
  rw[hlen]at h2
  obtain⟨l,hle⟩:∃ l,l=r++[a]:=⟨_,rfl⟩
  rw[<-hle]at hlen h3 ⊢
  (repeat (first|simp -dsimp[go_sem,dI,hlen]|simp -dsimp (disch:=omega)only[gL,gI]))
  have ha:=hs a (h1 a (by simp))
  have hget:(ByteArray.mk l.toArray)[r.length]'(by show r.length < l.length;omega)=a:=by
   show l[r.length]'(by omega)=a
   simp[hle]
  rw[hget]
  refine cu iT (HW (Tryz.asciiSet_contains b a _ W ha)) ?_
  rintro _ _ ⟨rfl,rfl⟩
  have hdr:=Ik r a
  rw[<-hle]at hdr
  by_cases hd:lG a
  ·(repeat (first|simp -dsimp[go_sem,hd,dI,hlen]|simp -dsimp (disch:=omega)only[gL,gI]))
   rw[hI,hμ]
   refine⟨⟨rfl,r,?_,fun x hx=>h1 x (by simp[hx]),by omega,?_⟩,?_⟩
   ·rw[ByteArray.extract_mk,hle];simp
   ·rw[<-h3,hdr,if_pos hd]
   ·show ByteArray.size _ < ByteArray.size _
    rw[ByteArray.extract_mk,dI,dI,hle];simp
  ·(repeat (first|simp -dsimp[go_sem,hd]|simp -dsimp (disch:=omega)only[gL,gI]))
   exact bQ.mk ⟨rfl,by rw[<-h3,hdr,if_neg hd]⟩
def Br:List UInt8:=[48,49,50,51,52,53,54,55,56,57]
theorem P1{s:List UInt8}{w:World}(hne:s≠[])(hl:s.length<=1000000):
 Calls prog 171 #[bh s,bh Br] w (bQ fun r w'=>bK w w'/\r=bh (MY (rr s))):=by
 apply Ae
 unfold sL
 have h0:0 < s.length:=List.length_pos_iff.2 hne
 have h1:s.isEmpty=false:=by simpa using hne
 have hz:∀ w,(zeroValue 218).run prog w=.ok (.agg (Array.replicate 256 (.bool false))) w:=fun w=>by rw[Tryz.zeroValue218];rfl
 unfold Br
 (repeat (first|simp -dsimp[go_sem,dI,h1]|simp -dsimp (disch:=omega)only[gL,gI]))
 refine cu qj (HW (Tryz.strings_makeASCIISet hz ⟨Br.toArray⟩ w (by decide) (fun j b h=>(by decide:∀ b∈Br,b.toNat < 128) b (List.mem_of_getElem? (by simpa using h))))) ?_
 rintro _ W ⟨rfl,hW⟩
 have hWe:bK w W:=by rw[hW];exact(bK.refl w).al _
 have hds:(Lib.setCells (⟨Br.toArray⟩:ByteArray).data.toList)=Lib.setCells Br:=rfl
 rw[hds]
 obtain⟨S,hS⟩:∃ S,S=Lib.setCells Br:=⟨_,rfl⟩
 rw[<-hS]
 have hS1:S.size=256:=by rw[hS];exact Lib.setCells_size Br
 have hat:∀ x∈s,S[x.toNat]?=some (.bool (decide (lG x))):=by
  intro x _
  rw[hS,Lib.setCells_at]
  congr 2
  have h2:Br.contains x=true↔lG x:=by
   rw[List.contains_iff_mem]
   constructor
   ·intro h;exact(by decide:∀ b∈Br,lG b) x h
   ·intro h
    unfold lG at h
    have:x=UInt8.ofNat x.toNat:=by simp
    rw[this]
    obtain⟨k,hk⟩:∃ k,k=x.toNat:=⟨_,rfl⟩
    rw[<-hk]at h ⊢
    have:k=48\/k=49\/k=50\/k=51\/k=52\/k=53\/k=54\/k=55\/k=56\/k=57:=by omega
    rcases this with rfl | rfl | rfl | rfl | rfl | rfl | rfl | rfl | rfl | rfl <;> decide
  by_cases hd:lG x
  ·rw[h2.2 hd];simp[hd]
  ·simp only[hd,decide_false];exact Bool.eq_false_iff.2 fun hc=>hd (h2.1 hc)
 have h1c:S.all (·.oneCell')=true:=by rw[hS];decide+kernel
 have hrun:=run_storeCells_new (P:=prog) W 218 Tryz.zeroCells218 S (by rw[hS1];kernel_rfl) (by rw[hS1];decide+kernel) h1c
 (repeat (first|simp -dsimp[go_sem,hS1,hrun]|simp -dsimp (disch:=omega)only[gL,gI]))
 have hB:cM (W.alloc (.cells S 218)) W.heap.size 218 S.toList:=by
  have:=cM.al W S.toList 218;simpa using this
 have hcell:∀ x∈s,(W.alloc (.cells S 218)).cell? ⟨W.heap.size,x.toNat,none⟩=some (.bool (decide (lG x))):=fun x hx=>hB.cell (by rw[Array.getElem?_toList];exact hat x hx)
 refine cu oZ (EW hl hcell) ?_
 rintro _ _ ⟨rfl,rfl⟩
 have hsub:∀ x∈rr s,x∈s:=by
  intro x hx
  unfold rr at hx
  rw[List.mem_reverse]at hx
  exact List.mem_reverse.1 (List.dropWhile_subset _ hx)
 have hlen:(rr s).length<=s.length:=by
  have:=(List.dropWhile_sublist (fun b=>decide (lG b)) (l:=s.reverse)).length_le
  simpa [rr] using this
 refine cu pH (Gi (by omega) (fun x hx=>hcell x (hsub x hx))) ?_
 rintro _ _ ⟨rfl,rfl⟩
 exact bQ.mk ⟨hWe.al _,rfl⟩
theorem uz{α:Type}{p:α->Bool}{l:List α}{x:α}(h:x∈l)(hp:p x=false):x∈l.dropWhile p:=by
 induction l with
 | nil=>exact h
 | cons a l ih=>
  rw[List.dropWhile_cons]
  split
  ·next ha=>
   rcases List.mem_cons.1 h with rfl | h
   ·rw[hp]at ha;simp at ha
   ·exact ih h
  ·exact h
theorem Bu{α:Type}{p:α->Bool}{l:List α}(h:∀ x∈l,p x=true):l.dropWhile p=[]:=by
 induction l with
 | nil=>rfl
 | cons a l ih=>
  rw[List.dropWhile_cons,if_pos (h a (by simp))]
  exact ih fun x hx=>h x (by simp[hx])
theorem KZ(s:List UInt8):MY (rr s)=[]↔∀ b∈s,lG b:=by
 constructor
 ·intro h b hb
  refine Classical.byContradiction fun hc=>?_
  have h1:b∈rr s:=by
   unfold rr
   rw[List.mem_reverse]
   exact uz (by simpa using hb) (by simpa using hc)
  have h2:b∈MY (rr s):=uz h1 (by simpa using hc)
  rw[h]at h2
  simp at h2
 ·intro h
  have h1:rr s=[]:=by
   unfold rr
   rw[Bu fun x hx=>by simpa using h x (by simpa using hx)]
   rfl
  rw[h1];rfl
theorem pR{s:List UInt8}{w:World}(hl:s.length<=1000000):
 Calls prog 139 #[bh s] w (bQ fun r w'=>bK w w'/\r=.bool (cI s)):=by
 apply vI
 unfold oy
 refine cu mb (HW (Tryz.strings_TrimPrefix ⟨s.toArray⟩ ⟨[45].toArray⟩ w)) ?_
 rintro _ _ ⟨rfl,rfl⟩
 obtain⟨t,ht⟩:∃ t,t=Lib.trimPrefix s [45]:=⟨_,rfl⟩
 have ht':Lib.trimPrefix (ByteArray.mk s.toArray).data.toList (ByteArray.mk [45].toArray).data.toList=t:=by rw[ht]
 have htl:t.length<=s.length:=by rw[ht];unfold Lib.trimPrefix;split <;> simp
 rw[ht']
 cases t with
 | nil=>
  (repeat (first|simp -dsimp[go_sem,dI]|simp -dsimp (disch:=omega)only[gL,gI]))
  exact bQ.mk ⟨.refl _,by simp[cI,<-ht]⟩
 | cons a r=>
  have hl2:r.length+1<=s.length:=by simpa using htl
  by_cases hlen:200 < r.length+1
  ·(repeat (first|simp -dsimp[go_sem,dI]|simp -dsimp (disch:=omega)only[gL,gI]))
   refine bQ.mk ⟨.refl _,?_⟩
   have:¬(a::r).length<=200:=by simp;omega
   simp only[cI,<-ht,this];simp
  ·(repeat (first|simp -dsimp[go_sem,dI]|simp -dsimp (disch:=omega)only[gL,gI]))
   refine cu Af (P1 (s:=a::r) (by simp) (by simp;omega)) ?_
   rintro _ w1 ⟨hw1,rfl⟩
   have hdr:=KZ (a::r)
   by_cases hd:MY (rr (a::r))=[]
   ·rw[hd]
    have hall:=hdr.1 hd
    have hl200:(a::r).length<=200:=by simp;omega
    by_cases hs:s=[48]
    ·have hs':(s == [48])=true:=by rw[hs];rfl
     (repeat (first|simp -dsimp[go_sem,dI,hs']|simp -dsimp (disch:=omega)only[gL,gI]))
     refine bQ.mk ⟨hw1,?_⟩
     have h2:cI s=true:=by
      unfold cI
      rw[<-ht]
      exact decide_eq_true ⟨⟨by simp,hl200,hall⟩,.inl hs⟩
     rw[h2]
    ·have hs':(s == [48])=false:=by simpa using hs
     (repeat (first|simp -dsimp[go_sem,dI,hs']|simp -dsimp (disch:=omega)only[gL,gI]))
     refine bQ.mk ⟨hw1,?_⟩
     congr 1
     unfold cI
     rw[<-ht]
     have hb:∀ x:UInt8,(((x.toNat:Int) !=48)=true)↔x≠48:=by
      intro x
      rw[bne_iff_ne]
      constructor
      ·rintro h rfl;exact h rfl
      ·intro h hc;exact h (sV (by show x.toNat=48;omega))
     show(((a.toNat:Int)) !=48)=_
     rw[Bool.eq_iff_iff,decide_eq_true_iff,hb a]
     constructor
     ·intro h;exact⟨⟨by simp,hl200,hall⟩,.inr (by simpa using h)⟩
     ·rintro⟨_,h | h⟩
      ·exact absurd h hs
      ·simpa using h
   ·obtain⟨b,l,hbl⟩:=List.exists_cons_of_ne_nil hd
    rw[hbl]
    (repeat (first|simp -dsimp[go_sem,dI]|simp -dsimp (disch:=omega)only[gL,gI]))
    refine bQ.mk ⟨hw1,?_⟩
    have h2:cI s=false:=by
     unfold cI
     rw[<-ht]
     exact decide_eq_false fun h=>hd (hdr.2 h.1.2.2)
    rw[h2]
abbrev kA(w:World):Prop:=Lib.TabIs prog w "internal/strconv.uint64pow10" .u64 Lib.pow10Tab
theorem Il:∃ g,prog.globalNamed "internal/strconv.uint64pow10"=some g:=Option.isSome_iff_exists.1 (by kernel_rfl)
theorem kA.below{w w':World}(h:kA w){B:Nat}(he:Below B w w')(hB:w.heap.size<=B):kA w':=by
 obtain⟨g,hg⟩:=Il
 exact Joins.var_stays hg h he hB
theorem kA.ext{w w':World}(h:kA w)(he:bK w w'):kA w':=h.below he (Nat.le_refl _)
theorem bK.grow{w:World}(k:Nat)(os:Array Obj):bK w (Sort.grow (w.drewN k) os):=Lib.below_grow _ _ (Nat.le_refl _) _ _
theorem wq{B b:Nat}{bs:List Value}{W W':World}(h:Lib.IsBuilder tB tU B b bs W)(hk:∀(k:Nat) (o:Obj),W.heap[k]?=some o->(∃ c ty fz,o=Obj.cells c ty fz)->W'.heap[k]?=some o):Lib.IsBuilder tB tU B b bs W':=by
 have key:∀ p,Lib.BuilderAt tB tU B b p bs W->Lib.BuilderAt tB tU B b p bs W':=by
  rintro p ⟨h1,v,h2,h3,h4⟩
  refine⟨h1,v,hk _ _ h2 ⟨_,_,_,rfl⟩,?_,h4⟩
  rcases h3 with ⟨a,⟨b1,b2⟩ | ⟨g,cap,cur,b1,b2,b3,b4⟩⟩
  ·exact⟨a,.inl ⟨b1,b2⟩⟩
  ·exact⟨a,.inr ⟨g,cap,cur,b1,b2,hk _ _ b3 ⟨_,_,_,rfl⟩,b4⟩⟩
 exact h.imp (key _) (key _)
theorem sY{B b:Nat}{bs:List Value}{W W':World}(h:Lib.IsBuilder tB tU B b bs W)(he:bK W W'):Lib.IsBuilder tB tU B b bs W':=
 wq h fun k o hk _=>he.dfr hk
theorem Gj{B b B':Nat}{bs:List Value}{W W':World}(h:Lib.IsBuilder tB tU B b bs W)(he:Bk B' W W'):Lib.IsBuilder tB tU B b bs W':=by
 refine wq h fun k o hk ho=>?_
 rcases he.block k (Array.getElem?_eq_some_iff.1 hk).1 with h1 | ⟨_,r,r',h1,_⟩
 ·exact h1.trans hk
 ·obtain⟨c,ty,fz,rfl⟩:=ho
  rw[hk]at h1;simp at h1
theorem TV(n:Nat):(10000:Nat) ^ n=10 ^ (4 * n):=by rw[Nat.pow_mul]
theorem K0{a k:Nat}(h:a<=k):10 ^ a<=10 ^ k:=Nat.pow_le_pow_right (by decide) h
theorem Gk{n:Int}{w:World}(h0: -9223372036854775808<=n)(h1:n<=9223372036854775807)(ht:kA w):
 Calls prog 78 #[.int .i64 n] w (bQ fun r w'=>r=bh (Lib.itoa n)/\bK w w'):=by
 refine(Tryz.strconv_Itoa n h0 h1 w ht).mono ?_
 rintro e w' ⟨rfl,k,os,rfl⟩
 exact bQ.mk ⟨rfl,bK.grow k os⟩
theorem B4{c:Nat}{w:World}(hc:c<=1000):Calls prog 136 #[bh [48],.int .i64 c] w (bQ fun r w'=>r=bh (List.replicate c 48)/\bK w w'):=by
 refine(Tryz.strings_Repeat ⟨[48].toArray⟩ c w (by omega) (by show 1 * c<=_;omega)).mono ?_
 rintro e w' ⟨rfl,h⟩
 refine bQ.mk ⟨?_,h⟩
 have:∀ c,Lib.repeatL [48] c=List.replicate c 48:=by
  intro c
  induction c with
  | zero=>rfl
  | succ c ih=>simp[Lib.repeatL,ih,List.replicate_succ]
 exact congrArg bh (this c)
def jE(z:Int):Value:=if z.natAbs < cr then .tuple #[bh (Lib.itoa z),.int .i64 0] else .tuple #[bh [],.int .i64 30]
theorem wg.drop{xs:List Int}(h:wg xs)(i:Nat):wg (xs.drop i):=by
 induction i generalizing xs with
 | zero=>simpa using h
 | succ i ih=>
  cases xs with
  | nil=>simpa using h
  | cons x xs=>simpa using ih h.tail
theorem xj(l m:List UInt8):Lib.byteCells (l++m)=Lib.byteCells l++Lib.byteCells m:=by simp[Lib.byteCells]
theorem K1{w:World}{neg:Bool}{v:Value}{x:Int}(hv:cV w v x)(hx:x < Mx)(ht:kA w):
 Calls prog 105 #[.agg #[.bool neg,v]] w (bQ fun r w'=>bK w w'/\r=jE (if neg then -x else x)):=by
 obtain⟨xs,h1,h2,rfl,h3⟩:=hv.get hx
 obtain⟨a1,cap1,rfl⟩:=h1.slice
 apply rk
 unfold lg
 by_cases hne:xs=[]
 ·subst hne
  (repeat (first|simp -dsimp[go_sem]|simp -dsimp (disch:=omega)only[gL,gI]))
  refine bQ.mk ⟨(bK.refl w).al _,?_⟩
  have:(if neg=true then -num [] else num [])=0:=by cases neg <;> rfl
  rw[this]
  unfold jE
  rw[if_pos (by unfold cr;decide)]
  congr 2
  unfold Lib.itoa
  rw[if_neg (by decide)]
  rw[show(0:Int).toNat=0 from rfl,jD (by decide)];rfl
 ·have hlen:0 < xs.length:=List.length_pos_iff.2 hne
  (repeat (first|simp -dsimp[go_sem]|simp -dsimp (disch:=omega)only[gL,gI]))
  obtain⟨w1,hw1⟩:∃ w1,(w.alloc (Obj.cells #[.bool neg,.slice a1 xs.length cap1] 141)).alloc (Obj.cells #[.pointer none,.slice none 0 0] 173)=w1:=⟨_,rfl⟩
  obtain⟨b,hb⟩:∃ b,b=w.heap.size+1:=⟨_,rfl⟩
  have he:bK w w1:=by rw[<-hw1];exact((bK.refl w).al _).al _
  have hbs:cM w1 w.heap.size 141 [.bool neg,.slice a1 xs.length cap1]:=by rw[<-hw1];exact(cM.al w [_,_] _).ext ((bK.refl _).al _)
  have hbb:cM w1 b 173 [.pointer none,.slice none 0 0]:=by rw[<-hw1,hb];have:=cM.al (w.alloc (Obj.cells #[.bool neg,.slice a1 xs.length cap1] 141)) [.pointer none,.slice none 0 0] 173;simpa using this
  have hsz:b+1=w1.heap.size:=by rw[<-hw1,hb];simp
  have hbl:Lib.IsBuilder tB tU b b [] w1:=.inl ⟨Nat.le_refl _,_,hbb,World.ownsRow_nil _ _ _ _,by simp[Value.ownBlock]⟩
  rw[hw1,<-hb]
  refine cu dF p7 ?_
  rintro _ w2 ⟨rfl,he2,hs2,hd⟩
  have hd:=hd (by simp[go_sem])
  have ht1:=ht.ext he
  obtain⟨pre,hpre⟩:∃ pre:Nat->List UInt8,pre=fun i=>if i=0 then [] else Lib.decDigits (num (xs.drop (xs.length - i))).toNat:=⟨_,rfl⟩
  obtain⟨J,hJ⟩:∃ J:Nat->World->Prop,J=fun i W=>Below b w1 W/\Lib.IsBuilder tB tU b b (Lib.byteCells (pre i)) W/\cM W w1.heap.size 139 [.slice a1 xs.length cap1]/\kA W:=⟨_,rfl⟩
  have hpl:∀ i,i<=xs.length->(pre i).length<=10000:=by
   intro i hi
   rw[hpre]
   show(if i=0 then [] else Lib.decDigits (num (xs.drop (xs.length - i))).toNat).length<=10000
   split
   ·simp
   ·have hd:=h2.1.drop (xs.length - i)
    have h4:=C8 hd
    have h5:=num_nonneg hd
    refine(mX (k:=10000) (by decide)).2 ?_
    have h6:(num (xs.drop (xs.length - i))).toNat < 10000 ^ (xs.drop (xs.length - i)).length:=by
     have:((num (xs.drop (xs.length - i))).toNat:Int) < ((10000 ^ (xs.drop (xs.length - i)).length:Nat):Int):=by
      rw[Int.toNat_of_nonneg h5];push_cast;exact h4
     exact_mod_cast this
    refine Nat.lt_of_lt_of_le h6 ?_
    rw[TV]
    exact K0 (a:=4 * (xs.drop (xs.length - i)).length) (k:=10000) (by simp;omega)
  refine Ha.mk 172 _ (qK xs) J (fun e W=>False)
   rfl dC (yN (v:=.slice a1 xs.length cap1) (by omega) fun i W h=>?_) ?_ ?_ ?_ ?_ ?_ ?_ (by simp)
  ·rw[hJ]at h
   exact⟨h.2.2.1.cell rfl,h1.ext ((he.mono (Nat.le_refl _)).trans (h.1.mono (by omega)))⟩
  ·rw[hJ]
   rintro i W W' ⟨j1,j2,j3,j4⟩ hk
   have hlow:=hk.low j1 (by omega) (by omega)
   exact⟨hlow,Gj j2 hk,j3.bk hk,ht.ext (he.trans (hlow.mono (by omega)))⟩
  ·exact fun _ _ _ h=>h.elim
  ·rw[hJ]
   exact⟨he2.mono (by omega),by rw[hpre];exact sY hbl he2,hd,ht1.ext he2⟩
  ·rintro a0 a1' i W hi hjw hsW
   rw[hJ]at hjw
   obtain⟨j1,j2,j3,j4⟩:=hjw
   obtain⟨j,d,e1,e2,rfl,rfl⟩:=pz hi
   have hdy:d=xs[j]'(by omega):=by rw[List.getElem?_eq_getElem (by omega)]at e2;simpa using e2.symm
   have hd2:=h2.1 d (by rw[hdy];exact List.getElem_mem _)
   have hstep:num (xs.drop j)=d+10000 * num (xs.drop (j+1)):=by
    rw[List.drop_eq_getElem_cons (by omega:j < xs.length),<-hdy];rfl
   have hpl1:=hpl (i+1) (by omega)
   refine cu gH (Gk (by omega) (by omega) j4) ?_
   rintro _ W1 ⟨rfl,x1⟩
   have lR:Lib.itoa d=Lib.decDigits d.toNat:=by unfold Lib.itoa;rw[if_neg (by omega)]
   rw[lR]
   have hdl:(Lib.decDigits d.toNat).length<=4:=(mX (by decide)).2 (by omega)
   have k1:Below b w1 W1:=j1.trans (x1.mono (by have:=j1.size;omega))
   have kb:=hbs.below k1 (by omega)
   obtain⟨g,hg⟩:∃ g,g=Lib.decDigits d.toNat:=⟨_,rfl⟩
   rw[<-hg]at hdl ⊢
   have fin:∀ l,pre (i+1)=pre i++l->∀ W2,bK W1 W2->∀ K:World->Prop,(∀ W3,J (i+1) W3/\Kf w2.heap.size W W3->K W3)->Cl prog 142 #[.pointer (some ⟨b,0,none⟩),bh l] W2 (fun _ _=>False) fun _ w=>K w:=by
    intro l hl W2 x2 K hK
    have x12:=x1.tr x2
    have k2:Below b w1 W2:=j1.trans (x12.mono (by have:=j1.size;omega))
    refine cu l8 (Bq (sY j2 x12) (by rw[dI];have:=congrArg List.length hl;simp[Lib.byteCells]at this ⊢;omega) (by have:=k2.size;omega)) ?_
    rintro _ W3 ⟨_,b3,k3,o3⟩
    refine hK W3 ⟨?_,?_⟩
    ·rw[hJ]
     refine⟨k2.trans k3,?_,?_,ht.ext (he.trans ((k2.trans k3).mono (by omega)))⟩
     ·rw[hl,xj];exact b3
     ·exact o3 _ _ (j3.ext x12) (by simp;omega) (by intro c fz h;cases h)
    ·obtain⟨v3,hv3⟩:∃ v3:Array Value,∃ ty fz,W2.heap[b]?=some (.cells v3 ty fz):=by
      rcases sY j2 x12 with ⟨_,v,h,_⟩ | ⟨_,v,h,_⟩ <;> exact⟨_,_,_,h⟩
     obtain⟨ty,fz,hv3⟩:=hv3
     exact(Kf.ext x12).trans (OthersKept.kf o3 k3.size hv3)
   by_cases htop:i=0
   ·subst htop
    (repeat (first|simp -dsimp[go_sem,kb.cell (i:=1) rfl]|simp -dsimp (disch:=omega)only[gL,gI]))
    refine fin g ?_ W1 (.refl _) _ fun W3 h=>h
    rw[hpre]
    show Lib.decDigits (num (xs.drop (xs.length - (0+1)))).toNat=[]++g
    rw[show xs.length - (0+1)=j from by omega,hstep,List.drop_of_length_le (by omega),hg]
    simp[num]
   ·(repeat (first|simp -dsimp[go_sem,kb.cell (i:=1) rfl,dI]|simp -dsimp (disch:=omega)only[gL,gI]))
    rw[show((4:Int) - g.length)=((4 - g.length:Nat):Int) from by omega]
    refine cu pB (B4 (by omega)) ?_
    rintro _ W2 ⟨rfl,x2⟩
    (repeat (first|simp -dsimp[go_sem]|simp -dsimp (disch:=omega)only[gL,gI]))
    have hcat:(ByteArray.mk (Array.replicate (4 - g.length) 48))++(ByteArray.mk g.toArray)=⟨(List.replicate (4 - g.length) 48++g).toArray⟩:=by
     apply ByteArray.ext;simp[ByteArray.data_append]
    rw[hcat]
    refine fin (List.replicate (4 - g.length) 48++g) ?_ W2 x2 _ fun W3 h=>h
    rw[hpre]
    show(if i+1=0 then [] else Lib.decDigits (num (xs.drop (xs.length - (i+1)))).toNat)=(if i=0 then [] else Lib.decDigits (num (xs.drop (xs.length - i))).toNat)++_
    rw[if_neg (by omega),if_neg htop,show xs.length - (i+1)=j from by omega,show xs.length - i=j+1 from by omega,hstep]
    have hpos:=(wg.drop h2 (j+1)).pos (by intro hc;have:=congrArg List.length hc;simp at this;omega)
    rw[show(d+10000 * num (xs.drop (j+1))).toNat=(num (xs.drop (j+1))).toNat * 10 ^ 4+d.toNat from by omega,MK (by omega) (by omega) (by decide),hg]
  ·rintro D W hD hWD hjw
   rw[hJ]at hjw
   obtain⟨j1,j2,j3,j4⟩:=hjw
   rw[gU]at j2
   have hx0:=h2.pos hne
   have hpn:pre xs.length=Lib.decDigits (num xs).toNat:=by
    rw[hpre]
    show(if xs.length=0 then [] else Lib.decDigits (num (xs.drop (xs.length - xs.length))).toNat)=_
    rw[if_neg (by omega),Nat.sub_self,List.drop_zero]
   rw[hpn]at j2
   obtain⟨g,hg⟩:∃ g,g=Lib.decDigits (num xs).toNat:=⟨_,rfl⟩
   rw[<-hg]at j2
   refine cu oU (HW (Tryz.Builder_String_any_k b b g W (.of j2) (by have:=j1.size;omega))) ?_
   rintro _ W2 ⟨rfl,_,k2,o2⟩
   have hD2:W2.heap[D]?=some (.deferred (some [])):=o2 _ _ hWD (by simp;omega) (by intro c fz h;cases h)
   have k12:=j1.trans k2
   have kb:=hbs.below k12 (by omega)
   have hfin:bK w W2:=he.trans (k12.mono (by omega))
   have hgl:g.length<=200↔(num xs).toNat < cr:=by rw[hg];unfold cr;exact mX (by decide)
   by_cases hbig:200 < g.length
   ·(repeat (first|simp -dsimp[go_sem,dI]|simp -dsimp (disch:=omega)only[gL,gI]))
    refine Tk.mk hD2 fun w' hb' hk'=>?_
    refine bQ.mk ⟨hfin.trans (hb'.mono (by omega)),?_⟩
    unfold jE
    rw[if_neg]
    cases neg <;> simp <;> omega
   ·have hlt:=hgl.1 (by omega)
    cases neg with
    | true=>
     (repeat (first|simp -dsimp[go_sem,dI,kb.cell (i:=0) rfl]|simp -dsimp (disch:=omega)only[gL,gI]))
     refine Tk.mk hD2 fun w' hb' hk'=>?_
     refine bQ.mk ⟨hfin.trans (hb'.mono (by omega)),?_⟩
     unfold jE
     rw[if_pos (by simp;omega)]
     unfold Lib.itoa
     rw[if_pos (by simp;omega),show(if true=true then -num xs else num xs).natAbs=(num xs).toNat from by simp;omega,<-hg]
     congr 3
    | false=>
     (repeat (first|simp -dsimp[go_sem,dI,kb.cell (i:=0) rfl]|simp -dsimp (disch:=omega)only[gL,gI]))
     refine Tk.mk hD2 fun w' hb' hk'=>?_
     refine bQ.mk ⟨hfin.trans (hb'.mono (by omega)),?_⟩
     unfold jE
     rw[if_pos (by simp;omega)]
     unfold Lib.itoa
     rw[if_neg (by simp;omega),show(if false=true then -num xs else num xs).toNat=(num xs).toNat from by simp,<-hg]
  ·exact fun _ _ _ _ h=>h.elim
theorem gz.setBlk{w:World}{base:Nat}{e:TypeId}{v:Value}{xs:List Value}(h:gz w base e v xs){b:Nat}{ty:TypeId}{cs:List Value}(hb:cM w b ty cs)(hne:ty≠e)(i:Nat)(u:Value):gz (w.setCell ⟨b,i,none⟩ u) base e v xs:=by
 have h1:=Lib.ownBlock_ne h hb hne
 exact World.ownsRow.kept h (row:=some b) ⟨rfl,rfl,rfl,by simp,fun k _ hk=>heap_setCell_other w ⟨b,i,none⟩ k u (fun e=>hk (by simp[e]))⟩ (.inr h1)
theorem eI.slice'{w:World}{v:Value}{xs:List Value}(h:eI w v xs):∃ a n cap,v=.slice a n cap:=by
 obtain⟨a,c,h⟩:=eI.slice h;exact⟨_,_,_,h⟩
theorem P2{l:List UInt8}{w:World}(h:∀ b∈l,lG b)(hne:l≠[])(hl:l.length<=18):
 Calls prog 76 #[bh l] w (bQ fun r w'=>r=.tuple #[.int .i64 (dv l),.nilIface]/\bK w w'):=by
 refine(Tryz.strconv_Atoi ⟨l.toArray⟩ (dv l) hl (ML h hne) w).mono ?_
 rintro e w' ⟨rfl,t,rfl⟩
 exact bQ.mk ⟨rfl,Lib.bytesWorld_below _ _ _⟩
theorem Hw{z:Int}{w:World}(hz:z.natAbs < cr):
 Calls prog 140 #[bh (Lib.itoa z)] w (bQ fun r w'=>bK w w'/\∃ v,r=.agg #[.bool (decide (z < 0)),v]/\cV w' v z.natAbs):=by
 apply yu
 unfold qT
 (repeat (first|simp -dsimp[go_sem]|simp -dsimp (disch:=omega)only[gL,gI]))
 obtain⟨w1,hw1⟩:∃ w1,w.alloc (Obj.cells #[.bool false,.slice none 0 0] 141)=w1:=⟨_,rfl⟩
 have he:bK w w1:=by rw[<-hw1];exact(bK.refl w).al _
 have hb2:cM w1 w.heap.size 141 [.bool false,.slice none 0 0]:=by rw[<-hw1];exact cM.al w [_,_] _
 have hs1:w1.heap.size=w.heap.size+1:=by rw[<-hw1];simp
 rw[hw1]
 refine cu mb (HW (Tryz.strings_TrimPrefix ⟨(Lib.itoa z).toArray⟩ ⟨[45].toArray⟩ w1)) ?_
 rintro _ W ⟨rfl,hW⟩
 obtain rfl:=hW.symm
 obtain⟨D,hD⟩:∃ D,D=Lib.decDigits z.natAbs:=⟨_,rfl⟩
 have htr:Lib.trimPrefix (ByteArray.mk (Lib.itoa z).toArray).data.toList (ByteArray.mk [45].toArray).data.toList=D:=by rw[hD];exact wZ z
 rw[htr]
 have hDd:∀ b∈D,lG b:=by rw[hD];exact oD _
 have hDl:D.length<=200:=by rw[hD];exact(mX (by decide)).2 (by unfold cr at hz;exact hz)
 have hil:(Lib.itoa z).length=if z < 0 then D.length+1 else D.length:=by
  unfold Lib.itoa
  split
  ·simp[hD]
  ·rw[hD,show z.toNat=z.natAbs from by omega]
 have hneg:decide (D.length < (Lib.itoa z).length)=decide (z < 0):=by
  rw[hil];split <;> simp <;> omega
 (repeat (first|simp -dsimp[go_sem,dI,hneg]|simp -dsimp (disch:=omega)only[gL,gI]))
 obtain⟨w2,hw2⟩:∃ w2,w1.alloc (Obj.cells #[.bool (decide (z < 0)),.slice none 0 0] 141)=w2:=⟨_,rfl⟩
 have he2:bK w1 w2:=by rw[<-hw2];exact(bK.refl _).al _
 have hb4:cM w2 w1.heap.size 141 [.bool (decide (z < 0)),.slice none 0 0]:=by rw[<-hw2];exact cM.al w1 [_,_] _
 have hb22:=hb2.ext he2
 have hs2:w2.heap.size=w1.heap.size+1:=by rw[<-hw2];simp
 rw[hw2]
 obtain⟨b4,hb4e⟩:∃ b4,b4=w1.heap.size:=⟨_,rfl⟩
 rw[<-hb4e]at hb4 hs2 ⊢
 obtain⟨I,hI⟩:∃ I:Value->World->Prop,I=(fun t W=>∃ k v xs,t=bh (D.take k)/\k<=D.length/\Below w.heap.size w W/\cM W w.heap.size 141 [.bool false,.slice none 0 0]/\cM W b4 141 [.bool (decide (z < 0)),v]/\gz W w.heap.size 3 v (List.map iv xs)/\Dg xs/\num xs=dv (D.drop k)/\xs.length<=1000/\(D.length - k=4 * xs.length\/k=0)):=⟨_,rfl⟩
 obtain⟨μ,hμ⟩:∃ μ:Value->World->Nat,μ=(fun t _=>match t with | .string s=>s.size | _=>0):=⟨_,rfl⟩
 refine jt.mk I μ (by rw[hI];exact⟨D.length,_,[],by rw[List.take_length],Nat.le_refl _,he.trans (he2.mono (by omega)),hb22,hb4,gz.nil _ _ _,by simp[Dg],by simp[num,dv],by simp,.inl (by simp)⟩) ?_
 intro t W hh
 rw[hI]at hh
 obtain⟨k,v,xs,rfl,hk,j1,j2,j3,j4,j5,j6,j7,j8⟩:=hh
 have hkl:(D.take k).length=k:=by simp;omega
 obtain⟨T,hT⟩:∃ T,T=D.take k:=⟨_,rfl⟩
 rw[<-hT]at hkl ⊢
 obtain⟨a,n,c,hv⟩:=eI.slice' j4.slAt
 subst hv
 by_cases hk0:k=0
 ·(repeat (first|simp -dsimp[go_sem,dI,hkl,j3.cell (i:=1) rfl]|simp -dsimp (disch:=omega)only[gL,gI]))
  have j4s:gA W (.slice a n c) xs:=j4.slAt
  refine cu dS (mZ j4s (by omega)) ?_
  rintro v2 W2 ⟨t2,hW2,_⟩
  obtain rfl:=hW2.symm
  obtain⟨a2,c2,rfl⟩:=t2.slice
  (repeat (first|simp -dsimp[go_sem,j3.cell (i:=1) rfl,j3.frz 1,j3.cell (i:=0) rfl,j2.cell (i:=0) rfl,j2.cell (i:=1) rfl,j2.frz 0,j2.frz 1]|simp -dsimp (disch:=omega)only[gL,gI]))
  have l0:w.heap.size≠b4:=by omega
  have l1:=he.size
  have p2:=j2.setOther (p:=⟨b4,1,none⟩) l0 (.slice a2 (trimL xs).length c2)
  have p2':=p2.set 0 (.bool (decide (z < 0)))
  have n1:=gA.setBlk t2 j3 (by simp) 1 (.slice a2 (trimL xs).length c2)
  have n2:=gA.setBlk n1 p2 (by simp) 0 (.bool (decide (z < 0)))
  have n3:=gA.setBlk n2 p2' (by simp) 1 (.slice a2 (trimL xs).length c2)
  refine bQ.mk ⟨bK.stB (bK.stB (bK.stB j1 (show w.heap.size<=b4 by omega) _) (Nat.le_refl w.heap.size) _) (Nat.le_refl w.heap.size) _,_,rfl,trimL xs,n3,wg.trimL j5,?_⟩
  rw[m7,j6,hk0,List.drop_zero,hD,uZ]
 ·obtain⟨f,hf⟩:∃ f,f=k - 4:=⟨_,rfl⟩
  have hf':max 0 ((k:Int) - 4)=(f:Int):=by omega
  (repeat (first|simp -dsimp[go_sem,dI,hkl,hf']|simp -dsimp (disch:=omega)only[gL,gI]))
  have hseg:(ByteArray.mk T.toArray).extract f k=⟨(T.drop f).toArray⟩:=by
   rw[ByteArray.extract_mk,List.take_of_length_le (by simp;omega)]
  have hseg2:(ByteArray.mk T.toArray).extract 0 f=⟨(D.take f).toArray⟩:=by
   rw[ByteArray.extract_mk,hT,List.drop_zero,List.take_take]
   rw[show min (f - 0) k=f from by omega]
  rw[hseg]
  have hsd:∀ b∈T.drop f,lG b:=fun b hb=>hDd b (by rw[hT]at hb;exact List.mem_of_mem_take (List.mem_of_mem_drop hb))
  have hsl:(T.drop f).length=k - f:=by simp;omega
  refine cu dX (P2 hsd (by intro hc;have:=congrArg List.length hc;simp at this;omega) (by omega)) ?_
  rintro _ W1 ⟨rfl,x1⟩
  have i3:=j3.ext x1
  (repeat (first|simp -dsimp[go_sem,i3.cell (i:=1) rfl]|simp -dsimp (disch:=omega)only[gL,gI]))
  refine kH xZ (by decide) (j4.ext x1) rfl rfl (by simp;omega) (by have:=j1.size;have:=x1.size;omega) fun v' W2 o2 b2 g2=>?_
  obtain⟨a2,n2,c2,hv2⟩:=eI.slice' o2.slAt
  subst hv2
  have hnb:=Lib.ownBlock_ne (j4.ext x1) i3 (by decide:(141:TypeId)≠3)
  have i3':cM W2 b4 141 [.bool (decide (z < 0)),.slice a n c]:=(g2 b4 i3.lt fun hc=>hnb hc.symm).trans i3
  have i2:=j2.ext x1
  have hnb2:=Lib.ownBlock_ne (j4.ext x1) i2 (by decide:(141:TypeId)≠3)
  have i2':cM W2 w.heap.size 141 [.bool false,.slice none 0 0]:=(g2 w.heap.size i2.lt fun hc=>hnb2 hc.symm).trans i2
  (repeat (first|simp -dsimp[go_sem,i3'.cell (i:=1) rfl,i3'.frz 1,hf',hkl]|simp -dsimp (disch:=omega)only[gL,gI]))
  rw[hseg2,hI,hμ]
  refine⟨⟨f,_,xs++[(dv (T.drop f):Int)],rfl,by omega,bK.stB (j1.trans ((x1.mono j1.size).trans b2)) (show w.heap.size<=b4 by have:=he.size;omega) _,i2'.setOther (show w.heap.size≠b4 by omega) _,i3'.set 1 _,?_,?_,?_,?_,?_⟩,?_⟩
  ·rw[List.map_append];exact gz.setBlk o2 i3' (by decide) 1 _
  ·intro x hx
   rcases List.mem_append.1 hx with h | h
   ·exact j5 x h
   ·simp only[List.mem_singleton]at h
    subst h
    have h1:=NC hsd
    have h2:10 ^ (T.drop f).length<=10 ^ 4:=Nat.pow_le_pow_right (by decide) (by omega)
    omega
  ·rw[KF,j6,PH hk (show f<=k by omega),<-hT]
   have h8:D.length - k=4 * xs.length:=by omega
   rw[h8,Nat.pow_mul]
   push_cast
   rw[Int.add_comm,Int.mul_comm]
  ·simp;omega
  ·simp;omega
  ·show ByteArray.size _ < ByteArray.size _
   rw[dI,dI,hkl];simp;omega
theorem sZ{z:Int}(hz:z.natAbs < cr):(Lib.itoa z).length<=1000:=by
 have h1:(Lib.decDigits z.natAbs).length<=200:=(mX (by decide)).2 (by unfold cr at hz;exact hz)
 unfold Lib.itoa
 split
 ·simp;omega
 ·rw[show z.toNat=z.natAbs from by omega];omega
theorem pS{x y:Int}{w:World}(hx:x.natAbs < cr)(hy:y.natAbs < cr):
 Calls prog 103 #[bh (Lib.itoa x),bh (Lib.itoa y)] w (bQ fun r w'=>bK w w'/\∃ u v,r=.tuple #[.agg #[.bool (decide (x < 0)),u],.agg #[.bool (decide (y < 0)),v],.bool true]/\cV w' u x.natAbs/\cV w' v y.natAbs):=by
 have hvx:cI (Lib.itoa x)=true:=by rw[lH];exact decide_eq_true hx
 have hvy:cI (Lib.itoa y)=true:=by rw[lH];exact decide_eq_true hy
 have hlx:=sZ hx
 have hly:=sZ hy
 apply sH
 unfold nI
 (repeat (first|simp -dsimp[go_sem]|simp -dsimp (disch:=omega)only[gL,gI]))
 obtain⟨w1,hw1⟩:∃ w1,(w.alloc (Obj.cells #[.bool false,.slice none 0 0] 141)).alloc (Obj.cells #[.bool false,.slice none 0 0] 141)=w1:=⟨_,rfl⟩
 have he:bK w w1:=by rw[<-hw1];exact((bK.refl w).al _).al _
 have b1:cM w1 w.heap.size 141 [.bool false,.slice none 0 0]:=by rw[<-hw1];exact(cM.al w [_,_] _).ext ((bK.refl _).al _)
 have b2:cM w1 (w.heap.size+1) 141 [.bool false,.slice none 0 0]:=by rw[<-hw1];have:=cM.al (w.alloc (Obj.cells #[.bool false,.slice none 0 0] 141)) [.bool false,.slice none 0 0] 141;simpa using this
 rw[hw1]
 refine cu gW (pR (by omega)) ?_
 rintro _ w2 ⟨h2,rfl⟩
 (repeat (first|simp -dsimp[go_sem,hvx]|simp -dsimp (disch:=omega)only[gL,gI]))
 refine cu gW (pR (by omega)) ?_
 rintro _ w3 ⟨h3,rfl⟩
 (repeat (first|simp -dsimp[go_sem,hvy]|simp -dsimp (disch:=omega)only[gL,gI]))
 refine cu qU (Hw hx) ?_
 rintro _ w4 ⟨h4,u,rfl,hu⟩
 refine cu qU (Hw hy) ?_
 rintro _ w5 ⟨h5,v,rfl,hv⟩
 obtain⟨a1,n1,cap1,rfl⟩:=hu.slice
 obtain⟨a2,n2,cap2,rfl⟩:=hv.slice
 have h15:bK w1 w5:=((h2.tr h3).tr h4).tr h5
 have c1:=b1.ext h15
 have c2:=b2.ext h15
 (repeat (first|simp -dsimp[go_sem,c1.cell (i:=0) rfl,c1.cell (i:=1) rfl,c1.frz 0,c1.frz 1,c2.cell (i:=0) rfl,c2.cell (i:=1) rfl,c2.frz 0,c2.frz 1]|simp -dsimp (disch:=omega)only[gL,gI]))
 have hw5:Below w.heap.size w w5:=he.trans (h15.mono (by have:=he.size;omega))
 have d1:=(c1.set 0 (.bool (decide (x < 0)))).set 1 (.slice a1 n1 cap1)
 have e0:=c1.set 0 (.bool (decide (x < 0)))
 have d2:=(c2.setOther (p:=⟨w.heap.size,0,none⟩) (show w.heap.size+1≠w.heap.size by omega) (.bool (decide (x < 0)))).setOther (p:=⟨w.heap.size,1,none⟩) (show w.heap.size+1≠w.heap.size by omega) (.slice a1 n1 cap1)
 have d2':=d2.set 0 (.bool (decide (y < 0)))
 have nn:∀ {r:Value} {q:Int},cV w5 r q->cV ((((w5.setCell ⟨w.heap.size,0,none⟩ (.bool (decide (x < 0)))).setCell ⟨w.heap.size,1,none⟩ (.slice a1 n1 cap1)).setCell ⟨w.heap.size+1,0,none⟩ (.bool (decide (y < 0)))).setCell ⟨w.heap.size+1,1,none⟩ (.slice a2 n2 cap2)) r q:=fun h=>
  (((h.setBlk c1 (by simp) 0 _).setBlk e0 (by simp) 1 _).setBlk d2 (by simp) 0 _).setBlk d2' (by simp) 1 _
 exact bQ.mk ⟨bK.stB (bK.stB (bK.stB (bK.stB hw5 (Nat.le_refl w.heap.size) _) (Nat.le_refl w.heap.size) _) (Nat.le_succ w.heap.size) _) (Nat.le_succ w.heap.size) _,_,_,rfl,nn (hu.ext h5),nn hv⟩
theorem qE{s t:List UInt8}{w:World}(hs:s.length<=1000000)(ht:t.length<=1000000)(h:(cI s && cI t)=false):
 Calls prog 103 #[bh s,bh t] w (bQ fun r w'=>bK w w'/\r=.tuple #[.agg #[.bool false,.slice none 0 0],.agg #[.bool false,.slice none 0 0],.bool false]):=by
 apply sH
 unfold nI
 (repeat (first|simp -dsimp[go_sem]|simp -dsimp (disch:=omega)only[gL,gI]))
 obtain⟨w1,hw1⟩:∃ w1,(w.alloc (Obj.cells #[.bool false,.slice none 0 0] 141)).alloc (Obj.cells #[.bool false,.slice none 0 0] 141)=w1:=⟨_,rfl⟩
 have he:bK w w1:=by rw[<-hw1];exact((bK.refl w).al _).al _
 have b1:cM w1 w.heap.size 141 [.bool false,.slice none 0 0]:=by rw[<-hw1];exact(cM.al w [_,_] _).ext ((bK.refl _).al _)
 have b2:cM w1 (w.heap.size+1) 141 [.bool false,.slice none 0 0]:=by rw[<-hw1];have:=cM.al (w.alloc (Obj.cells #[.bool false,.slice none 0 0] 141)) [.bool false,.slice none 0 0] 141;simpa using this
 rw[hw1]
 have fin:∀ w5,bK w1 w5->bK w ((((w5.setCell ⟨w.heap.size,0,none⟩ (.bool false)).setCell ⟨w.heap.size,1,none⟩ (.slice none 0 0)).setCell ⟨w.heap.size+1,0,none⟩ (.bool false)).setCell ⟨w.heap.size+1,1,none⟩ (.slice none 0 0)):=fun w5 h15=>
  bK.stB (bK.stB (bK.stB (bK.stB (he.trans (h15.mono (by have:=he.size;omega))) (Nat.le_refl w.heap.size) _) (Nat.le_refl w.heap.size) _) (Nat.le_succ w.heap.size) _) (Nat.le_succ w.heap.size) _
 refine cu gW (pR hs) ?_
 rintro _ w2 ⟨h2,rfl⟩
 cases hvs:cI s with
 | false=>
  have c1:=b1.ext h2
  have c2:=b2.ext h2
  (repeat (first|simp -dsimp[go_sem,hvs,c1.cell (i:=0) rfl,c1.cell (i:=1) rfl,c1.frz 0,c1.frz 1,c2.cell (i:=0) rfl,c2.cell (i:=1) rfl,c2.frz 0,c2.frz 1]|simp -dsimp (disch:=omega)only[gL,gI]))
  exact bQ.mk ⟨fin _ h2,rfl⟩
 | true=>
  rw[hvs]at h
  have hvt:cI t=false:=by simpa using h
  (repeat (first|simp -dsimp[go_sem,hvs]|simp -dsimp (disch:=omega)only[gL,gI]))
  refine cu gW (pR ht) ?_
  rintro _ w3 ⟨h3,rfl⟩
  have c1:=(b1.ext h2).ext h3
  have c2:=(b2.ext h2).ext h3
  (repeat (first|simp -dsimp[go_sem,hvt,c1.cell (i:=0) rfl,c1.cell (i:=1) rfl,c1.frz 0,c1.frz 1,c2.cell (i:=0) rfl,c2.cell (i:=1) rfl,c2.frz 0,c2.frz 1]|simp -dsimp (disch:=omega)only[gL,gI]))
  exact bQ.mk ⟨fin _ (h2.tr h3),rfl⟩
end Go.Proofs.YtnkmbjedcjcccaaGreatDoor
