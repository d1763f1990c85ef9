/-
  Contracts and plain lemmas. By an AI agent.
-/
import Derived.Test.YtnkmbjedcjcccaaGreatDoorAmC
import Derived.Test.YtnkmbjedcjcccaaGreatDoorPlain
import Derived.Test.YtnkmbjedcjcccaaGreatDoorTyp
set_option linter.all false
namespace Go.Proofs.YtnkmbjedcjcccaaGreatDoor
open Tryz
open Go Go.Eng Go.Proofs Go.Num Go.RowKit
open Go.Alm (Ft Wt Sm VW VA dn gO obs obs1 dD obsN fresh fL RgI Sx)
set_option maxRecDepth 100000
structure SI(s:St):Prop where
 rg:RgI s.ws s.rg
 d6:∀ w∈s.ws,Sx w.al
section
variable{n:Int}{B:Rat}{fl:List Ft}{s:St}(d:Dd)
theorem OJ(hB:VB n B s.ws)(hn:0<=n)(hfl:tC fl):VB (n+fl.length) B (AM B fl d s).ws:=by
 unfold AM
 split
 ·split
  ·next hc=>exact(hB.reg (B6 d.x) hn hc).mono (by omega)
  ·exact hB.mono (by omega)
 ·have h1:=hB.obs (Dr hfl (u9 d s.at') (Io d s.at' fl.length))
  have h2:=Ds fl (u9 d s.at') (Io d s.at' fl.length)
  exact h1.mono (by omega)
theorem OK(ha:s.at'<=fl.length):(AM B fl d s).at'<=fl.length:=by
 unfold AM
 split
 ·split
  ·exact ha
  ·exact ha
 ·show max s.at' (Io d s.at' fl.length)<=fl.length
  unfold Io
  split <;> omega
theorem OL(hB:VB n B s.ws):(AM B fl d s).rg.length<=s.rg.length+12:=by
 have:=hB.len
 unfold AM
 split
 ·split
  ·show s.rg.length<=_;omega
  ·omega
 ·show(s.rg++dD s.ws _ 0).length<=_
  have h:=Alm.nf s.ws (obs s.ws (part fl (u9 d s.at') (Io d s.at' fl.length))) 0
  rw[List.length_append]
  omega
end
end Go.Proofs.YtnkmbjedcjcccaaGreatDoor
namespace Go.Proofs.YtnkmbjedcjcccaaGreatDoor
open Tryz
open Go Go.Eng
set_option maxRecDepth 100000
def rh(P:Program)(t7:Value)(t190:Value)(t9:Value)(k1:Value->World->Prop)(w:World)(R:Ending->World->Prop):Prop:=
 cL P 35 t7 t190 w fun w=>
 Bn P .add 3 true t9 (.int .i64 1) w fun t43 w=>
 k1 t43 w
end Go.Proofs.YtnkmbjedcjcccaaGreatDoor
namespace Go.Proofs.YtnkmbjedcjcccaaGreatDoor
open Tryz
open Go Go.Eng Go.Proofs Go.Num Go.RowKit
open Go.Alm (Ft Wt Sm VW VA dn gO obs obs1 dD obsN fresh fL RgI Sx)
set_option maxRecDepth 100000
section
variable{w0:World}{R:Ending->World->Prop}{n:Int}{B:Rat}{v u lv rv rv':Value}{ws ws':List Wt}{g7 g10 at0 at1 i:Nat}{k1:Value->World->Prop}
variable(hE:En w0)(hB:VB n B ws)(hB':VB n B ws')(hn:0<=n/\n<=1000000)(b7:cM w0 g7 Im [bh (tx B).1,bh (tx B).2,v,lv,.int .i64 (at0:Int),rv])(b10:cM w0 g10 Im [bh (tx B).1,bh (tx B).2,u,lv,.int .i64 (at1:Int),rv'])
 (sv:dJ w0 15 v ws.length ((ws.map wr).flatMap fW)) (su:dJ w0 15 u ws'.length ((ws'.map wr).flatMap fW)) (hl:ws.length<=ws'.length)
 (hk:∀ W,bK w0 W->rh prog (pr g7 0) (M0 B u lv at1 rv') (.int .i64 (i:Int)) k1 W R)
include hE hB hB' hn b7 b10 sv su hl hk
omit hk
include hk
end
abbrev Nl(d:Dd):List Value:=[.int .i64 d.kind,.int .i64 (d.x 0),.int .i64 (d.x 1),.int .i64 (d.x 2),.int .i64 (d.x 3),.int .i64 (d.x 4),.int .i64 (d.x 5),.int .i64 d.many]
def Uk(l:List Dd):Prop:=∀ d∈l,Ddk d
theorem JI{w0 W:World}{L:List Et}{v rv:Value}{n m:Nat}{xs ys:List Value}(h:Hp [] w0 W (K3 v n xs rv m ys::L)):(∀ k,v.ownBlock=some k->k < W.heap.size)/\(∀ k,rv.ownBlock=some k->k < W.heap.size):=
 ⟨fun k hk=>(h.ks _ List.mem_cons_self k (by simp[hk])).1,fun k hk=>(h.ks _ List.mem_cons_self k (by simp[hk])).1⟩
structure WI(W1 W:World)(B:Rat)(fl:List Ft)(lv:Value)(g1 j:Nat)(s:St)(x y z x' y' z':_):Prop where
 vb:VB (30 * j) B s.ws
 si:SI s
 at':s.at'<=fl.length
 rg:s.rg.length<=12 * j
 h:Hp [] W1 W [K3 (.slice x y z) s.ws.length ((s.ws.map wr).flatMap fW) (.slice x' y' z') s.rg.length (s.rg.flatMap fN),bx g1 Im [bh (tx B).1,bh (tx B).2,.slice x y z,lv,.int .i64 (s.at':Int),.slice x' y' z']]
theorem L0{w0:World}{n:Int}{B:Rat}{s:St}{v lv rv:Value}{fl:List Ft}{d:Dd}(hE:En w0)(hB:VB n B s.ws)(hn:0<=n/\n+fl.length<=1000000)(hv:dJ w0 15 v s.ws.length ((s.ws.map wr).flatMap fW))(hr:dJ w0 1 rv s.rg.length (s.rg.flatMap fN))(hF:Fk w0 lv fl)(hfl:tC fl)(ha:s.at'<=fl.length)(hrg:s.rg.length<=1000000)(hd:Ddk d)
 (hsv:∀ k,v.ownBlock=some k->k < w0.heap.size) (hsr:∀ k,rv.ownBlock=some k->k < w0.heap.size):Calls prog 11 #[M0 B v lv s.at' rv,vD d] w0 (bQ fun o w'=>
  ∃ a b c a' b' c',o=.tuple #[M0 B (.slice a b c) lv (AM B fl d s).at' (.slice a' b' c'),.bool true]/\bK w0 w'/\dJ w' 15 (.slice a b c) (AM B fl d s).ws.length (((AM B fl d s).ws.map wr).flatMap fW)/\dJ w' 1 (.slice a' b' c') (AM B fl d s).rg.length ((AM B fl d s).rg.flatMap fN)/\
  (∀ k,(Value.slice a b c).ownBlock=some k->k < w'.heap.size/\(v.ownBlock=some k\/w0.heap.size<=k))/\(∀ k,(Value.slice a' b' c').ownBlock=some k->k < w'.heap.size/\(rv.ownBlock=some k\/w0.heap.size<=k))):=by
 refine(OM hE hB hn hv hr hF hfl ha hrg hd hsv hsr).mono fun en W h=>?_
 obtain⟨o,rfl,u,rv',rfl,h1,h2,h3,h4,h5⟩:=h
 obtain⟨a,b,c,rfl,_⟩:=h2.key
 obtain⟨a',b',c',rfl,_⟩:=h3.key
 exact⟨_,rfl,a,b,c,a',b',c',rfl,h1,h2,h3,h4,h5⟩
section
variable{w0:World}{b:Int}{v2 v3:Value}{l3:List I3}{dl:List Dd}(hE:En w0)(hb:eS b)(h2:dJ w0 3 v2 l3.length (l3.flatMap fT))(h3:dJ w0 8 v3 dl.length (dl.flatMap Nl))(o2:E6 l3)(o3:Uk dl)(n2:l3.length<=9223372036854775807)(n3:dl.length<=9223372036854775807)
include hE hb h2 h3 o2 o3 n2 n3
end
end Go.Proofs.YtnkmbjedcjcccaaGreatDoor
