/-
  Contracts and plain lemmas. By an AI agent.
-/
import Derived.Test.YtnkmbjedcjcccaaGreatDoorEng
set_option linter.all false
namespace Go.Eng
open Go Go.RowKit Go.Proofs
section
variable{P:Program}{w:World}{K:Value->World->Prop}{KP:Value->Prop}{t:TypeId}{c wi:Bool}{k:IntKind}{b d v:Bool}
abbrev VW:=Value->World->Prop
end
section
variable{P:Program}{t e:TypeId}{z:Value}{i:TypeInfo}{c:Nat}{w:World}{K:Value->World->Prop}{base:Nat}
def dJ(w:World)(c:Nat)(v:Value)(m:Nat)(ys:List Value):Prop:=
 ys.length=m * c/\((v=.slice none 0 0/\m=0)\/∃ b o cap,v=.slice (some ⟨b,o,none⟩) m cap/\m<=cap/\dj w b o ys)
theorem dJ.ext{w w':World}{v:Value}{m:Nat}{ys:List Value}(h:dJ w c v m ys)(he:bK w w'):dJ w' c v m ys:=by
 obtain⟨h0,h | ⟨b,o,cap,h1,h2,h3⟩⟩:=h
 ·exact⟨h0,.inl h⟩
 ·exact⟨h0,.inr ⟨b,o,cap,h1,h2,h3.ext he⟩⟩
theorem Fq{v:Value}{n:Nat}{xs:List Value}(h:w.ownsRow base e c v n xs):dJ w c v n xs:=by
 have h':=h
 obtain⟨h0,h | ⟨g,cap,cur,h1,h2,h3,h4,h5⟩⟩:=h
 ·exact⟨h0,.inl h⟩
 ·subst h1
  exact⟨h0,.inr ⟨g,0,cap,rfl,h4,fun i x hx=>r7 g 0 i ▸ World.ownsRow.cells h' (g:=g) rfl i x hx⟩⟩
end
end Go.Eng
