/- The engine: more short names. -/
import Derived.Test.YtejffembnkojjaaEngS
namespace Go.Eng
open Go Go.RowKit
abbrev sv {α : Type} (ad : Option Addr) (l : List α) (cap : Nat) : Value := .slice ad l.length cap
abbrev sb (b n : Nat) : Value := .slice (some ⟨b, 0, none⟩) n n
abbrev ln {α : Type} (l : List α) : Int := ((l.length : Nat) : Int)
abbrev fz (w : World) (μ : Frz) : Res := frzR w.heap.size μ
section
variable {P : Program} {r : Option Nat} {ops : Array Oper} {Q : Exit → Act → World → Prop} {K : Act → World → Prop} {N : Nat} {ds : List Deferred} {M : List (Nat × Value)} {a : Act} {w : World} {H : List Res}
end
end Go.Eng
