/- The engine, part 18: ranging over functions, for plain programs. -/
import Derived.Test.YtejffembnkojjaaEngD6
namespace Go.Eng
open Go Go.RowKit
section
variable {P : Program} {ops : Array Oper} {Q : Exit → Act → World → Prop} {N : Nat} {ds : List Deferred} {M : List (Nat × Value)} {a : Act} {w w0 : World} {H : List Res}
theorem rangeG {g : Nat} {ps : Array Tmp} {assign body : Code} {gf : FuncId} {lb : Array Value} (args : Nat → Array Value) (N1 : List Res → Prop) (N2 : Code → List Res → Prop) (hF : Fr N ds M a) (hg : lookM M g = some (.func (.func gf) #[] lb)) (hS : St w0 H w)
    (hargs : ∀ l, #[.func (.yield l) #[] #[]] ++ lb = args l) (hent : ∀ args, pureSem P (callFunc gf args) = some (.enter gf args))
    (hcall : ∀ fn l D rec w1, rec = recL a ps assign body D fn → St w0 (objR l (rec .ready none) :: objR D (.deferred (some [])) :: H) w1 →
      Calls P gf (args l) w1 (fun e w3 => ∃ v, e = .returned v ∧
        ((∃ H1, N1 H1 ∧ St w0 (objR l (rec .ready none) :: objR D (.deferred (some [])) :: H1) w3) ∨ ∃ c H2, N2 c H2 ∧ St w0 (objR l (rec .done (some c)) :: objR D (.deferred (some [])) :: H2) w3)))
    (hdone : ∀ D a' w' H1, N1 H1 → Fr N (⟨.collected D, #[]⟩ :: ds) M a' → St w0 (objR D (.deferred (some [])) :: H1) w' → Q .normal a' w')
    (hstop : ∀ D c a' w' H2, N2 c H2 → Fr N (⟨.collected D, #[]⟩ :: ds) M a' → St w0 (objR D (.deferred (some [])) :: H2) w' → WP P none c Q a' w') : WP P none (.rangeFunc (.tmp g) ps assign body) Q a w := by
  refine wpIn_rangeFunc ?_
  intro fn hfn
  rw [show (F0 none).round = none from rfl]
  obtain ⟨W1, hW1⟩ : ∃ W1, (w.alloc (.deferred (some []))).alloc (recL a ps assign body w.heap.size fn .ready none) = W1 := ⟨_, rfl⟩
  have hE : (Instr.enterLoop fn a.tmps ps assign body none).run P w = .ok (w.heap.size + 1, [{ target := .collected w.heap.size, args := #[] }]) W1 := by rw [← hW1]; exact run_enterLoop_outer _ _ _ _ _
  refine ⟨w.heap.size + 1, [{ target := .collected w.heap.size, args := #[] }], W1, { target := .fn (.func gf) lb, args := #[.func (.yield (w.heap.size + 1)) #[] #[]] }, W1, gf,
    #[.func (.yield (w.heap.size + 1)) #[] #[]] ++ lb, W1, hE, ?_, fun _ _ => trivial, ?_, fun h => by simp [F0, Fence.wide] at h, ?_⟩
  · have hge : a.eval (.tmp g) = .func (.func gf) #[] lb := hF.get hg
    simp only [resolve, hge]
    simp [go_sem]
  · simp only [invoke]
    exact pureSem_run _ _ (hent _) _
  · rw [hargs]
    refine callsIn_F0.2 (Calls.mono (hcall fn (w.heap.size + 1) w.heap.size _ W1 rfl ?_) ?_)
    · rw [← hW1]
      have h1 := (hS.allocObj (.deferred (some []))).allocObj (recL a ps assign body w.heap.size fn .ready none)
      simpa using h1
    · rintro e w3 ⟨v, rfl, h⟩
      have fr : Fr N (⟨.collected w.heap.size, #[]⟩ :: ds) M { a with defers := [{ target := .collected w.heap.size, args := #[] }] ++ a.defers } := ⟨hF.size, by simp [hF.defers], hF.slot⟩
      rcases h with ⟨H1, hN1, h⟩ | ⟨c, H2, hN2, h⟩
      · have hl := h.res (i := 0) rfl
        refine ⟨none, _, run_endLoop (P := P) hl (by simp), ?_⟩
        exact hdone _ _ _ _ hN1 fr (h.putObj (i := 0) _ rfl).drop1
      · have hl := h.res (i := 0) rfl
        refine ⟨some c, _, run_endLoop (P := P) hl (by simp), ?_⟩
        exact hstop _ c _ _ _ hN2 fr (h.putObj (i := 0) _ rfl).drop1
theorem fn_enterMW {f : FuncId} {fn : Func} {c : Code} {args : Array Value} {R : Ending → World → Prop} (hf : P.funcs[f]? = some fn) (hb : fn.body = some c) (N : Nat) (M : List (Nat × Value)) (hN : fn.ntmps = N)
    (hsz : Nat.ble args.size N = true) (hM : M.map (fun p => (args ++ Array.replicate (N - args.size) undef).getD p.1 undef) = M.map Prod.snd) (h : ∀ a w1, w1 = w → Fr N (marks []) M a → WP P none c (bodyPostM (F0 none) 0 P fn R) a w1) : Calls P f args w R :=
  fn_enterM hf hb N M hN hsz hM fun a => h a w rfl
end
end Go.Eng
namespace Go.Eng
open Go Go.RowKit
section
variable {w w0 : World} {A R G : List Res} {f : Res}
theorem St.rot (A : List Res) (h : St w0 (A ++ (f :: (R ++ G))) w) : St w0 (f :: (R ++ (G ++ A))) w :=
  h.perm (by
    have : (A ++ (f :: (R ++ G))).Perm ((f :: (R ++ G)) ++ A) := List.perm_append_comm
    simpa [List.append_assoc] using this)
theorem St.unrot (A : List Res) (h : St w0 (f :: (R ++ (G ++ A))) w) : St w0 (A ++ (f :: (R ++ G))) w :=
  h.perm (by
    have : ((f :: (R ++ G)) ++ A).Perm (A ++ (f :: (R ++ G))) := List.perm_append_comm
    simpa [List.append_assoc] using this)
end
end Go.Eng
