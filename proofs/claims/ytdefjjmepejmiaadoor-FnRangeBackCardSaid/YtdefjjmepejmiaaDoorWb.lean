/- YtdefjjmepejmiaaDoorWb: part of the proof that the law FnRangeBack returns true and leaves its argument as it was, for every input that the row speaks of (no condition of ours). -/
import Derived.Test.YtdefjjmepejmiaaDoorWa
import Derived.ProofKit
import Derived.OpenShut
import Derived.Below
import Derived.ChangeSame
import Derived.Deep.DeepHandedRow
import Derived.Deep.DeepWitnessRowRef
import Derived.Lib.LaidTab
import Derived.Stop.LaidErr
set_option linter.unusedVariables false
set_option linter.unusedSimpArgs false
section
namespace Go.Proofs.W
open Go Go.Eng Go.RowKit Go.WideShapes Go.ChangeShapes
set_option linter.unusedSimpArgs false
set_option maxRecDepth 100000

/-- a slice of bytes that came in -/
def InBytes (W : World) (v : Value) : Prop :=
  v = .slice none 0 0 ∨ ∃ b off len cap, ∃ zs : List Int, v = .slice (some ⟨b, off, none⟩) len cap ∧ len ≤ cap ∧ len ≤ zs.length ∧ (∀ i, i < zs.length → W.cell? ⟨b, off + i, none⟩ = some (.int .u8 (zs.getD i 0))) ∧ ∀ n ∈ zs, 0 ≤ n ∧ n < 256

theorem inBytes_rdd {W : World} {v : Value} (h : InBytes W v) (S : Nat → Nat → Prop) (hS : ∀ b o, (∃ x, W.cell? ⟨b, o, none⟩ = some x ∧ x.oneCell' = true) → S b o) : ∃ bs : List Nat, (∀ b ∈ bs, b < 256) ∧ RdD W S (.sl (byteRows bs)) v := by
  rcases h with rfl | ⟨b, off, len, cap, zs, rfl, h1, h2, h3, h4⟩
  · exact ⟨[], by simp, .nil⟩
  · have hz : ∀ i, i < zs.length → 0 ≤ zs.getD i 0 ∧ zs.getD i 0 < 256 := fun i hi => by
      have : zs.getD i 0 = zs[i] := by simp [List.getD_eq_getElem?_getD, hi]
      rw [this]; exact h4 _ (List.getElem_mem hi)
    refine ⟨(List.range len).map fun i => (zs.getD i 0).toNat, ?_, rdd_bytes h1 fun k hk => ?_⟩
    · intro x hx
      simp only [List.mem_map, List.mem_range] at hx
      obtain ⟨i, hi, rfl⟩ := hx
      have := hz i (by omega); omega
    · have e : ((zs.getD k 0).toNat : Int) = zs.getD k 0 := Int.toNat_of_nonneg (hz k (by omega)).1
      have hc := h3 k (by omega)
      rw [← e] at hc
      exact ⟨hS _ _ ⟨_, hc, rfl⟩, hc⟩

theorem law_calls {f : FuncId} (h : Fine Tryd.prog f cLaw) (W : World) (hI : WI W) (v : Value) (hv : InBytes W v) : Calls Tryd.prog f #[v] W fun e w' => e = .returned (.bool true) ∧ Below W.heap.size W w' := by
  let S : Nat → Nat → Prop := fun b o => ∃ x, W.cell? ⟨b, o, none⟩ = some x ∧ x.oneCell' = true
  obtain ⟨bs, hbs, hr⟩ := inBytes_rdd hv S (fun _ _ h => h)
  let c : Gh := { w := W, S := S, β := fun _ => 0, tv := fun _ _ => .slice none 0 0, te := fun _ _ => 0, g := 0 }
  have hrd : ∀ (j : Nat) (x : AV), [AV.sl none (byteRows bs)][j]? = some x → Rd c x ((#[v] : Array Value).getD j undef) := fun j x hx => by
    match j, hx with
    | 0, hx => obtain rfl := Option.some.inj hx; exact .sl none _ v hr trivial
  refine (h.2 c [.sl none (byteRows bs)] #[v] .nilIface 0 0 rfl hrd (fun x hx => by obtain rfl := List.mem_singleton.1 hx; rfl) ⟨bs, hbs, rfl⟩ hI (fun b o ⟨x, hx, _⟩ => ⟨x, hx⟩) (fun b o x ⟨y, hy, h1⟩ hx => ?_) (fun e => by cases e)).mono ?_
  · have hx' : W.cell? ⟨b, o, none⟩ = some x := hx
    rw [hy] at hx'; obtain rfl := Option.some.inj hx'; exact h1
  · rintro e w' ⟨u, r, c', rfl, hp, O⟩
    obtain rfl : r = bv true := hp
    have h1 := O.rd
    have e1 : u = .bool true := by generalize u = z at h1; cases h1; rfl
    have hg := O.fr
    exact ⟨by rw [e1], hg.os, hg.tape, hg.output, hg.size, fun i hi => hg.block i hi (by simp [cLaw])⟩

/-- the row's last step: old blocks are as they were -/
theorem post_below {H : Type} {enc : TypeId × Value → H} {P : Program} {f : Func} {s : ChangeSpec} {apart fresh handsOn again : Bool} {W W' : World} {args : Array Value} {v : Value} {ds gs : List (DataW H)} {before pa pv : List MemPlace}
    (hW : DataW.Whole enc P f.params.toList s.vars apart W args.toList ds gs before)
    (hres : ∀ (b : Nat) (sp : Nat → Bool) (hd : Bool), DataW.TrodAll enc P W' b sp hd f.resultTypes.toList (v.resultList f.resultTypes.size) (s.fn H (ds ++ gs)).results [])
    (hargs : ∀ sp : Nat → Bool, (∀ p ∈ before, sp p.block = true) → DataW.TrodAll enc P W' 0 sp true f.params.toList args.toList (s.fn H (ds ++ gs)).args pa)
    (hvars : ∀ sp : Nat → Bool, (∀ p ∈ before, sp p.block = true) → DataW.TrodVars enc P W' sp s.vars (s.fn H (ds ++ gs)).vars pv)
    (hps : before = pa ++ pv) (hb : Below W.heap.size W W')
    (hok : ∀ (j : Nat) (t : TypeId) (r : Value), f.resultTypes[j]? = some t → (v.resultList f.resultTypes.size)[j]? = some r → Value.okWide P W' .any 0 t r) :
    s.post enc P f apart fresh handsOn again W args v W' := by
  have hlt : ∀ p ∈ before, p.block < W.heap.size := fun p hp => hW.lt p hp
  have hold : ∀ p ∈ before, (fun b => decide (b < W.heap.size)) p.block = true := fun p hp => by simpa using hlt p hp
  refine ⟨ds, gs, before, [], pa, pv, hW, hres _ _ _, hargs _ hold, hvars _ hold, World.keptBut_mono (fun p hp => ⟨hp, ?_⟩) (hb.frame (· ∈ before)), fun _ => ?_⟩
  · rw [hps, List.mem_append] at hp
    exact Or.inr hp
  · obtain ⟨_, _, _, _, _, hz, hn⟩ := hW
    refine ⟨hok, _, _, ([] ++ pa) ++ pv, ⟨[] ++ pa, pv, trodAll_append (hargs _ (fun _ _ => rfl)) (hres _ _ _), hvars _ (fun _ _ => rfl), rfl, ?_, ?_⟩, ?_⟩
    · intro b off hp
      have hin : MemPlace.cell b off ∈ before := by rw [hps]; simpa using hp
      rw [hb.frozen (hlt _ hin)]
      exact hz b off hin
    · intro ha
      have := hn ha
      rw [hps] at this
      simpa using this
    · intro p hp _
      rw [hps]
      simpa using hp

theorem var_of_laid {P : Program} {n name : String} {d : DataW Unit} {r : List (String × DataW Unit)} {W : World} {g : Nat} {ti : TypeId} {ms : Array (String × TypeId)}
    (hg : P.globalNamed n = some g) (hty : (P.globals[g]?).map (·.type) = some ti) (hi : P.underlying ti = some (.interface ms)) (h : laidMet P ((n, .iface name d) :: r) W) : ∃ tp p, W.var? P n = some #[.iface tp p] := by
  obtain ⟨ps, ⟨g', t', cs, fuel, p, q, hg', ht', hvar, hd, _, _⟩, _⟩ := h
  obtain rfl := Option.some.inj (hg.symm.trans hg')
  obtain rfl := Option.some.inj (hty.symm.trans ht')
  obtain ⟨_, u, x, hcs, _, _⟩ := iface_of_trod hi hd
  have : cs = #[.iface u x] := Array.ext' hcs
  exact ⟨u, x, by rw [hvar, this]⟩

/-- one slice of bytes, and what it reads as behind the call -/
theorem open_arg {H : Type} {enc : TypeId × Value → H} {W : World} {base : Nat} {v : Value} {d : DataW H} {p : List MemPlace} (hval : Value.okWide Tryd.prog W .any base 22 v) (h : DataW.Trod enc Tryd.prog W 0 (fun _ => true) true 22 v d p) :
    InBytes W v ∧ ∀ W' : World, Below W.heap.size W W' → ∀ sp : Nat → Bool, (∀ x ∈ p, sp x.block = true) → DataW.Trod enc Tryd.prog W' 0 sp true 22 v d p := by
  obtain ⟨a1, len, cap, rfl⟩ := okWide_slice Tryd.underlying22 hval
  have hspot : ∀ a, a1 = some a → a.spot = none := fun a e => by
    subst e
    simp only [Value.okWide, Tryd.underlying22, Cell.okWide, Cell.ok] at hval
    exact hval.2.2.2.1
  obtain ⟨fuel, hf⟩ := h
  rcases open_ints Tryd.underlying22 Tryd.underlying5 (by kernel_rfl) hf with ⟨hcs, hx⟩ | ⟨a, len', cap', zs, hcs, hba, hl, hm, hz, hx, hcell, hwz⟩
  · simp [Value.cells] at hcs
    obtain ⟨rfl, rfl, rfl⟩ := hcs
    simp only [Prod.mk.injEq] at hx
    obtain ⟨rfl, rfl⟩ := hx
    refine ⟨.inl rfl, fun W' _ sp _ => ⟨1, ?_⟩⟩
    simp [DataW.trod, Tryd.underlying22, Value.cells]
  · simp [Value.cells] at hcs
    obtain ⟨rfl, rfl, rfl⟩ := hcs
    simp only [Prod.mk.injEq] at hx
    obtain ⟨rfl, rfl⟩ := hx
    simp only [if_true] at hz
    obtain ⟨b, off, spot⟩ := a
    obtain rfl : spot = none := hspot _ rfl
    have hcell' : ∀ i, i < zs.length → W.cell? ⟨b, off + i, none⟩ = some (.int .u8 (zs.getD i 0)) := fun i hi => by
      have := hcell i hi
      rwa [add_none] at this
    refine ⟨.inr ⟨b, off, len, cap, zs, rfl, hl, by omega, hcell', fun n hn => ?_⟩, fun W' hB sp hsp => ⟨2, ?_⟩⟩
    · have := bounds_u8 (hwz n hn)
      omega
    · have hpos : 0 < zs.length → sp b = true := fun h0 => by
        have := hsp (.cell b off) (by simp only [MemPlace.row, List.mem_map, List.mem_range]; exact ⟨0, h0, rfl⟩)
        exact this
      refine shut_ints (a := ⟨b, off, none⟩) 0 Tryd.underlying22 Tryd.underlying5 (by kernel_rfl) hba hl hm ?_ (fun i hi => ?_) hwz
      · by_cases h0 : 0 < zs.length
        · rw [if_pos (hpos h0)]; exact hz
        · have : zs.length = 0 := by omega
          split <;> omega
      · rw [add_none]
        exact (hB.cell (p := ⟨b, off + i, none⟩) (World.block_lt_of_cell? W ⟨b, off + i, none⟩ (hcell' i hi))).trans (hcell' i hi)
end Go.Proofs.W
end
