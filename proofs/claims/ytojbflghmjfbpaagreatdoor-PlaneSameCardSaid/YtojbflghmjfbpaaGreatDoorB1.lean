/- YtojbflghmjfbpaaGreatDoorB1, a part of the proof that the claim's law answers true for every input, made small by program from the texts of this repo's wip/. No condition beyond those that the statements bear. -/
import Derived.Test.YtojbflghmjfbpaaGreatDoorB0
import Derived.Laws.Append
import Derived.Laws.BytesString
import Derived.Scope
import Derived.LoopN
import Derived.Lib.BitFns
import Derived.Lib.ItoaNum
import Derived.Test.YtojbflghmjfbpaaGreatDoorProg
import Derived.KernelRfl
import Derived.Shelf.Small.Bits
import Derived.Shelf.Bits.Mul64
import Derived.Shelf.Strings.Prefix
import Derived.Shelf.Strings.Search2
import Derived.Shelf.Strings.SlTrimAscii
namespace Go.Cham
open Go Go.RowKit
structure Out (α : Type) where
  r : Option (SV α)
  V : Hp α
  n : Nat
  rd : List Nat
  wr : List Nat
noncomputable section
variable {α : Type} {D : Dom α} {G : Gh}
structure Zbq (V : Hp α) (n : Nat) (o : Out α) : Prop where
  le : n ≤ o.n
  ag : ∀ i, i ∉ o.wr → ¬ (n ≤ i ∧ i < o.n) → o.V.at i = V.at i
  wr : ∀ i ∈ o.wr, ∃ x, V.at i = some x
def MOK (P : Program) (D : Dom α) (G : Gh) (V : Hp α) (n : Nat) (q : Oper) (a : Act) (w : World) (o : Out α) : Prop :=
  ∀ I : Nat → Prop, (∀ i ∈ o.rd, I i) → (∀ i ∈ o.wr, I i) → Xt D G I V w → (∀ i, n ≤ i → i < o.n → G.blk i = none) →
    ∀ K : Value → World → Prop, (∀ v w' G', Fra G w G' w' (· ∈ o.wr) n o.n → (∀ c, o.r = some c → Den D G' c v) → Xt D G' (fun i => i ∈ o.wr ∨ (n ≤ i ∧ i < o.n)) o.V w' → K v w') → YI P q a w K
def outP (V : Hp α) (n : Nat) (c : SV α) : Out α := ⟨some c, V, n, [], []⟩
theorem outP_ok (V : Hp α) (n : Nat) (c : SV α) : Zbq V n (outP V n c) := ⟨Nat.le_refl _, fun _ _ _ => rfl, fun i hi => by simp [outP] at hi⟩
theorem POK.mok {P : Program} {V : Hp α} {n : Nat} {q : Oper} {a : Act} {w : World} {c : SV α} (h : POK P D G q a w c) : MOK P D G V n q a w (outP V n c) := by
  intro I h1 h2 hR hf K hk
  refine h K fun v hv => hk v w G (.refl _ _ _ _ _) (fun c' hc => by simp [outP] at hc; subst hc; exact hv) ⟨hR.holds, fun i o hi => ?_, fun i j o o' b c c' hi => ?_⟩
  · rcases hi with hi | hi
    · simp [outP] at hi
    · simp [outP] at hi; omega
  · rcases hi with hi | hi
    · simp [outP] at hi
    · simp [outP] at hi; omega
def Gh.add (G : Gh) (n b c : Nat) : Gh := ⟨G.S, fun i => if i = n then some (b, c) else G.blk i⟩
theorem Gh.add_le (G : Gh) {n b c : Nat} (h : G.blk n = none) : G.le (G.add n b c) := ⟨.refl _, fun i x hx => by
  show (if i = n then some (b, c) else G.blk i) = some x
  rw [if_neg]
  · exact hx
  · intro e; subst e; rw [h] at hx; cases hx⟩
def outN (V : Hp α) (n : Nat) (o : Ob α) (c : SV α) (rd : List Nat) : Out α := ⟨some c, V.put n (some o), Nat.succ n, rd, []⟩
theorem Zdp (V : Hp α) (n : Nat) (o : Ob α) (c : SV α) (rd : List Nat) : Zbq V n (outN V n o c rd) := ⟨Nat.le_succ _, fun i _ hi => by
  show (V.put n (some o)).at i = V.at i
  rw [Tr.at_put_ne]
  intro e; subst e
  exact hi ⟨Nat.le_refl _, Nat.lt_succ_self _⟩, fun i hi => by simp [outN] at hi⟩
theorem new_blk {I : Nat → Prop} {V : Hp α} {n : Nat} {w : World} (hR : Xt D G I V w) (hf : G.blk n = none) (c : Nat) {o : Ob α} {u : Obj} {wr : Nat → Prop} (hu : ∀ G', G.le G' → DenO D G' c o u) :
    Fra G w (G.add n w.heap.size c) (Xq w u) wr n (Nat.succ n) ∧ Xt D (G.add n w.heap.size c) (fun i => i ∈ ([] : List Nat) ∨ (n ≤ i ∧ i < Nat.succ n)) (V.put n (some o)) (Xq w u) := by
  have hle := G.add_le (b := w.heap.size) (c := c) hf
  have hbn : (G.add n w.heap.size c).blk n = some (w.heap.size, c) := if_pos rfl
  have hS : G.S w.heap.size = none := by
    cases hs : G.S w.heap.size with
    | none => rfl
    | some x => exact absurd (Ya.lt hR.holds hs) (by simp)
  refine ⟨⟨hle, rfl, rfl, rfl, by simp [Xq], fun b hb _ => Qu w u hb, fun b o' h => .inl h, fun i x hx => ?_⟩, fun b o' hb => ?_, fun i o' hi hv => ?_, fun i j o1 o2 b c1 c2 hi hj h1 h2 h3 h4 => ?_⟩
  · by_cases e : i = n
    · subst e
      rw [hbn] at hx
      cases hx
      exact .inr ⟨⟨Nat.le_refl _, Nat.lt_succ_self _⟩, .inl (Nat.le_refl _)⟩
    · left
      have : (G.add n w.heap.size c).blk i = G.blk i := if_neg e
      rw [← this]; exact hx
  · show (w.heap.push u)[b]? = some o'
    rw [Qu w u (Ya.lt hR.holds hb)]
    exact hR.holds b o' hb
  · have e : i = n := by
      rcases hi with hi | hi
      · simp at hi
      · omega
    subst e
    rw [Tr.at_put] at hv
    cases hv
    exact ⟨_, _, u, hbn, hS, heap_push_eq w u, hu _ hle⟩
  · have e1 : i = n := by
      rcases hi with hi | hi
      · simp at hi
      · omega
    have e2 : j = n := by
      rcases hj with hj | hj
      · simp at hj
      · omega
    omega
variable {P : Program} {d : Option Tmp} {ty : TypeId} {pos : String} {af : Array Edge} {g : Option (Nat × Bool)} {a : Act} {w : World} {E : Tr (SV α)} {V : Hp α} {n : Nat}
theorem new_ok {q : Oper} {o : Ob α} {c : SV α} {rd : List Nat} (h : ∀ I, (∀ i ∈ rd, I i) → Xt D G I V w → ∃ cap u v, (∀ G', G.le G' → DenO D G' cap o u) ∧ (∀ G', G.le G' → G'.blk n = some (w.heap.size, cap) → Den D G' c v) ∧ (execOp a.eval q).run P w = .ok (.value v) (Xq w u)) :
    MOK P D G V n q a w (outN V n o c rd) := by
  intro I h1 h2 hR hf K hk
  obtain ⟨cap, u, v, hu, hv, hrun⟩ := h I h1 hR
  have hfn : G.blk n = none := hf n (Nat.le_refl _) (Nat.lt_succ_self _)
  obtain ⟨e1, e2⟩ := new_blk (o := o) (u := u) (wr := fun i => i ∈ ([] : List Nat)) hR hfn cap hu
  refine Zq hrun (hk v _ _ e1 (fun c' hc => ?_) e2)
  simp [outN] at hc
  subst hc
  exact hv _ (G.add_le hfn) (if_pos rfl)
def allocE (P : Program) (D : Dom α) (V : Hp α) (n : Nat) (T : TypeId) : Option (Out α) := match QH P T with
  | some z => match (absL z.cells.toList : Option (List (SV α))) with
    | some L => some (outN V n (.cells T (lsz D L) [L] false) (.ptr (some (n, 0))) [])
    | none => none
  | none => none
theorem Qo.one {L : List (SV α)} {vs : List Value} (h : YN D G L vs) : Qo D G (lsz D L) [L] vs := by
  have := Qo.cons h h.len .nil
  simpa using this
theorem alloc_ok {T : TypeId} {o : Out α} (h : allocE P D V n T = some o) : Zbq V n o ∧ MOK P D G V n ⟨d, .alloc T, ty, pos, af, g⟩ a w o := by
  unfold allocE at h
  split at h
  · rename_i z hz
    split at h
    · rename_i L hL
      cases h
      refine ⟨Zdp _ _ _ _ _, new_ok fun I _ hR => ⟨0, .cells z.cells T, _, fun G' _ => ?_, fun G' _ hb => .ptr hb, ?_⟩⟩
      · have := DenO.cells (c := 0) (T := T) (Qo.one (Zbp D G' hL))
        simpa using this
      · simp only [execOp, Instr.alloc]
        rw [Ze (a := (.pointer (some ⟨w.heap.size, 0, none⟩) : Value)) (w' := Xq w (.cells z.cells T))]
        · rfl
        · rw [Ze (Xb hz)]; rfl
    · cases h
  · cases h
def boxE (D : Dom α) (V : Hp α) (n : Nat) (T : TypeId) (x : SV α) : Option (Out α) := match chunks x with
  | some L => some (outN V n (.cells T (lsz D L) [L] false) (.ptr (some (n, 0))) [])
  | none => none
theorem box_ok {T : TypeId} {ox : Operand} {x : SV α} {o : Out α} (h : boxE D V n T x = some o) (hx : At1 D G a ox x) : Zbq V n o ∧ MOK P D G V n ⟨d, .box T ox, ty, pos, af, g⟩ a w o := by
  unfold boxE at h
  split at h
  · rename_i L hL
    cases h
    refine ⟨Zdp _ _ _ _ _, new_ok fun I _ hR => ⟨0, .cells (a.eval ox).cells T, _, fun G' hle => ?_, fun G' _ hb => .ptr hb, ?_⟩⟩
    · have := DenO.cells (c := 0) (T := T) (Qo.one ((Za3 hL hx.den).up hle))
      simpa using this
    · simp only [execOp]; rfl
  · cases h
def fill1 (D : Dom α) (E : Tr (SV α)) (sz : Nat) (p : Nat × Operand) (ih : List (List (SV α)) → Option (List (List (SV α)))) (R : List (List (SV α))) : Option (List (List (SV α))) := match evS E p.2 with
    | some v => match chunks v with
      | some us => match Nat.beq (lsz D us) sz with
        | true => match Nat.ble (Nat.succ p.1) (lenL R) with
          | true => ih (setL R p.1 us)
          | false => none
        | false => none
      | none => none
    | none => none
def fillE (D : Dom α) (E : Tr (SV α)) (sz : Nat) (l : List (Nat × Operand)) : List (List (SV α)) → Option (List (List (SV α))) := List.rec some (fun p _ ih R => fill1 D E sz p ih R) l
theorem fillE_nil (sz : Nat) (R : List (List (SV α))) : fillE D E sz [] R = some R := rfl
theorem fillE_cons (sz : Nat) (p : Nat × Operand) (r : List (Nat × Operand)) (R : List (List (SV α))) : fillE D E sz (p :: r) R = fill1 D E sz p (fillE D E sz r) R := rfl
theorem fill_ok {sz : Nat} : ∀ {ps : List (Nat × Operand)} {R R' : List (List (SV α))} {vs : List Value}, fillE D E sz ps R = some R' → Has1 D G a E (ps.map (·.2)) → Qo D G sz R vs →
    ∃ us, PartsA sz (full a) vs.length ps us ∧ Qo D G sz R' (YU vs us)
  | [], R, R', vs, h, _, hR => by rw [fillE_nil] at h; simp at h; subst h; exact ⟨[], .nil, hR⟩
  | p :: r, R, R', vs, h, ho, hR => by
    rw [fillE_cons] at h; unfold fill1 at h
    split at h
    · rename_i v hv
      split at h
      · rename_i us hu
        split at h
        · rename_i hm
          split at h
          · rename_i hlt
            have hlt' : p.1 < R.length := by have := Nat.le_of_ble_eq_true hlt; rw [Zbf] at this; exact this
            have h1 := ho.at_ p.2 (by simp) v hv
            have hus := Za3 hu h1.den
            have hm' : lsz D us = sz := by simpa using hm
            have hlen : (a.eval p.2).cells.toList.length = sz := by rw [hus.len, hm']
            have h2 := hR.set hlt' hus hlen
            have h3 : p.1 * sz + sz ≤ vs.length := by
              have h4 : (p.1 + 1) * sz ≤ R.length * sz := Nat.mul_le_mul_right _ hlt'
              rw [Nat.add_mul, Nat.one_mul] at h4
              rw [hR.len]; exact h4
            obtain ⟨ws, h4, h5⟩ := fill_ok h ⟨ho.defers, fun y hy => ho.at_ y (by simp at hy ⊢; exact .inr hy)⟩ h2
            refine ⟨(p.1 * sz, (a.eval p.2).cells.toList) :: ws, .cons h1.ex hlen h3 ?_, h5⟩
            rwa [Xy _ _ _ (by omega)] at h4
          · cases h
        · cases h
      · cases h
    · cases h
def repL {β : Type} (n : Nat) (x : β) : List β := Nat.rec [] (fun _ ih => x :: ih) n
theorem Qo.rep {L : List (SV α)} {vs : List Value} {sz : Nat} (h : YN D G L vs) (hl : vs.length = sz) : ∀ n, Qo D G sz (repL n L) (List.replicate n vs).flatten
  | 0 => .nil
  | n + 1 => by
    rw [List.replicate_succ, List.flatten_cons]
    exact .cons h hl (Qo.rep h hl n)
theorem zeros_eq (z : Value) (sz m : Nat) (hz : z.cells.size = sz) (h0 : 0 < sz) : ((Array.range (m * sz)).map (z.cells[· % z.cells.size]!)).toList = (List.replicate m z.cells.toList).flatten := by
  have key : ∀ (l : List Value), l.length = sz → ∀ m, (List.range (m * sz)).map (fun i => l[i % sz]!) = (List.replicate m l).flatten := by
    intro l hl m
    induction m with
    | zero => simp
    | succ m ih =>
      rw [List.replicate_succ', List.flatten_append, Nat.add_mul, Nat.one_mul, List.range_add, List.map_append, ih]
      congr 1
      simp only [List.flatten_cons, List.flatten_nil, List.append_nil, List.map_map]
      apply List.ext_getElem (by simp [hl])
      intro i h1 h2
      simp only [List.length_map, List.length_range] at h1
      simp only [List.getElem_map, List.getElem_range, Function.comp]
      rw [Nat.add_comm, Nat.add_mul_mod_self_right, Nat.mod_eq_of_lt h1]
      simp [hl, h1]
  have := key z.cells.toList (by simpa using hz) m
  rw [← this]
  simp only [Array.toList_map, Array.toList_range, hz]
  congr 1
  funext i
  simp [Array.getElem!_eq_getD, Array.getD_eq_getD_getElem?, List.getElem!_eq_getElem?_getD]
def Qj (P : Program) (D : Dom α) (E : Tr (SV α)) (V : Hp α) (n : Nat) (t : TypeId) (m : Nat) (ps : List (Nat × Operand)) : Option (Out α) := match P.underlying t with
  | some (.slice e) => match Yu P e with
    | some sz => match QH P e with
      | some z => match (absL z.cells.toList : Option (List (SV α))) with
        | some L => match Nat.beq (lsz D L) sz with
          | true => match Nat.ble 1 sz with
            | true => match Nat.ble (Nat.mul m sz) 16777216 with
              | true => match fillE D E sz ps (repL m L) with
                | some R => some (outN V n (.cells e sz R false) (.sl (some (n, 0)) m m) [])
                | none => none
              | false => none
            | false => none
          | false => none
        | none => none
      | none => none
    | none => none
  | _ => none
theorem buildSlice_ok {t : TypeId} {m : Nat} {ps : Array (Nat × Operand)} {o : Out α} (h : Qj P D E V n t m ps.toList = some o) (ho : Has1 D G a E (ps.toList.map (·.2))) : Zbq V n o ∧ MOK P D G V n ⟨d, .buildSlice t m ps, ty, pos, af, g⟩ a w o := by
  unfold Qj at h
  split at h
  · rename_i e ht
    split at h
    · rename_i sz hsz
      split at h
      · rename_i z hz
        split at h
        · rename_i L hL
          split at h
          · rename_i hl
            split at h
            · rename_i hs0
              split at h
              · rename_i hlim
                split at h
                · rename_i R hR'
                  cases h
                  have hl' : lsz D L = sz := by simpa using hl
                  have hs0' : 1 ≤ sz := Nat.le_of_ble_eq_true hs0
                  have hlim' : m * sz ≤ 16777216 := Nat.le_of_ble_eq_true hlim
                  have hden := Zbp D G hL
                  have hzs : z.cells.toList.length = sz := by rw [hden.len, hl']
                  obtain ⟨us, h1, h2⟩ := fill_ok hR' ho (Qo.rep hden hzs m)
                  have hze := zeros_eq z sz m (by simpa using hzs) (by omega)
                  refine ⟨Zdp _ _ _ _ _, new_ok fun I _ hR => ⟨0, .cells (YU (List.replicate m z.cells.toList).flatten us).toArray e, .slice (some ⟨w.heap.size, 0, none⟩) m m, fun G' hle => .cells (h2.up hle), fun G' _ hb => .sl hb, ?_⟩⟩
                  simp only [execOp]
                  rw [Ze (w' := Xq w (.cells (YU (List.replicate m z.cells.toList).flatten us).toArray e)) (a := (.slice (some ⟨w.heap.size, 0, none⟩) m m : Value))]
                  · rfl
                  unfold Instr.buildSlice
                  rw [Ze (Zn ht)]
                  simp only []
                  rw [Ze (Yj hsz)]
                  rw [if_neg (by omega)]
                  have key : ∀ (zs : Array Value), (0 < m → zs = z.cells) → (Sem.run P (match Instr.fill (fun i => some (i * sz, sz)) ((Array.range (m * sz)).map (zs[· % zs.size]!)) (ps.map fun x => match x with | (i, x) => (i, a.eval x)).toList with
                      | some cells => do
                        let r ← newRow e cells
                        (pure (.slice (some r) m m) : Sem Value)
                      | _ => stuck "buildSlice: a part of the wrong size") w) = .ok (.slice (some ⟨w.heap.size, 0, none⟩) m m) (Xq w (.cells (YU (List.replicate m z.cells.toList).flatten us).toArray e)) := by
                    intro zs hzz
                    have hlist : ((Array.range (m * sz)).map (zs[· % zs.size]!)).toList = (List.replicate m z.cells.toList).flatten := by
                      rcases Nat.eq_zero_or_pos m with h0 | h0
                      · subst h0; simp
                      · rw [hzz h0]; exact hze
                    obtain ⟨c', h3, h4⟩ := fillA (Zt.full ho.defers) h1 ((Array.range (m * sz)).map (zs[· % zs.size]!)) (by rw [← hlist]; simp)
                    have e1 : (ps.map fun x => match x with | (i, x) => (i, a.eval x)).toList = ps.toList.map fun (i, x) => (i, a.eval x) := by simp
                    rw [e1, h3]
                    have : c' = (YU (List.replicate m z.cells.toList).flatten us).toArray := by rw [← hlist, ← h4]
                    rw [this]
                    rfl
                  by_cases h0 : m * sz = 0
                  · have hm0 : m = 0 := by
                      rcases Nat.eq_zero_or_pos m with h5 | h5
                      · exact h5
                      · have := Nat.mul_pos h5 (show 0 < sz by omega); omega
                    rw [if_pos h0]; exact key #[] (by omega)
                  · rw [if_neg h0, Ze (Xb hz)]
                    exact key z.cells (fun _ => rfl)
                · cases h
              · cases h
            · cases h
          · cases h
        · cases h
      · cases h
    · cases h
  · cases h
def QP (P : Program) (D : Dom α) (V : Hp α) (n : Nat) (t : TypeId) (x y : SV α) : Option (Out α) := match x, y with
  | .int _ (.ofNat m), .int _ (.ofNat c) => match P.underlying t with
    | some (.slice e) => match Yu P e with
      | some sz => match QH P e with
        | some z => match Zal P e with
          | some bs => match (absL z.cells.toList : Option (List (SV α))) with
            | some L => match Nat.beq (lsz D L) sz with
              | true => match Nat.ble 1 sz with
                | true => match Nat.ble m c with
                  | true => match Nat.ble (Nat.mul c (Nat.succ bs)) 281474976710656 with
                    | true => some (outN V n (.cells e sz (repL c L) false) (.sl (some (n, 0)) m c) [])
                    | false => none
                  | false => none
                | false => none
              | false => none
            | none => none
          | none => none
        | none => none
      | none => none
    | _ => none
  | _, _ => none
theorem makeSlice_ok {t : TypeId} {ox oy : Operand} {x y : SV α} {o : Out α} (h : QP P D V n t x y = some o) (hx : At1 D G a ox x) (hy : At1 D G a oy y) : Zbq V n o ∧ MOK P D G V n ⟨d, .makeSlice t ox oy, ty, pos, af, g⟩ a w o := by
  unfold QP at h
  split at h
  · rename_i kx m ky c
    split at h
    · rename_i e ht
      split at h
      · rename_i sz hsz
        split at h
        · rename_i z hz
          split at h
          · rename_i bs hB
            split at h
            · rename_i L hL
              split at h
              · rename_i hl
                split at h
                · rename_i hs0
                  split at h
                  · rename_i hmc
                    split at h
                    · rename_i hlim
                      cases h
                      have hl' : lsz D L = sz := by simpa using hl
                      have hs0' : 1 ≤ sz := Nat.le_of_ble_eq_true hs0
                      have hmc' : m ≤ c := Nat.le_of_ble_eq_true hmc
                      have hlim' : c * (bs + 1) ≤ 281474976710656 := Nat.le_of_ble_eq_true hlim
                      rw [Nat.mul_add, Nat.mul_one] at hlim'
                      have hden := Zbp D G hL
                      have hzs : z.cells.toList.length = sz := by rw [hden.len, hl']
                      have hze := zeros_eq z sz c (by simpa using hzs) (by omega)
                      have ex : a.eval ox = .int kx (m : Int) := by have := hx.den; generalize a.eval ox = p at *; cases this; rfl
                      have ey : a.eval oy = .int ky (c : Int) := by have := hy.den; generalize a.eval oy = p at *; cases this; rfl
                      refine ⟨Zdp _ _ _ _ _, new_ok fun I _ hR => ⟨0, .cells (List.replicate c z.cells.toList).flatten.toArray e, .slice (some ⟨w.heap.size, 0, none⟩) m c, fun G' hle => .cells ((Qo.rep hden hzs c).up hle), fun G' _ hb => .sl hb, ?_⟩⟩
                      have hinfo : ∃ i, P.info? e = some i ∧ i.bytes = bs := by
                        unfold Zal at hB
                        cases hi : P.info? e with
                        | none => rw [hi] at hB; simp at hB
                        | some i => rw [hi] at hB; exact ⟨i, rfl, by simpa using hB⟩
                      obtain ⟨i, hi, hib⟩ := hinfo
                      have hrun : (typeInfo e).run P w = .ok i w := by simp [typeInfo, program, bind, Sem.bind, Sem.run, hi, pure]
                      simp only [execOp, ex, ey]
                      rw [Ze (a := (.slice (some ⟨w.heap.size, 0, none⟩) m c : Value)) (w' := Xq w (.cells (List.replicate c z.cells.toList).flatten.toArray e))]
                      · rfl
                      unfold Instr.makeSlice
                      rw [Ze (Zn ht)]
                      simp only [asInt, asIntOf, ZB]
                      rw [Ze hrun]
                      have e1 : IntKind.i64.wrap (m : Int) = m := by rw [← Zd4]; unfold wrapF; simp only; rw [show Nat.ble (m : Int).natAbs 9223372036854775807 = true from Nat.ble_eq_true_of_le (by rw [Int.natAbs_natCast]; omega)]
                      have e2 : IntKind.i64.wrap (c : Int) = c := by rw [← Zd4]; unfold wrapF; simp only; rw [show Nat.ble (c : Int).natAbs 9223372036854775807 = true from Nat.ble_eq_true_of_le (by rw [Int.natAbs_natCast]; omega)]
                      simp only [e1, e2, hib]
                      have t1 : ¬ ((c : Int) < 0 ∨ (bs : Int) * c > 2 ^ 48) := by
                        have : (bs : Int) * c = ((c * bs : Nat) : Int) := by rw [Int.natCast_mul, Int.mul_comm]
                        rw [this]; omega
                      have t2 : ((decide ((c : Int) < 0) || decide ((bs : Int) * c > 2 ^ 48)) || decide ((m : Int) < 0) || decide ((m : Int) > c)) = false := by
                        simp only [not_or] at t1
                        simp only [t1.1, t1.2, decide_false, Bool.false_or, Bool.or_eq_false_iff, decide_eq_false_iff_not]
                        omega
                      rw [t2]
                      simp only [Bool.false_eq_true, if_false]
                      have hask : (askRoom ((c : Int).toNat * bs)).run P w = .ok () w := by
                        unfold askRoom
                        split <;> rfl
                      have hfin : ∀ (zs : Array Value), (0 < c → zs = z.cells) → (newRow e ((Array.range (c * sz)).map fun x => zs[x % zs.size]!)).run P w = .ok ⟨w.heap.size, 0, none⟩ (Xq w (.cells (List.replicate c z.cells.toList).flatten.toArray e)) := by
                        intro zs hzz
                        have hlist : ((Array.range (c * sz)).map (zs[· % zs.size]!)) = (List.replicate c z.cells.toList).flatten.toArray := by
                          apply Array.ext'
                          rcases Nat.eq_zero_or_pos c with h0 | h0
                          · subst h0; simp
                          · rw [hzz h0]; exact hze
                        rw [hlist]
                        simp [newRow, newObj, bind, Sem.bind, Sem.run, pure, Xq]
                      rw [Ze hask, Ze (Yj hsz)]
                      simp only [Int.toNat_natCast]
                      by_cases h0 : c * sz = 0
                      · have hc0 : c = 0 := by
                          rcases Nat.eq_zero_or_pos c with h5 | h5
                          · exact h5
                          · have := Nat.mul_pos h5 (show 0 < sz by omega); omega
                        rw [if_pos h0, Ze (hfin #[] (by omega))]
                        rfl
                      · rw [if_neg h0, Ze (Xb hz), Ze (hfin z.cells (fun _ => rfl))]
                        rfl
                    · cases h
                  · cases h
                · cases h
              · cases h
            · cases h
          · cases h
        · cases h
      · cases h
    · cases h
  · cases h
end
end Go.Cham
namespace Go.Cham
open Go Go.RowKit
theorem Zcs {P : Program} {e : TypeId} {sz by_ : Nat} {z : Value} (hZ : Yu P e = some sz) (hB : Zal P e = some by_) (hz : QH P e = some z) : ∃ i, P.info? e = some i ∧ i.size = sz ∧ i.zero = some z ∧ i.bytes = by_ := by
  unfold Yu at hZ
  unfold Zal at hB
  unfold QH at hz
  cases hi : P.info? e with
  | none => rw [hi] at hZ; simp at hZ
  | some i => rw [hi] at hZ hB hz; exact ⟨i, rfl, by simpa using hZ, by simpa using hz, by simpa using hB⟩
theorem Has.cells {w : World} {b : Nat} {T : TypeId} {cs : List Value} (h : Has w b T cs) {o : Nat} {vs : List Value} {k : Nat} (hv : (cs.drop o).take k = vs) : ∀ j v, vs[j]? = some v → w.cell? ((⟨b, o, none⟩ : Addr).add j) = some v := by
  intro j v hj
  rw [XJ, h.cell]
  rw [← hv, List.getElem?_take] at hj
  split at hj
  · rw [List.getElem?_drop] at hj; exact hj
  · cases hj
theorem Zbc {P : Program} {w : World} (t ty e : TypeId) (i : TypeInfo) (ht : P.underlying t = some (.slice e)) (hi : P.info? e = some i)
    (b : Nat) (T : TypeId) (sLen sCap : Nat) (cs : List Value) (h : Has w b T cs) (x : Value) (n : Nat) (news : List Value)
    (hx : (Builtin.lenOf x).run P w = .ok n w) (hf : (Builtin.firstCells i.size n x).run P w = .ok news.toArray w)
    (hle : sLen + n ≤ sCap) (hfit : sLen * i.size + news.length ≤ cs.length) (ho : ∀ v ∈ news, one v = true) :
    ∃ w', (Builtin.append_ #[t, t] ty #[.slice (some ⟨b, 0, none⟩) sLen sCap, x]).run P w = .ok (.slice (some ⟨b, 0, none⟩) (sLen + n) sCap) w' ∧ w' = { w with heap := w.heap.setIfInBounds b (.cells (XY cs (sLen * i.size) news).toArray T (0, 0)) } := by
  obtain ⟨w', h1, h2⟩ := Zam (P := P) news (sLen * i.size) 0 cs w h (by simpa using hfit) ho
  refine ⟨w', ?_, h2⟩
  have ea : (⟨b, 0, none⟩ : Addr).add (sLen * i.size) = ⟨b, sLen * i.size, none⟩ := by rw [XJ, Nat.zero_add]
  simp only [Builtin.append_, List.getElem?_toArray, List.getElem?_cons_zero, List.getElem?_cons_succ]
  rw [Ze (Zn ht)]
  simp only []
  rw [Ze (Yj (P := P) (w := w) (show Yu P e = some i.size by unfold Yu; rw [hi]; rfl))]
  rw [Ze (Zn ht)]
  simp only [ZB, Bool.false_eq_true, if_false]
  rw [Ze hx]
  rw [if_pos hle]
  simp only [Bool.not_false, if_true]
  rw [Ze hf]
  simp only [ea]
  rw [Ze h1]
  rfl
end Go.Cham
namespace Go.Cham
open Go Go.RowKit
noncomputable section
variable {α : Type} {D : Dom α} {G : Gh}
variable {P : Program} {d : Option Tmp} {ty : TypeId} {pos : String} {af : Array Edge} {g : Option (Nat × Bool)} {a : Act} {w : World} {E : Tr (SV α)} {V : Hp α} {n : Nat}
theorem RepF.cells {I : Nat → Prop} (h : Xt D G I V w) {i : Nat} (hi : I i) {T : TypeId} {sz : Nat} {rows : List (List (SV α))} {gr : Bool} (hv : V.at i = some (.cells T sz rows gr)) :
    ∃ b c cs slack, G.blk i = some (b, c) ∧ G.S b = none ∧ Has w b T (cs ++ slack) ∧ Qo D G sz rows cs ∧ (gr = false → slack = []) ∧ (gr = true → cs.length + slack.length = c * sz) := by
  obtain ⟨b, c, u, h1, h2, h3, h4⟩ := h.obj i _ hi hv
  cases h4 with
  | cells h5 => exact ⟨b, c, _, [], h1, h2, by unfold Has; rw [List.append_nil]; exact h3, h5, fun _ => rfl, fun e => (by cases e)⟩
  | grow h5 hl => exact ⟨b, c, _, _, h1, h2, h3, h5, fun e => (by cases e), fun _ => hl⟩
theorem Zeb {cs slack us : List Value} {off n : Nat} (h : (cs.drop off).take n = us) (hl : us.length = n) : ((cs ++ slack).drop off).take n = us := by
  rcases Nat.eq_zero_or_pos n with h0 | h0
  · subst h0; simp at hl; simp [hl]
  · have h1 : ((cs.drop off).take n).length = n := by rw [h, hl]
    have h2 : off + n ≤ cs.length := by
      rw [List.length_take, List.length_drop] at h1; omega
    rw [List.drop_append, List.take_append, show n - (cs.drop off).length = 0 by simp; omega, List.take_zero, List.append_nil, h]
def outR (V : Hp α) (n : Nat) (c : SV α) (rd : List Nat) : Out α := ⟨some c, V, n, rd, []⟩
theorem outR_ok (V : Hp α) (n : Nat) (c : SV α) (rd : List Nat) : Zbq V n (outR V n c rd) := ⟨Nat.le_refl _, fun _ _ _ => rfl, fun i hi => by simp [outR] at hi⟩
theorem read_ok {q : Oper} {c : SV α} {rd : List Nat} (h : ∀ I, (∀ i ∈ rd, I i) → Xt D G I V w → POK P D G q a w c) : MOK P D G V n q a w (outR V n c rd) := by
  intro I h1 h2 hR hf K hk
  refine h I h1 hR K fun v hv => hk v w G (.refl _ _ _ _ _) (fun c' hc => by simp [outR] at hc; subst hc; exact hv) ⟨hR.holds, fun i o hi => ?_, fun i j o o' b c c' hi => ?_⟩
  · rcases hi with hi | hi
    · simp [outR] at hi
    · simp [outR] at hi; omega
  · rcases hi with hi | hi
    · simp [outR] at hi
    · simp [outR] at hi; omega
def loadE (P : Program) (D : Dom α) (V : Hp α) (n : Nat) (t : TypeId) (x : SV α) : Option (Out α) := match x with
  | .ptr (some p) => match V.at p.1 with
    | some (.cells _ sz rows _) => match aggT P t with
      | some true => match Yu P t with
        | some m => match cellsAt D sz rows p.2 m with
          | some C => some (outR V n (.agg C) [p.1])
          | none => none
        | none => none
      | some false => match cellsAt D sz rows p.2 1 with
        | some C => match mkVal D false C with
          | some c => some (outR V n c [p.1])
          | none => none
        | none => none
      | none => none
    | _ => none
  | _ => none
theorem load_ok {t : TypeId} {ox : Operand} {x : SV α} {o : Out α} (h : loadE P D V n t x = some o) (hd : a.defers = []) (hx : At1 D G a ox x) : Zbq V n o ∧ MOK P D G V n ⟨d, .load t ox, ty, pos, af, g⟩ a w o := by
  unfold loadE at h
  split at h
  · rename_i p
    split at h
    · rename_i T sz rows gr hv
      split at h
      · rename_i hA
        split at h
        · rename_i m hm
          split at h
          · rename_i C hC
            cases h
            refine ⟨outR_ok _ _ _ _, read_ok fun I hI hR K hk => ?_⟩
            obtain ⟨b, c, cs, slack, h1, h2, h3, h4, h5, h6⟩ := hR.cells (hI p.1 (by simp)) hv
            obtain ⟨us, e1, e2, e3⟩ := Zbo hC h4
            obtain ⟨b', c', hb', hev⟩ := hx.ptr
            rw [h1] at hb'
            cases hb'
            exact Yl (Zt.full hd) hev hA hm h3 (Zeb e1 e2) e2 (hk _ (.agg e3))
          · cases h
        · cases h
      · rename_i hA
        split at h
        · rename_i C hC
          split at h
          · rename_i cc hc
            cases h
            refine ⟨outR_ok _ _ _ _, read_ok fun I hI hR K hk => ?_⟩
            obtain ⟨b, c, cs, slack, h1, h2, h3, h4, h5, h6⟩ := hR.cells (hI p.1 (by simp)) hv
            obtain ⟨us, e1, e2, e3⟩ := Zbo hC h4
            obtain ⟨v, rfl, hvd⟩ := mkVal_one hc e3
            obtain ⟨b', c', hb', hev⟩ := hx.ptr
            rw [h1] at hb'
            cases hb'
            have e4 := Zeb (slack := slack) e1 e2
            refine Zg (Zt.full hd) hev hA h3 ?_ (hk _ hvd)
            have e5 := congrArg (fun l => l[0]?) e4
            simpa [List.getElem?_take, List.getElem?_drop] using e5
          · cases h
        · cases h
      · cases h
    · cases h
  · cases h
theorem wr_blk {I : Nat → Prop} (hR : Xt D G I V w) {i b c : Nat} {o o' : Ob α} {u : Obj} (hi : I i) (hv : V.at i = some o) (hb : G.blk i = some (b, c)) (hu : DenO D G c o' u) {w' : World} (hw : w' = { w with heap := w.heap.setIfInBounds b u }) {n n' : Nat} (hn : ¬ (n ≤ i ∧ i < n') → True) (hnn : n' ≤ n) :
    Fra G w G w' (· ∈ [i]) n n' ∧ Xt D G (fun j => j ∈ [i] ∨ (n ≤ j ∧ j < n')) (V.put i (some o')) w' := by
  subst hw
  obtain ⟨b', c', u', h1, h2, h3, h4⟩ := hR.obj i o hi hv
  rw [hb] at h1
  cases h1
  have hlt := (Array.getElem?_eq_some_iff.1 h3).1
  refine ⟨⟨.refl G, rfl, rfl, rfl, by simp, fun b2 hb2 hne => ?_, fun _ _ h => .inl h, fun _ _ h => .inl h⟩, fun b2 o2 hb2 => ?_, fun j o2 hj hvj => ?_, fun j k o1 o2 b1 c1 c2 hj hk => ?_⟩
  · show (w.heap.setIfInBounds b u)[b2]? = _
    rw [Array.getElem?_setIfInBounds_ne]
    intro e; subst e
    exact hne ⟨i, c, by simp, hb⟩
  · show (w.heap.setIfInBounds b u)[b2]? = _
    rw [Array.getElem?_setIfInBounds_ne]
    · exact hR.holds _ _ hb2
    · intro e; subst e; rw [h2] at hb2; cases hb2
  · have e : j = i := by
      rcases hj with hj | hj
      · simpa using hj
      · omega
    subst e
    rw [Tr.at_put] at hvj
    cases hvj
    refine ⟨b, c, u, hb, h2, ?_, hu⟩
    show (w.heap.setIfInBounds b u)[b]? = _
    rw [Array.getElem?_setIfInBounds_self, if_pos hlt]
  · have e1 : j = i := by
      rcases hj with hj | hj
      · simpa using hj
      · omega
    have e2 : k = i := by
      rcases hk with hk | hk
      · simpa using hk
      · omega
    intro _ _ _ _
    omega
def outW (V : Hp α) (n : Nat) (i : Nat) (o : Ob α) (r : Option (SV α)) (rd : List Nat) : Out α := ⟨r, V.put i (some o), n, rd, [i]⟩
theorem outW_ok {i : Nat} {o0 : Ob α} (hv : V.at i = some o0) (o : Ob α) (r : Option (SV α)) (rd : List Nat) : Zbq V n (outW V n i o r rd) := ⟨Nat.le_refl _, fun j hj _ => by
  show (V.put i (some o)).at j = V.at j
  rw [Tr.at_put_ne]
  intro e; subst e; exact hj (by simp [outW]), fun j hj => by simp [outW] at hj; subst hj; exact ⟨_, hv⟩⟩
def storeE (P : Program) (D : Dom α) (V : Hp α) (n lim : Nat) (t : TypeId) (x y : SV α) : Option (Out α) := match x with
  | .ptr (some p) => match Nat.ble lim p.1 with
    | true => match V.at p.1 with
      | some (.cells T sz rows gr) => match chunks y with
        | some us => match Yu P t with
          | some m => match Nat.beq (lsz D us) m with
            | true => match putAt D sz rows p.2 us with
              | some rows' => some (outW V n p.1 (.cells T sz rows' gr) none [])
              | none => none
            | false => none
          | none => none
        | none => none
      | _ => none
    | false => none
  | _ => none
theorem over_app {cs slack us : List Value} {off : Nat} (h : off + us.length ≤ cs.length) : XY (cs ++ slack) off us = XY cs off us ++ slack := by
  unfold XY
  rw [List.take_append, show off - cs.length = 0 by omega, List.take_zero, List.append_nil, List.drop_append, show off + us.length - cs.length = 0 by omega, List.drop_zero]
  simp [List.append_assoc]
theorem store_ok {lim : Nat} {t : TypeId} {ox oy : Operand} {x y : SV α} {o : Out α} (h : storeE P D V n lim t x y = some o) (hx : At1 D G a ox x) (hy : At1 D G a oy y) : Zbq V n o ∧ (∀ i ∈ o.wr, lim ≤ i) ∧ MOK P D G V n ⟨d, .store t ox oy, ty, pos, af, g⟩ a w o := by
  unfold storeE at h
  split at h
  · rename_i p
    split at h
    · rename_i hlim
      have hlim' := Nat.le_of_ble_eq_true hlim
      split at h
      · rename_i T sz rows gr hv
        split at h
        · rename_i us hu
          split at h
          · rename_i m hm
            split at h
            · rename_i hl
              split at h
              · rename_i rows' hr
                cases h
                refine ⟨outW_ok hv _ _ _, fun i hi => by simp [outW] at hi; subst hi; exact hlim', ?_⟩
                intro I h1 h2 hR hf K hk
                have hi : I p.1 := h2 _ (by simp [outW])
                obtain ⟨b, c, cs, slack, e1, e2, e3, e4, e5, e6⟩ := hR.cells hi hv
                obtain ⟨b', c', hb', hev⟩ := hx.ptr
                rw [e1] at hb'
                cases hb'
                have hden := Za3 hu hy.den
                obtain ⟨e7, e8⟩ := putAt_den hr e4 hden
                have hl' : lsz D us = m := by simpa using hl
                have hcs : (a.eval oy).cells.size = m := by
                  have := hden.len
                  rw [hl'] at this
                  simpa using this
                obtain ⟨w', e9, e10⟩ := run_storeVar (P := P) (t := t) (v := a.eval oy) (off := p.2) (by rw [hcs]; exact hm) e3 (by simp at e8 ⊢; omega) hden.ones
                rw [over_app e8] at e10
                have hnew : DenO D G c (.cells T sz rows' gr) (.cells (XY cs p.2 (a.eval oy).cells.toList ++ slack).toArray T (0, 0)) := by
                  cases gr with
                  | false =>
                    have := e5 rfl
                    subst this
                    rw [List.append_nil]
                    exact .cells e7
                  | true =>
                    refine .grow e7 ?_
                    have := e6 rfl
                    rw [Xy _ _ _ e8]
                    exact this
                obtain ⟨f1, f2⟩ := wr_blk hR hi hv e1 hnew e10 (n := n) (n' := n) (fun _ => trivial) (Nat.le_refl n)
                have ex : a.eval ox = .pointer (some ⟨b, p.2, none⟩) := by have := hx.ex; rw [hev] at this; simpa using this.symm
                refine does_skip (w' := w') ?_ (hk _ w' G f1 (fun c hc => by simp [outW] at hc) f2)
                simp only [execOp, ex]
                show Sem.run P (do (do let __do_lift ← Instr.sureAddr (.pointer (some ⟨b, p.2, none⟩)); storeVar t __do_lift (a.eval oy)); (pure Next.skip : Sem Next)) w = _
                rw [Ze (w' := w') (a := ()) (by simpa [Instr.sureAddr] using e9)]
                rfl
              · cases h
            · cases h
          · cases h
        · cases h
      · cases h
    · cases h
  · cases h
def elems (V : Hp α) (sz : Nat) (y : SV α) : Option (List (List (SV α)) × Nat × List Nat) := match y with
  | .sl none 0 _ => some ([], 0, [])
  | .sl (some p) m _ => match V.at p.1 with
    | some (.cells _ sz2 rows _) => match Nat.beq sz2 sz with
      | true => match Nat.beq (Nat.mod p.2 sz) 0 with
        | true => match Nat.beq (lenL (takeL (dropL rows (Nat.div p.2 sz)) m)) m with
          | true => some (takeL (dropL rows (Nat.div p.2 sz)) m, m, [p.1])
          | false => none
        | false => none
      | false => none
    | _ => none
  | .gsl id off m _ => match V.at id with
    | some (.cells _ sz2 rows _) => match Nat.beq sz2 sz with
      | true => match Nat.beq (Nat.mod off sz) 0 with
        | true => match Nat.beq (lenL (takeL (dropL rows (Nat.div off sz)) m)) m with
          | true => some (takeL (dropL rows (Nat.div off sz)) m, m, [id])
          | false => none
        | false => none
      | false => none
    | _ => none
  | _ => none
theorem rows_at {I : Nat → Prop} (hR : Xt D G I V w) {i off m sz sz2 : Nat} {T : TypeId} {rows : List (List (SV α))} {gr : Bool} (hi : I i) (hv : V.at i = some (.cells T sz2 rows gr)) (h1 : sz2 = sz) (h2 : Nat.mod off sz = 0) (h3 : (takeL (dropL rows (Nat.div off sz)) m).length = m) :
    ∃ b c vs, G.blk i = some (b, c) ∧ vs.length = m * sz ∧ Qo D G sz (takeL (dropL rows (Nat.div off sz)) m) vs ∧ (∀ j v, vs[j]? = some v → w.cell? ((⟨b, off, none⟩ : Addr).add j) = some v) := by
  subst h1
  obtain ⟨b, c, cs, slack, e1, e2, e3, e4, e5, e6⟩ := hR.cells hi hv
  have ho := off_eq off sz2
  rw [h2, Nat.add_zero] at ho
  have h4 := (e4.drop (Nat.div off sz2)).take m
  rw [← ho, ← dropL_eq, ← takeL_eq] at h4
  have hlen := h4.len
  rw [h3] at hlen
  exact ⟨b, c, _, e1, hlen, h4, e3.cells (Zeb rfl hlen)⟩
theorem Zbk {sz m : Nat} {y : SV α} {R : List (List (SV α))} {rd : List Nat} {v : Value} (h : elems V sz y = some (R, m, rd)) (hd : Den D G y v) {I : Nat → Prop} (hI : ∀ i ∈ rd, I i) (hR : Xt D G I V w) :
    ∃ vs q cap, v = .slice q m cap ∧ vs.length = m * sz ∧ Qo D G sz R vs ∧ (m = 0 ∨ ∃ ad, q = some ad ∧ ∀ j v, vs[j]? = some v → w.cell? (ad.add j) = some v) := by
  unfold elems at h
  split at h
  · simp only [Option.some.injEq, Prod.mk.injEq] at h
    obtain ⟨rfl, rfl, rfl⟩ := h
    cases hd
    exact ⟨[], _, _, rfl, by simp, .nil, .inl rfl⟩
  · split at h
    · rename_i T sz2 rows gr hv
      split at h
      · rename_i h1
        split at h
        · rename_i h2
          split at h
          · rename_i h3
            simp only [Option.some.injEq, Prod.mk.injEq] at h
            obtain ⟨rfl, rfl, rfl⟩ := h
            rw [YF, Zbf] at h3
            rw [YF] at h1 h2
            obtain ⟨b, c, vs, e1, e2, e3, e4⟩ := rows_at hR (hI _ (by simp)) hv h1 h2 h3
            cases hd with
            | sl hb =>
              rw [e1] at hb
              cases hb
              exact ⟨vs, _, _, rfl, e2, e3, .inr ⟨_, rfl, e4⟩⟩
          · cases h
        · cases h
      · cases h
    · cases h
  · split at h
    · rename_i T sz2 rows gr hv
      split at h
      · rename_i h1
        split at h
        · rename_i h2
          split at h
          · rename_i h3
            simp only [Option.some.injEq, Prod.mk.injEq] at h
            obtain ⟨rfl, rfl, rfl⟩ := h
            rw [YF, Zbf] at h3
            rw [YF] at h1 h2
            obtain ⟨b, c, vs, e1, e2, e3, e4⟩ := rows_at hR (hI _ (by simp)) hv h1 h2 h3
            cases hd with
            | gsl hb _ =>
              rw [e1] at hb
              cases hb
              exact ⟨vs, _, _, rfl, e2, e3, .inr ⟨_, rfl, e4⟩⟩
          · cases h
        · cases h
      · cases h
    · cases h
  · cases h
end
end Go.Cham
namespace Go.Cham
open Go Go.RowKit
noncomputable section
variable {α : Type} {D : Dom α} {G : Gh}
variable {P : Program} {d : Option Tmp} {ty : TypeId} {pos : String} {af : Array Edge} {g : Option (Nat × Bool)} {a : Act} {w : World} {E : Tr (SV α)} {V : Hp α} {n : Nat}
def putRows {β : Type} (rows : List β) (i : Nat) (R : List β) (m : Nat) : List β := appL (takeL rows i) (appL R (dropL rows (Nat.add i m)))
theorem Qo.putRows {sz i m : Nat} {rows R : List (List (SV α))} {cs vs : List Value} (h : Qo D G sz rows cs) (hR : Qo D G sz R vs) (hl : vs.length = m * sz) : Qo D G sz (Cham.putRows rows i R m) (XY cs (i * sz) vs) := by
  unfold Cham.putRows XY
  rw [QB, QB, takeL_eq, dropL_eq, hl, ← Nat.add_mul, List.append_assoc]
  exact (h.take i).append (hR.append (h.drop (i + m)))
structure ElT (P : Program) (t e : TypeId) (sz by_ : Nat) (z : Value) : Prop where
  ht : P.underlying t = some (.slice e)
  hs : Yu P e = some sz
  hz : QH P e = some z
  hb : Zal P e = some by_
  h1 : z.cells.size = sz
def elT (P : Program) (D : Dom α) (t : TypeId) : Option (TypeId × Nat × Nat) := match P.underlying t with
  | some (.slice e) => match Yu P e with
    | some sz => match QH P e with
      | some z => match Zal P e with
        | some by_ => match (absL z.cells.toList : Option (List (SV α))) with
          | some L => match Nat.beq (lsz D L) sz with
            | true => some (e, sz, by_)
            | false => none
          | none => none
        | none => none
      | none => none
    | none => none
  | _ => none
theorem elT_ok {t e : TypeId} {sz by_ : Nat} (G : Gh) (h : elT P D t = some (e, sz, by_)) : ∃ z, ElT P t e sz by_ z := by
  unfold elT at h
  split at h
  · rename_i e' ht
    split at h
    · rename_i sz' hs
      split at h
      · rename_i z hz
        split at h
        · rename_i b' hb
          split at h
          · rename_i L hL
            split at h
            · rename_i hl
              simp only [Option.some.injEq, Prod.mk.injEq] at h
              obtain ⟨rfl, rfl, rfl⟩ := h
              rw [YF] at hl
              have := (Zbp D G hL).len
              exact ⟨z, ht, hs, hz, hb, by simpa [hl] using this⟩
            · cases h
          · cases h
        · cases h
      · cases h
    · cases h
  · cases h
theorem Za4 {t : TypeId} {ox oy : Operand} {w' : World} {K : Value → World → Prop} {v : Value} (hrun : (Builtin.append_ #[t, t] ty #[a.eval ox, a.eval oy]).run P w = .ok v w') (k : K v w') : YI P ⟨d, .call ⟨.builtin .append, #[ox, oy], #[t, t]⟩, ty, pos, af, g⟩ a w K := by
  refine Zq (v := v) (w' := w') ?_ k
  rw [Xe]
  simp only [List.map_toArray, List.map_cons, List.map_nil]
  show Sem.run P (do let v ← Builtin.append_ #[t, t] ty #[a.eval ox, a.eval oy]; (pure (Next.value v) : Sem Next)) w = _
  rw [Ze hrun]
  rfl
theorem Zdn {t e : TypeId} {len cap cap2 sz : Nat} {p p2 : Option Addr} (ht : P.underlying t = some (.slice e)) (hZ : Yu P e = some sz) (hle : len ≤ cap) :
    (Builtin.append_ #[t, t] ty #[.slice p len cap, .slice p2 0 cap2]).run P w = .ok (.slice p len cap) w := by
  simp only [Builtin.append_, List.getElem?_toArray, List.getElem?_cons_zero, List.getElem?_cons_succ]
  rw [Ze (Zn ht)]
  simp only []
  rw [Ze (Yj hZ)]
  rw [Ze (Zn ht)]
  simp only [ZB, Bool.false_eq_true, if_false]
  rw [Ze (w' := w) (a := 0) rfl]
  rw [if_pos (by omega)]
  simp only [Bool.not_false, if_true]
  rw [Ze (w' := w) (a := (#[] : Array Value)) (by
    cases p2 with
    | none => rfl
    | some q => exact run_firstCells_some (P := P) w sz 0 q 0 cap2 [] (by simp) (by simp))]
  cases p with
  | none => rfl
  | some q => rfl
theorem RepF.drew {I : Nat → Prop} (h : Xt D G I V w) : Xt D G I V w.drew := ⟨h.holds, h.obj, h.inj⟩
theorem Fra.drew {G' : Gh} {w' : World} {wr : Nat → Prop} {n n' : Nat} (h : Fra G w.drew G' w' wr n n') : Fra G w G' w' wr n n' := ⟨h.le, h.os, h.tape, h.output, h.size, h.blk, h.gS, h.gb⟩
theorem grow_ok {t e : TypeId} {ox oy : Operand} {sz by_ len m : Nat} {z : Value} {R : List (List (SV α))} {rd : List Nat} (hT : ElT P t e sz by_ z) (hlim : (len + m) * (by_ + 1) ≤ 140737488355328) (hm : 0 < m)
    (h : ∀ I, (∀ i ∈ rd, I i) → Xt D G I V w → ∃ vs olds news p cap p2 cap2, a.eval ox = .slice p len cap ∧ a.eval oy = .slice (some p2) m cap2 ∧ vs = olds ++ news ∧ Qo D G sz R vs ∧ olds.length = len * sz ∧ news.length = m * sz ∧
      (∀ j v, news[j]? = some v → w.cell? (p2.add j) = some v) ∧ cap < len + m ∧ ((p = none ∧ len = 0 ∧ cap = 0) ∨ ∃ q, p = some q ∧ ∀ j v, olds[j]? = some v → w.cell? (q.add j) = some v)) :
    MOK P D G V n ⟨d, .call ⟨.builtin .append, #[ox, oy], #[t, t]⟩, ty, pos, af, g⟩ a w (outN V n (.cells e sz R true) (.gsl n 0 (len + m) 0) rd) := by
  intro I h1 h2 hR hf K hk
  obtain ⟨vs, olds, news, p, cap, p2, cap2, ex, ey, rfl, hden, hlo, hln, hnews, hcap, hp⟩ := h I h1 hR
  obtain ⟨i, hi, hs, hz', hb⟩ := Zcs hT.hs hT.hb hT.hz
  rw [Nat.mul_add, Nat.mul_one] at hlim
  have hfn : G.blk n = none := hf n (Nat.le_refl _) (Nat.lt_succ_self _)
  have hge := grownCap_ge w (len + m) cap e
  obtain ⟨rest, hrest⟩ : ∃ rest, Builtin.zeroCells z.cells (grownCap w (len + m) cap e - (len + m)) = (rest : List Value).toArray := ⟨_, (Array.toArray_toList).symm⟩
  have hrl : rest.length = (grownCap w (len + m) cap e - (len + m)) * sz := by
    have := congrArg Array.size hrest
    simp [Builtin.zeroCells, hT.h1] at this
    omega
  have hlen : (olds ++ news).length = (len + m) * sz := by rw [List.length_append, hlo, hln, Nat.add_mul]
  obtain ⟨e1, e2⟩ := new_blk (o := .cells e sz R true) (u := .cells (olds ++ news ++ rest).toArray e (0, 0)) (wr := fun i => i ∈ ([] : List Nat)) hR.drew hfn (grownCap w (len + m) cap e) (fun G' hle => .grow (hden.up hle) (by
    rw [hlen, hrl, ← Nat.add_mul]
    congr 1
    omega))
  refine Za4 (w' := Xq w.drew (.cells (olds ++ news ++ rest).toArray e (0, 0))) (v := .slice (some ⟨w.heap.size, 0, none⟩) (len + m) (grownCap w (len + m) cap e)) ?_ (hk _ _ _ e1.drew (fun c hc => ?_) e2)
  · rw [ex, ey]
    rcases hp with ⟨rfl, rfl, rfl⟩ | ⟨q, rfl, holds⟩
    · have ho : olds = [] := by simpa using hlo
      subst ho
      have hrun := run_append_nil (P := P) (w := w) t ty e i z hT.ht hi hz' p2 m cap2 news (by rw [hs]; exact hln) hnews hm (by omega) (by rw [hb]; rw [Nat.zero_add] at hlim; omega)
      simp only [Nat.zero_add, List.nil_append] at hrest ⊢
      refine hrun.trans ?_
      rw [hrest]
      congr 2
      simp
    · have hrun := run_append_grow (P := P) (w := w) t ty e i z hT.ht hi hz' q len cap olds (by rw [hs]; exact hlo) holds p2 m cap2 news (by rw [hs]; exact hln) hnews hcap (by omega) (growslice_fits hcap (by rw [hb]; omega))
      refine hrun.trans ?_
      rw [hrest]
      congr 2
      simp
  · simp [outN] at hc
    subst hc
    have hb := Den.gsl (D := D) (G := G.add n w.heap.size (grownCap w (len + m) cap e)) (i := n) (off := 0) (len := len + m) (d := 0) (b := w.heap.size) (c := grownCap w (len + m) cap e) (if_pos rfl) (by omega)
    simpa using hb
def appIn (V : Hp α) (n lim id len m sz : Nat) (R2 : List (List (SV α))) (rd : List Nat) (r : SV α) : Option (Out α) := match Nat.ble lim id with
  | true => match V.at id with
    | some (.cells T sz2 rows gr) => match Nat.beq sz2 sz with
      | true => match Nat.ble (Nat.add len m) (lenL rows) with
        | true => some (outW V n id (.cells T sz (putRows rows len R2 m) gr) (some r) rd)
        | false => none
      | false => none
    | _ => none
  | false => none
theorem appIn_ok {t e : TypeId} {ox oy : Operand} {lim id len m sz by_ : Nat} {z : Value} {R2 : List (List (SV α))} {rd : List Nat} {r y : SV α} {o : Out α} (h : appIn V n lim id len m sz R2 rd r = some o) (hT : ElT P t e sz by_ z) (he : elems V sz y = some (R2, m, rd)) (hy : At1 D G a oy y) (hm : 0 < m)
    (hx : ∀ b c, G.blk id = some (b, c) → ∃ cap, a.eval ox = .slice (some ⟨b, 0, none⟩) len cap ∧ (∀ T rows gr, V.at id = some (.cells T sz rows gr) → (gr = true → rows.length ≤ c) → len + m ≤ rows.length → len + m ≤ cap ∧ Den D G r (.slice (some ⟨b, 0, none⟩) (len + m) cap))) (hsz : 0 < sz) :
    Zbq V n o ∧ (∀ i ∈ o.wr, lim ≤ i) ∧ MOK P D G V n ⟨d, .call ⟨.builtin .append, #[ox, oy], #[t, t]⟩, ty, pos, af, g⟩ a w o := by
  unfold appIn at h
  split at h
  · rename_i hlim
    have hlim' := Nat.le_of_ble_eq_true hlim
    split at h
    · rename_i T sz2 rows gr hv
      split at h
      · rename_i hs2
        rw [YF] at hs2
        subst hs2
        split at h
        · rename_i hfit
          have hfit' : len + m ≤ rows.length := by have := Nat.le_of_ble_eq_true hfit; rwa [Zbf] at this
          cases h
          refine ⟨outW_ok hv _ _ _, fun i hi => by simp [outW] at hi; subst hi; exact hlim', ?_⟩
          intro I h1 h2 hR hf K hk
          have hi : I id := h2 _ (by simp [outW])
          obtain ⟨b, c, cs, slack, e1, e2, e3, e4, e5, e6⟩ := hR.cells hi hv
          obtain ⟨cap, ex, hcap0⟩ := hx b c e1
          obtain ⟨vs, q, cap2, ey, hvl, hvd, hq⟩ := Zbk he hy.den h1 hR
          obtain ⟨ad, rfl, hnews⟩ := hq.resolve_left (by omega)
          obtain ⟨i, hii, hs, hz', hb⟩ := Zcs hT.hs hT.hb hT.hz
          have hlen := e4.len
          have hle : len * sz2 + m * sz2 ≤ cs.length := by
            rw [hlen, ← Nat.add_mul]
            exact Nat.mul_le_mul_right _ hfit'
          have hcc : gr = true → rows.length ≤ c := by
            intro hg
            have h6 := e6 hg
            have : rows.length * sz2 ≤ c * sz2 := by rw [← hlen]; omega
            exact Nat.le_of_mul_le_mul_right this hsz
          obtain ⟨hcap, hr⟩ := hcap0 T rows gr hv hcc hfit'
          obtain ⟨w', f1, f2⟩ := Zbc (P := P) (w := w) t ty e i hT.ht hii b T len cap (cs ++ slack) e3 (a.eval oy) m vs (by rw [ey]; rfl) (by
            rw [ey]
            exact run_firstCells_some (P := P) w i.size m ad m cap2 vs (by rw [hs]; exact hvl) hnews) hcap (by rw [hs, hvl, List.length_append]; omega) (hvd.flat.ones)
          rw [hs, over_app (by rw [hvl]; exact hle)] at f2
          have hnew : DenO D G c (.cells T sz2 (putRows rows len R2 m) gr) (.cells (XY cs (len * sz2) vs ++ slack).toArray T (0, 0)) := by
            have h7 := e4.putRows (i := len) hvd hvl
            cases gr with
            | false =>
              have := e5 rfl
              subst this
              rw [List.append_nil]
              exact .cells h7
            | true =>
              refine .grow h7 ?_
              rw [Xy _ _ _ (by rw [hvl]; exact hle)]
              exact e6 rfl
          obtain ⟨g1, g2⟩ := wr_blk hR hi hv e1 hnew f2 (n := n) (n' := n) (fun _ => trivial) (Nat.le_refl n)
          refine Za4 (w' := w') (v := .slice (some ⟨b, 0, none⟩) (len + m) cap) ?_ (hk _ w' G g1 (fun c' hc => ?_) g2)
          · rw [ex]; exact f1
          · simp [outW] at hc
            subst hc
            exact hr
        · cases h
      · cases h
    · cases h
  · cases h
def appK (V : Hp α) (n lim id len m sz : Nat) (e : TypeId) (R2 : List (List (SV α))) (rd : List Nat) : Option (Out α) := match Nat.ble lim id with
  | true => match V.at id with
    | some (.cells T sz2 rows true) => match Nat.beq sz2 sz with
      | true => match Nat.beq len (lenL rows) with
        | true => match Nat.beq T e with
          | true => match Nat.ble (Nat.succ id) n with
            | true => some ⟨some (.gsl n 0 (Nat.add len m) 0), (V.put id none).put n (some (.cells e sz (appL rows R2) true)), Nat.succ n, rd, [id]⟩
            | false => none
          | false => none
        | false => none
      | false => none
    | _ => none
  | false => none
theorem appK_ok {t e : TypeId} {ox oy : Operand} {lim id len m sz by_ : Nat} {z : Value} {R2 : List (List (SV α))} {rd : List Nat} {y : SV α} {o : Out α} (h : appK V n lim id len m sz e R2 rd = some o) (hT : ElT P t e sz by_ z) (he : elems V sz y = some (R2, m, rd)) (hy : At1 D G a oy y) (hm : 0 < m) (hlim : (len + m) * (by_ + 1) ≤ 140737488355328)
    (hx : At1 D G a ox (.gsl id 0 len 0)) (hsz : 0 < sz) :
    Zbq V n o ∧ (∀ i ∈ o.wr, lim ≤ i) ∧ MOK P D G V n ⟨d, .call ⟨.builtin .append, #[ox, oy], #[t, t]⟩, ty, pos, af, g⟩ a w o := by
  unfold appK at h
  split at h
  · rename_i hl
    have hl' := Nat.le_of_ble_eq_true hl
    split at h
    · rename_i T sz2 rows hv
      split at h
      · rename_i hs2
        rw [YF] at hs2
        subst hs2
        split at h
        · rename_i hlen
          rw [YF, Zbf] at hlen
          split at h
          · rename_i hTe
            rw [YF] at hTe
            subst hTe
            split at h
            · rename_i hidn
              have hidn' : id < n := Nat.le_of_ble_eq_true hidn
              simp only [Option.some.injEq, QB] at h; subst h
              refine ⟨⟨Nat.le_succ _, fun i hi hi2 => ?_, fun i hi => by simp at hi; subst hi; exact ⟨_, hv⟩⟩, fun i hi => by simp at hi; subst hi; exact hl', ?_⟩
              · show ((V.put id none).put n _).at i = V.at i
                rw [Tr.at_put_ne, Tr.at_put_ne]
                · intro x; subst x; exact hi (by simp)
                · intro x; subst x; exact hi2 ⟨Nat.le_refl _, Nat.lt_succ_self _⟩
              intro I h1 h2 hR hf K hk
              have hi : I id := h2 _ (by simp)
              have hfn : G.blk n = none := hf n (Nat.le_refl _) (Nat.lt_succ_self _)
              obtain ⟨b, c, cs, slack, e1, e2, e3, e4, e5, e6⟩ := hR.cells hi hv
              obtain ⟨vs, q, cap2, ey, hvl, hvd, hq⟩ := Zbk he hy.den h1 hR
              obtain ⟨ad, rfl, hnews⟩ := hq.resolve_left (by omega)
              obtain ⟨b', c', hb', hd0, hev⟩ := hx.gsl
              rw [e1] at hb'
              cases hb'
              have ex : a.eval ox = .slice (some ⟨b, 0, none⟩) len (c - 0) := by have := hx.ex; rw [hev] at this; simpa using this.symm
              rw [Nat.sub_zero] at ex
              have hcs : cs.length = len * sz2 := by rw [e4.len, hlen]
              have hsl := e6 rfl
              have hcell := e3.cells (o := 0) (k := cs.length) (vs := cs) (by simp)
              rcases Nat.lt_or_ge c (len + m) with hg | hg
              · 
                have hmok := grow_ok (G := G) (V := V) (n := n) (d := d) (ty := ty) (pos := pos) (af := af) (g := g) (a := a) (w := w) (D := D) (ox := ox) (oy := oy) (R := rows ++ R2) (rd := id :: rd) hT hlim hm (fun I' hI' hR' => by
                  refine ⟨cs ++ vs, cs, vs, some ⟨b, 0, none⟩, c, ad, cap2, ex, ey, rfl, e4.append hvd, hcs, hvl, hnews, hg, .inr ⟨_, rfl, hcell⟩⟩)
                refine hmok I (fun i hi' => ?_) (fun i hi' => by simp [outN] at hi') hR hf K (fun v w' G' f1 f2 f3 => hk v w' G' (f1.mono (fun i hi' => by simp [outN] at hi') (Nat.le_refl _) (Nat.le_refl _)) f2 ⟨f3.holds, fun j o' hj hvj => ?_, fun j k o1 o2 b1 c1 c2 hj hk' hvj hvk hb1 hb2 => ?_⟩)
                · simp [outN] at hi'
                  rcases hi' with rfl | hi'
                  · exact hi
                  · exact h1 i hi'
                · have hjn : j = n := by
                    rcases hj with hj | hj
                    · simp at hj
                      subst hj
                      have hvj' : ((V.put j none).put n (some (.cells T sz2 (rows ++ R2) true))).at j = some o' := hvj
                      rw [Tr.at_put_ne _ _ (by omega), Tr.at_put] at hvj'
                      cases hvj'
                    · have := hj.1; have := hj.2; simp only at *; omega
                  subst hjn
                  refine f3.obj j o' (.inr ⟨Nat.le_refl _, Nat.lt_succ_self _⟩) ?_
                  have hvj' : ((V.put id none).put j (some (.cells T sz2 (rows ++ R2) true))).at j = some o' := hvj
                  rw [Tr.at_put] at hvj'
                  show (V.put j (some (.cells T sz2 (rows ++ R2) true))).at j = some o'
                  rw [Tr.at_put]; exact hvj'
                · have key : ∀ j o', (j ∈ [id] ∨ (n ≤ j ∧ j < Nat.succ n)) → ((V.put id none).put n (some (.cells T sz2 (rows ++ R2) true))).at j = some o' → j = n := by
                    intro j o' hj hvj
                    rcases hj with hj | hj
                    · simp at hj
                      subst hj
                      rw [Tr.at_put_ne _ _ (by omega), Tr.at_put] at hvj
                      cases hvj
                    · omega
                  have k1 := key j o1 hj hvj
                  have k2 := key k o2 hk' hvk
                  omega
              · 
                obtain ⟨i, hii, hs, hz', hb⟩ := Zcs hT.hs hT.hb hT.hz
                have hms : (len + m) * sz2 ≤ c * sz2 := Nat.mul_le_mul_right _ hg
                rw [Nat.add_mul] at hms
                obtain ⟨w', f1, f2⟩ := Zbc (P := P) (w := w) t ty T i hT.ht hii b T len c (cs ++ slack) e3 (a.eval oy) m vs (by rw [ey]; rfl) (by
                  rw [ey]
                  exact run_firstCells_some (P := P) w i.size m ad m cap2 vs (by rw [hs]; exact hvl) hnews) hg (by rw [hs, hvl, List.length_append]; omega) (hvd.flat.ones)
                have ec : XY (cs ++ slack) (len * i.size) vs = cs ++ vs ++ slack.drop (m * sz2) := by
                  unfold XY
                  rw [hs, ← hcs, hvl, List.take_left, List.drop_length_add_append]
                rw [ec] at f2
                have hlt := (Array.getElem?_eq_some_iff.1 e3).1
                have hle := G.add_le (b := b) (c := c) hfn
                have hbn : (G.add n b c).blk n = some (b, c) := if_pos rfl
                refine Za4 (w' := w') (v := .slice (some ⟨b, 0, none⟩) (len + m) c) (by rw [ex]; exact f1) (hk _ w' (G.add n b c) ?_ (fun c' hc => ?_) ?_)
                · subst f2
                  refine ⟨hle, rfl, rfl, rfl, by simp, fun b2 hb2 hne => ?_, fun _ _ h => .inl h, fun j x hx => ?_⟩
                  · show (w.heap.setIfInBounds b _)[b2]? = _
                    rw [Array.getElem?_setIfInBounds_ne]
                    intro x; subst x
                    exact hne ⟨id, c, by simp, e1⟩
                  · by_cases hj : j = n
                    · subst hj
                      rw [hbn] at hx
                      cases hx
                      exact .inr ⟨⟨Nat.le_refl _, Nat.lt_succ_self _⟩, .inr ⟨id, c, by simp, e1⟩⟩
                    · left
                      have : (G.add n b c).blk j = G.blk j := if_neg hj
                      rw [← this]; exact hx
                · simp at hc
                  subst hc
                  have := Den.gsl (D := D) (G := G.add n b c) (i := n) (off := 0) (len := len + m) (d := 0) hbn (by omega)
                  simpa using this
                · have key : ∀ j o', (j ∈ [id] ∨ (n ≤ j ∧ j < Nat.succ n)) → ((V.put id none).put n (some (.cells T sz2 (rows ++ R2) true))).at j = some o' → j = n ∧ o' = .cells T sz2 (rows ++ R2) true := by
                    intro j o' hj hvj
                    rcases hj with hj | hj
                    · simp at hj
                      subst hj
                      rw [Tr.at_put_ne _ _ (by omega), Tr.at_put] at hvj
                      cases hvj
                    · have hj' : j = n := by omega
                      subst hj'
                      rw [Tr.at_put] at hvj
                      exact ⟨rfl, by simpa using hvj.symm⟩
                  refine ⟨fun b2 o2 hb2 => ?_, fun j o' hj hvj => ?_, fun j k o1 o2 b1 c1 c2 hj hk' hvj hvk _ _ => ?_⟩
                  · subst f2
                    show (w.heap.setIfInBounds b _)[b2]? = _
                    rw [Array.getElem?_setIfInBounds_ne]
                    · exact hR.holds _ _ hb2
                    · intro x; subst x
                      have hb2' : G.S b = some o2 := hb2
                      rw [e2] at hb2'; cases hb2'
                  · obtain ⟨rfl, rfl⟩ := key j o' hj hvj
                    refine ⟨b, c, _, hbn, e2, ?_, DenO.grow (slack := slack.drop (m * sz2)) ((e4.append hvd).up hle) (by simp [List.length_append, List.length_drop, hcs, hvl]; omega)⟩
                    subst f2
                    show (w.heap.setIfInBounds b _)[b]? = _
                    rw [Array.getElem?_setIfInBounds_self, if_pos hlt]
                  · have k1 := (key j o1 hj hvj).1
                    have k2 := (key k o2 hk' hvk).1
                    omega
            · cases h
          · cases h
        · cases h
      · cases h
    · cases h
  · cases h
end
end Go.Cham
namespace Go.Cham
open Go Go.RowKit
noncomputable section
variable {α : Type} {D : Dom α} {G : Gh}
variable {P : Program} {d : Option Tmp} {ty : TypeId} {pos : String} {af : Array Edge} {g : Option (Nat × Bool)} {a : Act} {w : World} {E : Tr (SV α)} {V : Hp α} {n : Nat}
def app0 (V : Hp α) (n : Nat) (x : SV α) (rd : List Nat) : Option (Out α) := match x with
  | .sl p len cap => match Nat.ble len cap with
    | true => some (outR V n (.sl p len cap) rd)
    | false => none
  | .gsl id off len d => some (outR V n (.gsl id off len d) rd)
  | _ => none
def app1 (P : Program) (D : Dom α) (V : Hp α) (n lim : Nat) (e : TypeId) (sz by_ : Nat) (R2 : List (List (SV α))) (m : Nat) (rd : List Nat) (x : SV α) : Option (Out α) := match x with
  | .sl none len cap => match Nat.beq len 0 with
    | true => match Nat.beq cap 0 with
      | true => match Nat.ble (Nat.mul (Nat.add 0 m) (Nat.succ by_)) 140737488355328 with
        | true => some (outN V n (.cells e sz R2 true) (.gsl n 0 (0 + m) 0) rd)
        | false => none
      | false => none
    | false => none
  | .sl (some p) len cap => match Nat.ble (Nat.add len m) cap with
    | true => match Nat.beq p.2 0 with
      | true => appIn V n lim p.1 len m sz R2 rd (.sl (some p) (Nat.add len m) cap)
      | false => none
    | false => match Nat.ble (Nat.mul (Nat.add len m) (Nat.succ by_)) 140737488355328 with
      | true => match elems V sz (.sl (some p) len cap) with
        | some (R1, l1, rd1) => match Nat.beq l1 len with
          | true => some (outN V n (.cells e sz (appL R1 R2) true) (.gsl n 0 (len + m) 0) (rd1 ++ rd))
          | false => none
        | none => none
      | false => none
  | .gsl id off len d => match Nat.beq off 0 with
    | true => match Nat.beq d 0 with
      | true => match V.at id with
        | some (.cells _ _ rows true) => match Nat.ble (Nat.add len m) (lenL rows) with
          | true => appIn V n lim id len m sz R2 rd (.gsl id 0 (Nat.add len m) 0)
          | false => match Nat.ble (Nat.mul (Nat.add len m) (Nat.succ by_)) 140737488355328 with
            | true => appK V n lim id len m sz e R2 rd
            | false => none
        | _ => none
      | false => none
    | false => none
  | _ => none
def appendE (P : Program) (D : Dom α) (V : Hp α) (n lim : Nat) (t : TypeId) (x y : SV α) : Option (Out α) := match elT P D t with
  | some (e, sz, by_) => match Nat.ble 1 sz with
    | true => match elems V sz y with
      | some (R2, m, rd) => match m with
        | 0 => app0 V n x rd
        | k + 1 => app1 P D V n lim e sz by_ R2 (k + 1) rd x
      | none => none
    | false => none
  | none => none
theorem app1_ok {t e : TypeId} {ox oy : Operand} {lim m sz by_ : Nat} {z : Value} {R2 : List (List (SV α))} {rd : List Nat} {x y : SV α} {o : Out α} (h : app1 P D V n lim e sz by_ R2 m rd x = some o) (hT : ElT P t e sz by_ z) (he : elems V sz y = some (R2, m, rd)) (hy : At1 D G a oy y) (hm : 0 < m)
    (hx : At1 D G a ox x) (hsz : 0 < sz) : Zbq V n o ∧ (∀ i ∈ o.wr, lim ≤ i) ∧ MOK P D G V n ⟨d, .call ⟨.builtin .append, #[ox, oy], #[t, t]⟩, ty, pos, af, g⟩ a w o := by
  have eval_of : ∀ v, ev (full a) ox = some v → a.eval ox = v := fun v hv => by have := hx.ex; rw [hv] at this; simpa using this.symm
  unfold app1 at h
  split at h
  · rename_i len cap
    split at h
    · rename_i h1
      split at h
      · rename_i h2
        split at h
        · rename_i h3
          cases h
          rw [YF] at h1 h2
          subst h1 h2
          refine ⟨Zdp _ _ _ _ _, fun i hi => by simp [outN] at hi, grow_ok hT (Nat.le_of_ble_eq_true h3) hm fun I hI hR => ?_⟩
          obtain ⟨vs, q, cap2, ey, hvl, hvd, hq⟩ := Zbk he hy.den hI hR
          obtain ⟨ad, rfl, hnews⟩ := hq.resolve_left (by omega)
          exact ⟨vs, [], vs, none, 0, ad, cap2, eval_of _ hx.slN, ey, rfl, hvd, by simp, hvl, hnews, by omega, .inl ⟨rfl, rfl, rfl⟩⟩
        · cases h
      · cases h
    · cases h
  · rename_i p len cap
    split at h
    · rename_i h1
      have h1' : len + m ≤ cap := Nat.le_of_ble_eq_true h1
      split at h
      · rename_i h2
        rw [YF] at h2
        refine appIn_ok h hT he hy hm (fun b c hb => ?_) hsz
        obtain ⟨b', c', hb', hev⟩ := hx.sl
        rw [hb] at hb'
        cases hb'
        rw [h2] at hev
        refine ⟨cap, eval_of _ hev, fun _ _ _ _ _ _ => ⟨h1', ?_⟩⟩
        have := Den.sl (D := D) (G := G) (i := p.1) (off := p.2) (len := len + m) (cap := cap) hb
        rw [h2] at this
        have e : (p.1, 0) = p := by rw [← h2]
        rw [e] at this
        exact this
      · cases h
    · rename_i h1
      have h1' : cap < len + m := by
        rcases Nat.lt_or_ge cap (len + m) with h2 | h2
        · exact h2
        · have := Nat.ble_eq_true_of_le h2
          have h3 : Nat.ble (Nat.add len m) cap = true := this
          rw [h3] at h1; cases h1
      split at h
      · rename_i h2
        split at h
        · rename_i R1 l1 rd1 h3
          split at h
          · rename_i h4
            rw [YF] at h4
            subst h4
            simp only [Option.some.injEq, QB] at h; subst h
            refine ⟨Zdp _ _ _ _ _, fun i hi => by simp [outN] at hi, grow_ok hT (Nat.le_of_ble_eq_true h2) hm fun I hI hR => ?_⟩
            obtain ⟨vs, q, cap2, ey, hvl, hvd, hq⟩ := Zbk he hy.den (fun i hi => hI i (by simp [hi])) hR
            obtain ⟨ad, rfl, hnews⟩ := hq.resolve_left (by omega)
            obtain ⟨us, q1, cap1, e1, hul, hud, hq1⟩ := Zbk h3 hx.den (fun i hi => hI i (by simp [hi])) hR
            have hcap1 : cap1 = cap := by
              obtain ⟨b', c', hb', hev⟩ := hx.sl
              have := eval_of _ hev
              rw [e1] at this
              simpa using congrArg (fun v => match v with | Value.slice _ _ c => c | _ => 0) this
            subst hcap1
            rcases hq1 with h0 | ⟨ad1, rfl, holds⟩
            · subst h0
              have hu0 : us = [] := by simpa using hul
              subst hu0
              obtain ⟨b', c', hb', hev⟩ := hx.sl
              have := eval_of _ hev
              rw [e1] at this
              exact ⟨[] ++ vs, [], vs, q1, cap1, ad, cap2, e1, ey, rfl, hud.append hvd, hul, hvl, hnews, h1', .inr ⟨⟨b', p.2, none⟩, by simpa using congrArg (fun v => match v with | Value.slice q _ _ => q | _ => none) this, by simp⟩⟩
            · exact ⟨us ++ vs, us, vs, _, cap1, ad, cap2, e1, ey, rfl, hud.append hvd, hul, hvl, hnews, h1', .inr ⟨ad1, rfl, holds⟩⟩
          · cases h
        · cases h
      · cases h
  · rename_i id off len dd
    split at h
    · rename_i h1
      rw [YF] at h1
      subst h1
      split at h
      · rename_i h2
        rw [YF] at h2
        subst h2
        split at h
        · rename_i T sz0 rows hv
          split at h
          · rename_i h3
            refine appIn_ok h hT he hy hm (fun b c hb => ?_) hsz
            obtain ⟨b', c', hb', hd0, hev⟩ := hx.gsl
            rw [hb] at hb'
            cases hb'
            rw [Nat.sub_zero] at hev
            have h3' : len + m ≤ rows.length := by have := Nat.le_of_ble_eq_true h3; rwa [Zbf] at this
            refine ⟨c, eval_of _ hev, fun T' rows' gr hv' hc hl => ?_⟩
            rw [hv] at hv'
            cases hv'
            have hc' := hc rfl
            refine ⟨by omega, ?_⟩
            have := Den.gsl (D := D) (G := G) (i := id) (off := 0) (len := len + m) (d := 0) hb (by omega)
            simpa using this
          · split at h
            · rename_i h4
              exact appK_ok h hT he hy hm (Nat.le_of_ble_eq_true h4) hx hsz
            · cases h
        · cases h
      · cases h
    · cases h
  · cases h
theorem append_ok {t : TypeId} {ox oy : Operand} {lim : Nat} {x y : SV α} {o : Out α} (h : appendE P D V n lim t x y = some o) (hx : At1 D G a ox x) (hy : At1 D G a oy y) :
    Zbq V n o ∧ (∀ i ∈ o.wr, lim ≤ i) ∧ MOK P D G V n ⟨d, .call ⟨.builtin .append, #[ox, oy], #[t, t]⟩, ty, pos, af, g⟩ a w o := by
  unfold appendE at h
  split at h
  · rename_i e sz by_ hel
    obtain ⟨z, hT⟩ := elT_ok G hel
    split at h
    · rename_i h1
      have hsz : 0 < sz := Nat.le_of_ble_eq_true h1
      split at h
      · rename_i R2 m rd he
        split at h
        · 
          unfold app0 at h
          split at h
          · rename_i p len cap
            split at h
            · rename_i hle
              cases h
              refine ⟨outR_ok _ _ _ _, fun i hi => by simp [outR] at hi, read_ok fun I hI hR K hk => ?_⟩
              obtain ⟨vs, q, cap2, ey, hvl, hvd, hq⟩ := Zbk he hy.den hI hR
              have hden := hx.den
              refine Za4 (w' := w) ?_ (hk _ hden)
              rw [ey]
              generalize a.eval ox = u at *
              cases hden with
              | slN => exact Zdn hT.ht hT.hs (Nat.le_of_ble_eq_true hle)
              | sl _ => exact Zdn hT.ht hT.hs (Nat.le_of_ble_eq_true hle)
            · cases h
          · cases h
            refine ⟨outR_ok _ _ _ _, fun i hi => by simp [outR] at hi, read_ok fun I hI hR K hk => ?_⟩
            obtain ⟨vs, q, cap2, ey, hvl, hvd, hq⟩ := Zbk he hy.den hI hR
            have hden := hx.den
            refine Za4 (w' := w) ?_ (hk _ hden)
            rw [ey]
            generalize a.eval ox = u at *
            cases hden with
            | gsl _ hd => exact Zdn hT.ht hT.hs (by omega)
          · cases h
        · exact app1_ok h hT he hy (Nat.succ_pos _) hx hsz
      · cases h
    · cases h
  · cases h
end
end Go.Cham
namespace Go.Cham
open Go Go.RowKit
noncomputable section
variable {α : Type} {D : Dom α} {G : Gh}
def toP (V : Hp α) (n : Nat) (o : Option (SV α)) : Option (Out α) := match o with
  | some c => some (outP V n c)
  | none => none
def pickE (E : Tr (SV α)) (c x y : Operand) : Option (SV α) := match evS E c with
  | some (.bool true) => evS E x
  | some (.bool false) => evS E y
  | _ => none
def bin1 (P : Program) (D : Dom α) (E : Tr (SV α)) (op : BinOp) (t : TypeId) (x y : Operand) : Option (SV α) := match evS E x with
  | some u => match evS E y with
    | some v => binE P D op t x y u v
    | none => none
  | none => none
def un1 (f : SV α → Option (SV α)) (E : Tr (SV α)) (x : Operand) : Option (SV α) := match evS E x with
  | some u => f u
  | none => none
def two1 (f : SV α → SV α → Option (SV α)) (E : Tr (SV α)) (x y : Operand) : Option (SV α) := match evS E x with
  | some u => match evS E y with
    | some v => f u v
    | none => none
  | none => none
def unO (f : SV α → Option (Out α)) (E : Tr (SV α)) (x : Operand) : Option (Out α) := match evS E x with
  | some u => f u
  | none => none
def twoO (f : SV α → SV α → Option (Out α)) (E : Tr (SV α)) (x y : Operand) : Option (Out α) := match evS E x with
  | some u => match evS E y with
    | some v => f u v
    | none => none
  | none => none
def convO (P : Program) (V : Hp α) (n : Nat) (s t : TypeId) (u : SV α) : Option (Out α) := match convE P s t u with
  | some c => some (outP V n c)
  | none => none
def Zc3 (P : Program) (D : Dom α) (lim : Nat) (E : Tr (SV α)) (V : Hp α) (n : Nat) (b : Builtin) (xs : List Operand) (ts : List TypeId) : Option (Out α) := match xs with
  | [x] => match ts with
    | [t] => match b with
      | .len => toP V n (un1 (lenE P D t) E x)
      | _ => none
    | _ => none
  | [x, y] => match b with
    | .max => toP V n (two1 (mmE true) E x y)
    | .min => toP V n (two1 (mmE false) E x y)
    | .append => match ts with
      | [t, u] => match Nat.beq t u with
        | true => twoO (appendE P D V n lim t) E x y
        | false => none
      | _ => none
    | _ => none
  | _ => none
inductive OpC (α : Type) : Type where
  | p (f : Tr (SV α) → Option (SV α))
  | m (f : Nat → Tr (SV α) → Hp α → Nat → Option (Out α))
  | c (fo : Operand) (xs : List Operand)
  | no
def Zew (P : Program) (D : Dom α) (b : Builtin) (xs : List Operand) (ts : List TypeId) : OpC α := match xs with
  | [x] => match ts with
    | [t] => match b with
      | .len => .p (fun E => un1 (lenE P D t) E x)
      | _ => .no
    | _ => .no
  | [x, y] => match b with
    | .max => .p (fun E => two1 (mmE true) E x y)
    | .min => .p (fun E => two1 (mmE false) E x y)
    | .append => match ts with
      | [t, u] => match Nat.beq t u with
        | true => .m (fun lim E V n => twoO (appendE P D V n lim t) E x y)
        | false => .no
      | _ => .no
    | _ => .no
  | _ => .no
def opC (P : Program) (D : Dom α) (q : Op) : OpC α := match q with
  | .move x => .p (fun E => evS E x)
  | .assign x => .p (fun E => evS E x)
  | .pick c x y => .p (fun E => pickE E c x y)
  | .alloc T => .m (fun _ _ V n => allocE P D V n T)
  | .box T x => .m (fun _ E V n => unO (boxE D V n T) E x)
  | .build t ps => .p (fun E => buildE P D E t ps.toList)
  | .buildSlice t m ps => .m (fun _ E V n => Qj P D E V n t m ps.toList)
  | .load t x => .m (fun _ E V n => unO (loadE P D V n t) E x)
  | .store t x y => .m (fun lim E V n => twoO (storeE P D V n lim t) E x y)
  | .nilCheck x => .p (fun E => un1 nilCkE E x)
  | .binOp op t x y _ => .p (fun E => bin1 P D E op t x y)
  | .unOp op _ x => .p (fun E => un1 (unE P op) E x)
  | .convert s t x => .m (fun _ E V n => unO (convO P V n s t) E x)
  | .makeFunc fn fs cs => .p (fun E => makeFuncE E fn fs.toList cs.toList)
  | .makeSlice t x y => .m (fun _ E V n => twoO (QP P D V n t) E x y)
  | .slice t x lo hi mx => .p (fun E => un1 (fun u => sliceE P E t u lo hi mx) E x)
  | .fieldAddr s x i => .p (fun E => un1 (fun u => fieldAddrE P s u i) E x)
  | .field s x i => .p (fun E => un1 (fun u => fieldE P D s u i) E x)
  | .indexAddr t x y => .p (fun E => two1 (indexAddrE P t) E x y)
  | .index t x y => .p (fun E => two1 (indexE P D t) E x y)
  | .extract x i => .p (fun E => un1 (fun u => extractE u i) E x)
  | .call c => match c.callee with
    | .builtin b => Zew P D b c.args.toList c.argTypes.toList
    | .value fo => .c fo c.args.toList
    | _ => .no
  | _ => .no
def runC (lim : Nat) (E : Tr (SV α)) (V : Hp α) (n : Nat) (q : OpC α) : Option (Out α) := match q with
  | .p f => toP V n (f E)
  | .m f => f lim E V n
  | _ => none
def opE (P : Program) (D : Dom α) (lim : Nat) (E : Tr (SV α)) (V : Hp α) (n : Nat) (q : Op) : Option (Out α) := runC lim E V n (opC P D q)
variable {P : Program} {d : Option Tmp} {ty : TypeId} {pos : String} {af : Array Edge} {g : Option (Nat × Bool)} {a : Act} {w : World} {E : Tr (SV α)} {V : Hp α} {n : Nat}
def OpOK (P : Program) (D : Dom α) (G : Gh) (V : Hp α) (n lim : Nat) (q : Oper) (a : Act) (w : World) (o : Out α) : Prop := Zbq V n o ∧ (∀ i ∈ o.wr, lim ≤ i) ∧ MOK P D G V n q a w o
theorem XZ {lim : Nat} {q : Oper} {c : Option (SV α)} {o : Out α} (h : toP V n c = some o) (k : ∀ c', c = some c' → POK P D G q a w c') : OpOK P D G V n lim q a w o := by
  unfold toP at h
  split at h
  · rename_i c'
    cases h
    exact ⟨outP_ok _ _ _, fun i hi => by simp [outP] at hi, (k c' rfl).mok⟩
  · cases h
theorem un1_ok {f : SV α → Option (SV α)} {x : Operand} {c : SV α} {xs : List Operand} (h : un1 f E x = some c) (ho : Has1 D G a E xs) (hx : x ∈ xs) : ∃ u, f u = some c ∧ At1 D G a x u := by
  unfold un1 at h
  split at h
  · rename_i u hu
    exact ⟨u, h, ho.at_ x hx u hu⟩
  · cases h
theorem two1_ok {f : SV α → SV α → Option (SV α)} {x y : Operand} {c : SV α} {xs : List Operand} (h : two1 f E x y = some c) (ho : Has1 D G a E xs) (hx : x ∈ xs) (hy : y ∈ xs) : ∃ u v, f u v = some c ∧ At1 D G a x u ∧ At1 D G a y v := by
  unfold two1 at h
  split at h
  · rename_i u hu
    split at h
    · rename_i v hv
      exact ⟨u, v, h, ho.at_ x hx u hu, ho.at_ y hy v hv⟩
    · cases h
  · cases h
theorem unO_ok {f : SV α → Option (Out α)} {x : Operand} {c : Out α} {xs : List Operand} (h : unO f E x = some c) (ho : Has1 D G a E xs) (hx : x ∈ xs) : ∃ u, f u = some c ∧ At1 D G a x u := by
  unfold unO at h
  split at h
  · rename_i u hu
    exact ⟨u, h, ho.at_ x hx u hu⟩
  · cases h
theorem twoO_ok {f : SV α → SV α → Option (Out α)} {x y : Operand} {c : Out α} {xs : List Operand} (h : twoO f E x y = some c) (ho : Has1 D G a E xs) (hx : x ∈ xs) (hy : y ∈ xs) : ∃ u v, f u v = some c ∧ At1 D G a x u ∧ At1 D G a y v := by
  unfold twoO at h
  split at h
  · rename_i u hu
    split at h
    · rename_i v hv
      exact ⟨u, v, h, ho.at_ x hx u hu, ho.at_ y hy v hv⟩
    · cases h
  · cases h
theorem OpOK.of {lim : Nat} {q : Oper} {o : Out α} (h : Zbq V n o ∧ MOK P D G V n q a w o) (hw : o.wr = []) : OpOK P D G V n lim q a w o := ⟨h.1, fun i hi => by simp [hw] at hi, h.2⟩
theorem builtinE_ok {lim : Nat} {b : Builtin} {xs : Array Operand} {ts : Array TypeId} {o : Out α} (h : Zc3 P D lim E V n b xs.toList ts.toList = some o) (ho : Has1 D G a E xs.toList) : OpOK P D G V n lim ⟨d, .call ⟨.builtin b, xs, ts⟩, ty, pos, af, g⟩ a w o := by
  obtain ⟨xs⟩ := xs
  obtain ⟨ts⟩ := ts
  unfold Zc3 at h
  simp only at h ho
  split at h
  · split at h
    · split at h
      · refine XZ h fun c hc => ?_
        obtain ⟨u, h1, h2⟩ := un1_ok hc ho (by simp)
        exact len_ok h1 ho.defers h2
      · cases h
    · cases h
  · split at h
    · refine XZ h fun c hc => ?_
      obtain ⟨u, v, h1, h2, h3⟩ := two1_ok hc ho (by simp) (by simp)
      exact max_ok h1 ho.defers h2 h3
    · refine XZ h fun c hc => ?_
      obtain ⟨u, v, h1, h2, h3⟩ := two1_ok hc ho (by simp) (by simp)
      exact min_ok h1 ho.defers h2 h3
    · split at h
      · split at h
        · rename_i htu
          rw [YF] at htu
          subst htu
          obtain ⟨u, v, h1, h2, h3⟩ := twoO_ok h ho (by simp) (by simp)
          exact append_ok h1 h2 h3
        · cases h
      · cases h
    · cases h
  · cases h
theorem builtinC_eq (P : Program) (D : Dom α) (lim : Nat) (E : Tr (SV α)) (V : Hp α) (n : Nat) (b : Builtin) (xs : List Operand) (ts : List TypeId) {o : Out α} (h : runC lim E V n (Zew P D b xs ts) = some o) : Zc3 P D lim E V n b xs ts = some o := by
  unfold Zew at h
  unfold Zc3
  repeat' split at h
  all_goals first | (cases h; done) | exact h | (rename_i h1; simp only [h1]; exact h)
theorem opE_ok {lim : Nat} {q : Op} {o : Out α} (h : opE P D lim E V n q = some o) (ho : Has1 D G a E q.operands.toList) : OpOK P D G V n lim ⟨d, q, ty, pos, af, g⟩ a w o := by
  have hd := ho.defers
  unfold opE at h
  cases q with
  | move x =>
    simp only [opC, runC] at h
    exact XZ h fun c hc => move_ok hd (ho.at_ _ (by simp [Op.operands]) c hc)
  | assign x =>
    simp only [opC, runC] at h
    exact XZ h fun c hc => assign_ok hd (ho.at_ _ (by simp [Op.operands]) c hc)
  | pick c x y =>
    simp only [opC, runC] at h
    refine XZ h fun c hc => ?_
    unfold pickE at hc
    split at hc
    · rename_i h1
      exact pick_ok (b := true) hd (ho.at_ _ (by simp [Op.operands]) _ h1) (ho.at_ _ (by simp [Op.operands]) c hc)
    · rename_i h1
      exact pick_ok (b := false) hd (ho.at_ _ (by simp [Op.operands]) _ h1) (ho.at_ _ (by simp [Op.operands]) c hc)
    · cases hc
  | alloc T =>
    simp only [opC, runC] at h
    refine OpOK.of (alloc_ok h) ?_
    unfold allocE at h
    split at h
    · split at h
      · cases h; rfl
      · cases h
    · cases h
  | box T x =>
    simp only [opC, runC] at h
    obtain ⟨u, h1, h2⟩ := unO_ok h ho (by simp [Op.operands])
    refine OpOK.of (box_ok h1 h2) ?_
    unfold boxE at h1
    split at h1
    · cases h1; rfl
    · cases h1
  | build t ps =>
    simp only [opC, runC] at h
    exact XZ h fun c hc => build_ok hc (ho.sub (by simp [Op.operands]))
  | buildSlice t m ps =>
    simp only [opC, runC] at h
    refine OpOK.of (buildSlice_ok h (ho.sub (by simp [Op.operands]))) ?_
    unfold Qj at h
    repeat' split at h
    all_goals first | (cases h; done) | (cases h; rfl)
  | load t x =>
    simp only [opC, runC] at h
    obtain ⟨u, h1, h2⟩ := unO_ok h ho (by simp [Op.operands])
    refine OpOK.of (load_ok h1 hd h2) ?_
    unfold loadE at h1
    repeat' split at h1
    all_goals first | (cases h1; done) | (cases h1; rfl)
  | store t x y =>
    simp only [opC, runC] at h
    obtain ⟨u, v, h1, h2, h3⟩ := twoO_ok h ho (by simp [Op.operands]) (by simp [Op.operands])
    exact store_ok h1 h2 h3
  | nilCheck x =>
    simp only [opC, runC] at h
    refine XZ h fun c hc => ?_
    obtain ⟨u, h1, h2⟩ := un1_ok hc ho (by simp [Op.operands])
    exact nilCkE_ok h1 h2
  | binOp op t x y u =>
    simp only [opC, runC] at h
    refine XZ h fun c hc => ?_
    unfold bin1 at hc
    split at hc
    · rename_i u hu
      split at hc
      · rename_i v hv
        exact binE_ok hc hd (ho.at_ _ (by simp [Op.operands]) u hu) (ho.at_ _ (by simp [Op.operands]) v hv)
      · cases hc
    · cases hc
  | unOp op t x =>
    simp only [opC, runC] at h
    refine XZ h fun c hc => ?_
    obtain ⟨u, h1, h2⟩ := un1_ok hc ho (by simp [Op.operands])
    exact unE_ok h1 hd h2
  | convert s t x =>
    simp only [opC, runC] at h
    obtain ⟨u, h1, h2⟩ := unO_ok h ho (by simp [Op.operands])
    unfold convO at h1
    split at h1
    · rename_i c hc
      exact XZ (c := some c) h1 fun c' hc' => by cases hc'; exact convE_ok hc h2
    · cases h1
  | makeFunc fn fs cs =>
    simp only [opC, runC] at h
    exact XZ h fun c hc => makeFunc_ok hc (ho.sub (by intro y hy; simp [Op.operands]; exact .inl (by simpa using hy))) (ho.sub (by intro y hy; simp [Op.operands]; exact .inr (by simpa using hy)))
  | makeSlice t x y =>
    simp only [opC, runC] at h
    obtain ⟨u, v, h1, h2, h3⟩ := twoO_ok h ho (by simp [Op.operands]) (by simp [Op.operands])
    refine OpOK.of (makeSlice_ok h1 h2 h3) ?_
    unfold QP at h1
    repeat' split at h1
    all_goals first | (cases h1; done) | (cases h1; rfl)
  | slice t x lo hi mx =>
    simp only [opC, runC] at h
    refine XZ h fun c hc => ?_
    obtain ⟨u, h1, h2⟩ := un1_ok hc ho (by simp [Op.operands])
    exact slice_ok h1 h2 (fun y hy c hc => ho.at_ y (by simp [Op.operands, hy]) c hc) (fun y hy c hc => ho.at_ y (by simp [Op.operands, hy]) c hc) (fun y hy c hc => ho.at_ y (by simp [Op.operands, hy]) c hc)
  | fieldAddr s x i =>
    simp only [opC, runC] at h
    refine XZ h fun c hc => ?_
    obtain ⟨u, h1, h2⟩ := un1_ok hc ho (by simp [Op.operands])
    exact fieldAddr_ok h1 hd h2
  | field s x i =>
    simp only [opC, runC] at h
    refine XZ h fun c hc => ?_
    obtain ⟨u, h1, h2⟩ := un1_ok hc ho (by simp [Op.operands])
    exact field_ok h1 hd h2
  | indexAddr t x y =>
    simp only [opC, runC] at h
    refine XZ h fun c hc => ?_
    obtain ⟨u, v, h1, h2, h3⟩ := two1_ok hc ho (by simp [Op.operands]) (by simp [Op.operands])
    exact indexAddr_ok h1 hd h2 h3
  | index t x y =>
    simp only [opC, runC] at h
    refine XZ h fun c hc => ?_
    obtain ⟨u, v, h1, h2, h3⟩ := two1_ok hc ho (by simp [Op.operands]) (by simp [Op.operands])
    exact index_ok h1 hd h2 h3
  | extract x i =>
    simp only [opC, runC] at h
    refine XZ h fun c hc => ?_
    obtain ⟨u, h1, h2⟩ := un1_ok hc ho (by simp [Op.operands])
    exact extract_ok h1 hd h2
  | call c =>
    simp only [opC, runC] at h
    obtain ⟨callee, xs, ts⟩ := c
    cases callee with
    | value fo => cases h
    | invoke r mth => cases h
    | builtin b => exact builtinE_ok (builtinC_eq P D lim E V n b _ _ h) (ho.sub (by intro y hy; simp [Op.operands, Call.operands]; simpa using hy))
  | _ => cases h
end
end Go.Cham
namespace Go.Cham
open Go Go.RowKit
noncomputable section
variable {α : Type} {D : Dom α} {P : Program} {E : Tr (SV α)} {V : Hp α} {n lim : Nat} {o : Out α}
def StO (V : Hp α) (n lim : Nat) (o : Out α) : Prop := Zbq V n o ∧ ∀ i ∈ o.wr, lim ≤ i
theorem stP {c : SV α} : StO V n lim (outP V n c) := ⟨outP_ok _ _ _, fun i hi => by simp [outP] at hi⟩
theorem stN {ob : Ob α} {c : SV α} {rd : List Nat} : StO V n lim (outN V n ob c rd) := ⟨Zdp _ _ _ _ _, fun i hi => by simp [outN] at hi⟩
theorem stR {c : SV α} {rd : List Nat} : StO V n lim (outR V n c rd) := ⟨outR_ok _ _ _ _, fun i hi => by simp [outR] at hi⟩
theorem stW {i : Nat} {o0 ob : Ob α} {r : Option (SV α)} {rd : List Nat} (hl : Nat.ble lim i = true) (hv : V.at i = some o0) : StO V n lim (outW V n i ob r rd) := ⟨outW_ok hv _ _ _, fun j hj => by simp [outW] at hj; subst hj; exact Nat.le_of_ble_eq_true hl⟩
theorem st_toP {c : Option (SV α)} (h : toP V n c = some o) : StO V n lim o := by
  unfold toP at h
  split at h
  · cases h; exact stP
  · cases h
theorem st_alloc {T : TypeId} (h : allocE P D V n T = some o) : StO V n lim o := by
  unfold allocE at h
  repeat' split at h
  all_goals first | (cases h; done) | (cases h; exact stN)
theorem st_box {T : TypeId} {x : SV α} (h : boxE D V n T x = some o) : StO V n lim o := by
  unfold boxE at h
  repeat' split at h
  all_goals first | (cases h; done) | (cases h; exact stN)
theorem st_buildSlice {t : TypeId} {m : Nat} {ps : List (Nat × Operand)} (h : Qj P D E V n t m ps = some o) : StO V n lim o := by
  unfold Qj at h
  repeat' split at h
  all_goals first | (cases h; done) | (cases h; exact stN)
theorem st_makeSlice {t : TypeId} {x y : SV α} (h : QP P D V n t x y = some o) : StO V n lim o := by
  unfold QP at h
  repeat' split at h
  all_goals first | (cases h; done) | (cases h; exact stN)
theorem st_load {t : TypeId} {x : SV α} (h : loadE P D V n t x = some o) : StO V n lim o := by
  unfold loadE at h
  repeat' split at h
  all_goals first | (cases h; done) | (cases h; exact stR)
theorem st_store {t : TypeId} {x y : SV α} (h : storeE P D V n lim t x y = some o) : StO V n lim o := by
  unfold storeE at h
  split at h
  · split at h
    · rename_i hl
      split at h
      · rename_i hv
        repeat' split at h
        all_goals first | (cases h; done) | (cases h; exact stW hl hv)
      · cases h
    · cases h
  · cases h
theorem st_conv {t u : TypeId} {x : SV α} (h : convO P V n t u x = some o) : StO V n lim o := by
  unfold convO at h
  split at h
  · cases h; exact stP
  · cases h
theorem st_appIn {id len m sz : Nat} {R2 : List (List (SV α))} {rd : List Nat} {r : SV α} (h : appIn V n lim id len m sz R2 rd r = some o) : StO V n lim o := by
  unfold appIn at h
  split at h
  · rename_i hl
    split at h
    · rename_i hv
      repeat' split at h
      all_goals first | (cases h; done) | (cases h; exact stW hl hv)
    · cases h
  · cases h
theorem st_appK {id len m sz : Nat} {e : TypeId} {R2 : List (List (SV α))} {rd : List Nat} (h : appK V n lim id len m sz e R2 rd = some o) : StO V n lim o := by
  unfold appK at h
  split at h
  · rename_i hl
    split at h
    · rename_i hv
      repeat' split at h
      all_goals first | (cases h; done) | skip
      cases h
      refine ⟨⟨Nat.le_succ _, fun i hi hi2 => ?_, fun i hi => by simp at hi; subst hi; exact ⟨_, hv⟩⟩, fun i hi => by simp at hi; subst hi; exact Nat.le_of_ble_eq_true hl⟩
      show ((V.put id none).put n _).at i = V.at i
      rw [Tr.at_put_ne, Tr.at_put_ne]
      · intro x; subst x; exact hi (by simp)
      · intro x; subst x; exact hi2 ⟨Nat.le_refl _, Nat.lt_succ_self _⟩
    · cases h
  · cases h
theorem st_append {t : TypeId} {x y : SV α} (h : appendE P D V n lim t x y = some o) : StO V n lim o := by
  unfold appendE at h
  repeat' split at h
  all_goals first | (cases h; done) | skip
  · unfold app0 at h
    repeat' split at h
    all_goals first | (cases h; done) | (cases h; exact stR)
  · unfold app1 at h
    repeat' split at h
    all_goals first | (cases h; done) | exact st_appIn h | exact st_appK h | (cases h; exact stN)
theorem st_unO {f : SV α → Option (Out α)} {x : Operand} (h : unO f E x = some o) (k : ∀ u, f u = some o → StO V n lim o) : StO V n lim o := by
  unfold unO at h
  split at h
  · exact k _ h
  · cases h
theorem st_twoO {f : SV α → SV α → Option (Out α)} {x y : Operand} (h : twoO f E x y = some o) (k : ∀ u v, f u v = some o → StO V n lim o) : StO V n lim o := by
  unfold twoO at h
  split at h
  · split at h
    · exact k _ _ h
    · cases h
  · cases h
theorem st_builtin {b : Builtin} {xs : List Operand} {ts : List TypeId} (h : Zc3 P D lim E V n b xs ts = some o) : StO V n lim o := by
  unfold Zc3 at h
  repeat' split at h
  all_goals first | (cases h; done) | exact st_toP h | exact st_twoO h fun u v h => st_append h
theorem st_op {q : Op} (h : opE P D lim E V n q = some o) : StO V n lim o := by
  unfold opE at h
  cases q <;> (try simp only [opC, runC] at h)
  all_goals first
    | exact st_toP h
    | exact st_alloc h
    | exact st_unO h fun u h => st_box h
    | exact st_buildSlice h
    | exact st_unO h fun u h => st_load h
    | exact st_twoO h fun u v h => st_store h
    | exact st_unO h fun u h => st_conv h
    | exact st_twoO h fun u v h => st_makeSlice h
    | (cases h; done)
    | skip
  rename_i c
  obtain ⟨callee, xs, ts⟩ := c
  cases callee with
  | value fo => cases h
  | invoke r mth => cases h
  | builtin b => exact st_builtin (builtinC_eq P D lim E V n b _ _ h)
end
end Go.Cham
namespace Go.Cham
open Go Go.RowKit
noncomputable section
variable {α : Type} {D : Dom α} {G : Gh} {P : Program}
def Zad (P : Program) (f : FuncId) (vs : List Value) (w : World) (K : Value → World → Prop) : Prop :=
  (ZW P f = true ∧ Calls P f vs.toArray w fun e w' => ∃ v, e = .returned v ∧ K v w') ∨ ∃ v w', (callFunc f vs.toArray).run P w = .ok (.value v) w' ∧ K v w'
theorem Zad.mono {f : FuncId} {vs : List Value} {w : World} {K K' : Value → World → Prop} (h : Zad P f vs w K) (k : ∀ v w', K v w' → K' v w') : Zad P f vs w K' := by
  rcases h with ⟨h1, h2⟩ | ⟨v, w', h1, h2⟩
  · exact .inl ⟨h1, Calls.mono h2 fun e w' ⟨v, he, hv⟩ => ⟨v, he, k v w' hv⟩⟩
  · exact .inr ⟨v, w', h1, k v w' h2⟩
theorem does_callV {a : Act} {w : World} {n : Nat} {l : List (Nat × Value)} {K : Value → World → Prop} {d : Option Tmp} {ty : TypeId} {pos : String} {af : Array Edge} {g : Option (Nat × Bool)} {fo : Operand} {xs : Array Operand} {ts : Array TypeId} {f : FuncId} {vs fs cs : List Value}
    (hL : Zt a n l) (hf : ev l fo = some (.func (.func f) fs.toArray cs.toArray)) (hv : evs l xs.toList = some vs) (h : Zad P f (fs ++ (vs ++ cs)) w K) : YI P ⟨d, .call ⟨.value fo, xs, ts⟩, ty, pos, af, g⟩ a w K := by
  rw [← List.append_assoc] at h
  rcases h with ⟨h1, h2⟩ | ⟨v, w', h1, h2⟩
  · exact does_callR hL hf hv h1 h2 fun e w' he => he
  · refine Zq (v := v) (w' := w') ?_ h2
    have e1 : xs.map a.eval = vs.toArray := by rw [← hL.evs hv, ← Array.toList_map]
    simp only [execOp, resolve, hL.ev hf, e1, Deferred.ofValue, ZB, invoke]
    rw [← h1]
    congr 2
    simp
structure CR (α : Type) where
  r : SV α
  V : Hp α
  n : Nat
abbrev Qx (α : Type) := Nat → FuncId → List (SV α) → Hp α → Nat → Option (CR α)
structure Stat (lim : Nat) (V : Hp α) (n : Nat) (V' : Hp α) (n' : Nat) : Prop where
  le : n ≤ n'
  old : ∀ i, i < lim → V'.at i = V.at i
  dom : ∀ i, n' ≤ i → V'.at i = none
theorem Stat.trans {lim n n' n'' : Nat} {V V' V'' : Hp α} (h : Stat lim V n V' n') (k : Stat lim V' n' V'' n'') : Stat lim V n V'' n'' := ⟨Nat.le_trans h.le k.le, fun i hi => (k.old i hi).trans (h.old i hi), k.dom⟩
abbrev Lw (lim n' : Nat) : Nat → Prop := fun i => lim ≤ i ∧ i < n'
abbrev All : Nat → Prop := fun _ => True
def Zbs (G : Gh) (n n' : Nat) : Prop := ∀ i, n ≤ i → i < n' → G.blk i = none
def Zbu (P : Program) (D : Dom α) (cf : Qx α) : Prop := ∀ lim f args V n o, cf lim f args V n = some o → lim ≤ n → (∀ i, n ≤ i → V.at i = none) →
  Stat lim V n o.V o.n ∧ ∀ G w vs, XF D G args vs → Xt D G All V w → Zbs G n o.n →
    Zad P f vs w fun v w' => ∃ G', Fra G w G' w' (Lw lim o.n) n o.n ∧ Den D G' o.r v ∧ Xt D G' All o.V w'
def callE (cf : Qx α) (lim : Nat) (E : Tr (SV α)) (V : Hp α) (n : Nat) (fo : Operand) (xs : List Operand) : Option (Out α) := match evS E fo with
  | some (.fn f fs cs) => match evSs E xs with
    | some vs => match cf lim f (appL fs (appL vs cs)) V n with
      | some o => some ⟨some o.r, o.V, o.n, [], []⟩
      | none => none
    | none => none
  | _ => none
def doC (cf : Qx α) (lim : Nat) (E : Tr (SV α)) (V : Hp α) (n : Nat) (q : OpC α) : Option (Out α) := match q with
  | .p f => toP V n (f E)
  | .m f => f lim E V n
  | .c fo xs => callE cf lim E V n fo xs
  | .no => none
def doE (P : Program) (D : Dom α) (cf : Qx α) (lim : Nat) (E : Tr (SV α)) (V : Hp α) (n : Nat) (q : Op) : Option (Out α) := doC cf lim E V n (opC P D q)
theorem doE_cases {cf : Qx α} {lim : Nat} {E : Tr (SV α)} {V : Hp α} {n : Nat} {q : Op} {o : Out α} (h : doE P D cf lim E V n q = some o) :
    (∃ fo xs ts, q = .call ⟨.value fo, xs, ts⟩ ∧ callE cf lim E V n fo xs.toList = some o) ∨ ((∀ fo xs ts, q ≠ .call ⟨.value fo, xs, ts⟩) ∧ opE P D lim E V n q = some o) := by
  have key : (∀ fo xs, opC P D q ≠ .c fo xs) → opE P D lim E V n q = some o := by
    intro hn
    unfold doE doC at h
    unfold opE runC
    cases hq : opC P D q with
    | p f => rw [hq] at h; exact h
    | m f => rw [hq] at h; exact h
    | c fo xs => exact absurd hq (hn fo xs)
    | no => rw [hq] at h; cases h
  have bu : ∀ (b : Builtin) (xs : List Operand) (ts : List TypeId) fo ys, Zew P D b xs ts ≠ .c fo ys := by
    intro b xs ts fo ys
    unfold Zew
    repeat' split
    all_goals simp
  cases q with
  | call c =>
    obtain ⟨callee, xs, ts⟩ := c
    cases callee with
    | value fo => exact .inl ⟨fo, xs, ts, rfl, h⟩
    | invoke r mth => exact .inr ⟨fun _ _ _ => by simp, key fun _ _ => by simp [opC]⟩
    | builtin b => exact .inr ⟨fun _ _ _ => by simp, key fun fo ys => by simp only [opC]; exact bu b _ _ fo ys⟩
  | _ => exact .inr ⟨fun _ _ _ => by simp, key fun _ _ => by simp [opC]⟩
theorem XF.append {cs ds : List (SV α)} {vs us : List Value} (h : XF D G cs vs) (k : XF D G ds us) : XF D G (cs ++ ds) (vs ++ us) := by
  induction cs generalizing vs with
  | nil => cases h; exact k
  | cons x r ih => cases h with | cons h hs => exact .cons h (ih hs)
structure Good (D : Dom α) (lim : Nat) (n : Nat) (o : Out α) (G : Gh) (w : World) (v : Value) (w' : World) (G' : Gh) : Prop where
  fr : Fra G w G' w' (Lw lim o.n) n o.n
  den : ∀ c, o.r = some c → Den D G' c v
  rep : Xt D G' All o.V w'
def DoOK (P : Program) (D : Dom α) (lim : Nat) (E : Tr (SV α)) (V : Hp α) (n : Nat) (q : Op) (o : Out α) : Prop :=
  Stat lim V n o.V o.n ∧ ∀ (d : Option Tmp) (ty : TypeId) (pos : String) (af : Array Edge) (g : Option (Nat × Bool)) G a w, Has1 D G a E q.operands.toList → Xt D G All V w → Zbs G n o.n →
    ∀ K : Value → World → Prop, (∀ v w' G', Good D lim n o G w v w' G' → K v w') → YI P ⟨d, q, ty, pos, af, g⟩ a w K
theorem Tr.lt {V : Hp α} {n i : Nat} {x : Ob α} (hd : ∀ i, n ≤ i → V.at i = none) (h : V.at i = some x) : i < n := by
  rcases Nat.lt_or_ge i n with h1 | h1
  · exact h1
  · rw [hd i h1] at h; cases h
theorem opE_do {lim : Nat} {E : Tr (SV α)} {V : Hp α} {n : Nat} {q : Op} {o : Out α} (h : opE P D lim E V n q = some o) (hl : lim ≤ n) (hd : ∀ i, n ≤ i → V.at i = none) : DoOK P D lim E V n q o := by
  obtain ⟨h1, h2⟩ := st_op h
  refine ⟨⟨h1.le, fun i hi => h1.ag i (fun x => by have := h2 i x; omega) (by omega), fun i hi => ?_⟩, fun d ty pos af g G a w hH hR hf K hk => ?_⟩
  · rw [h1.ag i (fun x => ?_) (by omega)]
    · exact hd i (Nat.le_trans h1.le hi)
    · obtain ⟨y, hy⟩ := h1.wr i x
      have := Tr.lt hd hy
      have := h1.le
      omega
  · obtain ⟨_, _, h3⟩ := opE_ok (P := P) (d := d) (ty := ty) (pos := pos) (af := af) (g := g) (w := w) h hH
    refine h3 All (fun _ _ => trivial) (fun _ _ => trivial) hR hf K fun v w' G' f1 f2 f3 => hk v w' G' ⟨?_, f2, ?_⟩
    · refine f1.mono (fun i hi => ⟨h2 i hi, ?_⟩) (Nat.le_refl _) (Nat.le_refl _)
      obtain ⟨y, hy⟩ := h1.wr i hi
      have := Tr.lt hd hy
      have := h1.le
      omega
    · have := hR.step f1 (fun _ _ => trivial) h1.wr (fun i => h1.ag i) f3 hf
      exact this.sub fun _ _ => .inl trivial
theorem doE_do {cf : Qx α} (hc : Zbu P D cf) {lim : Nat} {E : Tr (SV α)} {V : Hp α} {n : Nat} {q : Op} {o : Out α} (h : doE P D cf lim E V n q = some o) (hl : lim ≤ n) (hd : ∀ i, n ≤ i → V.at i = none) : DoOK P D lim E V n q o := by
  rcases doE_cases h with ⟨fo, xs, ts, rfl, h'⟩ | ⟨_, h'⟩
  · have h := h'
    refine id ?_
    · unfold callE at h
      split at h
      · rename_i f fs cs hf
        split at h
        · rename_i vs hvs
          split at h
          · rename_i r hr
            cases h
            rw [QB, QB] at hr
            obtain ⟨h1, h2⟩ := hc lim f _ V n r hr hl hd
            refine ⟨h1, fun d ty pos af g G a w hH hR hfr K hk => ?_⟩
            have hfo := hH.at_ fo (by simp [Op.operands, Call.operands]) _ hf
            have hxs := (hH.sub (ys := xs.toList) (fun y hy => by simp [Op.operands, Call.operands]; exact .inr (by simpa using hy))).many hvs
            have hden := hfo.den
            have hex := hfo.ex
            generalize a.eval fo = u at hden hex
            cases hden with
            | @fn _ _ _ us ws hu hw =>
              refine does_callV (Zt.full hH.defers) hex hxs.1 ?_
              refine (h2 G w _ (hu.append (hxs.2.append hw)) hR hfr).mono fun v w' ⟨G', k1, k2, k3⟩ => hk v w' G' ⟨k1, fun c hc => by cases hc; exact k2, k3⟩
          · cases h
        · cases h
      · cases h
  · exact opE_do h' hl hd
structure R3 (α : Type) where
  E : Tr (SV α)
  V : Hp α
  n : Nat
def QE (nt : Nat) (E : Tr (SV α)) (d : Option Tmp) (r : Option (SV α)) (V : Hp α) (n : Nat) : Option (R3 α) := match d with
  | none => some ⟨E, V, n⟩
  | some t => match Nat.blt t nt with
    | true => some ⟨E.put t r, V, n⟩
    | false => none
def Zb6 (ops : Array Oper) (E : Tr (SV α)) (g : Option (Nat × Bool)) : Option Bool := match g with
  | none => some true
  | some p => match (ops[p.1]?).bind (·.dst) with
    | some e => match E.at e with
      | some (.bool b) => match p.2 with
        | true => some b
        | false => some (!b)
      | some (.tup _) => some false
      | _ => none
    | none => none
def stepE (P : Program) (D : Dom α) (cf : Qx α) (lim nt : Nat) (ops : Array Oper) (E : Tr (SV α)) (V : Hp α) (n : Nat) (o : Oper) : Option (R3 α) := match Zb6 ops E o.guard with
  | some true => match doE P D cf lim E V n o.op with
    | some r => QE nt E o.dst r.r r.V r.n
    | none => none
  | some false => QE nt E o.dst (some (.tup [])) V n
  | none => none
def seqE (P : Program) (D : Dom α) (cf : Qx α) (lim nt : Nat) (ops : Array Oper) (l : List Oper) : Tr (SV α) → Hp α → Nat → Option (R3 α) :=
  List.rec (fun E V n => some ⟨E, V, n⟩) (fun o _ ih E V n => Option.rec none (fun s => ih s.E s.V s.n) (stepE P D cf lim nt ops E V n o)) l
theorem seqE_nil {cf : Qx α} {lim nt : Nat} {ops : Array Oper} (E : Tr (SV α)) (V : Hp α) (n : Nat) : seqE P D cf lim nt ops [] E V n = some ⟨E, V, n⟩ := rfl
theorem seqE_cons {cf : Qx α} {lim nt : Nat} {ops : Array Oper} (o : Oper) (r : List Oper) (E : Tr (SV α)) (V : Hp α) (n : Nat) : seqE P D cf lim nt ops (o :: r) E V n = match stepE P D cf lim nt ops E V n o with
    | some s => seqE P D cf lim nt ops r s.E s.V s.n
    | none => none := by
  show Option.rec (motive := fun _ => Option (R3 α)) none (fun s => seqE P D cf lim nt ops r s.E s.V s.n) (stepE P D cf lim nt ops E V n o) = _
  cases stepE P D cf lim nt ops E V n o <;> rfl
theorem guardE_ok {nt : Nat} {a : Act} {E : Tr (SV α)} {ops : Array Oper} {o : Oper} {b : Bool} (hL : Qw D G nt a E) (h : Zb6 ops E o.guard = some b) : Region.wanted o (yielded ops a.tmps) = b := by
  unfold Zb6 at h
  unfold Region.wanted
  split at h
  · rename_i hg
    rw [hg]; simpa using h
  · rename_i p hg
    rw [hg]
    split at h
    · rename_i e he
      split at h
      · rename_i c hc
        obtain ⟨v, h1, h2⟩ := hL.at_ e _ hc
        cases h2
        simp only [yielded, he, h1, Option.bind_some]
        split at h <;> rename_i hp <;> simp only [Option.some.injEq] at h <;> subst h <;> rw [hp] <;> cases c <;> rfl
      · rename_i L hc
        obtain ⟨v, h1, h2⟩ := hL.at_ e _ hc
        cases h2
        cases h
        simp [yielded, he, h1]
      · cases h
    · cases h
structure Zcc (D : Dom α) (lim nt : Nat) (n : Nat) (s : R3 α) (G : Gh) (w : World) (a' : Act) (w' : World) (G' : Gh) : Prop where
  fr : Fra G w G' w' (Lw lim s.n) n s.n
  live : Qw D G' nt a' s.E
  rep : Xt D G' All s.V w'
theorem XG {nt : Nat} {E : Tr (SV α)} {d : Option Tmp} {r : Option (SV α)} {V : Hp α} {n : Nat} {s : R3 α} (h : QE nt E d r V n = some s) : s.V = V ∧ s.n = n := by
  unfold QE at h
  split at h
  · cases h; exact ⟨rfl, rfl⟩
  · split at h
    · cases h; exact ⟨rfl, rfl⟩
    · cases h
theorem putDst_live {nt : Nat} {E : Tr (SV α)} {d : Option Tmp} {r : Option (SV α)} {V : Hp α} {n : Nat} {s : R3 α} {a : Act} {v : Value} (h : QE nt E d r V n = some s) (hL : Qw D G nt a E) (hv : ∀ c, r = some c → Den D G c v) : Qw D G nt (a.put d v) s.E := by
  unfold QE at h
  split at h
  · cases h; exact hL
  · split at h
    · rename_i hb
      cases h
      exact hL.put hb hv
    · cases h
theorem stepE_stat {cf : Qx α} (hc : Zbu P D cf) {lim nt n : Nat} {ops : Array Oper} {E : Tr (SV α)} {V : Hp α} {o : Oper} {s : R3 α} (h : stepE P D cf lim nt ops E V n o = some s) (hl : lim ≤ n) (hd : ∀ i, n ≤ i → V.at i = none) : Stat lim V n s.V s.n := by
  unfold stepE at h
  split at h
  · split at h
    · rename_i r hr
      obtain ⟨e1, e2⟩ := XG h
      rw [e1, e2]
      exact (doE_do hc hr hl hd).1
    · cases h
  · obtain ⟨e1, e2⟩ := XG h
    rw [e1, e2]
    exact ⟨Nat.le_refl _, fun _ _ => rfl, hd⟩
  · cases h
theorem seqE_ok {cf : Qx α} (hc : Zbu P D cf) {lim nt : Nat} {ops : Array Oper} : ∀ (l : List Oper) (E : Tr (SV α)) (V : Hp α) (n : Nat) (s : R3 α), seqE P D cf lim nt ops l E V n = some s → lim ≤ n → (∀ i, n ≤ i → V.at i = none) →
    Stat lim V n s.V s.n ∧ ∀ G a w, Qw D G nt a E → Xt D G All V w → Zbs G n s.n → ∀ Q : Exit → Act → World → Prop, (∀ a' w' G', Zcc D lim nt n s G w a' w' G' → Q .normal a' w') → Xl P ops Q l a w
  | [], E, V, n, s, h, hl, hd => by
    rw [seqE_nil] at h; cases h
    exact ⟨⟨Nat.le_refl _, fun _ _ => rfl, hd⟩, fun G a w hL hR hf Q hq => hq a w G ⟨.refl _ _ _ _ _, hL, hR⟩⟩
  | o :: r, E, V, n, s, h, hl, hd => by
    rw [seqE_cons] at h
    split at h
    · rename_i m hm
      have hst := stepE_stat hc hm hl hd
      obtain ⟨h1, h2⟩ := seqE_ok hc r m.E m.V m.n s h (Nat.le_trans hl hst.le) hst.dom
      refine ⟨hst.trans h1, fun G a w hL hR hf Q hq => ?_⟩
      have hf1 : Zbs G n m.n := fun i a b => hf i a (Nat.lt_of_lt_of_le b h1.le)
      have next : ∀ (a' : Act) (w' : World) (G' : Gh), Qw D G' nt a' m.E → Xt D G' All m.V w' → Fra G w G' w' (Lw lim m.n) n m.n → Xl P ops Q r a' w' := by
        intro a' w' G' hL' hR' hF
        refine h2 G' a' w' hL' hR' (fun i x y => ?_) Q fun a2 w2 G2 hg => hq a2 w2 G2 ⟨?_, hg.live, hg.rep⟩
        · cases hb : G'.blk i with
          | none => rfl
          | some z =>
            rcases hF.gb i z hb with h5 | ⟨h5, _⟩
            · rw [hf i (Nat.le_trans hst.le x) y] at h5; cases h5
            · omega
        · exact hF.trans hg.fr (fun i hi => ⟨hi.1, Nat.lt_of_lt_of_le hi.2 h1.le⟩) (fun i hi => hi) hst.le h1.le
      simp only [Xl]
      unfold stepE at hm
      split at hm
      · rename_i hg
        rw [guardE_ok hL hg]
        split at hm
        · rename_i out hout
          left
          obtain ⟨dst, q, ty, pos, af, gd⟩ := o
          refine (doE_do hc hout hl hd).2 dst ty pos af gd G a w (hL.has1 _) hR ?_ (fun v w' => Xl P ops Q r (a.put dst v) w') ?_ _ _ (fun v w' hk => hk)
          · obtain ⟨e1, e2⟩ := XG hm
            rw [← e2]; exact hf1
          · intro v w' G' hgood
            obtain ⟨e1, e2⟩ := XG hm
            refine next _ w' G' (putDst_live hm (hL.up hgood.fr.le) hgood.den) (by rw [e1]; exact hgood.rep) (by rw [e2]; exact hgood.fr)
        · cases hm
      · rename_i hg
        rw [guardE_ok hL hg]
        simp only [Bool.false_eq_true, if_false]
        obtain ⟨e1, e2⟩ := XG hm
        exact next _ w G (putDst_live hm hL (fun c hc => by cases hc; exact .tup .nil)) (by rw [e1]; exact hR) (by rw [e2]; exact .refl _ _ _ _ _)
      · cases hm
    · cases h
end
end Go.Cham
namespace Go.Cham
open Go Go.RowKit
theorem all_listed {ops : Array Oper} {listed : Array Bool} (hb : Zey ops = true) (hs : listed.size = ops.size) (hn : Region.ready .any ops listed = []) : ∀ i, i < ops.size → listed.getD i false = true := by
  intro i hi
  cases h : listed.getD i false with
  | true => rfl
  | false =>
    have hi' : i < listed.size := by omega
    refine absurd hn (QX hb hs hi ?_)
    simp only [Array.getD_eq_getD_getElem?, Array.getElem?_eq_getElem hi', Option.getD_some] at h
    rw [Array.getElem?_eq_getElem hi', h]
theorem any_gen {P : Program} {ops : Array Oper} {Q : Exit → Act → World → Prop} (hb : Zey ops = true) (Inv : (Nat → Bool) → Act → World → Prop)
    (hstep : ∀ done a w i o, Inv done a w → ops[i]? = some o → done i = false → (∀ j ∈ Xk ops i, done j = true) → (∀ j, done j = true → ∀ k ∈ Xk ops j, done k = true) →
      if Region.wanted o (yielded ops a.tmps) then YI P o a w (fun v w' => Inv (fun k => done k || k == i) (a.put o.dst v) w') else Inv (fun k => done k || k == i) (a.put o.dst undef) w)
    (hfin : ∀ done a w, Inv done a w → (∀ i, i < ops.size → done i = true) → Q .normal a w) :
    ∀ (fuel : Nat) (listed : Array Bool) (a : Act) (w : World), listed.size = ops.size → Closed ops listed → (listed.toList.filter (! ·)).length ≤ fuel → Inv (fun k => listed.getD k false) a w → wpAny P .any ops Q fuel listed a w := by
  intro fuel
  induction fuel with
  | zero =>
    intro listed a w hs hc hf hI
    have hall : ∀ i, i < ops.size → listed.getD i false = true := fun i hi => by
      have hi' : i < listed.size := by omega
      have : listed[i]'hi' = true := by
        cases hbb : listed[i]'hi' with
        | true => rfl
        | false =>
          have hm : false ∈ listed.toList.filter (! ·) := List.mem_filter.2 ⟨by rw [← hbb]; simp, rfl⟩
          have := List.length_pos_of_mem hm
          omega
      simp [Array.getD_eq_getD_getElem?, Array.getElem?_eq_getElem hi', this]
    refine ⟨?_, hfin _ a w hI hall⟩
    cases hr : Region.ready .any ops listed with
    | nil => rfl
    | cons x xs =>
      obtain ⟨o, _, hlt, hno, _⟩ := Zb3 (ops := ops) (listed := listed) (i := x) (by rw [hr]; simp)
      have h1 := hall x hlt
      have hx : x < listed.size := by omega
      simp only [Array.getD_eq_getD_getElem?, Array.getElem?_eq_getElem hx, Option.getD_some] at h1 hno
      rw [h1] at hno; cases hno
  | succ fuel ih =>
    intro listed a w hs hc hf hI
    refine ⟨fun hn => hfin _ a w hI (all_listed hb hs hn), fun i hi => ?_⟩
    obtain ⟨o, ho, hlt, hno, hdi⟩ := Zb3 hi
    have hil : i < listed.size := by omega
    have hlb : listed.getD i false = false := by
      simp only [Array.getD_eq_getD_getElem?, Array.getElem?_eq_getElem hil, Option.getD_some] at hno ⊢
      exact hno
    have hdi' : ∀ j ∈ Xk ops i, listed.getD j false = true := by simpa [Xk, ho] using hdi
    have hlb' : listed.toList[i]? = some false := by
      simp only [Array.getD_eq_getD_getElem?, Array.getElem?_eq_getElem hil, Option.getD_some] at hlb
      simp [hil, hlb]
    have hcount : ((listed.setIfInBounds i true).toList.filter (! ·)).length ≤ fuel := by
      have := count_set listed.toList i hlb'
      rw [Array.toList_setIfInBounds]
      omega
    have hst := hstep _ a w i o hI ho hlb hdi' (fun j hj k hk => hc j hj k hk)
    have hfun : (fun k => (listed.setIfInBounds i true).getD k false) = (fun k => listed.getD k false || k == i) := funext (Zbg listed hil)
    have next : ∀ (a' : Act) (w' : World), Inv (fun k => listed.getD k false || k == i) a' w' → wpAny P .any ops Q fuel (listed.setIfInBounds i true) a' w' := fun a' w' hI' =>
      ih _ a' w' (by simp [hs]) (closed_set hc hil hdi') hcount (by rw [hfun]; exact hI')
    show wpOp P ops Q i _ a w
    unfold wpOp
    simp only [ho]
    split
    · rename_i hw
      rw [if_pos hw] at hst
      exact .inl (hst _ _ fun v w' h => next _ w' h)
    · rename_i hw
      rw [if_neg hw] at hst
      exact next _ w hst
def Zdd (p : Nat → Bool) : Nat → Nat
  | 0 => 0
  | m + 1 => if p m then m + 1 else Zdd p m
theorem last_le (p : Nat → Bool) : ∀ m, Zdd p m ≤ m
  | 0 => Nat.le_refl _
  | m + 1 => by
    unfold Zdd
    split
    · exact Nat.le_refl _
    · have := last_le p m; omega
theorem last_none (p : Nat → Bool) : ∀ m i, Zdd p m ≤ i → i < m → p i = false
  | 0, i, _, h => by omega
  | m + 1, i, h1, h2 => by
    unfold Zdd at h1
    split at h1
    · omega
    · rename_i hp
      by_cases e : i = m
      · subst e; simpa using hp
      · exact last_none p m i h1 (by omega)
theorem last_eq {p : Nat → Bool} {m i : Nat} (hi : i < m) (hp : p i = true) (h : ∀ j, i < j → j < m → p j = false) : Zdd p m = i + 1 := by
  induction m with
  | zero => omega
  | succ m ih =>
    unfold Zdd
    split
    · rename_i hm
      by_cases e : i = m
      · omega
      · have := h m (by omega) (by omega); rw [this] at hm; cases hm
    · rename_i hm
      have : i ≠ m := fun e => by subst e; exact hm hp
      exact ih (by omega) fun j h1 h2 => h j h1 (by omega)
theorem last_congr {p q : Nat → Bool} {m : Nat} (h : ∀ j, j < m → p j = q j) : Zdd p m = Zdd q m := by
  induction m with
  | zero => rfl
  | succ m ih =>
    unfold Zdd
    rw [h m (by omega), ih fun j hj => h j (by omega)]
theorem Zcr {β : Type} {f : Nat → β} {t : Nat → Bool} {m : Nat} (hf : ∀ j, j < m → t j = false → f (j + 1) = f j) {p : Nat → Bool} {i : Nat} (hi : i ≤ m) (hp : ∀ j, j < m → p j = (t j && decide (j < i))) : f (Zdd p m) = f i := by
  have hle : Zdd p m ≤ i := by
    rcases Nat.lt_or_ge i (Zdd p m) with h | h
    · have hpos : ∃ j, Zdd p m = j + 1 := ⟨Zdd p m - 1, by omega⟩
      obtain ⟨j, hj⟩ := hpos
      have h1 := last_le p m
      have hpj : p j = true := by
        have key : ∀ m, ∀ j, Zdd p m = j + 1 → p j = true := by
          intro m
          induction m with
          | zero => intro j h; simp [Zdd] at h
          | succ m ih =>
            intro j h
            unfold Zdd at h
            split at h
            · have : j = m := by omega
              subst this; assumption
            · exact ih j h
        exact key m j hj
      rw [hp j (by omega)] at hpj
      simp at hpj
      omega
    · exact h
  have key : ∀ d, Zdd p m + d ≤ i → f (Zdd p m + d) = f (Zdd p m) := by
    intro d
    induction d with
    | zero => intro _; rfl
    | succ d ih =>
      intro h
      rw [show Zdd p m + (d + 1) = (Zdd p m + d) + 1 by omega, hf _ (by omega) ?_]
      · exact ih (by omega)
      · have h1 := last_none p m (Zdd p m + d) (by omega) (by omega)
        rw [hp _ (by omega)] at h1
        simp only [Bool.and_eq_false_iff, decide_eq_false_iff_not] at h1
        rcases h1 with h1 | h1
        · exact h1
        · omega
  have := key (i - Zdd p m) (by omega)
  rw [show Zdd p m + (i - Zdd p m) = i by omega] at this
  exact this.symm
end Go.Cham
namespace Go.Cham
open Go Go.RowKit
noncomputable section
variable {α : Type} {D : Dom α} {P : Program}
def QF (q : Op) : Bool := match q with
  | .call c => match c.callee with
    | .value _ => true
    | _ => false
  | _ => false
def limQ (lim n : Nat) (q : Op) : Nat := match QF q with
  | true => n
  | false => lim
theorem doE_small {cf : Qx α} (hc : Zbu P D cf) {lim : Nat} {E : Tr (SV α)} {V : Hp α} {n : Nat} {q : Op} {o : Out α} (h : doE P D cf (limQ lim n q) E V n q = some o) (hd : ∀ i, n ≤ i → V.at i = none) :
    Zbq V n o ∧ (∀ i ∈ o.wr, lim ≤ i) ∧ ∀ (d : Option Tmp) (ty : TypeId) (pos : String) (af : Array Edge) (g : Option (Nat × Bool)) G a w (I : Nat → Prop), Has1 D G a E q.operands.toList → (∀ i ∈ o.rd, I i) → (∀ i ∈ o.wr, I i) →
      (QF q = true → ∀ i x, V.at i = some x → I i) → Xt D G I V w → Zbs G n o.n →
      ∀ K : Value → World → Prop, (∀ v w' G', Fra G w G' w' (· ∈ o.wr) n o.n → (∀ c, o.r = some c → Den D G' c v) → Xt D G' (fun i => i ∈ o.wr ∨ (n ≤ i ∧ i < o.n)) o.V w' → K v w') → YI P ⟨d, q, ty, pos, af, g⟩ a w K := by
  have hop : ∀ lim, opE P D lim E V n q = some o → Zbq V n o ∧ (∀ i ∈ o.wr, lim ≤ i) ∧ ∀ (d : Option Tmp) (ty : TypeId) (pos : String) (af : Array Edge) (g : Option (Nat × Bool)) G a w (I : Nat → Prop), Has1 D G a E q.operands.toList → (∀ i ∈ o.rd, I i) → (∀ i ∈ o.wr, I i) →
      (QF q = true → ∀ i x, V.at i = some x → I i) → Xt D G I V w → Zbs G n o.n →
      ∀ K : Value → World → Prop, (∀ v w' G', Fra G w G' w' (· ∈ o.wr) n o.n → (∀ c, o.r = some c → Den D G' c v) → Xt D G' (fun i => i ∈ o.wr ∨ (n ≤ i ∧ i < o.n)) o.V w' → K v w') → YI P ⟨d, q, ty, pos, af, g⟩ a w K := by
    intro lim h
    obtain ⟨h1, h2⟩ := st_op h
    refine ⟨h1, h2, fun d ty pos af g G a w I hH hr hw _ hR hf K hk => ?_⟩
    obtain ⟨_, _, h3⟩ := opE_ok (P := P) (d := d) (ty := ty) (pos := pos) (af := af) (g := g) (w := w) h hH
    exact h3 I hr hw hR hf K hk
  rcases doE_cases h with ⟨fo, xs, ts, rfl, h'⟩ | ⟨hne, h'⟩
  · have h : callE cf n E V n fo xs.toList = some o := h'
    · refine id ?_
      · unfold callE at h
        split at h
        · rename_i f fs cs hf
          split at h
          · rename_i vs hvs
            split at h
            · rename_i r hr
              cases h
              rw [QB, QB] at hr
              obtain ⟨h1, h2⟩ := hc n f _ V n r hr (Nat.le_refl _) hd
              refine ⟨⟨h1.le, fun i _ hi => ?_, fun i hi => by simp at hi⟩, fun i hi => by simp at hi, fun d ty pos af g G a w I hH _ _ hI hR hfr K hk => ?_⟩
              · rcases Nat.lt_or_ge i n with h3 | h3
                · exact h1.old i h3
                · simp only [not_and, Nat.not_lt] at hi
                  rw [h1.dom i (hi h3), hd i h3]
              have hfo := hH.at_ fo (by simp [Op.operands, Call.operands]) _ hf
              have hxs := (hH.sub (ys := xs.toList) (fun y hy => by simp [Op.operands, Call.operands]; exact .inr (by simpa using hy))).many hvs
              have hden := hfo.den
              have hex := hfo.ex
              have hRA : Xt D G All V w := ⟨hR.holds, fun i o _ hv => hR.obj i o (hI rfl i o hv) hv, fun i j o o' b c c' _ _ hv hv' => hR.inj i j o o' b c c' (hI rfl i o hv) (hI rfl j o' hv') hv hv'⟩
              generalize a.eval fo = u at hden hex
              cases hden with
              | @fn _ _ _ us ws hu hw =>
                refine does_callV (Zt.full hH.defers) hex hxs.1 ?_
                refine (h2 G w _ (hu.append (hxs.2.append hw)) hRA hfr).mono fun v w' ⟨G', k1, k2, k3⟩ => hk v w' G' ⟨k1.le, k1.os, k1.tape, k1.output, k1.size, fun b hb _ => k1.blk b hb ?_, k1.gS, fun i x hx => (k1.gb i x hx).imp id fun ⟨p, q⟩ => ⟨p, .inl ?_⟩⟩ (fun c hc => by cases hc; exact k2) (k3.sub fun _ _ => trivial)
                · rintro ⟨i, c, ⟨hi1, hi2⟩, hb2⟩
                  rw [hfr i hi1 hi2] at hb2; cases hb2
                · rcases q with q | ⟨j, c, ⟨hj1, hj2⟩, hb2⟩
                  · exact q
                  · rw [hfr j hj1 hj2] at hb2; cases hb2
            · cases h
          · cases h
        · cases h
  · have : limQ lim n q = lim := by
      unfold limQ QF
      cases q with
      | call c =>
        obtain ⟨callee, xs, ts⟩ := c
        cases callee with
        | value fo => exact absurd rfl (hne fo xs ts)
        | _ => rfl
      | _ => rfl
    rw [this] at h'
    exact hop lim h'
inductive Anc (ops : Array Oper) (i : Nat) : Nat → Prop where
  | dep {j : Nat} (h : i ∈ Xk ops j) : Anc ops i j
  | step {j k : Nat} (hk : k ∈ Xk ops j) (h : Anc ops i k) : Anc ops i j
theorem anc_done {ops : Array Oper} {done : Nat → Bool} (hcl : ∀ j, done j = true → ∀ k ∈ Xk ops j, done k = true) {i j : Nat} (h : Anc ops i j) (hj : ∀ k ∈ Xk ops j, done k = true) : done i = true := by
  induction h with
  | dep h => exact hj i h
  | step hk _ ih => exact ih (hcl _ (hj _ hk))
def maskOf (T : Tr Nat) (l : List Nat) : Nat := List.rec 0 (fun k _ ih => Nat.lor (Nat.lor (Nat.shiftLeft 1 k) (Option.rec 0 (fun x => x) (T.at k))) ih) l
def maskF (ops : Array Oper) (m : Nat) : Tr Nat := Nat.rec .nil (fun j T => T.put j (some (maskOf T (Xk ops j)))) m
def masks (ops : Array Oper) : Tr Nat := maskF ops ops.size
def ancB (ops : Array Oper) (i j : Nat) : Bool := match (masks ops).at j with
  | some m => Nat.testBit m i
  | none => false
theorem maskOf_bit (T : Tr Nat) (i : Nat) : ∀ l : List Nat, (maskOf T l).testBit i = true → ∃ k ∈ l, i = k ∨ ∃ x, T.at k = some x ∧ x.testBit i = true
  | [], h => by simp [maskOf] at h
  | k :: r, h => by
    have h' : ((((1 <<< k) ||| (Option.rec 0 (fun x => x) (T.at k) : Nat)) ||| maskOf T r) : Nat).testBit i = true := h
    rw [Nat.testBit_or, Nat.testBit_or, Bool.or_eq_true, Bool.or_eq_true] at h'
    rcases h' with (h1 | h1) | h1
    · rw [Nat.one_shiftLeft, Nat.testBit_two_pow] at h1
      exact ⟨k, by simp, .inl (by have := of_decide_eq_true h1; omega)⟩
    · refine ⟨k, by simp, .inr ?_⟩
      cases hk : T.at k with
      | none => rw [hk] at h1; simp at h1
      | some x => rw [hk] at h1; exact ⟨x, rfl, h1⟩
    · obtain ⟨q, hq, h2⟩ := maskOf_bit T i r h1
      exact ⟨q, by simp [hq], h2⟩
theorem maskF_ok (ops : Array Oper) (i : Nat) : ∀ (m j x : Nat), (maskF ops m).at j = some x → x.testBit i = true → Anc ops i j
  | 0, j, x, h, _ => by
    have h' : (Tr.nil : Tr Nat).at j = some x := h
    unfold Tr.at at h'
    rw [Tr.get_nil] at h'
    cases h'
  | m + 1, j, x, h, hb => by
    have h' : ((maskF ops m).put m (some (maskOf (maskF ops m) (Xk ops m)))).at j = some x := h
    rw [Tr.at_put_if] at h'
    split at h'
    · rename_i e
      subst e
      cases h'
      obtain ⟨k, hk, h2⟩ := maskOf_bit _ _ _ hb
      rcases h2 with rfl | ⟨y, hy, h3⟩
      · exact .dep hk
      · exact .step hk (maskF_ok ops i j k y hy h3)
    · exact maskF_ok ops i m j x h' hb
theorem ancB_ok {ops : Array Oper} {i j : Nat} (h : ancB ops i j = true) : Anc ops i j := by
  unfold ancB at h
  split at h
  · rename_i m hm
    exact maskF_ok ops i _ j m hm h
  · cases h
def tmpsOf : List Operand → List Nat
  | [] => []
  | .tmp t :: r => t :: tmpsOf r
  | _ :: r => tmpsOf r
def guardSlot (ops : Array Oper) (g : Option (Nat × Bool)) : Option Nat := match g with
  | none => none
  | some p => (ops[p.1]?).bind (·.dst)
def opsL : Op → List Operand
  | .alloc _ | .ready _ | .waits _ => []
  | .move x | .assign x | .box _ x | .load _ x | .nilCheck x | .unOp _ _ x | .convert _ _ x | .sliceToArrayPointer _ x | .makeInterface _ x
  | .makeChan _ x | .fieldAddr _ x _ | .field _ x _ | .range _ x | .next x _ | .entry x | .typeAssert x _ _ _ | .extract x _ | .panic x | .recv _ x _ => [x]
  | .pick c a b => [c, a, b]
  | .build _ ps | .buildSlice _ _ ps => ps.toList.map (·.2)
  | .store _ a v | .binOp _ _ a v _ | .makeSlice _ a v | .indexAddr _ a v | .index _ a v | .lookup _ a v _ | .mapEntry _ a v | .send a v => [a, v]
  | .makeFunc _ first captured => first.toList ++ captured.toList
  | .makeMap _ r => r.toList
  | .slice _ x l h m => x :: (l.toList ++ (h.toList ++ m.toList))
  | .mapUpdate _ m k v | .entryStore _ m k v | .insert _ m k v => [m, k, v]
  | .call c => (match c.callee with | .value f => [f] | .invoke r _ => [r] | .builtin _ => []) ++ c.args.toList
  | .go c | .defer c => c.operands.toList
  | .select cs b => (Op.select cs b).operands.toList
theorem opsL_mem {q : Op} {x : Operand} (h : x ∈ q.operands.toList) : x ∈ opsL q := by
  cases q with
  | call c =>
    obtain ⟨callee, xs, ts⟩ := c
    cases callee <;> simpa [Op.operands, Call.operands, opsL] using h
  | go c => exact h
  | defer c => exact h
  | select cs b => exact h
  | slice t x l hh m =>
    simp only [Op.operands, Array.toList_append, List.mem_append] at h
    simp only [opsL, List.mem_cons, List.mem_append]
    rcases h with ((h | h) | h) | h
    · exact .inl (by simpa using h)
    · exact .inr (.inl (by simpa using h))
    · exact .inr (.inr (.inl (by simpa using h)))
    · exact .inr (.inr (.inr (by simpa using h)))
  | _ => first | (simp [Op.operands] at h; done) | simpa [Op.operands, opsL] using h
def looksE (ops : Array Oper) (o : Oper) : List Nat := match guardSlot ops o.guard with
  | some e => e :: tmpsOf (opsL o.op)
  | none => tmpsOf (opsL o.op)
def memN (l : List Nat) (x : Nat) : Bool := List.rec false (fun y _ ih => Bool.rec ih true (Nat.beq y x)) l
theorem Xw {l : List Nat} {x : Nat} : memN l x = true ↔ x ∈ l := by
  induction l with
  | nil => exact ⟨fun h => (by cases h), fun h => (by simp at h)⟩
  | cons y r ih =>
    have : memN (y :: r) x = Bool.rec (motive := fun _ => Bool) (memN r x) true (Nat.beq y x) := rfl
    rw [this]
    cases hb : Nat.beq y x with
    | true => rw [YF] at hb; subst hb; simp
    | false =>
      have hne : ¬ x = y := fun e => by subst e; simp at hb
      simp only [List.mem_cons, hne, false_or]
      exact ih
def wtab (l : List Oper) : Nat → Tr (List Nat) → Tr (List Nat) := List.rec (fun _ T => T) (fun o _ ih i T => ih (Nat.succ i) (match o.dst with
  | some d => T.put d (some (i :: Option.rec [] (fun x => x) (T.at d)))
  | none => T)) l
def ordB (ops : Array Oper) (i j : Nat) : Bool := match Nat.ble (Nat.succ i) j with
  | true => ancB ops i j
  | false => match Nat.ble (Nat.succ j) i with
    | true => ancB ops j i
    | false => true
def slotOK1 (ops : Array Oper) (T : Tr (List Nat)) (j t : Nat) : Bool := match T.at t with
  | some l => l.all fun i => ordB ops i j
  | none => true
def slotsOK (ops : Array Oper) : Bool := (List.range ops.size).all fun j => match ops[j]? with
  | some o => (looksE ops o).all (slotOK1 ops (wtab ops.toList 0 .nil) j) && (match o.dst with | some d => slotOK1 ops (wtab ops.toList 0 .nil) j d | none => true)
  | none => false
theorem wtab_ok : ∀ (l : List Oper) (i : Nat) (T : Tr (List Nat)) (t j : Nat), ((∃ x, T.at t = some x ∧ j ∈ x) ∨ ∃ o, i ≤ j ∧ l[j - i]? = some o ∧ o.dst = some t) → ∃ x, (wtab l i T).at t = some x ∧ j ∈ x
  | [], i, T, t, j, h => by
    rcases h with h | ⟨o, _, h, _⟩
    · exact h
    · simp at h
  | o :: r, i, T, t, j, h => by
    show ∃ x, (wtab r (i + 1) _).at t = some x ∧ j ∈ x
    refine wtab_ok r (i + 1) _ t j ?_
    rcases h with ⟨x, h1, h2⟩ | ⟨o', h1, h2, h3⟩
    · left
      split
      · rename_i d hd
        rw [Tr.at_put_if]
        split
        · rename_i e
          subst e
          rw [h1]
          exact ⟨_, rfl, by simp [h2]⟩
        · exact ⟨x, h1, h2⟩
      · exact ⟨x, h1, h2⟩
    · by_cases e : j = i
      · subst e
        simp at h2
        subst h2
        left
        rw [h3]
        simp only
        rw [Tr.at_put]
        exact ⟨_, rfl, by simp⟩
      · right
        refine ⟨o', by omega, ?_, h3⟩
        rw [show j - i = (j - (i + 1)) + 1 by omega, List.getElem?_cons_succ] at h2
        exact h2
structure Rec where
  i : Nat
  lo : Nat
  hi : Nat
  rd : List Nat
  wr : List Nat
  call : Bool
def Rec.loud (r : Rec) : Bool := r.call || !r.rd.isEmpty || !r.wr.isEmpty || !(Nat.beq r.lo r.hi)
def disjL (a b : List Nat) : Bool := a.all fun x => !(memN b x)
def noneIn (lo hi : Nat) (l : List Nat) : Bool := l.all fun x => !(Nat.ble lo x && Nat.ble (Nat.succ x) hi)
def apartR (a b : Rec) : Bool := disjL a.wr (b.rd ++ b.wr) && disjL a.rd b.wr && noneIn a.lo a.hi (b.rd ++ b.wr) && (!b.call || (a.wr.isEmpty && Nat.beq a.lo a.hi)) && (!a.call || b.wr.isEmpty)
def touchy (r : Rec) : Bool := !r.wr.isEmpty || !(Nat.beq r.lo r.hi)
def pairR (ops : Array Oper) (a b : Rec) : Bool := match Nat.ble (Nat.succ a.i) b.i with
  | true => match ancB ops a.i b.i with
    | true => true
    | false => apartR a b
  | false => true
def pairsR (ops : Array Oper) (l : List Rec) : Bool := l.all fun a => match touchy a with
  | true => l.all fun b => pairR ops a b && pairR ops b a
  | false => true
def recAdd (r : Rec) (l : List Rec) : List Rec := match r.loud with
  | true => r :: l
  | false => l
def draw1 (P : Program) (D : Dom α) (cf : Qx α) (lim nt : Nat) (ops : Array Oper) (o : Oper) (ih : Nat → Tr (SV α) → Hp α → Nat → List Rec → Option (R3 α × List Rec)) (i : Nat) (E : Tr (SV α)) (V : Hp α) (n : Nat) (l : List Rec) : Option (R3 α × List Rec) := match Zb6 ops E o.guard with
    | some true => match doE P D cf (limQ lim n o.op) E V n o.op with
      | some out => match out.rd.all fun x => Nat.ble (Nat.succ x) n with
        | true => match QE nt E o.dst out.r out.V out.n with
          | some s => ih (Nat.succ i) s.E s.V s.n (recAdd ⟨i, n, out.n, out.rd, out.wr, QF o.op⟩ l)
          | none => none
        | false => none
      | none => none
    | some false => match QE nt E o.dst (some (.tup [])) V n with
      | some s => ih (Nat.succ i) s.E s.V s.n l
      | none => none
    | none => none
def drawGo (P : Program) (D : Dom α) (cf : Qx α) (lim nt : Nat) (ops : Array Oper) (r : List Oper) : Nat → Tr (SV α) → Hp α → Nat → List Rec → Option (R3 α × List Rec) :=
  List.rec (fun _ E V n l => some (⟨E, V, n⟩, l)) (fun o _ ih i E V n l => draw1 P D cf lim nt ops o ih i E V n l) r
theorem drawGo_nil {cf : Qx α} {lim nt : Nat} {ops : Array Oper} (i : Nat) (E : Tr (SV α)) (V : Hp α) (n : Nat) (l : List Rec) : drawGo P D cf lim nt ops [] i E V n l = some (⟨E, V, n⟩, l) := rfl
theorem drawGo_cons {cf : Qx α} {lim nt : Nat} {ops : Array Oper} (o : Oper) (r : List Oper) (i : Nat) (E : Tr (SV α)) (V : Hp α) (n : Nat) (l : List Rec) : drawGo P D cf lim nt ops (o :: r) i E V n l = draw1 P D cf lim nt ops o (drawGo P D cf lim nt ops r) i E V n l := rfl
def drawE (P : Program) (D : Dom α) (cf : Qx α) (lim nt : Nat) (ops : Array Oper) (E : Tr (SV α)) (V : Hp α) (n : Nat) : Option (R3 α) := match Zey ops && slotsOK ops with
  | true => match drawGo P D cf lim nt ops ops.toList 0 E V n [] with
    | some (s, l) => match pairsR ops l with
      | true => some s
      | false => none
    | none => none
  | false => none
structure StepAt (P : Program) (D : Dom α) (cf : Qx α) (lim nt : Nat) (ops : Array Oper) (l : List Rec) (st : Nat → R3 α) (oc : Nat → Option (Out α)) (i : Nat) (o : Oper) : Prop where
  on : ∀ out, oc i = some out → Zb6 ops (st i).E o.guard = some true ∧ doE P D cf (limQ lim (st i).n o.op) (st i).E (st i).V (st i).n o.op = some out ∧ QE nt (st i).E o.dst out.r out.V out.n = some (st (i + 1)) ∧
    (∀ x ∈ out.rd, x < (st i).n) ∧ ((⟨i, (st i).n, out.n, out.rd, out.wr, QF o.op⟩ : Rec).loud = true → (⟨i, (st i).n, out.n, out.rd, out.wr, QF o.op⟩ : Rec) ∈ l)
  off : oc i = none → Zb6 ops (st i).E o.guard = some false ∧ QE nt (st i).E o.dst (some (.tup [])) (st i).V (st i).n = some (st (i + 1))
theorem drawGo_ok {cf : Qx α} {lim nt : Nat} {ops : Array Oper} : ∀ (r : List Oper) (k : Nat) (E : Tr (SV α)) (V : Hp α) (n : Nat) (l : List Rec) (s : R3 α) (l' : List Rec), drawGo P D cf lim nt ops r k E V n l = some (s, l') → r = ops.toList.drop k → k ≤ ops.size →
    ∃ (st : Nat → R3 α) (oc : Nat → Option (Out α)), st k = ⟨E, V, n⟩ ∧ st ops.size = s ∧ (∀ x ∈ l, x ∈ l') ∧ ∀ i, k ≤ i → i < ops.size → ∃ o, ops[i]? = some o ∧ StepAt P D cf lim nt ops l' st oc i o
  | [], k, E, V, n, l, s, l', h, hr, hk => by
    rw [drawGo_nil] at h; cases h
    have : ops.size ≤ k := by
      have := congrArg List.length hr
      simp at this; omega
    have e : k = ops.size := by omega
    exact ⟨fun _ => ⟨E, V, n⟩, fun _ => none, rfl, rfl, fun x hx => hx, fun i h1 h2 => by omega⟩
  | o :: r, k, E, V, n, l, s, l', h, hr, hk => by
    have hlt : k < ops.size := by
      have := congrArg List.length hr
      simp at this; omega
    have hlt' : k < ops.toList.length := by simpa using hlt
    rw [List.drop_eq_getElem_cons hlt'] at hr
    simp only [List.cons.injEq] at hr
    obtain ⟨ho, hr⟩ := hr
    have hok : ops[k]? = some o := by
      rw [ho]; simp [hlt]
    rw [drawGo_cons] at h; unfold draw1 at h
    split at h
    · rename_i hg
      split at h
      · rename_i out hout
        split at h
        · rename_i hrd
          split at h
          · rename_i m hm
            obtain ⟨st, oc, h1, h2, h3, h4⟩ := drawGo_ok r (k + 1) m.E m.V m.n _ s l' h hr (by omega)
            refine ⟨fun j => if j = k then ⟨E, V, n⟩ else st j, fun j => if j = k then some out else oc j, if_pos rfl, ?_, fun x hx => h3 x ?_, fun i hi1 hi2 => ?_⟩
            · show (if ops.size = k then _ else st ops.size) = s
              rw [if_neg (by omega)]; exact h2
            · unfold recAdd; split
              · exact List.mem_cons_of_mem _ hx
              · exact hx
            · by_cases e : i = k
              · subst e
                refine ⟨o, hok, ⟨fun out' ho' => ?_, fun ho' => ?_⟩⟩
                · simp only [if_pos] at ho'
                  cases ho'
                  simp only [if_pos]
                  rw [if_neg (by omega)]
                  refine ⟨hg, hout, by rw [hm, h1], fun x hx => ?_, fun hl => h3 _ ?_⟩
                  · have := List.all_eq_true.1 hrd x hx
                    exact Nat.le_of_ble_eq_true this
                  · unfold recAdd
                    rw [hl]
                    exact List.mem_cons_self
                · simp at ho'
              · obtain ⟨o', ho', hs⟩ := h4 i (by omega) hi2
                refine ⟨o', ho', ⟨fun out' hx => ?_, fun hx => ?_⟩⟩
                · simp only [if_neg e] at hx ⊢
                  rw [if_neg (by omega)]
                  exact hs.on out' hx
                · simp only [if_neg e] at hx ⊢
                  rw [if_neg (by omega)]
                  exact hs.off hx
          · cases h
        · cases h
      · cases h
    · rename_i hg
      split at h
      · rename_i m hm
        obtain ⟨st, oc, h1, h2, h3, h4⟩ := drawGo_ok r (k + 1) m.E m.V m.n _ s l' h hr (by omega)
        refine ⟨fun j => if j = k then ⟨E, V, n⟩ else st j, fun j => if j = k then none else oc j, if_pos rfl, ?_, h3, fun i hi1 hi2 => ?_⟩
        · show (if ops.size = k then _ else st ops.size) = s
          rw [if_neg (by omega)]; exact h2
        · by_cases e : i = k
          · subst e
            refine ⟨o, hok, ⟨fun out' ho' => ?_, fun ho' => ?_⟩⟩
            · simp at ho'
            · simp only [if_pos]
              rw [if_neg (by omega)]
              exact ⟨hg, by rw [hm, h1]⟩
          · obtain ⟨o', ho', hs⟩ := h4 i (by omega) hi2
            refine ⟨o', ho', ⟨fun out' hx => ?_, fun hx => ?_⟩⟩
            · simp only [if_neg e] at hx ⊢
              rw [if_neg (by omega)]
              exact hs.on out' hx
            · simp only [if_neg e] at hx ⊢
              rw [if_neg (by omega)]
              exact hs.off hx
      · cases h
    · cases h
end
end Go.Cham
namespace Go.Cham
open Go Go.RowKit
noncomputable section
variable {α : Type} {D : Dom α} {P : Program} {cf : Qx α} {lim nt : Nat} {ops : Array Oper}
def Xv (st : Nat → R3 α) (oc : Nat → Option (Out α)) (i x : Nat) : Bool := match oc i with
  | some out => memN out.wr x || (Nat.ble (st i).n x && Nat.ble (Nat.succ x) (st (i + 1)).n)
  | none => false
def dstB (ops : Array Oper) (i t : Nat) : Bool := match ops[i]? with
  | some o => match o.dst with
    | some d => Nat.beq d t
    | none => false
  | none => false
theorem putDst_ne {E : Tr (SV α)} {d : Option Tmp} {r : Option (SV α)} {V : Hp α} {n : Nat} {s : R3 α} {t : Nat} (h : QE nt E d r V n = some s) (ht : d ≠ some t) : s.E.at t = E.at t := by
  unfold QE at h
  split at h
  · cases h; rfl
  · rename_i e
    split at h
    · cases h
      exact Tr.at_put_ne _ _ (fun x => ht (by rw [x]))
    · cases h
theorem putDst_at {E : Tr (SV α)} {d : Nat} {r : Option (SV α)} {V : Hp α} {n : Nat} {s : R3 α} (h : QE nt E (some d) r V n = some s) : s.E.at d = r ∧ d < nt := by
  unfold QE at h
  split at h
  · rename_i e
    cases e
  · rename_i e
    cases e
    split at h
    · rename_i hb
      cases h
      exact ⟨Tr.at_put _ _ _, Nat.le_of_ble_eq_true hb⟩
    · cases h
structure Ev0 (P : Program) (D : Dom α) (cf : Qx α) (lim nt : Nat) (ops : Array Oper) (st : Nat → R3 α) (oc : Nat → Option (Out α)) : Prop where
  back : Zey ops = true
  slots : slotsOK ops = true
  dom : ∀ i, i ≤ ops.size → ∀ x, (st i).n ≤ x → (st i).V.at x = none
  le : ∀ i, i < ops.size → (st i).n ≤ (st (i + 1)).n
  same : ∀ i, i < ops.size → ∀ x, Xv st oc i x = false → (st (i + 1)).V.at x = (st i).V.at x
  wr : ∀ i, i < ops.size → ∀ out, oc i = some out → ∀ x ∈ out.wr, lim ≤ x ∧ ∃ o, (st i).V.at x = some o
  same0 : ∀ i, i < ops.size → oc i = none → (st (i + 1)).V = (st i).V ∧ (st (i + 1)).n = (st i).n
  slotNe : ∀ i, i < ops.size → ∀ t, dstB ops i t = false → (st (i + 1)).E.at t = (st i).E.at t
  step : ∀ i, i < ops.size → ∃ o, ops[i]? = some o ∧ (oc i = none → Zb6 ops (st i).E o.guard = some false ∧ QE nt (st i).E o.dst (some (.tup [])) (st i).V (st i).n = some (st (i + 1))) ∧
    ∀ out, oc i = some out → Zb6 ops (st i).E o.guard = some true ∧ QE nt (st i).E o.dst out.r out.V out.n = some (st (i + 1)) ∧ doE P D cf (limQ lim (st i).n o.op) (st i).E (st i).V (st i).n o.op = some out ∧
      ∀ x, (x ∈ out.rd ∨ x ∈ out.wr ∨ (QF o.op = true ∧ ∃ y, (st i).V.at x = some y)) → ∀ j, j < ops.size → j ≠ i → Xv st oc j x = true → (j < i → Anc ops j i) ∧ (i < j → Anc ops i j)
theorem ev0_of (hc : Zbu P D cf) {st : Nat → R3 α} {oc : Nat → Option (Out α)} {l : List Rec} (hb : Zey ops = true) (hs : slotsOK ops = true) (hp : pairsR ops l = true) (hd : ∀ x, (st 0).n ≤ x → (st 0).V.at x = none)
    (h : ∀ i, i < ops.size → ∃ o, ops[i]? = some o ∧ StepAt P D cf lim nt ops l st oc i o) : Ev0 P D cf lim nt ops st oc := by
  have one : ∀ i, i < ops.size → (∀ x, (st i).n ≤ x → (st i).V.at x = none) → (st i).n ≤ (st (i + 1)).n ∧ (∀ x, Xv st oc i x = false → (st (i + 1)).V.at x = (st i).V.at x) ∧ (∀ out, oc i = some out → ∀ x ∈ out.wr, lim ≤ x ∧ ∃ o, (st i).V.at x = some o) ∧
      (∀ x, (st (i + 1)).n ≤ x → (st (i + 1)).V.at x = none) ∧ (oc i = none → (st (i + 1)).V = (st i).V ∧ (st (i + 1)).n = (st i).n) := by
    intro i hi hdi
    obtain ⟨o, ho, hst⟩ := h i hi
    cases hoc : oc i with
    | none =>
      obtain ⟨_, h2⟩ := hst.off hoc
      obtain ⟨e1, e2⟩ := XG h2
      exact ⟨by rw [e2]; exact Nat.le_refl _, fun x _ => (by rw [e1]), fun out hx => (by cases hx), fun x hx => (by rw [e1]; exact hdi x (by rw [← e2]; exact hx)), fun _ => ⟨e1, e2⟩⟩
    | some out =>
      obtain ⟨_, h2, h3, h4, h5⟩ := hst.on out hoc
      obtain ⟨e1, e2⟩ := XG h3
      obtain ⟨k1, k2, _⟩ := doE_small hc h2 hdi
      have hle := k1.le
      refine ⟨by rw [e2]; exact hle, fun x hx => ?_, fun out' hx x hxw => ?_, fun x hx => ?_, fun hx => (by cases hx)⟩
      · rw [e1]
        simp only [Xv, hoc, Bool.or_eq_false_iff] at hx
        refine k1.ag x (fun hm => ?_) (fun hm => ?_)
        · have := Xw.2 hm
          rw [this] at hx; cases hx.1
        · have h7 : Nat.ble (st i).n x = true := Nat.ble_eq_true_of_le hm.1
          have h8 : Nat.ble (Nat.succ x) (st (i + 1)).n = true := Nat.ble_eq_true_of_le (by rw [e2]; exact hm.2)
          rw [h7, h8] at hx; cases hx.2
      · cases hx
        exact ⟨k2 x hxw, k1.wr x hxw⟩
      · rw [e1]
        rw [e2] at hx
        rw [k1.ag x (fun hm => ?_) (by omega)]
        · exact hdi x (by omega)
        · obtain ⟨y, hy⟩ := k1.wr x hm
          have := Tr.lt hdi hy
          omega
  have hdom : ∀ i, i ≤ ops.size → ∀ x, (st i).n ≤ x → (st i).V.at x = none := by
    intro i
    induction i with
    | zero => intro _; exact hd
    | succ i ih => intro hi; exact (one i (by omega) (ih (by omega))).2.2.2.1
  have hmono : ∀ d i, i + d ≤ ops.size → (st i).n ≤ (st (i + d)).n := by
    intro d
    induction d with
    | zero => intro i _; exact Nat.le_refl _
    | succ d ih =>
      intro i hi
      exact Nat.le_trans (ih i (by omega)) (one (i + d) (by omega) (hdom _ (by omega))).1
  refine ⟨hb, hs, hdom, fun i hi => (one i hi (hdom i (by omega))).1, fun i hi => (one i hi (hdom i (by omega))).2.1, fun i hi => (one i hi (hdom i (by omega))).2.2.1, fun i hi => (one i hi (hdom i (by omega))).2.2.2.2, fun i hi t ht => ?_, fun i hi => ?_⟩
  · obtain ⟨o, ho, hst⟩ := h i hi
    have hne : o.dst ≠ some t := by
      intro e
      simp [dstB, ho, e] at ht
    cases hoc : oc i with
    | none => exact putDst_ne (hst.off hoc).2 hne
    | some out => exact putDst_ne (hst.on out hoc).2.2.1 hne
  · obtain ⟨o, ho, hst⟩ := h i hi
    refine ⟨o, ho, hst.off, fun out hoc => ?_⟩
    obtain ⟨h1, h2, h3, h4, h5⟩ := hst.on out hoc
    obtain ⟨e1, e2⟩ := XG h3
    refine ⟨h1, h3, h2, fun x hx j hj hji ht => ?_⟩
    obtain ⟨oj, hoj, hstj⟩ := h j hj
    unfold Xv at ht
    split at ht
    · rename_i outj hocj
      obtain ⟨_, j2, j3, _, j5⟩ := hstj.on outj hocj
      obtain ⟨f1, f2⟩ := XG j3
      have hlj : (⟨j, (st j).n, outj.n, outj.rd, outj.wr, QF oj.op⟩ : Rec).loud = true := by
        simp only [Bool.or_eq_true, Bool.and_eq_true] at ht
        simp only [Rec.loud]
        rcases ht with ht | ⟨ht1, ht2⟩
        · have := Xw.1 ht
          cases hw : outj.wr with
          | nil => rw [hw] at this; simp at this
          | cons a b => simp
        · have a1 := Nat.le_of_ble_eq_true ht1
          have a2 := Nat.le_of_ble_eq_true ht2
          rw [f2] at a2
          have : Nat.beq (st j).n outj.n = false := by
            cases hbb : Nat.beq (st j).n outj.n with
            | false => rfl
            | true => rw [YF] at hbb; omega
          rw [this]; simp
      have hli : (⟨i, (st i).n, out.n, out.rd, out.wr, QF o.op⟩ : Rec).loud = true := by
        simp only [Rec.loud]
        rcases hx with hx | hx | ⟨hx, _⟩
        · cases hw : out.rd with
          | nil => rw [hw] at hx; simp at hx
          | cons a b => simp
        · cases hw : out.wr with
          | nil => rw [hw] at hx; simp at hx
          | cons a b => simp
        · rw [hx]; simp
      have m1 := h5 hli
      have m2 := j5 hlj
      have htj : touchy (⟨j, (st j).n, outj.n, outj.rd, outj.wr, QF oj.op⟩ : Rec) = true := by
        simp only [Bool.or_eq_true, Bool.and_eq_true] at ht
        simp only [touchy]
        rcases ht with ht | ⟨ht1, ht2⟩
        · have := Xw.1 ht
          cases hw : outj.wr with
          | nil => rw [hw] at this; simp at this
          | cons a b => simp
        · have a1 := Nat.le_of_ble_eq_true ht1
          have a2 := Nat.le_of_ble_eq_true ht2
          rw [f2] at a2
          have : Nat.beq (st j).n outj.n = false := by
            cases hbb : Nat.beq (st j).n outj.n with
            | false => rfl
            | true => rw [YF] at hbb; omega
          rw [this]; simp
      have hpp : pairR ops (⟨j, (st j).n, outj.n, outj.rd, outj.wr, QF oj.op⟩ : Rec) (⟨i, (st i).n, out.n, out.rd, out.wr, QF o.op⟩ : Rec) = true ∧ pairR ops (⟨i, (st i).n, out.n, out.rd, out.wr, QF o.op⟩ : Rec) (⟨j, (st j).n, outj.n, outj.rd, outj.wr, QF oj.op⟩ : Rec) = true := by
        have := List.all_eq_true.1 hp _ m2
        rw [htj] at this
        have := List.all_eq_true.1 this _ m1
        simpa only [Bool.and_eq_true] using this
      have hxn : x < (st i).n := by
        rcases hx with hx | hx | ⟨_, y, hy⟩
        · exact h4 x hx
        · obtain ⟨y, hy⟩ := (one i hi (hdom i (by omega))).2.2.1 out hoc x hx |>.2
          exact Tr.lt (hdom i (by omega)) hy
        · exact Tr.lt (hdom i (by omega)) hy
      simp only [Bool.or_eq_true, Bool.and_eq_true] at ht
      refine ⟨fun hlt => ?_, fun hlt => ?_⟩
      · have hq := hpp.1
        unfold pairR at hq
        have hb1 : Nat.ble (Nat.succ j) i = true := Nat.ble_eq_true_of_le hlt
        simp only [hb1] at hq
        cases ha : ancB ops j i with
        | true => exact ancB_ok ha
        | false =>
          exfalso
          rw [ha] at hq
          simp only [apartR, Bool.and_eq_true] at hq
          obtain ⟨⟨⟨⟨q1, q2⟩, q3⟩, q4⟩, q5⟩ := hq
          rcases hx with hx | hx | ⟨hx, _⟩
          · rcases ht with ht | ⟨t1, t2⟩
            · have := List.all_eq_true.1 q1 x (Xw.1 ht)
              have h9 : memN (out.rd ++ out.wr) x = true := Xw.2 (List.mem_append_left _ hx)
              rw [h9] at this; cases this
            · have := List.all_eq_true.1 q3 x (List.mem_append_left _ hx)
              rw [f2] at t2
              rw [t1, t2] at this; cases this
          · rcases ht with ht | ⟨t1, t2⟩
            · have := List.all_eq_true.1 q1 x (Xw.1 ht)
              have h9 : memN (out.rd ++ out.wr) x = true := Xw.2 (List.mem_append_right _ hx)
              rw [h9] at this; cases this
            · have := List.all_eq_true.1 q3 x (List.mem_append_right _ hx)
              rw [f2] at t2
              rw [t1, t2] at this; cases this
          · rw [hx] at q4
            simp only [Bool.not_true, Bool.false_or, Bool.and_eq_true, YF] at q4
            rcases ht with ht | ⟨t1, t2⟩
            · have := Xw.1 ht
              have q6 := List.isEmpty_iff.1 q4.1
              rw [q6] at this; simp at this
            · rw [f2] at t2
              have a1 := Nat.le_of_ble_eq_true t1
              have a2 := Nat.le_of_ble_eq_true t2
              have q7 := q4.2
              omega
      · have hq := hpp.2
        unfold pairR at hq
        have hb1 : Nat.ble (Nat.succ i) j = true := Nat.ble_eq_true_of_le hlt
        simp only [hb1] at hq
        cases ha : ancB ops i j with
        | true => exact ancB_ok ha
        | false =>
          exfalso
          rw [ha] at hq
          simp only [apartR, Bool.and_eq_true] at hq
          obtain ⟨⟨⟨⟨q1, q2⟩, q3⟩, q4⟩, q5⟩ := hq
          rcases ht with ht | ⟨t1, t2⟩
          · have hxw := Xw.1 ht
            rcases hx with hx | hx | ⟨hx, _⟩
            · have := List.all_eq_true.1 q2 x hx
              rw [ht] at this; cases this
            · have := List.all_eq_true.1 q1 x hx
              have h9 : memN (outj.rd ++ outj.wr) x = true := Xw.2 (List.mem_append_right _ hxw)
              rw [h9] at this; cases this
            · rw [hx] at q5
              simp only [Bool.not_true, Bool.false_or] at q5
              have q6 := List.isEmpty_iff.1 q5
              rw [q6] at hxw; simp at hxw
          · have a1 := Nat.le_of_ble_eq_true t1
            have := hmono (j - i) i (by omega)
            rw [show i + (j - i) = j by omega] at this
            omega
    · cases ht
end
end Go.Cham
namespace Go.Cham
open Go Go.RowKit
noncomputable section
variable {α : Type} {D : Dom α} {P : Program} {cf : Qx α} {lim nt : Nat} {ops : Array Oper}
theorem Fra.comp {G G' G'' : Gh} {w w' w'' : World} {wr : Nat → Prop} {wr2 : Nat → Prop} {n n' m m' : Nat} (h : Fra G w G' w' wr n n') (k : Fra G' w' G'' w'' wr2 m m') (h2 : ∀ i, wr2 i → wr i) (l1 : n ≤ m) (l2 : m' ≤ n') : Fra G w G'' w'' wr n n' := by
  have k' : Fra G' w' G'' w'' wr n n' := k.mono h2 l1 l2
  have back : ∀ j c b, wr j → G'.blk j = some (b, c) → b < w.heap.size → ∃ i c, wr i ∧ G.blk i = some (b, c) := by
    intro j c b hj hb hlt
    rcases h.gb j _ hb with h3 | ⟨_, h3 | ⟨i, c', h3, h4⟩⟩
    · exact ⟨j, c, hj, h3⟩
    · simp at h3; omega
    · exact ⟨i, c', h3, h4⟩
  refine ⟨h.le.trans k'.le, k'.os.trans h.os, k'.tape.trans h.tape, k'.output.trans h.output, Nat.le_trans h.size k'.size, fun b hb hn => ?_, fun b o hb => ?_, fun i x hx => ?_⟩
  · rw [k'.blk b (Nat.lt_of_lt_of_le hb h.size) (fun ⟨i, c, x, y⟩ => hn (back i c b x y hb))]
    exact h.blk b hb hn
  · rcases k'.gS b o hb with h3 | h3
    · exact h.gS b o h3
    · exact .inr (Nat.le_trans h.size h3)
  · rcases k'.gb i x hx with h3 | ⟨h3, h4⟩
    · exact h.gb i x h3
    · refine .inr ⟨h3, ?_⟩
      rcases h4 with h4 | ⟨j, c, h4, h5⟩
      · exact .inl (Nat.le_trans h.size h4)
      · rcases Nat.lt_or_ge x.1 w.heap.size with h6 | h6
        · exact .inr (back j c x.1 h4 h5 h6)
        · exact .inl h6
theorem guardE_ok' {G : Gh} {a : Act} {E : Tr (SV α)} {o : Oper} {b : Bool} (hL : ∀ e, guardSlot ops o.guard = some e → ∀ c, E.at e = some c → ∃ v, a.tmps[e]? = some v ∧ Den D G c v) (h : Zb6 ops E o.guard = some b) : Region.wanted o (yielded ops a.tmps) = b := by
  unfold Zb6 at h
  unfold Region.wanted
  split at h
  · rename_i hg
    rw [hg]; simpa using h
  · rename_i p hg
    rw [hg]
    split at h
    · rename_i e he
      split at h
      · rename_i c hc
        obtain ⟨v, h1, h2⟩ := hL e (by rw [hg]; exact he) _ hc
        cases h2
        simp only [yielded, he, h1, Option.bind_some]
        split at h <;> rename_i hp <;> simp only [Option.some.injEq] at h <;> subst h <;> rw [hp] <;> cases c <;> rfl
      · rename_i L hc
        obtain ⟨v, h1, h2⟩ := hL e (by rw [hg]; exact he) _ hc
        cases h2
        simp only [Option.some.injEq] at h
        subst h
        simp [yielded, he, h1]
      · cases h
    · cases h
theorem tmpsOf_mem {t : Nat} : ∀ {xs : List Operand}, Operand.tmp t ∈ xs → t ∈ tmpsOf xs
  | [], h => by simp at h
  | x :: r, h => by
    rcases List.mem_cons.1 h with h | h
    · subst h; simp [tmpsOf]
    · have := tmpsOf_mem h
      cases x <;> simp [tmpsOf, this]
theorem dstB_iff {i t : Nat} {o : Oper} (ho : ops[i]? = some o) : dstB ops i t = true ↔ o.dst = some t := by
  unfold dstB
  rw [ho]
  dsimp only
  cases o.dst with
  | none => simp
  | some d => simp
theorem slot_cmp (hs : slotsOK ops = true) {i j t : Nat} {o : Oper} (ho : ops[i]? = some o) (ht : t ∈ looksE ops o ∨ o.dst = some t) (hj : dstB ops j t = true) (hi : i < ops.size) (hjm : j < ops.size) : (j < i → Anc ops j i) ∧ (i < j → Anc ops i j) := by
  obtain ⟨oj, hoj⟩ : ∃ oj, ops[j]? = some oj := ⟨ops[j], by simp [hjm]⟩
  have hdj := (dstB_iff hoj).1 hj
  obtain ⟨l, hl, hjl⟩ := wtab_ok ops.toList 0 .nil t j (.inr ⟨oj, Nat.zero_le _, by simpa using hoj, hdj⟩)
  have h1 := List.all_eq_true.1 hs i (by simpa using hi)
  simp only [ho, Bool.and_eq_true] at h1
  have h2 : slotOK1 ops (wtab ops.toList 0 .nil) i t = true := by
    rcases ht with ht | ht
    · exact List.all_eq_true.1 h1.1 t ht
    · have := h1.2
      rw [ht] at this
      exact this
  unfold slotOK1 at h2
  rw [hl] at h2
  have h3 := List.all_eq_true.1 h2 j hjl
  unfold ordB at h3
  refine ⟨fun hlt => ?_, fun hlt => ?_⟩
  · have : Nat.ble (Nat.succ j) i = true := Nat.ble_eq_true_of_le hlt
    rw [this] at h3
    exact ancB_ok h3
  · have e1 : Nat.ble (Nat.succ j) i = false := by
      cases hb : Nat.ble (Nat.succ j) i with
      | false => rfl
      | true => have := Nat.le_of_ble_eq_true hb; omega
    have e2 : Nat.ble (Nat.succ i) j = true := Nat.ble_eq_true_of_le hlt
    rw [e1, e2] at h3
    exact ancB_ok h3
def verS (ops : Array Oper) (done : Nat → Bool) (t : Nat) : Nat := Zdd (fun i => done i && dstB ops i t) ops.size
def verM (ops : Array Oper) (st : Nat → R3 α) (oc : Nat → Option (Out α)) (done : Nat → Bool) (x : Nat) : Nat := Zdd (fun i => done i && Xv st oc i x) ops.size
structure DInv (D : Dom α) (nt lim : Nat) (ops : Array Oper) (st : Nat → R3 α) (oc : Nat → Option (Out α)) (G0 : Gh) (w0 : World) (done : Nat → Bool) (a : Act) (w : World) (G : Gh) : Prop where
  fr : Fra G0 w0 G w (Lw lim (st ops.size).n) (st 0).n (st ops.size).n
  defers : a.defers = []
  size : a.tmps.size = nt
  live : ∀ t c, (st (verS ops done t)).E.at t = some c → ∃ v, a.tmps[t]? = some v ∧ Den D G c v
  rep : RepF D G All (fun x => (st (verM ops st oc done x)).V.at x) w
  fresh : ∀ i, i < ops.size → done i = false → ∀ x, (st i).n ≤ x → x < (st (i + 1)).n → G.blk x = none
theorem draw_any (hc : Zbu P D cf) {st : Nat → R3 α} {oc : Nat → Option (Out α)} (h0 : Ev0 P D cf lim nt ops st oc) {G0 : Gh} {a0 : Act} {w0 : World} (hL0 : Qw D G0 nt a0 (st 0).E) (hR0 : Xt D G0 All (st 0).V w0) (hf0 : Zbs G0 (st 0).n (st ops.size).n)
    {Q : Exit → Act → World → Prop} (hq : ∀ a' w' G', Fra G0 w0 G' w' (Lw lim (st ops.size).n) (st 0).n (st ops.size).n → Qw D G' nt a' (st ops.size).E → Xt D G' All (st ops.size).V w' → Q .normal a' w') :
    wpAny P .any ops Q ops.size (Array.replicate ops.size false) a0 w0 := by
  have hmono : ∀ d i, i + d ≤ ops.size → (st i).n ≤ (st (i + d)).n := by
    intro d
    induction d with
    | zero => intro i _; exact Nat.le_refl _
    | succ d ih =>
      intro i hi
      exact Nat.le_trans (ih i (by omega)) (h0.le (i + d) (by omega))
  have hmo : ∀ i j, i ≤ j → j ≤ ops.size → (st i).n ≤ (st j).n := fun i j h1 h2 => by
    have := hmono (j - i) i (by omega)
    rwa [show i + (j - i) = j by omega] at this
  have lastF : ∀ (p : Nat → Bool) (m : Nat), (∀ i, i < m → p i = false) → Zdd p m = 0 := by
    intro p m
    induction m with
    | zero => intro _; rfl
    | succ m ih =>
      intro h
      unfold Zdd
      rw [h m (by omega)]
      exact ih fun i hi => h i (by omega)
  refine any_gen h0.back (fun done a w => ∃ G, DInv D nt lim ops st oc G0 w0 done a w G) ?_ ?_ ops.size _ a0 w0 (by simp) ?_ (by simp) ⟨G0, .refl _ _ _ _ _, hL0.defers, hL0.size, fun t c ht => ?_, hR0.same fun x _ => ?_, fun i hi _ x hx1 hx2 => hf0 x ?_ ?_⟩
  · 
    intro done a w i o ⟨G, hI⟩ ho hdi hdeps hcl
    have hi : i < ops.size := by
      rcases Nat.lt_or_ge i ops.size with h | h
      · exact h
      · rw [Array.getElem?_eq_none h] at ho; cases ho
    obtain ⟨o', ho', hoff, hon⟩ := h0.step i hi
    rw [ho] at ho'
    cases ho'
    have cmp : ∀ j, j ≠ i → ((j < i → Anc ops j i) ∧ (i < j → Anc ops i j)) → done j = decide (j < i) := by
      intro j hji ⟨c1, c2⟩
      rcases Nat.lt_or_ge j i with h | h
      · rw [anc_done hcl (c1 h) hdeps]
        simp [h]
      · have hlt : i < j := by omega
        cases hdj : done j with
        | false => simp; omega
        | true =>
          have := anc_done hcl (c2 hlt) (hcl j hdj)
          rw [hdi] at this; cases this
    have slotE : ∀ t, (t ∈ looksE ops o ∨ o.dst = some t) → ∀ j, j < ops.size → (done j && dstB ops j t) = (dstB ops j t && decide (j < i)) := by
      intro t ht j hj
      cases hb : dstB ops j t with
      | false => simp
      | true =>
        by_cases e : j = i
        · subst e; simp [hdi]
        · rw [cmp j e (slot_cmp h0.slots ho ht hb hi hj)]; simp
    have slotV : ∀ t, t ∈ looksE ops o → (st (verS ops done t)).E.at t = (st i).E.at t := fun t ht =>
      Zcr (f := fun k => (st k).E.at t) (t := fun k => dstB ops k t) (fun j hj hb => h0.slotNe j hj t hb) (Nat.le_of_lt hi) (slotE t (.inl ht))
    have liveI : ∀ t, t ∈ looksE ops o → ∀ c, (st i).E.at t = some c → ∃ v, a.tmps[t]? = some v ∧ Den D G c v := fun t ht c hcc => hI.live t c (by rw [slotV t ht]; exact hcc)
    have hgd : ∀ b, Zb6 ops (st i).E o.guard = some b → Region.wanted o (yielded ops a.tmps) = b := fun b hb => guardE_ok' (G := G) (fun e he c hcc => liveI e (by unfold looksE; rw [he]; simp) c hcc) hb
    have hsame : ∀ t, o.dst ≠ some t → verS ops (fun k => done k || k == i) t = verS ops done t := by
      intro t ht
      refine last_congr fun j hj => ?_
      by_cases e : j = i
      · subst e
        have : dstB ops j t = false := by
          cases hb : dstB ops j t with
          | false => rfl
          | true => exact absurd ((dstB_iff ho).1 hb) ht
        dsimp only
        rw [this]; simp
      · have : (j == i) = false := by simpa using e
        dsimp only
        rw [this]; simp
    have hown : ∀ t, o.dst = some t → verS ops (fun k => done k || k == i) t = i + 1 := by
      intro t ht
      refine last_eq hi ?_ fun j h1 h2 => ?_
      · have := (dstB_iff ho).2 ht
        dsimp only
        rw [this]; simp
      · have h3 := slotE t (.inr ht) j h2
        have : (j == i) = false := by simp; omega
        dsimp only
        rw [this, Bool.or_false, h3]
        simp; omega
    have liveP : ∀ (G' : Gh) (v : Value) (r : Option (SV α)), G.le G' → (∀ t, o.dst = some t → (st (i + 1)).E.at t = r ∧ t < nt) → (∀ c, r = some c → Den D G' c v) → ∀ t c, (st (verS ops (fun k => done k || k == i) t)).E.at t = some c → ∃ u, (a.put o.dst v).tmps[t]? = some u ∧ Den D G' c u := by
      intro G' v r hle hr hv t c ht
      by_cases e : o.dst = some t
      · rw [hown t e] at ht
        obtain ⟨h1, h2⟩ := hr t e
        rw [h1] at ht
        rw [e]
        exact ⟨v, by simp [Act.put, hI.size, h2], hv c ht⟩
      · rw [hsame t e] at ht
        obtain ⟨u, h1, h2⟩ := hI.live t c ht
        refine ⟨u, ?_, h2.up hle⟩
        cases hd : o.dst with
        | none => exact h1
        | some d =>
          simp only [Act.put]
          rw [Array.getElem?_setIfInBounds_ne]
          · exact h1
          · intro x; subst x; exact e hd
    have szP : ∀ v, (a.put o.dst v).tmps.size = nt := by
      intro v
      cases o.dst with
      | none => exact hI.size
      | some d => simp [Act.put, hI.size]
    have dfP : ∀ v, (a.put o.dst v).defers = [] := by
      intro v
      cases o.dst <;> exact hI.defers
    cases hoc : oc i with
    | none =>
      obtain ⟨g1, g2⟩ := hoff hoc
      rw [hgd _ g1]
      simp only [Bool.false_eq_true, if_false]
      have ht0 : ∀ x, Xv st oc i x = false := fun x => by unfold Xv; rw [hoc]
      refine ⟨G, hI.fr, dfP _, szP _, liveP G undef (some (.tup [])) (.refl G) (fun t ht => ?_) (fun c hcc => by cases hcc; exact .tup .nil), hI.rep.same fun x _ => ?_, fun j hj hdj x hx1 hx2 => hI.fresh j hj ?_ x hx1 hx2⟩
      · rw [ht] at g2; exact putDst_at g2
      · have : verM ops st oc (fun k => done k || k == i) x = verM ops st oc done x := by
          refine last_congr fun j hj => ?_
          by_cases e : j = i
          · subst e; dsimp only; rw [ht0 x]; simp
          · have : (j == i) = false := by simpa using e
            dsimp only
            rw [this]; simp
        show (st (verM ops st oc (fun k => done k || k == i) x)).V.at x = _
        rw [this]
      · simp only [Bool.or_eq_false_iff] at hdj
        exact hdj.1
    | some out =>
      obtain ⟨g1, g2, g3, g4⟩ := hon out hoc
      rw [hgd _ g1]
      simp only [if_true]
      obtain ⟨e1, e2⟩ := XG g2
      obtain ⟨k1, k2, k3⟩ := doE_small hc g3 (h0.dom i (by omega))
      let I : Nat → Prop := fun x => x ∈ out.rd ∨ x ∈ out.wr ∨ (QF o.op = true ∧ ∃ y, (st i).V.at x = some y)
      have memE : ∀ x, I x → ∀ j, j < ops.size → (done j && Xv st oc j x) = (Xv st oc j x && decide (j < i)) := by
        intro x hx j hj
        cases hb : Xv st oc j x with
        | false => simp
        | true =>
          by_cases e : j = i
          · subst e; simp [hdi]
          · rw [cmp j e (g4 x hx j hj e hb)]; simp
      have memV : ∀ x, I x → (st (verM ops st oc done x)).V.at x = (st i).V.at x := fun x hx =>
        Zcr (f := fun k => (st k).V.at x) (t := fun k => Xv st oc k x) (fun j hj hb => h0.same j hj x hb) (Nat.le_of_lt hi) (memE x hx)
      have hRI : Xt D G I (st i).V w := (hI.rep.sub (J := I) fun _ _ => trivial).same fun x hx => (memV x hx).symm
      have hfr : Zbs G (st i).n out.n := fun x hx1 hx2 => hI.fresh i hi hdi x hx1 (by rw [e2]; exact hx2)
      have hH : Has1 D G a (st i).E o.op.operands.toList := by
        refine ⟨hI.defers, fun x hx c hcc => ?_⟩
        cases x with
        | tmp t =>
          have htl : t ∈ looksE ops o := by
            have := tmpsOf_mem (opsL_mem hx)
            unfold looksE
            split
            · exact List.mem_cons_of_mem _ this
            · exact this
          obtain ⟨v, h1, h2⟩ := liveI t htl c hcc
          have hlt : t < a.tmps.size := by
            rcases Nat.lt_or_ge t a.tmps.size with h | h
            · exact h
            · rw [Array.getElem?_eq_none h] at h1; cases h1
          refine ⟨?_, ?_⟩
          · show Zah (full a) t = _
            rw [look_full, if_pos hlt]; rfl
          · simp only [Act.eval, Array.getD_eq_getD_getElem?, h1, Option.getD_some]
            exact h2
        | const v => exact ⟨rfl, Zez D G hcc⟩
        | global g => cases hcc
        | func f =>
          simp only [evS, Option.some.injEq] at hcc
          subst hcc
          exact ⟨rfl, .fn .nil .nil⟩
      obtain ⟨dst, q, ty, pos, af, gd⟩ := o
      refine k3 dst ty pos af gd G a w I hH (fun x hx => .inl hx) (fun x hx => .inr (.inl hx)) (fun hcall x y hy => .inr (.inr ⟨hcall, y, hy⟩)) hRI hfr _ fun v w' G' f1 f2 f3 => ?_
      have hlt : ∀ x, x ∈ out.wr → x < (st i).n := fun x hx => by
        obtain ⟨y, hy⟩ := k1.wr x hx
        exact Tr.lt (h0.dom i (by omega)) hy
      have hNi : (st (i + 1)).n ≤ (st ops.size).n := hmo _ _ (by omega) (Nat.le_refl _)
      have touchI : ∀ x, Xv st oc i x = true ↔ (x ∈ out.wr ∨ ((st i).n ≤ x ∧ x < out.n)) := by
        intro x
        unfold Xv
        rw [hoc]
        simp only [Bool.or_eq_true, Bool.and_eq_true]
        constructor
        · rintro (h | ⟨h1, h2⟩)
          · exact .inl (Xw.1 h)
          · exact .inr ⟨Nat.le_of_ble_eq_true h1, by have := Nat.le_of_ble_eq_true h2; omega⟩
        · rintro (h | ⟨h1, h2⟩)
          · exact .inl (Xw.2 h)
          · exact .inr ⟨Nat.ble_eq_true_of_le h1, Nat.ble_eq_true_of_le (by omega)⟩
      have late : ∀ x, Xv st oc i x = true → ∀ j, i < j → j < ops.size → (done j && Xv st oc j x) = false := by
        intro x hx j h1 h2
        cases hb : Xv st oc j x with
        | false => simp
        | true =>
          simp only [Bool.and_true]
          rcases (touchI x).1 hx with h | ⟨h3, h4⟩
          · have := memE x (.inr (.inl h)) j h2
            rw [hb] at this
            simp only [Bool.and_true, Bool.true_and] at this
            rw [this]; simp; omega
          · 
            obtain ⟨oj, hoj, hoffj, honj⟩ := h0.step j h2
            unfold Xv at hb
            split at hb
            · rename_i outj hocj
              simp only [Bool.or_eq_true, Bool.and_eq_true] at hb
              rcases hb with hb | ⟨hb1, hb2⟩
              · obtain ⟨_, _, _, j4⟩ := honj outj hocj
                have := (j4 x (.inr (.inl (Xw.1 hb))) i hi (by omega) hx).1 h1
                cases hdj : done j with
                | false => rfl
                | true =>
                  have := anc_done hcl this (hcl j hdj)
                  rw [hdi] at this; cases this
              · have h5 := Nat.le_of_ble_eq_true hb1
                have h6 := hmo (i + 1) j (by omega) (by omega)
                omega
            · cases hb
      have verI : ∀ x, Xv st oc i x = true → verM ops st oc (fun k => done k || k == i) x = i + 1 := by
        intro x hx
        refine last_eq hi (by dsimp only; rw [hx]; simp) fun j h1 h2 => ?_
        have : (j == i) = false := by simp; omega
        dsimp only
        rw [this, Bool.or_false]
        exact late x hx j h1 h2
      have verO : ∀ x, Xv st oc i x = false → verM ops st oc (fun k => done k || k == i) x = verM ops st oc done x := by
        intro x hx
        refine last_congr fun j hj => ?_
        by_cases e : j = i
        · subst e; dsimp only; rw [hx]; simp
        · have : (j == i) = false := by simpa using e
          dsimp only
          rw [this]; simp
      refine ⟨G', hI.fr.comp f1 (fun x hx => ⟨k2 x hx, ?_⟩) (hmo 0 i (by omega) (by omega)) (by omega), dfP _, szP _, liveP G' v out.r f1.le (fun t ht => ?_) f2, ?_, fun j hj hdj x hx1 hx2 => ?_⟩
      · have := hlt x hx
        have := hmo i ops.size (by omega) (Nat.le_refl _)
        omega
      · have ht' : dst = some t := ht
        rw [ht'] at g2; exact putDst_at g2
      · have := hI.rep.step (V' := fun x => (st (verM ops st oc (fun k => done k || k == i) x)).V.at x) f1 (fun _ _ => trivial) (fun x hx => ?_) (fun x hx1 hx2 => ?_) (f3.same fun x hx => ?_) hfr
        · exact this.sub fun _ _ => .inl trivial
        · obtain ⟨y, hy⟩ := k1.wr x hx
          exact ⟨y, by rw [memV x (.inr (.inl hx))]; exact hy⟩
        · have : Xv st oc i x = false := by
            cases hb : Xv st oc i x with
            | false => rfl
            | true =>
              rcases (touchI x).1 hb with h | h
              · exact absurd h hx1
              · exact absurd h hx2
          show (st (verM ops st oc (fun k => done k || k == i) x)).V.at x = _
          rw [verO x this]
        · show (st (verM ops st oc (fun k => done k || k == i) x)).V.at x = _
          rw [verI x ((touchI x).2 hx), e1]
      · simp only [Bool.or_eq_false_iff] at hdj
        have hji : j ≠ i := by simpa using hdj.2
        have hold := hI.fresh j hj hdj.1 x hx1 hx2
        cases hb : G'.blk x with
        | none => rfl
        | some z =>
          rcases f1.gb x z hb with h | ⟨⟨h1, h2⟩, _⟩
          · rw [hold] at h; cases h
          · rcases Nat.lt_or_ge j i with h3 | h3
            · have := hmo (j + 1) i (by omega) (by omega)
              omega
            · have := hmo (i + 1) j (by omega) (by omega)
              omega
  · 
    intro done a w ⟨G, hI⟩ hall
    have allS : ∀ t, (st (verS ops done t)).E.at t = (st ops.size).E.at t := fun t =>
      Zcr (f := fun k => (st k).E.at t) (t := fun k => dstB ops k t) (fun j hj hb => h0.slotNe j hj t hb) (Nat.le_refl _) fun j hj => by rw [hall j hj]; simp [hj]
    have allM : ∀ x, (st (verM ops st oc done x)).V.at x = (st ops.size).V.at x := fun x =>
      Zcr (f := fun k => (st k).V.at x) (t := fun k => Xv st oc k x) (fun j hj hb => h0.same j hj x hb) (Nat.le_refl _) fun j hj => by rw [hall j hj]; simp [hj]
    exact hq a w G hI.fr ⟨hI.defers, hI.size, fun t c ht => hI.live t c (by rw [allS]; exact ht)⟩ (hI.rep.same fun x _ => (allM x).symm)
  · intro i h; rw [Zct] at h; cases h
  · have : verS ops (fun k => (Array.replicate ops.size false).getD k false) t = 0 := lastF _ _ fun i _ => by dsimp only; rw [Zct]; simp
    rw [this] at ht
    exact hL0.at_ t c ht
  · have : verM ops st oc (fun k => (Array.replicate ops.size false).getD k false) x = 0 := lastF _ _ fun i _ => by dsimp only; rw [Zct]; simp
    show (st (verM ops st oc _ x)).V.at x = _
    rw [this]
  · have := hmo 0 i (by omega) (by omega); omega
  · have := hmo (i + 1) ops.size (by omega) (Nat.le_refl _); omega
theorem drawE_ok (hc : Zbu P D cf) (hmo : P.follows .mixedOrders = true) {E : Tr (SV α)} {V : Hp α} {n : Nat} {s : R3 α} (h : drawE P D cf lim nt ops E V n = some s) (hl : lim ≤ n) (hd : ∀ i, n ≤ i → V.at i = none) :
    Stat lim V n s.V s.n ∧ ∀ (id : Nat) G a w, Qw D G nt a E → Xt D G All V w → Zbs G n s.n → ∀ Q : Exit → Act → World → Prop, (∀ a' w' G', Zcc D lim nt n s G w a' w' G' → Q .normal a' w') → (Code.region id ops true).wp P Q a w := by
  unfold drawE at h
  split at h
  · rename_i hbs
    simp only [Bool.and_eq_true] at hbs
    split at h
    · rename_i s' l hgo
      split at h
      · rename_i hp
        simp only [Option.some.injEq] at h; subst h
        obtain ⟨st, oc, e0, em, _, hst⟩ := drawGo_ok ops.toList 0 E V n [] s' l hgo (by simp) (Nat.zero_le _)
        have h0 : Ev0 P D cf lim nt ops st oc := ev0_of hc hbs.1 hbs.2 hp (by rw [e0]; exact hd) fun i hi => hst i (Nat.zero_le _) hi
        have hle : ∀ d, d ≤ ops.size → n ≤ (st d).n ∧ ∀ x, x < lim → (st d).V.at x = V.at x := by
          intro d
          induction d with
          | zero => intro _; rw [e0]; exact ⟨Nat.le_refl _, fun _ _ => rfl⟩
          | succ d ih =>
            intro hd'
            obtain ⟨i1, i2⟩ := ih (by omega)
            refine ⟨Nat.le_trans i1 (h0.le d (by omega)), fun x hx => ?_⟩
            rw [h0.same d (by omega) x, i2 x hx]
            unfold Xv
            split
            · rename_i out hoc
              simp only [Bool.or_eq_false_iff, Bool.and_eq_false_iff]
              refine ⟨?_, .inl ?_⟩
              · cases hb : memN out.wr x with
                | false => rfl
                | true =>
                  have := (h0.wr d (by omega) out hoc x (Xw.1 hb)).1
                  omega
              · cases hb : Nat.ble (st d).n x with
                | false => rfl
                | true => have := Nat.le_of_ble_eq_true hb; omega
            · rfl
        have hm := hle ops.size (Nat.le_refl _)
        have hdm := h0.dom ops.size (Nat.le_refl _)
        rw [em] at hm hdm
        refine ⟨⟨hm.1, hm.2, hdm⟩, fun id G a w hL hR hf Q hq => wp_region_any hmo ?_⟩
        have hFw : ∀ {G' : Gh} {w' : World} {wr : Nat → Prop} {n n' : Nat}, Fra G { w with drawn := w.drawn + 1 } G' w' wr n n' → Fra G w G' w' wr n n' := fun h => ⟨h.le, h.os, h.tape, h.output, h.size, h.blk, h.gS, h.gb⟩
        refine draw_any hc h0 (G0 := G) (a0 := a) (w0 := { w with drawn := w.drawn + 1 }) (by rw [e0]; exact hL) (by rw [e0]; exact ⟨hR.holds, hR.obj, hR.inj⟩) (by rw [e0, em]; exact hf) fun a' w' G' f1 f2 f3 => hq a' w' G' ?_
        rw [e0, em] at f1
        rw [em] at f2 f3
        exact ⟨hFw f1, f2, f3⟩
      · cases h
    · cases h
  · cases h
end
end Go.Cham
namespace Go.Cham
open Go Go.RowKit
inductive Ex where
  | norm
  | exit (i : Nat)
  | ret
def Ex.to : Ex → Exit
  | .norm => .normal
  | .exit i => .exit i
  | .ret => .ret
noncomputable section
variable {α : Type} {D : Dom α} {P : Program}
structure R4 (α : Type) where
  ex : Ex
  s : R3 α
abbrev RunF (α : Type) := Nat → Nat → Code → Tr (SV α) → Hp α → Nat → Option (R4 α)
def wrapR (o : Option (R3 α)) : Option (R4 α) := match o with
  | some s => some ⟨.norm, s⟩
  | none => none
def runSeq (rec : RunF α) (lim nt : Nat) (b : Code) (r : R4 α) : Option (R4 α) := match r.ex with
  | .norm => rec lim nt b r.s.E r.s.V r.s.n
  | _ => some r
def runBlk (id : Nat) (r : R4 α) : Option (R4 α) := match r.ex with
  | .exit j => match Nat.beq j id with
    | true => some ⟨.norm, r.s⟩
    | false => some r
  | _ => some r
def runS (P : Program) (D : Dom α) (cf : Qx α) (rec : RunF α) : RunF α := fun lim nt c E V n => match c with
  | .skip => some ⟨.norm, ⟨E, V, n⟩⟩
  | .label _ => some ⟨.norm, ⟨E, V, n⟩⟩
  | .region _ ops draw => match draw with
    | false => wrapR (seqE P D cf lim nt ops ops.toList E V n)
    | true => wrapR (drawE P D cf lim nt ops E V n)
  | .seq a b => match rec lim nt a E V n with
    | some r => runSeq rec lim nt b r
    | none => none
  | .cond c x y => match evS E c with
    | some (.bool true) => rec lim nt x E V n
    | some (.bool false) => rec lim nt y E V n
    | _ => none
  | .block id b => match rec lim nt b E V n with
    | some r => runBlk id r
    | none => none
  | .loop b => match rec lim nt b E V n with
    | some r => runSeq rec lim nt (.loop b) r
    | none => none
  | .exit id => some ⟨.exit id, ⟨E, V, n⟩⟩
  | .ret => some ⟨.ret, ⟨E, V, n⟩⟩
  | .scope b => rec lim nt b E V n
  | _ => none
def Lands (P : Program) (D : Dom α) (lim nt : Nat) (E : Tr (SV α)) (V : Hp α) (n : Nat) (r : R4 α) (W : (Exit → Act → World → Prop) → Act → World → Prop) : Prop :=
  ∀ G a w, Qw D G nt a E → Xt D G All V w → Zbs G n r.s.n → ∀ Q : Exit → Act → World → Prop, (∀ a' w' G', Zcc D lim nt n r.s G w a' w' G' → Q r.ex.to a' w') → W Q a w
def RunOK (P : Program) (D : Dom α) (rec : RunF α) : Prop := ∀ lim nt c E V n r, rec lim nt c E V n = some r → lim ≤ n → (∀ i, n ≤ i → V.at i = none) →
  Stat lim V n r.s.V r.s.n ∧ Lands P D lim nt E V n r (fun Q => c.wp P Q) ∧ ∀ b, c = .loop b → ∃ N, Lands P D lim nt E V n r (fun Q => Code.rounds P b Q N)
theorem Zcc.refl {lim nt n : Nat} {E : Tr (SV α)} {V : Hp α} {G : Gh} {a : Act} {w : World} (hL : Qw D G nt a E) (hR : Xt D G All V w) : Zcc D lim nt n ⟨E, V, n⟩ G w a w G := ⟨.refl _ _ _ _ _, hL, hR⟩
theorem Zcc.trans {lim nt n : Nat} {s s' : R3 α} {G G' G'' : Gh} {w w' w'' : World} {a' a'' : Act} (h : Zcc D lim nt n s G w a' w' G') (k : Zcc D lim nt s.n s' G' w' a'' w'' G'') (l1 : n ≤ s.n) (l2 : s.n ≤ s'.n) : Zcc D lim nt n s' G w a'' w'' G'' :=
  ⟨h.fr.trans k.fr (fun i hi => ⟨hi.1, Nat.lt_of_lt_of_le hi.2 l2⟩) (fun _ hi => hi) l1 l2, k.live, k.rep⟩
theorem Zcc.fresh {lim nt n n' : Nat} {s : R3 α} {G G' : Gh} {w w' : World} {a' : Act} (h : Zcc D lim nt n s G w a' w' G') (hf : Zbs G n n') (hn : n ≤ s.n) : Zbs G' s.n n' := by
  intro i h1 h2
  cases hb : G'.blk i with
  | none => rfl
  | some z =>
    rcases h.fr.gb i z hb with h5 | ⟨h5, _⟩
    · rw [hf i (Nat.le_trans hn h1) h2] at h5; cases h5
    · omega
theorem Zbs.sub {G : Gh} {n n' m : Nat} (h : Zbs G n n') (hm : m ≤ n') : Zbs G n m := fun i h1 h2 => h i h1 (Nat.lt_of_lt_of_le h2 hm)
theorem cond_ev {nt : Nat} {G : Gh} {a : Act} {E : Tr (SV α)} {c : Operand} {b : Bool} (hL : Qw D G nt a E) (h : evS E c = some (.bool b)) : a.eval c = .bool b := by
  have := hL.ops [c] c (by simp) _ h
  generalize a.eval c = p at *
  cases this; rfl
theorem seqRun {lim nt n : Nat} {V : Hp α} {rec : RunF α} (hrec : RunOK P D rec) {r : R4 α} {b : Code} {o : R4 α} (h : runSeq rec lim nt b r = some o) (h1 : Stat lim V n r.s.V r.s.n) (hl : lim ≤ n) :
    Stat lim V n o.s.V o.s.n ∧ r.s.n ≤ o.s.n ∧ ∀ G w, Zbs G n o.s.n → ∀ Q : Exit → Act → World → Prop, (∀ a' w' G', Zcc D lim nt n o.s G w a' w' G' → Q o.ex.to a' w') →
      (∀ a' w' G', Zcc D lim nt n r.s G w a' w' G' → Exit.then (b.wp P Q) Q r.ex.to a' w') ∧ ∀ bb, b = .loop bb → ∃ N, ∀ G w, Zbs G n o.s.n → ∀ Q : Exit → Act → World → Prop, (∀ a' w' G', Zcc D lim nt n o.s G w a' w' G' → Q o.ex.to a' w') → ∀ a' w' G', Zcc D lim nt n r.s G w a' w' G' → Exit.then (Code.rounds P bb Q N) Q r.ex.to a' w' := by
  unfold runSeq at h
  cases hex : r.ex with
  | norm =>
    simp only [hex] at h
    obtain ⟨k1, k2, k3⟩ := hrec lim nt b _ _ _ o h (Nat.le_trans hl h1.le) h1.dom
    refine ⟨h1.trans k1, k1.le, fun G w hf Q hq => ⟨fun a' w' G' hg => ?_, fun bb hb => ?_⟩⟩
    · exact k2 G' a' w' hg.live hg.rep (hg.fresh hf h1.le) Q fun a2 w2 G2 hg2 => hq a2 w2 G2 (hg.trans hg2 h1.le k1.le)
    · obtain ⟨N, hN⟩ := k3 bb hb
      exact ⟨N, fun G w hf Q hq a' w' G' hg => hN G' a' w' hg.live hg.rep (hg.fresh hf h1.le) Q fun a2 w2 G2 hg2 => hq a2 w2 G2 (hg.trans hg2 h1.le k1.le)⟩
  | exit j =>
    simp only [hex, Option.some.injEq] at h
    subst h
    refine ⟨h1, Nat.le_refl _, fun G w hf Q hq => ⟨fun a' w' G' hg => ?_, fun bb hb => ⟨0, fun G w hf Q hq a' w' G' hg => ?_⟩⟩⟩
    · have := hq a' w' G' hg
      rw [hex] at this; exact this
    · have := hq a' w' G' hg
      rw [hex] at this; exact this
  | ret =>
    simp only [hex, Option.some.injEq] at h
    subst h
    refine ⟨h1, Nat.le_refl _, fun G w hf Q hq => ⟨fun a' w' G' hg => ?_, fun bb hb => ⟨0, fun G w hf Q hq a' w' G' hg => ?_⟩⟩⟩
    · have := hq a' w' G' hg
      rw [hex] at this; exact this
    · have := hq a' w' G' hg
      rw [hex] at this; exact this
theorem runS_ok (hmo : P.follows .mixedOrders = true) {cf : Qx α} (hc : Zbu P D cf) {rec : RunF α} (hrec : RunOK P D rec) : RunOK P D (runS P D cf rec) := by
  intro lim nt c E V n r h hl hd
  unfold runS at h
  have stay : Stat lim V n V n := ⟨Nat.le_refl _, fun _ _ => rfl, hd⟩
  cases c with
  | skip =>
    cases h
    exact ⟨stay, fun G a w hL hR hf Q hq => wp_skip (hq a w G (.refl hL hR)), fun b hb => by cases hb⟩
  | label l =>
    cases h
    exact ⟨stay, fun G a w hL hR hf Q hq => wp_label (hq a w G (.refl hL hR)), fun b hb => by cases hb⟩
  | exit id =>
    cases h
    exact ⟨stay, fun G a w hL hR hf Q hq => wp_exit (hq a w G (.refl hL hR)), fun b hb => by cases hb⟩
  | ret =>
    cases h
    exact ⟨stay, fun G a w hL hR hf Q hq => wp_ret (hq a w G (.refl hL hR)), fun b hb => by cases hb⟩
  | region id ops draw =>
    simp only at h
    cases draw with
    | false =>
      simp only [wrapR] at h
      split at h
      · rename_i s hs
        cases h
        obtain ⟨h1, h2⟩ := seqE_ok hc ops.toList E V n s hs hl hd
        exact ⟨h1, fun G a w hL hR hf Q hq => Za (h2 G a w hL hR hf Q hq), fun b hb => by cases hb⟩
      · cases h
    | true =>
      simp only [wrapR] at h
      split at h
      · rename_i s hs
        cases h
        obtain ⟨h1, h2⟩ := drawE_ok hc hmo hs hl hd
        exact ⟨h1, fun G a w hL hR hf Q hq => h2 id G a w hL hR hf Q hq, fun b hb => by cases hb⟩
      · cases h
  | seq x y =>
    simp only at h
    split at h
    · rename_i r1 hr1
      obtain ⟨h1, h2, _⟩ := hrec lim nt x E V n r1 hr1 hl hd
      obtain ⟨k1, k2, k3⟩ := seqRun (D := D) (V := V) (n := n) hrec h h1 hl
      exact ⟨k1, fun G a w hL hR hf Q hq => wp_seq (h2 G a w hL hR (hf.sub k2) _ (k3 G w hf Q hq).1), fun b hb => by cases hb⟩
    · cases h
  | cond c x y =>
    simp only at h
    split at h
    · rename_i hcc
      obtain ⟨h1, h2, _⟩ := hrec lim nt x E V n r h hl hd
      exact ⟨h1, fun G a w hL hR hf Q hq => wp_cond_true (cond_ev hL hcc) (h2 G a w hL hR hf Q hq), fun b hb => by cases hb⟩
    · rename_i hcc
      obtain ⟨h1, h2, _⟩ := hrec lim nt y E V n r h hl hd
      exact ⟨h1, fun G a w hL hR hf Q hq => wp_cond_false (cond_ev hL hcc) (h2 G a w hL hR hf Q hq), fun b hb => by cases hb⟩
    · cases h
  | block id b =>
    simp only at h
    split at h
    · rename_i r1 hr1
      obtain ⟨h1, h2, _⟩ := hrec lim nt b E V n r1 hr1 hl hd
      unfold runBlk at h
      have same : ∀ (hs : r.s = r1.s), (∀ (Q : Exit → Act → World → Prop) a' w', Q r.ex.to a' w' → Exit.inBlock id Q r1.ex.to a' w') → Stat lim V n r.s.V r.s.n ∧ Lands P D lim nt E V n r (fun Q => (Code.block id b).wp P Q) ∧ ∀ b', Code.block id b = .loop b' → ∃ N, Lands P D lim nt E V n r (fun Q => Code.rounds P b' Q N) := by
        intro hs hx
        refine ⟨by rw [hs]; exact h1, fun G a w hL hR hf Q hq => wp_block (h2 G a w hL hR (by rw [← hs]; exact hf) _ fun a' w' G' hg => hx Q a' w' (hq a' w' G' (by rw [hs]; exact hg))), fun b' hb => by cases hb⟩
      cases hex : r1.ex with
      | exit j =>
        simp only [hex] at h
        split at h
        · rename_i hj
          rw [YF] at hj
          subst hj
          cases h
          exact same rfl fun Q a' w' hq => by simpa [hex, Ex.to, Exit.inBlock] using hq
        · rename_i hj
          have hj' : j ≠ id := fun e => by
            subst e
            have : Nat.beq j j = true := by simp
            rw [this] at hj; cases hj
          cases h
          exact same rfl fun Q a' w' hq => by simpa [hex, Ex.to, Exit.inBlock, hj'] using hq
      | norm =>
        simp only [hex, Option.some.injEq] at h; subst h
        exact same rfl fun Q a' w' hq => by rw [hex] at hq ⊢; exact hq
      | ret =>
        simp only [hex, Option.some.injEq] at h; subst h
        exact same rfl fun Q a' w' hq => by rw [hex] at hq ⊢; exact hq
    · cases h
  | loop b =>
    simp only at h
    split at h
    · rename_i r1 hr1
      obtain ⟨h1, h2, _⟩ := hrec lim nt b E V n r1 hr1 hl hd
      obtain ⟨k1, k2, k3⟩ := seqRun (D := D) (V := V) (n := n) hrec h h1 hl
      have hN : ∃ N, Lands P D lim nt E V n r (fun Q => Code.rounds P b Q N) := by
        obtain ⟨N, hN⟩ : ∃ N, ∀ G w, Zbs G n r.s.n → ∀ Q : Exit → Act → World → Prop, (∀ a' w' G', Zcc D lim nt n r.s G w a' w' G' → Q r.ex.to a' w') → ∀ a' w' G', Zcc D lim nt n r1.s G w a' w' G' → Exit.then (Code.rounds P b Q N) Q r1.ex.to a' w' := by
          have := (k3 ⟨fun _ => none, fun _ => none⟩ default (fun _ _ _ => rfl) (fun _ _ _ => True) (fun _ _ _ _ => trivial)).2 b rfl
          exact this
        exact ⟨N + 1, fun G a w hL hR hf Q hq => h2 G a w hL hR (hf.sub k2) _ (hN G w hf Q hq)⟩
      refine ⟨k1, ?_, fun b' hb => ?_⟩
      · obtain ⟨N, hN⟩ := hN
        exact fun G a w hL hR hf Q hq => wp_loop_rounds N (hN G a w hL hR hf Q hq)
      · cases hb
        exact hN
    · cases h
  | scope b =>
    simp only at h
    obtain ⟨h1, h2, _⟩ := hrec lim nt b E V n r h hl hd
    refine ⟨h1, fun G a w hL hR hf Q hq => wp_scope_straight (h2 G a w hL hR hf _ fun a' w' G' hg => ?_), fun b hb => by cases hb⟩
    have := hq a' w' G' hg
    cases hex : r.ex <;> rw [hex] at this <;> exact this
  | goto l => cases h
  | rangeFunc f ps x y => cases h
  | refuse s => cases h
def argsE (l : List (SV α)) : Nat → Tr (SV α) → Tr (SV α) := List.rec (fun _ E => E) (fun v _ ih i E => ih (Nat.succ i) (E.put i (some v))) l
theorem argsE_at : ∀ (l : List (SV α)) (i : Nat) (E : Tr (SV α)) (t : Nat), (argsE l i E).at t = if i ≤ t ∧ t < i + l.length then l[t - i]? else E.at t
  | [], i, E, t => by rw [if_neg (by simp only [List.length_nil]; omega)]; rfl
  | v :: r, i, E, t => by
    show (argsE r (i + 1) (E.put i (some v))).at t = _
    rw [argsE_at r (i + 1) _ t]
    by_cases h : i + 1 ≤ t ∧ t < i + 1 + r.length
    · rw [if_pos h, if_pos (by simp only [List.length_cons]; omega), show t - i = (t - (i + 1)) + 1 by omega, List.getElem?_cons_succ]
    · rw [if_neg h, Tr.at_put_if]
      by_cases h2 : t = i
      · subst h2
        rw [if_pos rfl, if_pos (by simp only [List.length_cons]; omega)]
        simp
      · rw [if_neg h2, if_neg (by simp only [List.length_cons]; omega)]
theorem Qw.start {G : Gh} {args : List (SV α)} {vs : List Value} (h : XF D G args vs) (k : Nat) : Qw D G (vs.length + k) { tmps := vs.toArray ++ Array.replicate k undef, defers := [] } (argsE args 0 .nil) := by
  refine ⟨rfl, by simp, fun t c ht => ?_⟩
  rw [argsE_at] at ht
  split at ht
  · rename_i hlt
    rw [Nat.sub_zero] at ht
    obtain ⟨v, h1, h2⟩ := h.get ht
    refine ⟨v, ?_, h2⟩
    obtain ⟨h3, _⟩ := List.getElem?_eq_some_iff.1 h1
    rw [Array.getElem?_append_left (by simpa using h3)]
    simpa using h1
  · unfold Tr.at at ht
    rw [Tr.get_nil] at ht
    cases ht
def resE (P : Program) (D : Dom α) (V : Hp α) (E : Tr (SV α)) : List ResultVar → Option (List (SV α))
  | [] => some []
  | .tmp t :: r => match E.at t with
    | some v => match resE P D V E r with
      | some vs => some (v :: vs)
      | none => none
    | none => none
  | .cell t T :: r => match E.at t with
    | some (.ptr (some p)) => match V.at p.1 with
      | some (.cells _ sz rows _) => match aggT P T with
        | some true => match Yu P T with
          | some m => match cellsAt D sz rows p.2 m with
            | some C => match resE P D V E r with
              | some vs => some (.agg C :: vs)
              | none => none
            | none => none
          | none => none
        | some false => match cellsAt D sz rows p.2 1 with
          | some C => match mkVal D false C with
            | some c => match resE P D V E r with
              | some vs => some (c :: vs)
              | none => none
            | none => none
          | none => none
        | none => none
      | _ => none
    | _ => none
theorem resE_ok {G : Gh} {nt : Nat} {a : Act} {w : World} {V : Hp α} {E : Tr (SV α)} (hL : Qw D G nt a E) (hR : Xt D G All V w) : ∀ {rs : List ResultVar} {cs : List (SV α)}, resE P D V E rs = some cs → ∃ vs, Res P (full a) w rs vs ∧ XF D G cs vs
  | [], cs, h => by simp [resE] at h; subst h; exact ⟨[], .nil, .nil⟩
  | .tmp t :: r, cs, h => by
    simp only [resE] at h
    split at h
    · rename_i v hv
      split at h
      · rename_i vs hvs
        cases h
        obtain ⟨us, h1, h2⟩ := resE_ok hL hR hvs
        have h3 := (hL.has1 [.tmp t]).at_ (.tmp t) (by simp) v hv
        exact ⟨_ :: us, .tmp h3.ex h1, .cons h3.den h2⟩
      · cases h
    · cases h
  | .cell t T :: r, cs, h => by
    simp only [resE] at h
    split at h
    · rename_i p hv
      have h3 := (hL.has1 [.tmp t]).at_ (.tmp t) (by simp) _ hv
      obtain ⟨b, c, hb, hev⟩ := h3.ptr
      split at h
      · rename_i T' sz rows gr hob
        obtain ⟨b', c', cs', slack, e1, e2, e3, e4, e5, e6⟩ := hR.cells (i := p.1) trivial hob
        rw [hb] at e1
        cases e1
        split at h
        · rename_i hA
          split at h
          · rename_i m hm
            split at h
            · rename_i C hC
              split at h
              · rename_i vs hvs
                cases h
                obtain ⟨us, h1, h2⟩ := resE_ok hL hR hvs
                obtain ⟨xs, x1, x2, x3⟩ := Zbo hC e4
                exact ⟨_ :: us, .agg hev hA hm e3 (Zeb x1 x2) x2 h1, .cons (.agg x3) h2⟩
              · cases h
            · cases h
          · cases h
        · rename_i hA
          split at h
          · rename_i C hC
            split at h
            · rename_i cc hcc
              split at h
              · rename_i vs hvs
                cases h
                obtain ⟨us, h1, h2⟩ := resE_ok hL hR hvs
                obtain ⟨xs, x1, x2, x3⟩ := Zbo hC e4
                obtain ⟨v, rfl, hvd⟩ := mkVal_one hcc x3
                have x4 := Zeb (slack := slack) x1 x2
                have x5 := congrArg (fun l => l[0]?) x4
                exact ⟨v :: us, .one hev hA e3 (by simpa [List.getElem?_take, List.getElem?_drop] using x5) h1, .cons hvd h2⟩
              · cases h
            · cases h
          · cases h
        · cases h
      · cases h
    · cases h
def packE : List (SV α) → SV α
  | [v] => v
  | vs => .tup vs
theorem packE_den {G : Gh} {cs : List (SV α)} {vs : List Value} (h : XF D G cs vs) : Den D G (packE cs) (pack vs) := by
  cases h with
  | nil => exact .tup .nil
  | cons h1 h2 => cases h2 with
    | nil => exact h1
    | cons h3 h4 => exact .tup (.cons h1 (.cons h3 h4))
def PrimOK (P : Program) (D : Dom α) (prim : FuncId → List (SV α) → Option (SV α)) : Prop :=
  ∀ f args r, prim f args = some r → ∀ G w vs, XF D G args vs → Ya G.S w → Zad P f vs w fun v w' => ∃ S', Ext G.S w S' w' ∧ Den D ⟨S', G.blk⟩ r v
def callB (P : Program) (D : Dom α) (prim : FuncId → List (SV α) → Option (SV α)) (rec : RunF α) : Qx α := fun lim f args V n => match prim f args with
  | some r => some ⟨r, V, n⟩
  | none => match P.funcs[f]? with
    | some fn => match fn.body with
      | some c => match ZW P f with
        | true => match Nat.ble (lenL args) fn.ntmps with
          | true => match rec lim fn.ntmps c (argsE args 0 .nil) V n with
            | some r => match r.ex with
              | .exit _ => none
              | _ => match resE P D r.s.V r.s.E fn.results.toList with
                | some vs => some ⟨packE vs, r.s.V, r.s.n⟩
                | none => none
            | none => none
          | false => none
        | false => none
      | none => none
    | none => none
theorem XF.len {G : Gh} {cs : List (SV α)} {vs : List Value} (h : XF D G cs vs) : vs.length = cs.length := by
  induction cs generalizing vs with
  | nil => cases h; rfl
  | cons x r ih => cases h with | cons h hs => simp [ih hs]
theorem callB_ok {prim : FuncId → List (SV α) → Option (SV α)} (hp : PrimOK P D prim) {rec : RunF α} (hrec : RunOK P D rec) : Zbu P D (callB P D prim rec) := by
  intro lim f args V n o h hl hd
  unfold callB at h
  split at h
  · rename_i r hr
    cases h
    refine ⟨⟨Nat.le_refl _, fun _ _ => rfl, hd⟩, fun G w vs hv hR hf => (hp f args r hr G w vs hv hR.holds).mono fun v w' ⟨S', hx, hden⟩ => ?_⟩
    have hsz := hx.below.size
    refine ⟨⟨S', G.blk⟩, ⟨⟨hx.le, fun _ _ h => h⟩, hx.below.os, hx.below.tape, hx.below.output, hsz, fun b hb _ => hx.below.block b hb, fun b o hb => ?_, fun i x hx => .inl hx⟩, hden, ⟨hx.holds, fun i o hi hv => ?_, hR.inj⟩⟩
    · rcases hx.fresh b o hb with ⟨o', h1⟩ | h1
      · have h2 := hx.le b o' h1
        have hb' : S' b = some o := hb
        rw [hb'] at h2
        cases h2
        exact .inl h1
      · exact .inr h1
    · obtain ⟨b, c, u, h1, h2, h3, h4⟩ := hR.obj i o hi hv
      have hlt := (Array.getElem?_eq_some_iff.1 h3).1
      refine ⟨b, c, u, h1, ?_, ?_, h4.up (show G.le ⟨S', G.blk⟩ from ⟨hx.le, fun _ _ h => h⟩)⟩
      · cases hs : S' b with
        | none => exact hs
        | some x =>
          rcases hx.fresh b x hs with ⟨o', h5⟩ | h5
          · rw [h2] at h5; cases h5
          · omega
      · rw [hx.below.block b hlt]; exact h3
  · split at h
    · rename_i fn hfn
      split at h
      · rename_i c hb
        split at h
        · rename_i hent
          split at h
          · rename_i hnt
            split at h
            · rename_i r hr
              obtain ⟨h1, h2, _⟩ := hrec lim fn.ntmps c _ V n r hr hl hd
              have fin : ∀ vs, resE P D r.s.V r.s.E fn.results.toList = some vs → (r.ex = .norm ∨ r.ex = .ret) → Stat lim V n r.s.V r.s.n ∧ ∀ G w us, XF D G args us → Xt D G All V w → Zbs G n r.s.n →
                  Zad P f us w fun v w' => ∃ G', Fra G w G' w' (Lw lim r.s.n) n r.s.n ∧ Den D G' (packE vs) v ∧ Xt D G' All r.s.V w' := by
                intro vs hvs hex
                refine ⟨h1, fun G w us hus hR hf => .inl ⟨hent, ?_⟩⟩
                have hlen := hus.len
                have hnt' := Nat.le_of_ble_eq_true hnt
                rw [Zbf] at hnt'
                have hn : us.length + (fn.ntmps - us.length) = fn.ntmps := by omega
                refine calls_of_wp hfn hb ?_
                have hst := Qw.start hus (fn.ntmps - us.length)
                rw [hn] at hst
                refine h2 G _ w (by simpa using hst) hR hf _ fun a' w' G' hg => ?_
                obtain ⟨ws, k1, k2⟩ := resE_ok hg.live hg.rep hvs
                have hbody : ∀ e, (e = Exit.normal ∨ e = Exit.ret) → bodyPost P fn (fun e w' => ∃ v, e = .returned v ∧ ∃ G', Fra G w G' w' (Lw lim r.s.n) n r.s.n ∧ Den D G' (packE vs) v ∧ Xt D G' All r.s.V w') e a' w' := by
                  intro e he
                  have hres := Zo (P := P) (fn := fn) (R := fun e w' => ∃ v, e = .returned v ∧ ∃ G', Fra G w G' w' (Lw lim r.s.n) n r.s.n ∧ Den D G' (packE vs) v ∧ Xt D G' All r.s.V w') (Zt.full hg.live.defers) (rs := fn.results.toList) (by simp) k1 ⟨_, rfl, G', hg.fr, packE_den k2, hg.rep⟩
                  rcases he with rfl | rfl
                  · exact hres
                  · exact hres
                rcases hex with hex | hex <;> rw [hex]
                · exact hbody _ (.inl rfl)
                · exact hbody _ (.inr rfl)
              cases hex : r.ex with
              | exit j => rw [hex] at h; cases h
              | norm =>
                simp only [hex] at h
                split at h
                · rename_i vs hvs
                  cases h
                  exact fin vs hvs (.inl hex)
                · cases h
              | ret =>
                simp only [hex] at h
                split at h
                · rename_i vs hvs
                  cases h
                  exact fin vs hvs (.inr hex)
                · cases h
            · cases h
          · cases h
        · cases h
      · cases h
    · cases h
def runN (P : Program) (D : Dom α) (prim : FuncId → List (SV α) → Option (SV α)) (k : Nat) : RunF α := Nat.rec (fun _ _ _ _ _ _ => none) (fun _ ih => runS P D (callB P D prim ih) ih) k
theorem runN_ok (hmo : P.follows .mixedOrders = true) {prim : FuncId → List (SV α) → Option (SV α)} (hp : PrimOK P D prim) : ∀ k, RunOK P D (runN P D prim k)
  | 0 => fun lim nt c E V n r h => by cases h
  | k + 1 => runS_ok hmo (callB_ok hp (runN_ok hmo hp k)) (runN_ok hmo hp k)
theorem ev_call (hmo : P.follows .mixedOrders = true) {prim : FuncId → List (SV α) → Option (SV α)} (hp : PrimOK P D prim) {k f : Nat} {args : List (SV α)} {o : CR α} (h : callB P D prim (runN P D prim k) 0 f args .nil 0 = some o) {S : Sh} {w : World} {vs : List Value} (hS : Ya S w)
    (hd : XF D ⟨S, fun _ => none⟩ args vs) : Zad P f vs w fun v w' => ∃ S' blk', Ext S w S' w' ∧ Den D ⟨S', blk'⟩ o.r v := by
  have hnil : ∀ i, (Tr.nil : Hp α).at i = none := fun i => Tr.get_nil _
  obtain ⟨_, h2⟩ := callB_ok hp (runN_ok hmo hp k) 0 f args .nil 0 o h (Nat.le_refl _) (fun i _ => hnil i)
  refine (h2 ⟨S, fun _ => none⟩ w vs hd ⟨hS, fun i o _ hv => (by rw [hnil] at hv; cases hv), fun i j o o' b c c' _ _ hv => (by rw [hnil] at hv; cases hv)⟩ (fun _ _ _ => rfl)).mono fun v w' ⟨G', hf, hden, hrep⟩ => ⟨G'.S, G'.blk, ⟨hf.le.S, hrep.holds, fun b o hb => ?_, ⟨hf.os, hf.tape, hf.output, hf.size, fun b hb => hf.blk b hb (fun ⟨i, c, _, hx⟩ => (by cases hx))⟩⟩, hden⟩
  rcases hf.gS b o hb with h3 | h3
  · exact .inl ⟨o, h3⟩
  · exact .inr h3
end
end Go.Cham
namespace Go.Cham
open Go Go.RowKit
theorem Na.ofLow {S : Sh} {n : Nat} (h : n < 18446744073709551616) : Na S [.int .u64 (n : Int), .slice none 0 0] n 64 := ⟨by omega, _, _, rfl, .small n h⟩
theorem Na.ofLowK {S : Sh} {n k : Nat} (h : n < 18446744073709551616) (hk : n ≤ 2 ^ k) : Na S [.int .u64 (n : Int), .slice none 0 0] n k := ⟨hk, _, _, rfl, .small n h⟩
theorem Na.ofRow {S : Sh} {b len cap lo n k : Nat} {ds : List Nat} {rest : List Value} (hlo : lo < 18446744073709551616) (r : Row S b tU64 (Yr ds ++ rest)) (hl : ds.length = len) (h2 : 2 ≤ len) (hs : len ≤ 281474976710656) (hc : len ≤ cap) (hd : ∀ d ∈ ds, d < 18446744073709551616)
    (hz : ds.getLast? ≠ some 0) (hn : val W64 ds = n) (hk : n ≤ 2 ^ k) : Na S [.int .u64 (lo : Int), .slice (some ⟨b, 0, none⟩) len cap] n k := ⟨hk, _, _, rfl, by rw [← hn]; exact .big lo b len cap ds rest hlo r hl h2 hs hc hd hz⟩
theorem Na.ofLowE {S : Sh} {n m k : Nat} (e : m = n) (h : n < 18446744073709551616) (hk : n ≤ 2 ^ k) : Na S [.int .u64 (m : Int), .slice none 0 0] n k := by subst e; exact Na.ofLowK h hk
theorem Na.ofDg {S : Sh} {p : Option Addr} {len cap lo n k : Nat} {ds : List Nat} (hlo : lo < 18446744073709551616) (h : Dg S p len cap ds) (h2 : 2 ≤ len) (hz : ds.getLast? ≠ some 0) (hn : val W64 ds = n) (hk : n ≤ 2 ^ k) : Na S [.int .u64 (lo : Int), .slice p len cap] n k := by
  obtain ⟨b, rest, rfl, r⟩ := h.row (by omega)
  exact Na.ofRow hlo r h.hlen h2 h.hbig h.hcap h.hlt hz hn hk
theorem Zbv {k : IntKind} {x y : Int} (h : x = y) : pack [.int k x] = .int k y := by subst h; rfl
theorem val_ge_pow {B : Nat} (hB : 0 < B) : ∀ ds : List Nat, ds ≠ [] → ds.getLast? ≠ some 0 → B ^ (ds.length - 1) ≤ val B ds := by
  intro ds
  induction ds with
  | nil => intro h; exact absurd rfl h
  | cons d r ih =>
    intro _ h
    cases r with
    | nil => simp at h; simp [val]; omega
    | cons y s =>
      have h1 := ih (by simp) (by simpa using h)
      have h2 : val B (d :: y :: s) = d + B * val B (y :: s) := rfl
      have h3 : B * B ^ ((y :: s).length - 1) ≤ B * val B (y :: s) := Nat.mul_le_mul_left B h1
      have h4 : B ^ ((d :: y :: s).length - 1) = B * B ^ ((y :: s).length - 1) := by
        simp only [List.length_cons, Nat.add_sub_cancel]
        rw [Nat.pow_succ, Nat.mul_comm]
      omega
theorem val_ge {ds : List Nat} (h2 : 2 ≤ ds.length) (hz : ds.getLast? ≠ some 0) : W64 ≤ val W64 ds := by
  have h := val_ge_pow (B := W64) (by decide) ds (by intro e; rw [e] at h2; simp at h2) hz
  have : W64 ^ 1 ≤ W64 ^ (ds.length - 1) := Nat.pow_le_pow_right (by decide) (by omega)
  simp only [Nat.pow_one] at this
  omega
theorem Na.open {S : Sh} {cs : List Value} {n k : Nat} (h : Na S cs n k) : n ≤ 2 ^ k ∧ ((n < 18446744073709551616 ∧ cs = [.int .u64 (n : Int), .slice none 0 0]) ∨
    (W64 ≤ n ∧ ∃ (lo b len cap : Nat) (rest : List Value), lo < 18446744073709551616 ∧ cs = [.int .u64 (lo : Int), .slice (some ⟨b, 0, none⟩) len cap] ∧ Row S b tU64 (Yr (ZP W64 n) ++ rest) ∧ Dg S (some ⟨b, 0, none⟩) len cap (ZP W64 n) ∧ 2 ≤ len)) := by
  obtain ⟨hk, c0, c1, rfl, hc⟩ := h
  refine ⟨hk, ?_⟩
  cases hc with
  | small _ h => exact .inl ⟨h, rfl⟩
  | big lo b len cap ds rest h hr hlen h2 hs hc hd hl =>
    have e : ZP W64 (val W64 ds) = ds := digs_val (by decide) ds hd hl
    refine .inr ⟨val_ge (by omega) hl, lo, b, len, cap, rest, h, rfl, by rw [e]; exact hr, ?_, h2⟩
    rw [e]
    exact ⟨hlen, hc, hs, hd, fun _ => ⟨b, rest, rfl, hr⟩⟩
theorem str_at {s : ByteArray} {i : Int} {j : Nat} (h : j < s.size ∧ i = (j : Int)) : s.data.toList[i.toNat]? = some (s.data.toList.getD j 0) := by
  obtain ⟨h, rfl⟩ := h
  simp only [Int.toNat_natCast]
  rw [List.getElem?_eq_getElem (by simpa using h), List.getD_eq_getElem?_getD, List.getElem?_eq_getElem (by simpa using h)]
  rfl
theorem QM (B : Nat) (ds es : List Nat) : val B (ds ++ es) = val B ds + B ^ ds.length * val B es := by
  induction ds with
  | nil => simp [val]
  | cons d r ih => simp only [List.cons_append, val, ih, List.length_cons, Nat.pow_succ, Nat.mul_add, Nat.add_assoc]; rw [← Nat.mul_assoc, Nat.mul_comm B (B ^ r.length)]
theorem YG (B : Nat) (ds : List Nat) (n : Nat) (h : n < ds.length) : val B (ds.take (n + 1)) = val B (ds.take n) + B ^ n * ds.getD n 0 := by
  rw [List.take_succ_eq_append_getElem h, QM]
  have : (ds.take n).length = n := by simp; omega
  rw [this, List.getD_eq_getElem?_getD, List.getElem?_eq_getElem h]
  simp [val]
theorem Zd7 {B : Nat} (hB : 0 < B) : ∀ (ds : List Nat), (∀ d ∈ ds, d < B) → val B ds < B ^ ds.length := by
  intro ds
  induction ds with
  | nil => intro _; simp [val]
  | cons d r ih =>
    intro h
    have h1 := ih (fun x hx => h x (by simp [hx]))
    have h2 := h d (by simp)
    simp only [val, List.length_cons, Nat.pow_succ]
    calc d + B * val B r < B + B * val B r := by omega
      _ = B * (val B r + 1) := by rw [Nat.mul_add]; omega
      _ ≤ B * B ^ r.length := Nat.mul_le_mul_left _ h1
      _ = B ^ r.length * B := Nat.mul_comm _ _
theorem digs_small {n : Nat} (h0 : n ≠ 0) (h : n < 18446744073709551616) : ZP W64 n = [n] := by
  rw [QJ (by decide) h0, Nat.mod_eq_of_lt h, Nat.div_eq_of_lt h, Xg]
theorem Dg.cast {S : Sh} {p : Option Addr} {len cap : Nat} {ds es : List Nat} (h : Dg S p len cap ds) (e : ds = es) : Dg S p len cap es := e ▸ h
def Zw (n : Nat) : Nat := if n = 0 then 0 else Nat.log2 n + 1
theorem Zd6 {B n : Nat} {ds : List Nat} (h0 : 0 < n) (hn : n ≤ ds.length) (h : ds.getD (n - 1) 0 = 0) : val B (ds.take (n - 1)) = val B (ds.take n) := by
  have := YG B ds (n - 1) (by omega)
  rw [show n - 1 + 1 = n by omega, h, Nat.mul_zero, Nat.add_zero] at this
  exact this.symm
theorem val_one {B : Nat} {ds : List Nat} (h : 0 < ds.length) : val B (ds.take 1) = ds.getD 0 0 := by
  have := YG B ds 0 h
  simpa [val] using this
theorem Na.cut {S : Sh} {b n m k : Nat} {ds : List Nat} {rest : List Value} (r : Row S b tU64 (Yr ds ++ rest)) (hn : n ≤ ds.length) (h2 : 2 ≤ n) (hs : n ≤ 281474976710656) (hd : ∀ d ∈ ds, d < 18446744073709551616) (hz : ¬ ds.getD (n - 1) 0 = 0) (hv : val W64 (ds.take n) = m) (hk : m ≤ 2 ^ k) :
    Na S [.int .u64 (0 : Int), .slice (some ⟨b, 0, none⟩) n n] m k := by
  refine Na.ofRow (lo := 0) (ds := ds.take n) (rest := Yr (ds.drop n) ++ rest) (by omega) ?_ (by simp; omega) h2 hs (Nat.le_refl _) (fun d h => hd d (List.mem_of_mem_take h)) ?_ hv hk
  · rw [← List.append_assoc]
    have : Yr (ds.take n) ++ Yr (ds.drop n) = Yr ds := by simp only [Yr, ← List.map_append, List.take_append_drop]
    rw [this]; exact r
  · rw [List.getLast?_eq_getElem?]
    have hl : (ds.take n).length = n := by simp; omega
    rw [hl, List.getElem?_take, if_pos (by omega), List.getElem?_eq_getElem (by omega)]
    rw [List.getD_eq_getElem?_getD, List.getElem?_eq_getElem (by omega)] at hz
    simpa using hz
def cmpN (a b : Nat) : Int := if a < b then -1 else if b < a then 1 else 0
theorem digs_getLast {B n : Nat} (hB : 2 ≤ B) (hn : n ≠ 0) : (ZP B n).getD ((ZP B n).length - 1) 0 ≠ 0 := by
  intro e
  have h1 := digs_last hB n
  have h2 : ZP B n ≠ [] := by intro e'; have := Yn hB n; rw [e'] at this; exact hn this.symm
  have hl : 0 < (ZP B n).length := List.length_pos_iff.2 h2
  apply h1
  rw [List.getLast?_eq_getElem?]
  rw [List.getD_eq_getElem?_getD] at e
  rw [List.getElem?_eq_getElem (by omega)] at e ⊢
  simpa using e
theorem digs_pow_le {B n : Nat} (hB : 2 ≤ B) (hn : n ≠ 0) : B ^ ((ZP B n).length - 1) ≤ n := by
  have h2 : ZP B n ≠ [] := by intro e'; have := Yn hB n; rw [e'] at this; exact hn this.symm
  have := val_ge_pow (B := B) (by omega) (ZP B n) h2 (digs_last hB n)
  rwa [Yn hB n] at this
theorem lt_digs_pow {B : Nat} (hB : 2 ≤ B) (n : Nat) : n < B ^ (ZP B n).length := by
  have := Zd7 (B := B) (by omega) (ZP B n) (Zdw hB n)
  rwa [Yn hB n] at this
theorem Zdx {B a b : Nat} (hB : 2 ≤ B) (h : (ZP B a).length < (ZP B b).length) : a < b := by
  have hb : b ≠ 0 := by intro e; rw [e, Xg] at h; simp at h
  have h1 := lt_digs_pow hB a
  have h2 := digs_pow_le hB hb
  have h3 : B ^ (ZP B a).length ≤ B ^ ((ZP B b).length - 1) := Nat.pow_le_pow_right (by omega) (by omega)
  omega
theorem Xu (B : Nat) (ds : List Nat) (n : Nat) (h : n ≤ ds.length) : val B ds = val B (ds.take n) + B ^ n * val B (ds.drop n) := by
  have := QM B (ds.take n) (ds.drop n)
  rw [List.take_append_drop, show (ds.take n).length = n by simp; omega] at this
  exact this
theorem Zdj {B : Nat} (hB : 2 ≤ B) {ds : List Nat} (h : ∀ d ∈ ds, d < B) (n : Nat) (hn : n ≤ ds.length) : val B (ds.take n) < B ^ n := by
  have := Zd7 (B := B) (by omega) (ds.take n) (fun d hd => h d (List.mem_of_mem_take hd))
  rwa [show (ds.take n).length = n by simp; omega] at this
theorem Ys {ds : List Nat} {n : Nat} (h : n < ds.length) : ds.drop n = ds.getD n 0 :: ds.drop (n + 1) := by
  rw [List.drop_eq_getElem_cons h, List.getD_eq_getElem?_getD, List.getElem?_eq_getElem h]; rfl
theorem top_lt {B : Nat} (hB : 2 ≤ B) {x y : List Nat} {n : Nat} (hx : ∀ d ∈ x, d < B) (hl : x.length = y.length) (hn : n < x.length) (e : x.drop (n + 1) = y.drop (n + 1)) (h : x.getD n 0 < y.getD n 0) : val B x < val B y := by
  have h1 := Xu B x n (by omega)
  have h2 := Xu B y n (by omega)
  rw [Ys hn] at h1
  rw [Ys (by omega)] at h2
  have h3 := Zdj hB hx n (by omega)
  simp only [val] at h1 h2
  rw [e] at h1
  have h4 : B ^ n * (x.getD n 0 + B * val B (y.drop (n + 1))) + B ^ n ≤ B ^ n * (y.getD n 0 + B * val B (y.drop (n + 1))) := by
    rw [← Nat.mul_succ]
    exact Nat.mul_le_mul_left _ (by omega)
  omega
theorem drop_step {x y : List Nat} {n : Nat} (hl : x.length = y.length) (hn : n < x.length) (e : x.drop (n + 1) = y.drop (n + 1)) (h : x.getD n 0 = y.getD n 0) : x.drop n = y.drop n := by
  rw [Ys hn, Ys (ds := y) (by omega), h, e]
theorem bitLen_eq {x : Nat} (h : x < 18446744073709551616) : Lib.bitLen x = Zw x := by
  unfold Zw
  split
  · rename_i e; subst e; rfl
  · rename_i hx
    obtain ⟨h1, h2, h3⟩ := Lib.bitLenAux_bounds 64 x (by simpa using h) hx
    have : Nat.log2 x = Lib.bitLenAux 64 x - 1 := by
      rw [Nat.log2_eq_iff hx]
      refine ⟨h2, ?_⟩
      rw [show Lib.bitLenAux 64 x - 1 + 1 = Lib.bitLenAux 64 x by omega]; exact h3
    unfold Lib.bitLen
    omega
theorem bitlen_le {n k : Nat} (h : n ≤ 2 ^ k) : Zw n ≤ k + 1 := by
  unfold Zw
  split
  · omega
  · rename_i hn
    have := (Nat.log2_lt hn).2 (show n < 2 ^ (k + 1) by rw [Nat.pow_succ]; have := Nat.one_le_two_pow (n := k); omega)
    omega
theorem bitlen_pos {n : Nat} (h : n ≠ 0) : 0 < Zw n := by unfold Zw; rw [if_neg h]; omega
theorem bitlen_zero : Zw 0 = 0 := rfl
theorem Zex {n : Nat} (hn : n ≠ 0) : 2 ^ (Zw n - 1) ≤ n ∧ n < 2 ^ Zw n := by
  unfold Zw
  rw [if_neg hn]
  exact ⟨Nat.log2_self_le hn, Nat.lt_log2_self⟩
theorem bitlen_unique {n k : Nat} (h1 : 2 ^ k ≤ n) (h2 : n < 2 ^ (k + 1)) : Zw n = k + 1 := by
  have hn : n ≠ 0 := by have := Nat.one_le_two_pow (n := k); omega
  unfold Zw
  rw [if_neg hn, (Nat.log2_eq_iff hn).2 ⟨h1, h2⟩]
theorem bitlen_digs {n : Nat} (hn : W64 ≤ n) : Zw n = 64 * ((ZP W64 n).length - 1) + Zw ((ZP W64 n).getD ((ZP W64 n).length - 1) 0) := by
  have h0 : n ≠ 0 := by have : 0 < W64 := by decide
                        omega
  have hd := digs_getLast (B := W64) (by decide) h0
  have hne : ZP W64 n ≠ [] := by intro e'; have := Yn (B := W64) (by decide) n; rw [e'] at this; exact h0 this.symm
  have hl : 0 < (ZP W64 n).length := List.length_pos_iff.2 hne
  have hv := Xu W64 (ZP W64 n) ((ZP W64 n).length - 1) (by omega)
  rw [Yn (by decide), Ys (by omega), show (ZP W64 n).length - 1 + 1 = (ZP W64 n).length by omega, List.drop_length] at hv
  simp only [val, Nat.mul_zero, Nat.add_zero] at hv
  have ht := Zdj (B := W64) (by decide) (Zdw (by decide) n) ((ZP W64 n).length - 1) (by omega)
  generalize (ZP W64 n).getD ((ZP W64 n).length - 1) 0 = t at *
  generalize (ZP W64 n).length - 1 = m at *
  obtain ⟨h1, h2⟩ := Zex hd
  have hp := bitlen_pos hd
  have e64 : W64 ^ m = 2 ^ (64 * m) := by rw [Nat.pow_mul]
  rw [e64] at hv ht
  have := bitlen_unique (n := n) (k := 64 * m + (Zw t - 1)) (by
    rw [Nat.pow_add, hv]
    exact Nat.le_trans (Nat.mul_le_mul_left _ h1) (by omega)) (by
    rw [show 64 * m + (Zw t - 1) + 1 = 64 * m + Zw t by omega, Nat.pow_add, hv]
    have : 2 ^ (64 * m) * t + 2 ^ (64 * m) ≤ 2 ^ (64 * m) * 2 ^ Zw t := by
      rw [← Nat.mul_succ]; exact Nat.mul_le_mul_left _ h2
    omega)
  rw [this]; omega
theorem cmpN_lt {a b : Nat} (h : a < b) : cmpN a b = -1 := by unfold cmpN; rw [if_pos h]
theorem cmpN_gt {a b : Nat} (h : b < a) : cmpN a b = 1 := by unfold cmpN; rw [if_neg (by omega), if_pos h]
theorem cmpN_eq {a b : Nat} (h : a = b) : cmpN a b = 0 := by unfold cmpN; rw [if_neg (by omega), if_neg (by omega)]
theorem digs_top_lt {B a b n : Nat} (hB : 2 ≤ B) (hl : (ZP B a).length = (ZP B b).length) (hn : n < (ZP B a).length) (e : (ZP B a).drop (n + 1) = (ZP B b).drop (n + 1)) (h : (ZP B a).getD n 0 < (ZP B b).getD n 0) : a < b := by
  have := top_lt hB (Zdw hB a) hl hn e h
  rwa [Yn hB, Yn hB] at this
theorem digs_inj {B a b : Nat} (hB : 2 ≤ B) (h : ZP B a = ZP B b) : a = b := by
  have := congrArg (val B) h
  rwa [Yn hB, Yn hB] at this
structure Zdh (x y us : List Nat) (i c : Nat) : Prop where
  len : us.length = x.length + 1
  le : i ≤ x.length + 1
  c1 : c ≤ 1
  sum : val W64 (us.take i) + W64 ^ i * c = val W64 (x.take i) + val W64 (y.take i)
  rest : us.drop i = (x ++ [0]).drop i
  lt : ∀ d ∈ us, d < 18446744073709551616
theorem YH (ds : List Nat) (i : Nat) : val W64 (ds.take (i + 1)) = val W64 (ds.take i) + W64 ^ i * ds.getD i 0 := by
  rcases Nat.lt_or_ge i ds.length with h | h
  · exact YG W64 ds i h
  · rw [List.take_of_length_le (by omega), List.take_of_length_le h, List.getD_eq_getElem?_getD, List.getElem?_eq_none h]; simp
theorem Zdh.start {x y : List Nat} (hx : ∀ d ∈ x, d < 18446744073709551616) : Zdh x y (x ++ [0]) 0 0 :=
  ⟨by simp, by omega, by omega, by simp [val], by simp, fun d hd => by rcases List.mem_append.1 hd with h | h; exact hx d h; simp at h; omega⟩
theorem Zcg {us : List Nat} {i d : Nat} : (us.set i d).take i = us.take i := by rw [List.take_set_of_le (by omega)]
theorem YA {us : List Nat} {i d : Nat} (h : i < us.length) : (us.set i d).getD i 0 = d := by
  rw [List.getD_eq_getElem?_getD, List.getElem?_set_self h]; rfl
theorem Zdh.step {x y us : List Nat} {i c : Nat} (h : Zdh x y us i c) (hy : ∀ d ∈ y, d < 18446744073709551616) (hi : i < x.length + 1) :
    Zdh x y (us.set i ((us.getD i 0 + y.getD i 0 + c) % 18446744073709551616)) (i + 1) ((us.getD i 0 + y.getD i 0 + c) / 18446744073709551616) := by
  have hu : us.getD i 0 = (x ++ [0]).getD i 0 := by
    have e := h.rest
    rw [Ys (by rw [h.len]; exact hi), Ys (ds := x ++ [0]) (by simp; exact hi)] at e
    exact (List.cons.inj e).1
  have hx0 : (x ++ [0]).getD i 0 = x.getD i 0 := by
    rcases Nat.lt_or_ge i x.length with hlt | hge
    · rw [List.getD_eq_getElem?_getD, List.getD_eq_getElem?_getD, List.getElem?_append_left hlt]
    · have : i = x.length := by omega
      subst this
      simp [List.getD_eq_getElem?_getD]
  refine ⟨by simp [h.len], by omega, ?_, ?_, ?_, ?_⟩
  · have h1 := ZQ h.lt (by decide) i
    have h2 := ZQ hy (by decide) i
    have h3 := h.c1
    omega
  · rw [YH (us.set _ _), YH x, YH y, Zcg, YA (by rw [h.len]; exact hi)]
    rw [hu, hx0, Nat.pow_succ]
    have hs := h.sum
    generalize val W64 (us.take i) = A at *
    generalize val W64 (x.take i) = X at *
    generalize val W64 (y.take i) = Y at *
    generalize x.getD i 0 = p at *
    generalize y.getD i 0 = q at *
    have hd := Nat.mod_add_div (p + q + c) W64
    have : W64 ^ i * ((p + q + c) % 18446744073709551616) + W64 ^ i * W64 * ((p + q + c) / 18446744073709551616) = W64 ^ i * p + W64 ^ i * q + W64 ^ i * c := by
      rw [Nat.mul_assoc, ← Nat.mul_add, ← Nat.mul_add, ← Nat.mul_add]
      exact congrArg (W64 ^ i * ·) hd
    omega
  · rw [List.drop_set_of_lt (by omega)]
    have e := h.rest
    rw [Ys (by rw [h.len]; exact hi), Ys (ds := x ++ [0]) (by simp; exact hi)] at e
    exact (List.cons.inj e).2
  · intro d hd
    rcases List.mem_or_eq_of_mem_set hd with hd | rfl
    · exact h.lt d hd
    · exact Nat.mod_lt _ (by omega)
theorem carry0 {A P c X Y Z Z2 : Nat} (h : A + P * c = X + Y) (hx : X < Z) (hy : Y < Z2) (hz : Z2 ≤ Z) (hp : Z * 2 ≤ P) (hc : c ≤ 1) : A = X + Y := by
  match c, hc with
  | 0, _ => omega
  | 1, _ => omega
theorem pow_two_le (n : Nat) : W64 ^ n * 2 ≤ W64 ^ (n + 1) := by rw [Nat.pow_succ]; exact Nat.mul_le_mul_left _ (by decide)
theorem Zdh.done {x y us : List Nat} {i c : Nat} (h : Zdh x y us i c) (hx : ∀ d ∈ x, d < 18446744073709551616) (hy : ∀ d ∈ y, d < 18446744073709551616) (hl : y.length ≤ x.length) (he : i = x.length + 1 ∨ (y.length ≤ i ∧ c = 0)) :
    val W64 us = val W64 x + val W64 y := by
  rcases he with rfl | ⟨h1, rfl⟩
  · have hs := h.sum
    rw [List.take_of_length_le (by rw [h.len]; exact Nat.le_refl _), List.take_of_length_le (Nat.le_succ _), List.take_of_length_le (Nat.le_succ_of_le hl)] at hs
    exact carry0 hs (Zd7 (by decide) x hx) (Zd7 (by decide) y hy) (Nat.pow_le_pow_right (by decide) hl) (pow_two_le _) h.c1
  · have hs := h.sum
    rw [Nat.mul_zero, Nat.add_zero, List.take_of_length_le (l := y) h1] at hs
    have hu := Xu W64 us i (by rw [h.len]; exact h.le)
    rw [h.rest] at hu
    have hx2 : val W64 (x ++ [0]) = val W64 x := by rw [QM]; simp [val]
    have hv := Xu W64 (x ++ [0]) i (by simp; exact h.le)
    have hp : val W64 ((x ++ [0]).take i) = val W64 (x.take i) := by
      rcases Nat.lt_or_ge x.length i with hh | hh
      · rw [List.take_of_length_le (by simp; omega), List.take_of_length_le (by omega), hx2]
      · rw [List.take_append_of_le_length hh]
    omega
structure Zdg (x y us : List Nat) (i c : Nat) : Prop where
  len : us.length = x.length
  le : i ≤ x.length
  c1 : c ≤ 1
  sum : val W64 (us.take i) + val W64 (y.take i) = val W64 (x.take i) + W64 ^ i * c
  rest : us.drop i = x.drop i
  lt : ∀ d ∈ us, d < 18446744073709551616
theorem Zdg.start {x y : List Nat} (hx : ∀ d ∈ x, d < 18446744073709551616) : Zdg x y x 0 0 := ⟨rfl, by omega, by omega, by simp [val], by simp, hx⟩
theorem Zdg.step {x y us : List Nat} {i c : Nat} (h : Zdg x y us i c) (hx : ∀ d ∈ x, d < 18446744073709551616) (hy : ∀ d ∈ y, d < 18446744073709551616) (hi : i < x.length) :
    Zdg x y (us.set i ((us.getD i 0 + 18446744073709551616 - y.getD i 0 - c) % 18446744073709551616)) (i + 1) (if us.getD i 0 < y.getD i 0 + c then 1 else 0) := by
  have hu : us.getD i 0 = x.getD i 0 := by
    have e := h.rest
    rw [Ys (by rw [h.len]; exact hi), Ys hi] at e
    exact (List.cons.inj e).1
  have h1 := ZQ hx (by decide) i
  have h2 := ZQ hy (by decide) i
  have h3 := h.c1
  refine ⟨by simp [h.len], by omega, by split <;> omega, ?_, ?_, ?_⟩
  · rw [YH (us.set _ _), YH x, YH y, Zcg, YA (by rw [h.len]; exact hi)]
    rw [hu, Nat.pow_succ]
    have hs := h.sum
    generalize val W64 (us.take i) = A at *
    generalize val W64 (x.take i) = X at *
    generalize val W64 (y.take i) = Y at *
    generalize x.getD i 0 = p at *
    generalize y.getD i 0 = q at *
    have hd : (p + 18446744073709551616 - q - c) % 18446744073709551616 + q + c = p + W64 * (if p < q + c then 1 else 0) := by
      simp only [W64]
      split <;> omega
    have : W64 ^ i * ((p + 18446744073709551616 - q - c) % 18446744073709551616) + W64 ^ i * q + W64 ^ i * c = W64 ^ i * p + W64 ^ i * W64 * (if p < q + c then 1 else 0) := by
      rw [Nat.mul_assoc, ← Nat.mul_add, ← Nat.mul_add, ← Nat.mul_add]
      exact congrArg (W64 ^ i * ·) hd
    omega
  · rw [List.drop_set_of_lt (by omega)]
    have e := h.rest
    rw [Ys (by rw [h.len]; exact hi), Ys hi] at e
    exact (List.cons.inj e).2
  · intro d hd
    rcases List.mem_or_eq_of_mem_set hd with hd | rfl
    · exact h.lt d hd
    · exact Nat.mod_lt _ (by omega)
theorem borrow0 {A P c X Y : Nat} (h : A + Y = X + P * c) (ha : A < P) (hv : Y ≤ X) (hc : c ≤ 1) : A = X - Y := by
  match c, hc with
  | 0, _ => omega
  | 1, _ => omega
theorem Zdg.done {x y us : List Nat} {i c : Nat} (h : Zdg x y us i c) (hy : ∀ d ∈ y, d < 18446744073709551616) (hv : val W64 y ≤ val W64 x) (hl : y.length ≤ x.length) (he : i = x.length ∨ (y.length ≤ i ∧ c = 0)) :
    val W64 us = val W64 x - val W64 y := by
  have hs := h.sum
  rcases he with rfl | ⟨h1, rfl⟩
  · rw [List.take_of_length_le (by rw [h.len]; omega), List.take_of_length_le (by omega), List.take_of_length_le (by omega)] at hs
    have a := Zd7 (B := W64) (by decide) us h.lt
    rw [h.len] at a
    exact borrow0 hs a hv h.c1
  · rw [Nat.mul_zero, Nat.add_zero, List.take_of_length_le (l := y) h1] at hs
    have hu := Xu W64 us i (by rw [h.len]; exact h.le)
    rw [h.rest] at hu
    have hw := Xu W64 x i h.le
    omega
section
variable {P : Program} {a : Act} {w : World} {n : Nat} {l : List (Nat × Value)} {K : Value → World → Prop}
variable {d : Option Tmp} {ty : TypeId} {pos : String} {af : Array Edge} {g : Option (Nat × Bool)}
theorem does_copyDg {x y : Operand} {t t2 e : TypeId} {b m cap len cap2 : Nat} {p : Option Addr} {us ds : List Nat} {rest : List Value} {S0 S : Sh} {w0 : World} {H : Own} (hL : Zt a n l) (hx : ev l x = some (.slice (some ⟨b, 0, none⟩) m cap)) (hy : ev l y = some (.slice p len cap2))
    (ht : P.underlying t = some (.slice e)) (hZ : Yu P e = some 1) (hR : Run S0 w0 S ((b, tU64, Yr us ++ rest) :: H) w) (hD : Dg S p len cap2 ds) (hu : us.length = m) (hlm : len ≤ m)
    (k : ∀ w', Run S0 w0 S ((b, tU64, Yr (ds ++ us.drop len) ++ rest) :: H) w' → K (.int .i64 len) w') : YI P ⟨d, .call ⟨.builtin .copy, #[x, y], #[t, t2]⟩, ty, pos, af, g⟩ a w K := by
  have hcells : (Builtin.firstCells 1 len (.slice p len cap2)).run P w = .ok (Yr ds).toArray w := by
    rcases Nat.eq_zero_or_pos len with h0 | h0
    · subst h0
      have : ds = [] := List.eq_nil_of_length_eq_zero hD.hlen
      subst this
      cases p with
      | none => rfl
      | some ad => rfl
    · obtain ⟨b2, rest2, rfl, r⟩ := hD.row h0
      simp only [Builtin.firstCells, Nat.mul_one]
      refine Zbb (hR.row r) ?_ (by rw [ZH]; exact hD.hlen)
      rw [List.drop_zero, List.take_append_of_le_length (by rw [ZH, hD.hlen]; exact Nat.le_refl _), List.take_of_length_le (by rw [ZH, hD.hlen]; exact Nat.le_refl _)]
  obtain ⟨w', h1, h2⟩ := Zam (P := P) (Yr ds) 0 0 (Yr us ++ rest) w (hR.has List.mem_cons_self) (by rw [List.length_append, ZH, ZH, hu, hD.hlen]; omega) (by
    intro v hv
    obtain ⟨q, _, rfl⟩ := List.mem_map.1 hv
    rfl)
  have hov : XY (Yr us ++ rest) (0 + 0) (Yr ds) = Yr (ds ++ us.drop len) ++ rest := by
    simp only [XY, Nat.add_zero, Nat.zero_add, List.take_zero, List.nil_append]
    rw [List.drop_append_of_le_length (by rw [ZH, ZH, hu, hD.hlen]; exact hlm)]
    simp only [Yr, List.map_append, List.map_drop, List.append_assoc, List.length_map, hD.hlen]
  rw [hov] at h2
  refine Zq (v := .int .i64 len) (w' := w') ?_ (k w' (hR.store _ h2))
  rw [Xe]
  simp only [List.map_toArray, List.map_cons, List.map_nil, hL.ev hx, hL.ev hy, builtin, Builtin.copy_, List.getElem?_toArray, List.getElem?_cons_zero, List.getElem?_cons_succ]
  rw [Ze (w' := w') (a := (.int .i64 len : Value))]
  · rfl
  rw [Ze (Zn ht)]
  simp only []
  have hmin : Nat.min len m = len := Nat.min_eq_left hlm
  simp only [Builtin.lenOf, ZB]
  rw [Ze (Yj hZ), hmin, Ze hcells]
  simp only []
  rw [Ze h1]
  rfl
end
theorem Zc5 {y : List Nat} {i : Nat} (h : y.length ≤ i) : y.getD i 0 = 0 := by rw [List.getD_eq_getElem?_getD, List.getElem?_eq_none h]; rfl
theorem XA {n k : Nat} (h : n ≤ 2 ^ k) : (ZP W64 n).length ≤ k / 64 + 1 := by
  refine Zdy (by decide) (Nat.lt_of_le_of_lt h ?_)
  rw [show W64 = 2 ^ 64 from rfl, ← Nat.pow_mul]
  exact Nat.pow_lt_pow_right (by decide) (by omega)
theorem sum_pow {a b k l : Nat} (ha : a ≤ 2 ^ k) (hb : b ≤ 2 ^ l) : a + b ≤ 2 ^ (k + l + 1) := by
  have h1 : 2 ^ k ≤ 2 ^ (k + l) := Nat.pow_le_pow_right (by omega) (by omega)
  have h2 : 2 ^ l ≤ 2 ^ (k + l) := Nat.pow_le_pow_right (by omega) (by omega)
  rw [Nat.pow_succ]; omega
theorem prod_pow {a b k l : Nat} (ha : a ≤ 2 ^ k) (hb : b ≤ 2 ^ l) : a * b ≤ 2 ^ (k + l) := by rw [Nat.pow_add]; exact Nat.mul_le_mul ha hb
end Go.Cham
namespace Go.Cham
open Go Go.RowKit
theorem cmpN_neg {a b : Nat} : cmpN a b < 0 ↔ a < b := by
  unfold cmpN
  split
  · simp; omega
  · split <;> simp <;> omega
theorem Zdi (B : Nat) : ∀ (us : List Nat) (k d : Nat), k < us.length → val B (us.set k d) + B ^ k * us.getD k 0 = val B us + B ^ k * d
  | [], _, _, h => by simp at h
  | u :: r, 0, d, _ => by simp [val]; omega
  | u :: r, k + 1, d, h => by
    have ih := Zdi B r k d (by simpa using h)
    simp only [List.set_cons_succ, val, List.getD_cons_succ, Nat.pow_succ, Nat.mul_comm _ B, Nat.mul_assoc]
    rw [Nat.add_assoc, ← Nat.mul_add, ih, Nat.mul_add, Nat.add_assoc]
theorem mul_step {x y c u : Nat} (hx : x < 18446744073709551616) (hy : y < 18446744073709551616) (hc : c < 18446744073709551616) (hu : u < 18446744073709551616) :
    x * y / 18446744073709551616 + (x * y % 18446744073709551616 + c + 0) / 18446744073709551616 < 18446744073709551616 ∧
    x * y / 18446744073709551616 + (x * y % 18446744073709551616 + c + 0) / 18446744073709551616 + (u + (x * y % 18446744073709551616 + c + 0) % 18446744073709551616 + 0) / 18446744073709551616 < 18446744073709551616 ∧
    (u + (x * y % 18446744073709551616 + c + 0) % 18446744073709551616 + 0) % 18446744073709551616 + 18446744073709551616 * (x * y / 18446744073709551616 + (x * y % 18446744073709551616 + c + 0) / 18446744073709551616 + (u + (x * y % 18446744073709551616 + c + 0) % 18446744073709551616 + 0) / 18446744073709551616) = x * y + c + u := by
  have h : x * y ≤ 18446744073709551615 * 18446744073709551615 := Nat.mul_le_mul (by omega) (by omega)
  generalize x * y = p at h ⊢
  omega
structure MulIn (x y us : List Nat) (i j c : Nat) : Prop where
  len : us.length = x.length + y.length
  c1 : c < 18446744073709551616
  lt : ∀ d ∈ us, d < 18446744073709551616
  zero : ∀ m, i + y.length ≤ m → us.getD m 0 = 0
  sum : val W64 us + W64 ^ (i + j) * c = val W64 (x.take i) * val W64 y + W64 ^ i * (x.getD i 0 * val W64 (y.take j))
theorem val_rep0 (B n : Nat) : val B (List.replicate n 0) = 0 := by induction n <;> simp_all [val, List.replicate_succ]
theorem MulIn.start {x y : List Nat} {n : Nat} (hn : n = x.length + y.length) : MulIn x y (List.replicate n 0) 0 0 0 :=
  ⟨by simp [hn], by decide, by simp, by intro m _; simp [List.getD_eq_getElem?_getD, List.getElem?_replicate]; split <;> simp, by simp [val_rep0, val]⟩
theorem Xi {us : List Nat} {k m d : Nat} (h : k ≠ m) : (us.set k d).getD m 0 = us.getD m 0 := by
  rw [List.getD_eq_getElem?_getD, List.getD_eq_getElem?_getD, List.getElem?_set_ne h]
theorem Zaf {us : List Nat} {k d B : Nat} (h : ∀ e ∈ us, e < B) (hd : d < B) : ∀ e ∈ us.set k d, e < B := by
  intro e he
  rcases List.mem_or_eq_of_mem_set he with h1 | h1
  · exact h e h1
  · omega
theorem mul_sum {V V' P Q R T T' u d c c' x y Y : Nat} (h1 : V' + P * u = V + P * d) (h2 : V + P * c = R + Q * (x * Y)) (h3 : d + T * c' = x * y + c + u) (hP : P * T = T * P) (hq : P = Q * T') : V' + (P * T) * c' = R + Q * (x * (Y + T' * y)) := by
  have e1 : (P * T) * c' = P * (T * c') := Nat.mul_assoc _ _ _
  have e2 : P * (d + T * c') = P * (x * y + c + u) := by rw [h3]
  have e3 : Q * (x * (Y + T' * y)) = Q * (x * Y) + P * (x * y) := by rw [hq]; rw [Nat.mul_add, Nat.mul_add]; congr 1; simp only [Nat.mul_assoc, Nat.mul_left_comm, Nat.mul_comm]
  simp only [Nat.mul_add] at e2
  omega
theorem MulIn.step {x y us : List Nat} {i j c m : Nat} (h : MulIn x y us i j c) (hm : m = i + j) (hx : ∀ d ∈ x, d < 18446744073709551616) (hy : ∀ d ∈ y, d < 18446744073709551616) (hi : i < x.length) (hj : j < y.length) {d c' : Nat} (h1 : d < 18446744073709551616) (h2 : c' < 18446744073709551616)
    (h3 : d + 18446744073709551616 * c' = x.getD i 0 * y.getD j 0 + c + us.getD m 0) : MulIn x y (us.set m d) i (j + 1) c' := by
  subst hm
  refine ⟨by rw [List.length_set]; exact h.len, h2, Zaf h.lt h1, fun k hk => by rw [Xi (by omega)]; exact h.zero k hk, ?_⟩
  have hv := Zdi W64 us (i + j) d (by rw [h.len]; omega)
  have hs := h.sum
  have h3' : d + W64 * c' = x.getD i 0 * y.getD j 0 + c + us.getD (i + j) 0 := h3
  have hp : W64 ^ (i + j) = W64 ^ i * W64 ^ j := Nat.pow_add _ _ _
  have hq : W64 ^ (i + (j + 1)) = W64 ^ (i + j) * W64 := Nat.pow_succ _ _
  rw [YG W64 y j hj, hq]
  exact mul_sum (T := W64) hv hs h3' (Nat.mul_comm _ _) hp
theorem mul_nx {V V' P R Q x Y c W x2 : Nat} (h1 : V' + P * 0 = V + P * c) (h2 : V + P * c = R * Y + Q * (x * Y)) : V' + 0 = (R + Q * x) * Y + W * (x2 * 0) := by
  rw [Nat.mul_zero, Nat.add_zero] at h1
  rw [Nat.mul_zero, Nat.mul_zero, Nat.add_zero, Nat.add_zero, h1, h2, Nat.add_mul, Nat.mul_assoc Q]
theorem MulIn.next {x y us : List Nat} {i j c m : Nat} (h : MulIn x y us i j c) (hj : ¬ j < y.length) (hj2 : j ≤ y.length) (hi : i < x.length) (hm : m = i + y.length) : MulIn x y (us.set m c) (i + 1) 0 0 := by
  obtain rfl : j = y.length := by omega
  subst hm
  refine ⟨by rw [List.length_set]; exact h.len, by decide, Zaf h.lt h.c1, fun k hk => by rw [Xi (by omega)]; exact h.zero k (by omega), ?_⟩
  have hv := Zdi W64 us (i + y.length) c (by rw [h.len]; omega)
  have hs := h.sum
  rw [h.zero _ (Nat.le_refl _)] at hv
  rw [List.take_length] at hs
  have h0 : val W64 (y.take 0) = 0 := by rw [List.take_zero]; rfl
  rw [YG W64 x i hi, h0, Nat.mul_zero]
  exact mul_nx hv hs
theorem MulIn.done {x y us : List Nat} {i : Nat} (h : MulIn x y us i 0 0) (hi : ¬ i < x.length) : val W64 us = val W64 x * val W64 y := by
  have h0 : val W64 (y.take 0) = 0 := by rw [List.take_zero]; rfl
  have hl : x.take i = x := List.take_of_length_le (Nat.le_of_not_lt hi)
  have hs := h.sum
  rw [h0, hl, Nat.mul_zero, Nat.mul_zero, Nat.mul_zero, Nat.add_zero, Nat.add_zero] at hs
  exact hs
theorem Zes {a b : Nat} (h : b ≤ a) : (ZP W64 b).length ≤ (ZP W64 a).length := by
  rcases Nat.lt_or_ge (ZP W64 a).length (ZP W64 b).length with h2 | h2
  · have := Zdx (B := W64) (by decide) h2; omega
  · exact h2
end Go.Cham
namespace Go.Cham
open Go
theorem Zap (l m : List Nat) : YJ l ++ YJ m = YJ (l ++ m) := by
  unfold YJ
  apply ByteArray.ext
  simp
def wd (l : List Nat) : Prop := l ≠ [] ∧ (∀ c ∈ l, 48 ≤ c ∧ c ≤ 57) ∧ (l.length = 1 ∨ l.getD 0 0 ≠ 48)
instance (l : List Nat) : Decidable (wd l) := by unfold wd; infer_instance
def Qt (l : List Nat) : Nat := val 10 (l.reverse.map (· - 48))
def decs (n : Nat) : List Nat := if n = 0 then [48] else ((ZP 10 n).map (· + 48)).reverse
def txt (n : Nat) : ByteArray := YJ (decs n)
theorem pval_snoc (l : List Nat) (c : Nat) : Qt (l ++ [c]) = 10 * Qt l + (c - 48) := by
  unfold Qt
  rw [List.reverse_append]
  simp only [List.reverse_cons, List.reverse_nil, List.nil_append, List.singleton_append, List.map_cons, val]
  omega
theorem decs_dig (n : Nat) : ∀ c ∈ decs n, 48 ≤ c ∧ c ≤ 57 := by
  unfold decs
  split
  · simp
  · intro c hc
    rw [List.mem_reverse, List.mem_map] at hc
    obtain ⟨d, hd, rfl⟩ := hc
    have := Zdw (B := 10) (by decide) n d hd
    omega
theorem decs_lt (n : Nat) : ∀ c ∈ decs n, c < 256 := fun c hc => by have := decs_dig n c hc; omega
theorem bl_txt (n : Nat) : bl (txt n) = decs n := XM (decs_lt n)
theorem map_sub_add (l : List Nat) : (l.map (· + 48)).map (· - 48) = l := by
  rw [List.map_map]
  have : ((fun x : Nat => x - 48) ∘ (fun x : Nat => x + 48)) = id := by funext x; simp
  rw [this, List.map_id]
theorem pval_decs (n : Nat) : Qt (decs n) = n := by
  unfold Qt decs
  split
  · subst n; rfl
  · rw [List.reverse_reverse, map_sub_add, Yn (by decide)]
theorem decs_inj {m n : Nat} (h : decs m = decs n) : m = n := by rw [← pval_decs m, h, pval_decs]
theorem pval_lt {l : List Nat} (h : ∀ c ∈ l, 48 ≤ c ∧ c ≤ 57) : Qt l < 10 ^ l.length := by
  have := Zd7 (B := 10) (by decide) (l.reverse.map (· - 48)) (fun d hd => by
    obtain ⟨c, hc, rfl⟩ := List.mem_map.1 hd
    have := h c (by simpa using hc)
    show c - 48 < 10
    omega)
  simpa [Qt] using this
theorem tenpow {m k j : Nat} (h1 : m ≤ 3 * j) (h2 : 10 * j ≤ k) : 10 ^ m ≤ 2 ^ k := by
  have e1 : 10 ^ m ≤ 10 ^ (3 * j) := Nat.pow_le_pow_right (by decide) h1
  have e2 : (10 ^ 3) ^ j ≤ (2 ^ 10) ^ j := Nat.pow_le_pow_left (by decide) j
  have e3 : 2 ^ (10 * j) ≤ 2 ^ k := Nat.pow_le_pow_right (by decide) h2
  rw [← Nat.pow_mul, ← Nat.pow_mul] at e2
  exact Nat.le_trans e1 (Nat.le_trans e2 e3)
theorem ten256 : 10 ^ 256 ≤ 2 ^ 900 := tenpow (m := 256) (k := 900) (j := 86) (by decide) (by decide)
theorem pval_le {l : List Nat} (h : ∀ c ∈ l, 48 ≤ c ∧ c ≤ 57) (hl : l.length ≤ 256) : Qt l ≤ 2 ^ 900 :=
  Nat.le_trans (Nat.le_of_lt (pval_lt h)) (Nat.le_trans (Nat.pow_le_pow_right (by decide) hl) ten256)
theorem Zbn {n k : Nat} (h : n ≤ 2 ^ k) : (decs n).length ≤ k + 1 := by
  unfold decs
  split
  · simp
  · rw [List.length_reverse, List.length_map]
    refine Zdy (by decide) (Nat.lt_of_le_of_lt h ?_)
    calc 2 ^ k < 2 ^ (k + 1) := Nat.pow_lt_pow_right (by decide) (by omega)
      _ ≤ 10 ^ (k + 1) := Nat.pow_le_pow_left (by decide) _
theorem txt_size (n : Nat) : (txt n).size = (decs n).length := by rw [← YZ, bl_txt]
theorem digs_take_succ {B : Nat} (hB : 2 ≤ B) : ∀ (m n : Nat), n / B ^ m ≠ 0 → (ZP B n).take (m + 1) = (ZP B n).take m ++ [n / B ^ m % B] := by
  intro m
  induction m with
  | zero =>
    intro n h
    have hn : n ≠ 0 := by simpa using h
    rw [QJ hB hn]; simp
  | succ m ih =>
    intro n h
    have hn : n ≠ 0 := by intro e; subst e; simp at h
    have e : n / B ^ (m + 1) = n / B / B ^ m := by rw [Nat.pow_succ, Nat.mul_comm, Nat.div_div_eq_div_mul]
    rw [QJ hB hn, List.take_succ_cons, ih (n / B) (by rw [← e]; exact h), List.take_succ_cons, e]
    rfl
theorem digs_take_all {B : Nat} (hB : 2 ≤ B) {m n : Nat} (h : n / B ^ m = 0) : (ZP B n).take m = ZP B n := by
  refine List.take_of_length_le (Zdy hB ?_)
  rcases Nat.div_eq_zero_iff.1 h with h | h
  · have := Nat.pow_pos (n := m) (show 0 < B by omega); omega
  · exact h
end Go.Cham
namespace Go.Cham
open Go Go.RowKit
def DN : Dom Nat where
  size := fun _ => 2
  pred := fun a S cs => ∃ k, Na S cs a k
  up := fun l ⟨k, h⟩ => ⟨k, h.up l⟩
  len := fun ⟨_, h⟩ => h.len
  ones := fun ⟨_, h⟩ => h.ones
  txt := fun _ => false
  txt_ok := fun h => by cases h
  teq := fun _ _ => none
  teq_ok := fun h => by cases h
  tlen := fun _ => none
  tlen_ok := fun h => by cases h
  igt := fun _ _ => none
  igt_ok := fun h => by cases h
noncomputable section
def mkTab {β : Type} (l : List (Nat × β)) : Tr β := List.rec .nil (fun p _ ih => ih.put p.1 (some p.2)) l
theorem mkTab_mem {β : Type} {f : Nat} {g : β} : ∀ {l : List (Nat × β)}, (mkTab l).at f = some g → (f, g) ∈ l
  | [], h => by
    have h' : (Tr.nil : Tr β).at f = some g := h
    unfold Tr.at at h'
    rw [Tr.get_nil] at h'
    cases h'
  | p :: r, h => by
    have h' : ((mkTab r).put p.1 (some p.2)).at f = some g := h
    rw [Tr.at_put_if] at h'
    split at h'
    · rename_i e
      simp only [Option.some.injEq] at h'
      rw [e, ← h']; simp
    · exact List.mem_cons_of_mem _ (mkTab_mem h')
section
variable {α : Type}
abbrev PrF (α : Type) := List (SV α) → Option (SV α)
def primOf (T : Tr (PrF α)) (f : FuncId) (args : List (SV α)) : Option (SV α) := Option.rec none (fun g => g args) (T.at f)
def Xp (P : Program) (D : Dom α) (f : FuncId) (g : PrF α) : Prop := ∀ args r, g args = some r → ∀ G w vs, XF D G args vs → Ya G.S w → Zad P f vs w fun v w' => ∃ S', Ext G.S w S' w' ∧ Den D ⟨S', G.blk⟩ r v
theorem primOf_ok {P : Program} {D : Dom α} {l : List (Nat × PrF α)} (h : ∀ p ∈ l, Xp P D p.1 p.2) : PrimOK P D (primOf (mkTab l)) := by
  intro f args r hr
  unfold primOf at hr
  cases hT : (mkTab l).at f with
  | none => rw [hT] at hr; cases hr
  | some g =>
    rw [hT] at hr
    exact h (f, g) (mkTab_mem hT) args r hr
theorem Zad.ret {P : Program} {f : FuncId} {vs : List Value} {S : Sh} {w : World} {V : Sh → Value → Prop} {D : Dom α} {r : SV α} {blk : Nat → Option (Nat × Nat)} (he : ZW P f = true) (h : Calls P f vs.toArray w (Ret S w V)) (k : ∀ S' v, V S' v → Den D ⟨S', blk⟩ r v) :
    Zad P f vs w fun v w' => ∃ S', Ext S w S' w' ∧ Den D ⟨S', blk⟩ r v :=
  .inl ⟨he, Calls.mono h fun e w' ⟨v, S', h1, h2, h3⟩ => ⟨v, h1, S', h2, k S' v h3⟩⟩
theorem Zad.toRet {P : Program} {f : FuncId} {vs : List Value} {S : Sh} {w : World} {D : Dom α} {r : SV α} (he : ZW P f = true) (h : Zad P f vs w fun v w' => ∃ S' blk', Ext S w S' w' ∧ Den D ⟨S', blk'⟩ r v) : Calls P f vs.toArray w (Ret S w fun S' v => ∃ blk', Den D ⟨S', blk'⟩ r v) := by
  rcases h with ⟨_, h⟩ | ⟨v, w', h, _⟩
  · exact Calls.mono h fun e w' ⟨v, h1, S', blk', h2, h3⟩ => ⟨v, S', h1, h2, blk', h3⟩
  · rw [run_callFunc he] at h; cases h
end
def asN (x : SV Nat) : Option Nat := match x with
  | .agg l => match l with
    | [.at_ a] => some a
    | [.int .u64 (.ofNat a), .sl none 0 0] => match Nat.ble a 18446744073709551615 with
      | true => some a
      | false => none
    | _ => none
  | _ => none
def bigOf (k : Nat) : Nat := Nat.pow 2 k
def fitN (x : SV Nat) : Option Nat := match asN x with
  | some a => match Nat.ble a (bigOf 100000) with
    | true => some a
    | false => none
  | none => none
def nv (a : Nat) : SV Nat := .agg [.at_ a]
theorem Zdc {S : Sh} {cs : List Value} {a k : Nat} {blk : Nat → Option (Nat × Nat)} (h : Na S cs a k) : Den DN ⟨S, blk⟩ (nv a) (.agg cs.toArray) := by
  refine .agg ?_
  have := YN.run (D := DN) (G := ⟨S, blk⟩) (a := a) (us := cs) ⟨k, h⟩ .nil
  simpa using this
theorem ble_big {a k : Nat} (h : Nat.ble a (bigOf k) = true) : a ≤ 2 ^ k := Nat.le_of_ble_eq_true h
theorem fitN_den {G : Gh} {x : SV Nat} {v : Value} {a : Nat} (h : fitN x = some a) (hd : Den DN G x v) : ∃ cs, v = .agg cs.toArray ∧ Na G.S cs a 100000 := by
  unfold fitN at h
  split at h
  · rename_i a' ha
    split at h
    · rename_i hb
      cases h
      have hb' := ble_big hb
      unfold asN at ha
      split at ha
      · cases hd with
        | agg hl =>
          split at ha
          · cases ha
            cases hl with
            | run h1 h2 =>
              cases h2
              obtain ⟨k, hk⟩ := h1
              exact ⟨_, rfl, by rw [List.append_nil]; exact ⟨hb', hk.2⟩⟩
            | one _ _ hn _ => exact absurd rfl (hn _)
          · split at ha
            · rename_i hle
              cases ha
              have hle' := Nat.le_of_ble_eq_true hle
              cases hl with
              | one h1 _ _ h2 =>
                cases h1
                cases h2 with
                | one h3 _ _ h4 =>
                  cases h3
                  cases h4
                  exact ⟨_, rfl, hb', _, _, rfl, .small _ (by omega)⟩
            · cases ha
          · cases ha
      · cases ha
    · cases h
  · cases h
def pN1 (g : Nat → SV Nat) : PrF Nat := fun l => match l with
  | [x] => match fitN x with
    | some a => some (g a)
    | none => none
  | _ => none
def pN2 (g : Nat → Nat → SV Nat) : PrF Nat := fun l => match l with
  | [x, y] => match fitN x with
    | some a => match fitN y with
      | some b => some (g a b)
      | none => none
    | none => none
  | _ => none
theorem pN1_ok {P : Program} {f : FuncId} {g : Nat → SV Nat} (he : ZW P f = true) (h : ∀ (S : Sh) (w : World) (c : List Value) (a : Nat), Ya S w → Na S c a 100000 → ∃ V, Calls P f [.agg c.toArray].toArray w (Ret S w V) ∧ ∀ blk S' v, V S' v → Den DN ⟨S', blk⟩ (g a) v) : Xp P DN f (pN1 g) := by
  intro args r hr G w vs hd hS
  unfold pN1 at hr
  split at hr
  · split at hr
    · rename_i a ha
      cases hr
      cases hd with
      | cons h1 h2 =>
        cases h2
        obtain ⟨c, rfl, hc⟩ := fitN_den ha h1
        obtain ⟨V, hV, hk⟩ := h G.S w c a hS hc
        exact .ret he hV fun S' v hv => hk _ S' v hv
    · cases hr
  · cases hr
theorem pN2_ok {P : Program} {f : FuncId} {g : Nat → Nat → SV Nat} (he : ZW P f = true) (h : ∀ (S : Sh) (w : World) (c d : List Value) (a b : Nat), Ya S w → Na S c a 100000 → Na S d b 100000 → ∃ V, Calls P f [.agg c.toArray, .agg d.toArray].toArray w (Ret S w V) ∧ ∀ blk S' v, V S' v → Den DN ⟨S', blk⟩ (g a b) v) : Xp P DN f (pN2 g) := by
  intro args r hr G w vs hd hS
  unfold pN2 at hr
  split at hr
  · split at hr
    · rename_i a ha
      split at hr
      · rename_i b hb
        cases hr
        cases hd with
        | cons h1 h2 =>
          cases h2 with
          | cons h3 h4 =>
            cases h4
            obtain ⟨c, rfl, hc⟩ := fitN_den ha h1
            obtain ⟨d, rfl, hd⟩ := fitN_den hb h3
            obtain ⟨V, hV, hk⟩ := h G.S w c d a b hS hc hd
            exact .ret he hV fun S' v hv => hk _ S' v hv
      · cases hr
    · cases hr
  · cases hr
def cmpB (a b : Nat) : Int := match Nat.ble (Nat.succ a) b with
  | true => -1
  | false => match Nat.ble (Nat.succ b) a with
    | true => 1
    | false => 0
theorem cmpB_eq (a b : Nat) : cmpB a b = cmpN a b := by
  unfold cmpB cmpN
  by_cases h : a < b
  · rw [Nat.ble_eq_true_of_le h, if_pos h]
  · have h1 : Nat.ble (Nat.succ a) b = false := by
      cases hb : Nat.ble (Nat.succ a) b with
      | false => rfl
      | true => exact absurd (Nat.le_of_ble_eq_true hb) h
    rw [h1, if_neg h]
    by_cases h2 : b < a
    · rw [Nat.ble_eq_true_of_le h2, if_pos h2]
    · have h3 : Nat.ble (Nat.succ b) a = false := by
        cases hb : Nat.ble (Nat.succ b) a with
        | false => rfl
        | true => exact absurd (Nat.le_of_ble_eq_true hb) h2
      rw [h3, if_neg h2]
def bitB (a : Nat) : Nat := match Nat.beq a 0 with
  | true => 0
  | false => Nat.succ (Nat.log2 a)
theorem bitB_eq (a : Nat) : bitB a = Zw a := by
  unfold bitB Zw
  by_cases h : a = 0
  · subst h; rfl
  · rw [if_neg h]
    have : Nat.beq a 0 = false := by
      cases hb : Nat.beq a 0 with
      | false => rfl
      | true => rw [YF] at hb; exact absurd hb h
    rw [this]
def decF (f : Nat) : Nat → List Nat → List Nat := Nat.rec (fun _ l => l) (fun _ ih n l => Bool.rec (ih (Nat.div n 10) (Nat.add 48 (Nat.mod n 10) :: l)) l (Nat.beq n 0)) f
def decB (n : Nat) : List Nat := match Nat.beq n 0 with
  | true => [48]
  | false => decF n n []
theorem decF_eq : ∀ (f n : Nat) (l : List Nat), n ≤ f → decF f n l = ((ZP 10 n).map (· + 48)).reverse ++ l
  | 0, n, l, h => by
    have : n = 0 := by omega
    subst this
    rw [ZP]; rfl
  | f + 1, n, l, h => by
    have e : decF (f + 1) n l = Bool.rec (motive := fun _ => List Nat) (decF f (Nat.div n 10) (Nat.add 48 (Nat.mod n 10) :: l)) l (Nat.beq n 0) := rfl
    rw [e]
    by_cases h0 : n = 0
    · subst h0; rw [ZP]; rfl
    · have hb : Nat.beq n 0 = false := by
        cases hb : Nat.beq n 0 with
        | false => rfl
        | true => rw [YF] at hb; exact absurd hb h0
      rw [hb]
      show decF f (n / 10) ((48 + n % 10) :: l) = _
      rw [decF_eq f (n / 10) _ (by omega)]
      conv => rhs; rw [ZP]
      rw [dif_pos ⟨by omega, h0⟩]
      simp [List.append_assoc, Nat.add_comm]
theorem decB_eq (n : Nat) : decB n = decs n := by
  unfold decB decs
  by_cases h : n = 0
  · subst h; rfl
  · rw [if_neg h]
    have hb : Nat.beq n 0 = false := by
      cases hb : Nat.beq n 0 with
      | false => rfl
      | true => rw [YF] at hb; exact absurd hb h
    rw [hb]
    show decF n n [] = _
    rw [decF_eq n n [] (Nat.le_refl _), List.append_nil]
end
end Go.Cham
namespace Go.Cham
open Go Go.RowKit
def RetO (S0 : Sh) (w0 : World) (S : Sh) (b : Nat) (T : TypeId) (rest : List Value) (H : Own) (V : Sh → Value → List Nat → Prop) : Ending → World → Prop :=
  fun e w' => ∃ v S' ds, e = .returned v ∧ S.le S' ∧ Run S0 w0 S' ((b, T, Yr ds ++ rest) :: H) w' ∧ V S' v ds
def RetN (S : Sh) (w : World) (V : Sh → Value → Own → Prop) : Ending → World → Prop :=
  fun e w' => ∃ v S' H, e = .returned v ∧ Run S w S' H w' ∧ V S' v H
theorem Run.callN {S0 S S' : Sh} {w0 w w' : World} {H H' : Own} (h : Run S0 w0 S H w) (k : Run S w S' H' w') : Run S0 w0 S' (H' ++ H) w' := by
  have hc := h.call k.ext
  refine ⟨hc.ext, fun x hx => ?_, ?_⟩
  · rcases List.mem_append.1 hx with hx | hx
    · obtain ⟨a, b, c⟩ := k.own x hx
      exact ⟨a, b, Nat.le_trans h.ext.below.size c⟩
    · exact hc.own x hx
  · rw [List.map_append, List.nodup_append]
    refine ⟨k.nodup, hc.nodup, fun a ha b hb => ?_⟩
    obtain ⟨x, hx, rfl⟩ := List.mem_map.1 ha
    obtain ⟨y, hy, rfl⟩ := List.mem_map.1 hb
    have h1 := (k.own x hx).2.2
    have h2 := h.lt hy
    omega
theorem Zd8 (x : Nat) : IntKind.u64.wrap (x : Int) = ((x % 18446744073709551616 : Nat) : Int) := by
  have : IntKind.u64.wrap (x : Int) = (x : Int) % 18446744073709551616 := by simp [IntKind.wrap, IntKind.bits, IntKind.signed]
  rw [this]; omega
theorem u64_wrapS {x y : Nat} (hy : y ≤ 18446744073709551616) : IntKind.u64.wrap ((x : Int) - (y : Int)) = (((x + 18446744073709551616 - y) % 18446744073709551616 : Nat) : Int) := by
  have : IntKind.u64.wrap ((x : Int) - (y : Int)) = ((x : Int) - (y : Int)) % 18446744073709551616 := by simp [IntKind.wrap, IntKind.bits, IntKind.signed]
  rw [this]; omega
theorem Zd9 {x y : Nat} : IntKind.u64.wrap ((x : Int) * (y : Int)) = ((x * y % 18446744073709551616 : Nat) : Int) := by
  rw [← Int.natCast_mul]; exact Zd8 _
theorem u64_wrapA {x y : Nat} : IntKind.u64.wrap ((x : Int) + (y : Int)) = (((x + y) % 18446744073709551616 : Nat) : Int) := by
  rw [← Int.natCast_add]; exact Zd8 _
section
variable {P : Program} {a : Act} {w : World} {n : Nat} {l : List (Nat × Value)} {K : Value → World → Prop}
variable {d : Option Tmp} {ty : TypeId} {pos : String} {af : Array Edge} {g : Option (Nat × Bool)}
theorem Za0 {t u : TypeId} {x y : Operand} {i s : Nat} {ky : IntKind} (hL : Zt a n l) (hx : ev l x = some (.int .u64 (i : Int))) (hy : ev l y = some (.int ky (s : Int))) (hs : s ≤ 64) (k : K (.int .u64 ((i * 2 ^ s % 18446744073709551616 : Nat) : Int)) w) : YI P ⟨d, .binOp .shl t x y u, ty, pos, af, g⟩ a w K := by
  refine Zq (v := .int .u64 ((i * 2 ^ s % 18446744073709551616 : Nat) : Int)) (by
    rw [ZV, hL.ev hx, hL.ev hy, Yv]
    simp only [ZB, binOp]
    rw [shift_shl .u64 ky _ _ (by omega) (by simp only [IntKind.bits]; omega)]
    have e : (i : Int) * 2 ^ (s : Int).toNat = ((i * 2 ^ s : Nat) : Int) := by simp
    rw [e, Zd8]; rfl) k
theorem Qh {t u : TypeId} {x y : Operand} {i s : Nat} {ky : IntKind} (hL : Zt a n l) (hx : ev l x = some (.int .u64 (i : Int))) (hy : ev l y = some (.int ky (s : Int))) (hs : s ≤ 64) (k : K (.int .u64 ((i / 2 ^ s : Nat) : Int)) w) : YI P ⟨d, .binOp .shr t x y u, ty, pos, af, g⟩ a w K := by
  refine Zq (v := .int .u64 ((i / 2 ^ s : Nat) : Int)) (by
    rw [ZV, hL.ev hx, hL.ev hy, Yv]
    simp only [ZB, binOp]
    rw [shift_shr .u64 ky _ _ (by omega) (by simp only [IntKind.bits]; omega)]
    have e : (i : Int) / 2 ^ (s : Int).toNat = ((i / 2 ^ s : Nat) : Int) := by simp
    rw [e]; rfl) k
theorem bits64 (f : BitVec 64 → BitVec 64 → BitVec 64) (x y z : Nat) (h : (f (BitVec.ofInt 64 x) (BitVec.ofInt 64 y)).toNat = z) (hz : z < 18446744073709551616) : IntKind.u64.wrap ((f (BitVec.ofInt 64 x) (BitVec.ofInt 64 y)).toNat : Int) = (z : Int) := by
  rw [h, Zd8]; omega
theorem Zep {t u : TypeId} {x y : Operand} {i j z : Nat} (hL : Zt a n l) (hx : ev l x = some (.int .u64 (i : Int))) (hy : ev l y = some (.int .u64 (j : Int))) (hi : i < 18446744073709551616) (hj : j < 18446744073709551616) (hz : i ||| j = z) (k : K (.int .u64 (z : Int)) w) : YI P ⟨d, .binOp .or t x y u, ty, pos, af, g⟩ a w K := by
  subst hz
  have hlt : i ||| j < 2 ^ 64 := Nat.or_lt_two_pow hi hj
  refine Zq (v := .int .u64 ((i ||| j : Nat) : Int)) (by
    rw [ZV, hL.ev hx, hL.ev hy, Yv]
    simp only [ZB, binOp, ne_eq, not_true, if_false]
    rw [intBits_or]
    have e : bits .or .u64 (i : Int) (j : Int) = ((i ||| j : Nat) : Int) := by
      refine bits64 (fun a b => a ||| b) i j _ ?_ hlt
      simp only [BitVec.toNat_or, BitVec.ofInt_natCast, BitVec.toNat_ofNat]
      rw [Nat.mod_eq_of_lt (by omega), Nat.mod_eq_of_lt (by omega)]
    rw [e]; rfl) k
theorem does_and32 {t u : TypeId} {x y : Operand} {i : Nat} (hL : Zt a n l) (hx : ev l x = some (.int .u64 (i : Int))) (hy : ev l y = some (.int .u64 4294967295)) (hi : i < 18446744073709551616) (k : K (.int .u64 ((i % 4294967296 : Nat) : Int)) w) : YI P ⟨d, .binOp .and t x y u, ty, pos, af, g⟩ a w K := by
  refine Zq (v := .int .u64 ((i % 4294967296 : Nat) : Int)) (by
    rw [ZV, hL.ev hx, hL.ev hy, Yv]
    simp only [ZB, binOp, ne_eq, not_true, if_false]
    rw [intBits_and]
    have e : bits .and .u64 (i : Int) 4294967295 = ((i % 4294967296 : Nat) : Int) := by
      refine bits64 (fun a b => a &&& b) i 4294967295 _ ?_ (by omega)
      simp only [BitVec.toNat_and, BitVec.ofInt_natCast, BitVec.toNat_ofNat]
      rw [Nat.mod_eq_of_lt (by omega), show 4294967295 % 2 ^ 64 = 2 ^ 32 - 1 from rfl, Nat.and_two_pow_sub_one_eq_mod]
    rw [e]; rfl) k
end
theorem or_sum {a b i : Nat} (h : b < 2 ^ i) : (2 ^ i * a) ||| b = 2 ^ i * a + b := (Nat.two_pow_add_eq_or_of_lt h a).symm
theorem dq_init {K v w u z q r : Nat} (hq : q * v + r = u) (hr : r < v) (hz : z < K) : u * K + z < (q + 1) * (v * K + w) := by
  have e : (q + 1) * (v * K + w) = (q * v) * K + q * w + v * K + w := by
    rw [Nat.add_mul, Nat.mul_add, Nat.one_mul, Nat.mul_assoc]; omega
  have e2 : u * K = (q * v) * K + r * K := by rw [← hq, Nat.add_mul]
  have e3 : (r + 1) * K ≤ v * K := Nat.mul_le_mul_right K hr
  rw [Nat.add_mul, Nat.one_mul] at e3
  omega
theorem dq_step {K v w u z q r : Nat} (hq : q * v + r = u) (hz : z < K) (hu : u < v * K + w) (h : K ≤ q ∨ r * K + z < q * w) : 0 < q ∧ (q - 1) * v + (r + v) = u ∧ u * K + z < (q - 1 + 1) * (v * K + w) := by
  have h0 : 0 < q := by
    rcases h with h | h
    · have : 0 < K := by omega
      omega
    · rcases Nat.eq_zero_or_pos q with e | e
      · subst e; simp at h
      · exact e
  obtain ⟨p, rfl⟩ : ∃ p, q = p + 1 := ⟨q - 1, by omega⟩
  refine ⟨h0, ?_, ?_⟩
  · rw [Nat.add_sub_cancel, ← hq, Nat.add_mul]; omega
  · rw [Nat.add_sub_cancel]
    have e : (p + 1) * (v * K + w) = ((p + 1) * v) * K + (p + 1) * w := by rw [Nat.mul_add, Nat.mul_assoc]
    have e2 : u * K = ((p + 1) * v) * K + r * K := by rw [← hq, Nat.add_mul]
    rcases h with h | h
    · have h1 : K * (u + 1) ≤ (p + 1) * (v * K + w) := Nat.mul_le_mul h hu
      rw [Nat.mul_add, Nat.mul_one, Nat.mul_comm] at h1
      omega
    · omega
theorem QZ {K v w u z q r : Nat} (hq : q * v + r = u) (h : q * w ≤ r * K + z) : q * (v * K + w) ≤ u * K + z := by
  have e : q * (v * K + w) = (q * v) * K + q * w := by rw [Nat.mul_add, Nat.mul_assoc]
  have e2 : u * K = (q * v) * K + r * K := by rw [← hq, Nat.add_mul]
  omega
theorem XU {K v w u z q r : Nat} (hq : q * v + r = u) (hw : w < K) (hr : K ≤ r) (hk : q ≤ K) : q * (v * K + w) ≤ u * K + z := by
  refine QZ hq ?_
  have h1 : q * w ≤ K * K := Nat.mul_le_mul hk (Nat.le_of_lt hw)
  have h2 : K * K ≤ r * K := Nat.mul_le_mul_right K hr
  omega
structure Norm (h lo y s Y v w u z1 z0 : Nat) : Prop where
  hs : s < 64
  hY : Y = y * 2 ^ s
  hY2 : Y < 18446744073709551616
  hv : Y = v * 4294967296 + w
  hw : w < 4294967296
  hv2 : 2147483648 ≤ v
  hu : u * 18446744073709551616 + (z1 * 4294967296 + z0) = (h * 18446744073709551616 + lo) * 2 ^ s
  hz1 : z1 < 4294967296
  hz0 : z0 < 4294967296
  hu2 : u < Y
theorem XS {s : Nat} (hs : s ≤ 64) : 2 ^ s * 2 ^ (64 - s) = 18446744073709551616 := by
  rw [← Nat.pow_add, show s + (64 - s) = 64 by omega]
theorem norm_start {h lo y : Nat} (hy : y < 18446744073709551616) (hh : h < y) (hl : lo < 18446744073709551616) :
    Norm h lo y (64 - Zw y) (y * 2 ^ (64 - Zw y) % 18446744073709551616) (y * 2 ^ (64 - Zw y) % 18446744073709551616 / 2 ^ 32) (y * 2 ^ (64 - Zw y) % 18446744073709551616 % 4294967296)
      ((h * 2 ^ (64 - Zw y) % 18446744073709551616) ||| (lo / 2 ^ (64 - (64 - Zw y)))) (lo * 2 ^ (64 - Zw y) % 18446744073709551616 / 2 ^ 32) (lo * 2 ^ (64 - Zw y) % 18446744073709551616 % 4294967296) := by
  have hb := Zex (n := y) (by omega)
  have hb1 : Zw y ≤ 64 := by
    rcases Nat.lt_or_ge 64 (Zw y) with h1 | h1
    · have : 2 ^ 64 ≤ 2 ^ (Zw y - 1) := Nat.pow_le_pow_right (by decide) (by omega)
      have e : (2 : Nat) ^ 64 = 18446744073709551616 := rfl
      omega
    · exact h1
  have hb0 := bitlen_pos (n := y) (by omega)
  generalize hs : 64 - Zw y = s
  have hs2 : Zw y = 64 - s := by omega
  rw [hs2] at hb
  have hs3 : s < 64 := by omega
  clear hb0 hb1 hs hs2
  have hps := XS (s := s) (by omega)
  have hp63 : 2 ^ s * 2 ^ (64 - s - 1) = 9223372036854775808 := by rw [← Nat.pow_add, show s + (64 - s - 1) = 63 by omega]
  have hY1 : y * 2 ^ s < 18446744073709551616 := by rw [← hps, Nat.mul_comm]; exact Nat.mul_lt_mul_of_pos_left hb.2 (Nat.two_pow_pos s)
  have hY0 : 9223372036854775808 ≤ y * 2 ^ s := by rw [← hp63, Nat.mul_comm]; exact Nat.mul_le_mul_right _ hb.1
  have hh1 : h * 2 ^ s + 2 ^ s ≤ y * 2 ^ s := by rw [← Nat.succ_mul]; exact Nat.mul_le_mul_right _ hh
  have hp0 : 0 < 2 ^ s := Nat.two_pow_pos s
  have e1 : h * 2 ^ s % 18446744073709551616 = 2 ^ s * h := by rw [Nat.mod_eq_of_lt (by omega), Nat.mul_comm]
  have hlo : lo / 2 ^ (64 - s) < 2 ^ s := by rw [Nat.div_lt_iff_lt_mul (Nat.two_pow_pos _), hps]; exact hl
  rw [e1, or_sum hlo, Nat.mod_eq_of_lt hY1]
  have e3 : (lo * 2 ^ s) / 18446744073709551616 = lo / 2 ^ (64 - s) := by
    rw [← hps, Nat.mul_comm lo, Nat.mul_div_mul_left _ _ hp0]
  have e5 : (2 : Nat) ^ 32 = 4294967296 := rfl
  have e6 := Nat.div_add_mod (lo * 2 ^ s) 18446744073709551616
  rw [e3] at e6
  have hm := Nat.mod_lt (lo * 2 ^ s) (show 18446744073709551616 > 0 by decide)
  have e7 : (2 ^ s * h + lo / 2 ^ (64 - s)) * 18446744073709551616 + lo * 2 ^ s % 18446744073709551616 = (h * 18446744073709551616 + lo) * 2 ^ s := by
    rw [Nat.add_mul, Nat.add_mul]
    have : h * 18446744073709551616 * 2 ^ s = 2 ^ s * h * 18446744073709551616 := by rw [Nat.mul_assoc, Nat.mul_comm 18446744073709551616, ← Nat.mul_assoc, Nat.mul_comm h]
    omega
  have e8 : 2 ^ s * h = h * 2 ^ s := Nat.mul_comm _ _
  generalize lo * 2 ^ s % 18446744073709551616 = m at *
  generalize lo / 2 ^ (64 - s) = c at *
  generalize hYv : y * 2 ^ s = Y at *
  rw [e5]
  refine ⟨hs3, hYv.symm ▸ rfl, by omega, by omega, by omega, by omega, ?_, by omega, by omega, by omega⟩
  rw [← e7]
  omega
theorem norm_u21 {A B u1 Y : Nat} (h1 : B ≤ A + u1) (h2 : A + u1 < B + Y) (hY : Y ≤ 18446744073709551616) : ((A % 18446744073709551616 + u1) % 18446744073709551616 + 18446744073709551616 - B % 18446744073709551616) % 18446744073709551616 + B = A + u1 := by omega
theorem div_fin {m q y p r0 : Nat} (e : m * p = r0 + q * y * p) (hp : 0 < p) (hr : r0 < y * p) (hy : 0 < y) : q = m / y ∧ r0 / p = m % y := by
  have hmq : q * y ≤ m := by
    rcases Nat.lt_or_ge m (q * y) with h | h
    · have := Nat.mul_le_mul_right p h
      rw [Nat.succ_mul] at this
      omega
    · exact h
  have hr0 : r0 = (m - q * y) * p := by rw [Nat.sub_mul]; omega
  have hlt : m - q * y < y := by
    rw [hr0] at hr
    exact Nat.lt_of_mul_lt_mul_right hr
  have hm : m = q * y + (m - q * y) := by omega
  generalize m - q * y = t at *
  subst hm
  constructor
  · rw [Nat.mul_comm q y, Nat.mul_add_div (by omega), Nat.div_eq_of_lt hlt]; rfl
  · rw [hr0, Nat.mul_div_cancel _ hp, Nat.mul_comm q y, Nat.mul_add_mod, Nat.mod_eq_of_lt hlt]
theorem div64_done {h lo y s Y v w u z1 z0 q1 q0 r1 r0 : Nat} (N : Norm h lo y s Y v w u z1 z0) (h1 : r1 + q1 * Y = u * 4294967296 + z1) (h0 : r0 + q0 * Y = r1 * 4294967296 + z0) (hr : r0 < Y) (hy : 0 < y) :
    q1 * 4294967296 + q0 = (h * 18446744073709551616 + lo) / y ∧ r0 / 2 ^ s = (h * 18446744073709551616 + lo) % y := by
  have e : (h * 18446744073709551616 + lo) * 2 ^ s = r0 + (q1 * 4294967296 + q0) * Y := by
    rw [← N.hu, Nat.add_mul, Nat.mul_right_comm]
    omega
  have hp : 0 < 2 ^ s := Nat.two_pow_pos s
  rw [N.hY] at e hr
  rw [← Nat.mul_assoc] at e
  exact div_fin e hp hr hy
theorem dq_small {v w u q r : Nat} (hq : q * v + r = u) (hu : u < v * 4294967296 + w) (hw : w < 4294967296) (hv : 2147483648 ≤ v) : q ≤ 4294967297 := by
  rcases Nat.lt_or_ge 4294967297 q with h | h
  · have := Nat.mul_le_mul_right v h
    simp only [Nat.succ_eq_add_one] at this
    omega
  · exact h
theorem dq_lt {K Y u z q : Nat} (h : q * Y ≤ u * K + z) (hz : z < K) (hu : u < Y) : q < K := by
  rcases Nat.lt_or_ge q K with h1 | h1
  · exact h1
  · have h2 := Nat.mul_le_mul h1 (Nat.succ_le_of_lt hu)
    rw [Nat.succ_eq_add_one, Nat.mul_add, Nat.mul_one, Nat.mul_comm K] at h2
    have h3 : q * (u + 1) ≤ q * Y := Nat.mul_le_mul_left q hu
    have h4 : K * (u + 1) ≤ q * Y := Nat.le_trans (Nat.mul_le_mul_right _ h1) h3
    rw [Nat.mul_add, Nat.mul_one, Nat.mul_comm K] at h4
    omega
theorem int_eq2 {k k' : IntKind} {x y x' y' : Int} (h : x = x') (h' : y = y') : pack [.int k x, .int k' y] = .tuple [.int k x', .int k' y'].toArray := by subst h h'; rfl
theorem Zdz {y : Nat} (h : y < 18446744073709551616) : Zw y ≤ 64 := by
  by_cases h0 : y = 0
  · subst h0; rw [bitlen_zero]; omega
  · have hb := Zex h0
    rcases Nat.lt_or_ge 64 (Zw y) with h1 | h1
    · have : 2 ^ 64 ≤ 2 ^ (Zw y - 1) := Nat.pow_le_pow_right (by decide) (by omega)
      have e : (2 : Nat) ^ 64 = 18446744073709551616 := rfl
      omega
    · exact h1
theorem mod_hint {u v q : Nat} (hq : q = u / v) (hv : 0 < v) : q * v ≤ u ∧ u < q * v + v := by
  have h1 := Nat.div_add_mod u v
  have h2 := Nat.mod_lt u hv
  rw [← hq, Nat.mul_comm] at h1
  omega
theorem dq_step2 {K v w u z q r : Nat} (hq : q * v + r = u) (h : r * K + z < q * w) : 0 < q ∧ (q - 1) * v + (r + v) = u ∧ u * K + z < (q - 1 + 1) * (v * K + w) := by
  have h0 : 0 < q := by
    rcases Nat.eq_zero_or_pos q with e | e
    · subst e; simp at h
    · exact e
  obtain ⟨p, rfl⟩ : ∃ p, q = p + 1 := ⟨q - 1, by omega⟩
  refine ⟨h0, ?_, ?_⟩
  · rw [Nat.add_sub_cancel, ← hq, Nat.add_mul]; omega
  · rw [Nat.add_sub_cancel]
    have e : (p + 1) * (v * K + w) = ((p + 1) * v) * K + (p + 1) * w := by rw [Nat.mul_add, Nat.mul_assoc]
    have e2 : u * K = ((p + 1) * v) * K + r * K := by rw [← hq, Nat.add_mul]
    omega
def cr (d : List Nat) (n i : Nat) : Nat := if i = 0 then 0 else d.getD (i - 1) 0 / 2 ^ (64 - n)
structure Ze0 (d us : List Nat) (n m i : Nat) : Prop where
  len : us.length = m
  le : i ≤ m
  sum : val W64 (us.take i) + W64 ^ i * cr d n i = val W64 (d.take i) * 2 ^ n
  rest : us.drop i = List.replicate (m - i) 0
  lt : ∀ e ∈ us, e < 18446744073709551616
theorem Ze0.start {d : List Nat} {n m : Nat} : Ze0 d (List.replicate m 0) n m 0 := ⟨by simp, by omega, by simp [val, cr], by simp, by simp⟩
theorem shl_parts {x n : Nat} (hn : n < 64) : x * 2 ^ n = x * 2 ^ n % 18446744073709551616 + 18446744073709551616 * (x / 2 ^ (64 - n)) := by
  have h1 := XS (s := n) (by omega)
  have h2 : x * 2 ^ n / 18446744073709551616 = x / 2 ^ (64 - n) := by rw [← h1, Nat.mul_comm x, Nat.mul_div_mul_left _ _ (Nat.two_pow_pos n)]
  have h3 := Nat.div_add_mod (x * 2 ^ n) 18446744073709551616
  rw [h2] at h3
  omega
theorem shl_mult {x n : Nat} (hn : n < 64) : x * 2 ^ n % 18446744073709551616 = 2 ^ n * (x % 2 ^ (64 - n)) := by
  have h1 := XS (s := n) (by omega)
  rw [← h1, Nat.mul_comm x, Nat.mul_mod_mul_left]
theorem up_or {x c n : Nat} (hn : n < 64) (hc : c < 2 ^ n) : (x * 2 ^ n % 18446744073709551616) ||| c = x * 2 ^ n % 18446744073709551616 + c := by rw [shl_mult hn, or_sum hc]
theorem cr_lt {d : List Nat} {n i : Nat} (hn : n < 64) (hd : ∀ e ∈ d, e < 18446744073709551616) : cr d n i < 2 ^ n := by
  unfold cr
  split
  · exact Nat.two_pow_pos n
  · rw [Nat.div_lt_iff_lt_mul (Nat.two_pow_pos _), XS (by omega)]; exact ZQ hd (by decide) _
theorem add_pow_lt {x n c : Nat} (hn : n < 64) (hc : c < 2 ^ n) : x * 2 ^ n % 18446744073709551616 + c < 18446744073709551616 := by
  have h := Nat.or_lt_two_pow (x := x * 2 ^ n % 18446744073709551616) (y := c) (n := 64) (Nat.mod_lt _ (by decide)) (Nat.lt_of_lt_of_le hc (Nat.pow_le_pow_right (by decide) (by omega)))
  rw [up_or hn hc] at h
  exact h
theorem up_sum {V P c X N o x c' : Nat} (h : V + P * c = X * N) (hx : x * N + c = o + 18446744073709551616 * c') : (V + P * o) + P * 18446744073709551616 * c' = (X + P * x) * N := by
  have e1 : P * (x * N + c) = P * (o + 18446744073709551616 * c') := by rw [hx]
  rw [Nat.mul_add, Nat.mul_add] at e1
  rw [Nat.add_mul, ← h, Nat.mul_assoc P x N, Nat.mul_assoc P]
  omega
theorem Ze0.step {d us : List Nat} {n m i o : Nat} (h : Ze0 d us n m i) (hn : n < 64) (hd : ∀ e ∈ d, e < 18446744073709551616) (hi : i < m) (ho : o = d.getD i 0 * 2 ^ n % 18446744073709551616 + cr d n i) : Ze0 d (us.set i o) n m (i + 1) := by
  have hc := cr_lt (i := i) hn hd
  have hol : o < 18446744073709551616 := by rw [ho]; exact add_pow_lt hn hc
  have hlen : i < us.length := by rw [h.len]; exact hi
  have hle := hi
  have hr := h.rest
  refine ⟨by rw [List.length_set]; exact h.len, hle, ?_, ?_, Zaf h.lt hol⟩
  · have hs := h.sum
    have e1 : val W64 ((us.set i o).take (i + 1)) = val W64 (us.take i) + W64 ^ i * o := by
      rw [YG W64 _ i (by rw [List.length_set]; exact hlen), Zcg, YA hlen]
    have e2 : val W64 (d.take (i + 1)) = val W64 (d.take i) + W64 ^ i * d.getD i 0 := YH d i
    have e3 : cr d n (i + 1) = d.getD i 0 / 2 ^ (64 - n) := by unfold cr; rw [if_neg (by omega), Nat.add_sub_cancel]
    have e4 : W64 ^ (i + 1) = W64 ^ i * W64 := Nat.pow_succ _ _
    rw [e1, e2, e3, e4]
    refine up_sum hs ?_
    rw [ho]
    have := shl_parts (x := d.getD i 0) hn
    omega
  · have h1 : (us.set i o).drop (i + 1) = us.drop (i + 1) := by rw [List.drop_set_of_lt (by omega)]
    have h2 : us.drop (i + 1) = (us.drop i).drop 1 := by rw [List.drop_drop]
    rw [h1, h2, hr, List.drop_replicate]
    congr 1
theorem Ze0.done {d us : List Nat} {n m i : Nat} (h : Ze0 d us n m i) (hi : ¬ i < m) (hm : d.length ≤ m) : val W64 us + W64 ^ m * cr d n m = val W64 d * 2 ^ n := by
  have hle := h.le
  obtain rfl : i = m := by omega
  have hs := h.sum
  rw [List.take_of_length_le (by rw [h.len]; exact Nat.le_refl _), List.take_of_length_le hm] at hs
  exact hs
end Go.Cham
namespace Go.Cham
open Go Go.RowKit
theorem Ye {P : Program} {Q : Exit → Act → World → Prop} {ops : Array Oper} {o : Oper} {rest : List Oper} {a : Act} {w : World} {n : Nat} {l : List (Nat × Value)} {d j e : Nat} {b : Bool} (hL : Zt a n l) (hg : o.guard = some (j, b)) (hj : (ops[j]?).bind (·.dst) = some e) (he : Zah l e = some undef) (hd : o.dst = some d)
    (hn : Nat.blt d n = true) (h : ∀ a', Zt a' n ((d, undef) :: l) → Xl P ops Q rest a' w) : Xl P ops Q (o :: rest) a w := by
  simp only [Xl]
  rw [if_neg (by simp [Region.wanted, hg, yielded, hj, hL.at_ e _ he, undef])]
  rw [hd]
  exact h _ (hL.put (by simpa [Nat.blt_eq] using hn) undef)
theorem cr0 {d : List Nat} {n i : Nat} (hd : ∀ e ∈ d, e < 18446744073709551616) (h : ¬ (0 < i ∧ i ≤ d.length ∧ 0 < n)) : cr d n i = 0 := by
  unfold cr
  by_cases h0 : i = 0
  · rw [if_pos h0]
  rw [if_neg h0]
  by_cases h1 : d.length < i
  · rw [Zc5 (by omega), Nat.zero_div]
  · have : n = 0 := by omega
    subst this
    exact Nat.div_eq_of_lt (ZQ hd (by decide) _)
theorem up_or1 {d us : List Nat} {n i : Nat} (hn : n < 64) (hd : ∀ e ∈ d, e < 18446744073709551616) (hi : i < us.length) (h0 : 0 < i) :
    (us.set i (d.getD i 0 * 2 ^ n % 18446744073709551616)).getD i 0 ||| d.getD (i - 1) 0 / 2 ^ (64 - n) = d.getD i 0 * 2 ^ n % 18446744073709551616 + cr d n i := by
  have hc := cr_lt (i := i) hn hd
  have e : d.getD (i - 1) 0 / 2 ^ (64 - n) = cr d n i := by unfold cr; rw [if_neg (by omega)]
  rw [YA hi, e, up_or hn hc]
theorem up_or0 {d us : List Nat} {n m i : Nat} (h : Ze0 d us n m i) (hd : d.length ≤ i) (h0 : 0 < i) :
    us.getD i 0 ||| d.getD (i - 1) 0 / 2 ^ (64 - n) = d.getD i 0 * 2 ^ n % 18446744073709551616 + cr d n i := by
  have e : d.getD (i - 1) 0 / 2 ^ (64 - n) = cr d n i := by unfold cr; rw [if_neg (by omega)]
  have e2 : us.getD i 0 = 0 := by
    have h1 : us.getD i 0 = (us.drop i).getD 0 0 := by simp [List.getD_eq_getElem?_getD]
    rw [h1, h.rest]; simp [List.getD_eq_getElem?_getD, List.getElem?_replicate]; split <;> simp
  rw [e, e2, Zc5 hd, Nat.zero_mul, Nat.zero_mod, Nat.zero_add, Nat.zero_or]
theorem Ze0.step' {d us us' : List Nat} {n m i : Nat} (h : Ze0 d us n m i) (hn : n < 64) (hd : ∀ e ∈ d, e < 18446744073709551616) (hi : i < m) (e : us' = us.set i (d.getD i 0 * 2 ^ n % 18446744073709551616 + cr d n i)) : Ze0 d us' n m (i + 1) := by
  subst e; exact h.step hn hd hi rfl
theorem Za8 {d us : List Nat} {n i : Nat} (hd : ∀ e ∈ d, e < 18446744073709551616) (h : ¬ (0 < i ∧ i ≤ d.length ∧ 0 < n)) : us.set i (d.getD i 0 * 2 ^ n % 18446744073709551616) = us.set i (d.getD i 0 * 2 ^ n % 18446744073709551616 + cr d n i) := by rw [cr0 hd h]; rfl
theorem Za9 {d us : List Nat} {n m i : Nat} (hI : Ze0 d us n m i) (hi : i < m) (hd : ∀ e ∈ d, e < 18446744073709551616) (hl : d.length ≤ i) (h : ¬ (0 < i ∧ i ≤ d.length ∧ 0 < n)) : us = us.set i (d.getD i 0 * 2 ^ n % 18446744073709551616 + cr d n i) := by
  rw [cr0 hd h, Zc5 hl, Nat.zero_mul, Nat.zero_mod]
  have hlen : i < us.length := by rw [hI.len]; exact hi
  have h1 : us.getD i 0 = 0 := by
    have h1 : us.getD i 0 = (us.drop i).getD 0 0 := by simp [List.getD_eq_getElem?_getD]
    rw [h1, hI.rest]; simp [List.getD_eq_getElem?_getD, List.getElem?_replicate]; split <;> simp
  rw [List.getD_eq_getElem?_getD, List.getElem?_eq_getElem hlen] at h1
  simp only [Option.getD_some] at h1
  apply List.ext_getElem
  · simp
  · intro k hk hk'
    rw [List.getElem_set]
    split
    · rename_i e; subst e; exact h1
    · rfl
structure Zbt (d us : List Nat) (n i : Nat) : Prop where
  len : us.length = d.length
  le : i ≤ d.length
  sum : 2 ^ n * val W64 (us.take i) + d.getD 0 0 % 2 ^ n = val W64 (d.take i) + W64 ^ i * (d.getD i 0 % 2 ^ n)
  lt : ∀ e ∈ us, e < 18446744073709551616
theorem Zbt.start {d : List Nat} {n : Nat} : Zbt d (List.replicate d.length 0) n 0 := ⟨by simp, by omega, by simp [val], by simp⟩
theorem div_pow_lt {x n : Nat} (hn : n ≤ 64) (hx : x < 18446744073709551616) : x / 2 ^ n < 2 ^ (64 - n) := by
  rw [Nat.div_lt_iff_lt_mul (Nat.two_pow_pos _), Nat.mul_comm, XS hn]; exact hx
theorem down_mult {x n : Nat} (hn : n ≤ 64) : x * 2 ^ (64 - n) % 18446744073709551616 = 2 ^ (64 - n) * (x % 2 ^ n) := by
  have h1 := XS (s := n) hn
  rw [← h1, Nat.mul_comm (2 ^ n), Nat.mul_comm x, Nat.mul_mod_mul_left]
theorem down_or {x y n : Nat} (hn : n ≤ 64) (hx : x < 18446744073709551616) : (x / 2 ^ n) ||| (y * 2 ^ (64 - n) % 18446744073709551616) = x / 2 ^ n + 2 ^ (64 - n) * (y % 2 ^ n) := by
  rw [down_mult hn, Nat.or_comm, or_sum (div_pow_lt hn hx), Nat.add_comm]
theorem down_sum {N V D P a b c o M x T : Nat} (h : N * V + a = D + P * b) (ho : o = x + T * c) (hx : N * x + b = M) (hT : N * T = 18446744073709551616) : N * (V + P * o) + a = (D + P * M) + P * 18446744073709551616 * c := by
  have e1 : P * (N * x + b) = P * M := by rw [hx]
  have e2 : N * (T * c) = 18446744073709551616 * c := by rw [← Nat.mul_assoc, hT]
  have e3 : N * (P * o) = P * (N * x) + P * (N * (T * c)) := by rw [ho, ← Nat.mul_add, ← Nat.mul_add, Nat.mul_left_comm]
  rw [Nat.mul_add] at e1
  rw [Nat.mul_add, e3, e2, Nat.mul_assoc P 18446744073709551616 c]
  omega
theorem Zbt.step {d us us' : List Nat} {n i : Nat} (h : Zbt d us n i) (hn : n < 64) (hd : ∀ e ∈ d, e < 18446744073709551616) (hi : i < d.length) (e : us' = us.set i (d.getD i 0 / 2 ^ n + 2 ^ (64 - n) * (d.getD (i + 1) 0 % 2 ^ n))) : Zbt d us' n (i + 1) := by
  subst e
  have hlen : i < us.length := by rw [h.len]; exact hi
  have hle := hi
  have hol : d.getD i 0 / 2 ^ n + 2 ^ (64 - n) * (d.getD (i + 1) 0 % 2 ^ n) < 18446744073709551616 := by
    rw [← down_or (by omega) (ZQ hd (by decide) i)]
    exact Nat.or_lt_two_pow (n := 64) (Nat.lt_of_le_of_lt (Nat.div_le_self _ _) (ZQ hd (by decide) i)) (Nat.mod_lt _ (by decide))
  refine ⟨by rw [List.length_set]; exact h.len, hle, ?_, Zaf h.lt hol⟩
  have hs := h.sum
  have hp : W64 ^ (i + 1) = W64 ^ i * 18446744073709551616 := Nat.pow_succ _ _
  rw [YG W64 _ i (by rw [List.length_set]; exact hlen), Zcg, YA hlen, YH d i, hp]
  exact down_sum hs rfl (Nat.div_add_mod _ _) (XS (by omega))
theorem down_case0 {d us : List Nat} {n i : Nat} (h : ¬ (i + 1 < d.length ∧ 0 < n)) : us.set i (d.getD i 0 / 2 ^ n) = us.set i (d.getD i 0 / 2 ^ n + 2 ^ (64 - n) * (d.getD (i + 1) 0 % 2 ^ n)) := by
  have : d.getD (i + 1) 0 % 2 ^ n = 0 := by
    by_cases h1 : i + 1 < d.length
    · obtain rfl : n = 0 := by omega
      exact Nat.mod_one _
    · rw [Zc5 (by omega), Nat.zero_mod]
  rw [this]; rfl
theorem down_or1 {d us : List Nat} {n i : Nat} (hn : n < 64) (hd : ∀ e ∈ d, e < 18446744073709551616) (hi : i < us.length) :
    (us.set i (d.getD i 0 / 2 ^ n)).getD i 0 ||| (d.getD (i + 1) 0 * 2 ^ (64 - n) % 18446744073709551616) = d.getD i 0 / 2 ^ n + 2 ^ (64 - n) * (d.getD (i + 1) 0 % 2 ^ n) := by
  rw [YA hi, down_or (by omega) (ZQ hd (by decide) i)]
theorem Zbt.done {d us : List Nat} {n i : Nat} (h : Zbt d us n i) (hi : ¬ i < d.length) : val W64 us = val W64 d / 2 ^ n := by
  have hle := h.le
  obtain rfl : i = d.length := by omega
  have hs := h.sum
  rw [List.take_of_length_le (by rw [h.len]; exact Nat.le_refl _), List.take_of_length_le (Nat.le_refl _), Zc5 (Nat.le_refl _), Nat.zero_mod, Nat.mul_zero, Nat.add_zero] at hs
  have hp := Nat.two_pow_pos n
  rw [← hs, Nat.mul_add_div hp, Nat.div_eq_of_lt (Nat.mod_lt _ hp)]
  rfl
structure Zd2 (p v us : List Nat) (o d i c b : Nat) : Prop where
  len : us.length = p.length
  lt : ∀ e ∈ us, e < 18446744073709551616
  hc : c < 18446744073709551616
  hb : b ≤ 1
  cz : v.length < i → c = 0
  sum : val W64 us + W64 ^ o * (val W64 (v.take i) * d) = val W64 p + W64 ^ (o + i) * (c + b)
  out : ∀ m, m < o ∨ o + i ≤ m → us.getD m 0 = p.getD m 0
theorem Zd2.start {p v : List Nat} {o d : Nat} (h : ∀ e ∈ p, e < 18446744073709551616) : Zd2 p v p o d 0 0 0 := ⟨rfl, h, by decide, by decide, fun _ => rfl, by simp [val], fun _ _ => rfl⟩
theorem away_sum {A A' P u u' O X d C c b x l c' b' Y : Nat} (h1 : A' + P * u = A + P * u') (h2 : A + O * (X * d) = Y + P * (c + b)) (h3 : x * d + c = l + 18446744073709551616 * c') (h4 : u' + l + b = u + 18446744073709551616 * b') (hP : P = O * C) :
    A' + O * ((X + C * x) * d) = Y + P * 18446744073709551616 * (c' + b') := by
  have e1 : P * (x * d + c) = P * (l + 18446744073709551616 * c') := by rw [h3]
  have e2 : P * (u' + l + b) = P * (u + 18446744073709551616 * b') := by rw [h4]
  have e3 : O * ((X + C * x) * d) = O * (X * d) + P * (x * d) := by rw [hP, Nat.add_mul, Nat.mul_add, Nat.mul_assoc, Nat.mul_assoc]
  have e4 : P * 18446744073709551616 * (c' + b') = P * (18446744073709551616 * c') + P * (18446744073709551616 * b') := by rw [Nat.mul_assoc, Nat.mul_add, Nat.mul_add]
  rw [Nat.mul_add] at h2 e1 e2
  rw [Nat.mul_add] at e1 e2
  rw [Nat.mul_add] at e2
  rw [e3, e4]
  omega
theorem Zd2.step {p v us : List Nat} {o d i c b m : Nat} (h : Zd2 p v us o d i c b) (hm : m = o + i) (hi : o + i < p.length) {l c' u' b' : Nat} (h1 : u' < 18446744073709551616) (h2 : c' < 18446744073709551616) (h3 : b' ≤ 1)
    (h4 : v.getD i 0 * d + c = l + 18446744073709551616 * c') (h5 : u' + l + b = us.getD m 0 + 18446744073709551616 * b') (h6 : v.length < i + 1 → c' = 0) : Zd2 p v (us.set m u') o d (i + 1) c' b' := by
  subst hm
  refine ⟨by rw [List.length_set]; exact h.len, Zaf h.lt h1, h2, h3, h6, ?_, fun k hk => by rw [Xi (by omega)]; exact h.out k (by omega)⟩
  have hv := Zdi W64 us (o + i) u' (by rw [h.len]; exact hi)
  have hs := h.sum
  have hp : W64 ^ (o + (i + 1)) = W64 ^ (o + i) * 18446744073709551616 := Nat.pow_succ _ _
  have hq : W64 ^ (o + i) = W64 ^ o * W64 ^ i := Nat.pow_add _ _ _
  rw [YH v i, hp]
  exact away_sum hv hs h4 h5 hq
structure Zd1 (p v us : List Nat) (o i c : Nat) : Prop where
  len : us.length = p.length
  lt : ∀ e ∈ us, e < 18446744073709551616
  hc : c ≤ 1
  sum : val W64 us + W64 ^ (o + i) * c = val W64 p + W64 ^ o * val W64 (v.take i)
  out : ∀ m, m < o ∨ o + i ≤ m → us.getD m 0 = p.getD m 0
theorem Zd1.start {p v : List Nat} {o : Nat} (h : ∀ e ∈ p, e < 18446744073709551616) : Zd1 p v p o 0 0 := ⟨rfl, h, by decide, by simp [val], fun _ _ => rfl⟩
theorem back_sum {A A' P u u' O X C c x c' Y : Nat} (h1 : A' + P * u = A + P * u') (h2 : A + P * c = Y + O * X) (h3 : u' + 18446744073709551616 * c' = u + x + c) (hP : P = O * C) : A' + P * 18446744073709551616 * c' = Y + O * (X + C * x) := by
  have e1 : P * (u' + 18446744073709551616 * c') = P * (u + x + c) := by rw [h3]
  have e3 : O * (X + C * x) = O * X + P * x := by rw [hP, Nat.mul_add, Nat.mul_assoc]
  rw [Nat.mul_add, Nat.mul_add, Nat.mul_add] at e1
  rw [e3, Nat.mul_assoc]
  omega
theorem Zd1.step {p v us : List Nat} {o i c m : Nat} (h : Zd1 p v us o i c) (hm : m = o + i) (hi : o + i < p.length) {u' c' : Nat} (h1 : u' < 18446744073709551616) (h2 : c' ≤ 1) (h3 : u' + 18446744073709551616 * c' = us.getD m 0 + v.getD i 0 + c) : Zd1 p v (us.set m u') o (i + 1) c' := by
  subst hm
  refine ⟨by rw [List.length_set]; exact h.len, Zaf h.lt h1, h2, ?_, fun k hk => by rw [Xi (by omega)]; exact h.out k (by omega)⟩
  have hv := Zdi W64 us (o + i) u' (by rw [h.len]; exact hi)
  have hs := h.sum
  have hp : W64 ^ (o + (i + 1)) = W64 ^ (o + i) * 18446744073709551616 := Nat.pow_succ _ _
  have hq : W64 ^ (o + i) = W64 ^ o * W64 ^ i := Nat.pow_add _ _ _
  rw [YH v i, hp]
  exact back_sum hv hs h3 hq
structure QL (d us : List Nat) (dv k r : Nat) : Prop where
  len : us.length = d.length
  le : k ≤ d.length
  lt : ∀ e ∈ us, e < 18446744073709551616
  hr : r < dv
  low : us.take k = d.take k
  sum : val W64 (d.drop k) = val W64 (us.drop k) * dv + r
theorem QL.start {d : List Nat} {dv : Nat} (h : ∀ e ∈ d, e < 18446744073709551616) (h0 : 0 < dv) : QL d d dv d.length 0 := ⟨rfl, Nat.le_refl _, h, h0, rfl, by simp [val]⟩
theorem short_sum {D U dv r x q r' : Nat} (h : D = U * dv + r) (hq : q = (r * 18446744073709551616 + x) / dv) (hr : r' = (r * 18446744073709551616 + x) % dv) : x + 18446744073709551616 * D = (q + 18446744073709551616 * U) * dv + r' := by
  have h1 := Nat.div_add_mod (r * 18446744073709551616 + x) dv
  rw [← hq, ← hr, Nat.mul_comm] at h1
  rw [h, Nat.add_mul, Nat.mul_add, Nat.mul_assoc]
  omega
theorem QL.step {d us : List Nat} {dv k r j : Nat} (h : QL d us dv k r) (hj : j = k - 1) (hk : 0 < k) {q r' : Nat} (hq : q = (r * 18446744073709551616 + us.getD j 0) / dv) (hr : r' = (r * 18446744073709551616 + us.getD j 0) % dv) (hd : ∀ e ∈ d, e < 18446744073709551616) : QL d (us.set j q) dv (k - 1) r' := by
  subst hj
  have hle := h.le
  have hlen : k - 1 < us.length := by rw [h.len]; omega
  have e1 : us.getD (k - 1) 0 = d.getD (k - 1) 0 := by
    have h1 : (us.take k).getD (k - 1) 0 = us.getD (k - 1) 0 := by simp [List.getD_eq_getElem?_getD, List.getElem?_take, show k - 1 < k by omega]
    have h2 : (d.take k).getD (k - 1) 0 = d.getD (k - 1) 0 := by simp [List.getD_eq_getElem?_getD, List.getElem?_take, show k - 1 < k by omega]
    rw [← h1, ← h2, h.low]
  have hdv : 0 < dv := by have := h.hr; omega
  have hql : q < 18446744073709551616 := by
    rw [hq]
    refine Nat.div_lt_of_lt_mul ?_
    have h1 := h.hr
    have h2 := ZQ h.lt (show 0 < 18446744073709551616 by decide) (k - 1)
    have h3 : (r + 1) * 18446744073709551616 ≤ dv * 18446744073709551616 := Nat.mul_le_mul_right _ h1
    omega
  refine ⟨by rw [List.length_set]; exact h.len, by omega, Zaf h.lt hql, by rw [hr]; exact Nat.mod_lt _ hdv, ?_, ?_⟩
  · rw [Zcg]
    have h1 : us.take (k - 1) = (us.take k).take (k - 1) := by rw [List.take_take, Nat.min_eq_left (by omega)]
    have h2 : d.take (k - 1) = (d.take k).take (k - 1) := by rw [List.take_take, Nat.min_eq_left (by omega)]
    rw [h1, h2, h.low]
  · have h1 : (us.set (k - 1) q).drop (k - 1) = q :: us.drop k := by
      rw [Ys (by rw [List.length_set]; exact hlen), YA hlen, show k - 1 + 1 = k by omega, List.drop_set_of_lt (by omega)]
    have h2 : d.drop (k - 1) = d.getD (k - 1) 0 :: d.drop k := by rw [Ys (by omega), show k - 1 + 1 = k by omega]
    rw [h1, h2]
    simp only [val]
    rw [e1] at hq hr
    exact short_sum h.sum hq hr
theorem QL.done {d us : List Nat} {dv r : Nat} (h : QL d us dv 0 r) : val W64 us = val W64 d / dv ∧ r = val W64 d % dv := by
  have hs := h.sum
  have hr := h.hr
  rw [List.drop_zero, List.drop_zero] at hs
  rw [hs, Nat.mul_comm]
  constructor
  · rw [Nat.mul_add_div (by omega), Nat.div_eq_of_lt hr]; rfl
  · rw [Nat.mul_add_mod, Nat.mod_eq_of_lt hr]
theorem sub_step {x l b : Nat} (hx : x < 18446744073709551616) (hl : l < 18446744073709551616) (hb : b ≤ 1) : (x + 18446744073709551616 - l - b) % 18446744073709551616 + l + b = x + 18446744073709551616 * (if x < l + b then 1 else 0) ∧ (if x < l + b then 1 else 0) ≤ 1 := by
  split <;> omega
end Go.Cham
namespace Go.Cham
open Go Go.RowKit Go.Proofs
theorem Ym : aggT Tryz.prog 29 = some false := by kernel_rfl
theorem YC : aggT Tryz.prog 30 = some false := by kernel_rfl
theorem ZE : aggT Tryz.prog 32 = some true := by kernel_rfl
theorem ZA : Yu Tryz.prog 29 = some 1 := by kernel_rfl
theorem Zk : Yu Tryz.prog 32 = some 2 := by kernel_rfl
theorem QK : Zal Tryz.prog 29 = some 8 := by kernel_rfl
theorem Qc : QH Tryz.prog 29 = some (.int .u64 (0 : Int)) := by kernel_rfl
theorem ZO : QH Tryz.prog 32 = some (.agg ([(.int .u64 (0 : Int)), (.slice none 0 0)] : List Value).toArray) := by kernel_rfl
theorem Yd : QY Tryz.prog 32 0 = some (0, 29, 1) := by kernel_rfl
theorem ZL : QY Tryz.prog 32 1 = some (1, 30, 1) := by kernel_rfl
theorem XD : Zci Tryz.prog 32 = true := by kernel_rfl
theorem mixed : Tryz.prog.follows .mixedOrders = true := by kernel_rfl
theorem ent_77 : ZW Tryz.prog 77 = true := by kernel_rfl
theorem Zdf : ZW Tryz.prog 98 = true := by kernel_rfl
theorem ent_133 : ZW Tryz.prog 133 = true := by kernel_rfl
theorem ent_134 : ZW Tryz.prog 134 = true := by kernel_rfl
theorem Zbj : ZW Tryz.prog 135 = true := by kernel_rfl
theorem ent_136 : ZW Tryz.prog 136 = true := by kernel_rfl
theorem ent_139 : ZW Tryz.prog 139 = true := by kernel_rfl
theorem Zb9 : ZW Tryz.prog 140 = true := by kernel_rfl
theorem ent_150 : ZW Tryz.prog 150 = true := by kernel_rfl
theorem ent_161 : ZW Tryz.prog 161 = true := by kernel_rfl
theorem ent_162 : ZW Tryz.prog 162 = true := by kernel_rfl
theorem ent_163 : ZW Tryz.prog 163 = true := by kernel_rfl
theorem ent_164 : ZW Tryz.prog 164 = true := by kernel_rfl
theorem ent_165 : ZW Tryz.prog 165 = true := by kernel_rfl
theorem ent_166 : ZW Tryz.prog 166 = true := by kernel_rfl
theorem ent_167 : ZW Tryz.prog 167 = true := by kernel_rfl
end Go.Cham
namespace Go.Proofs
open Go.Shelf
def Tryz.lays160_ren : Go.Shelf.Ren := ⟨fun | 160 => 149 | 232 => 172 | 231 => 171 | 227 => 173 | 234 => 175 | 233 => 174 | 236 => 177 | 235 => 176 | 228 => 191 | 271 => 194 | 151 => 193 | 197 => 192 | 120 => 204 | 152 => 203 | 260 => 202 | 137 => 206 | 119 => 207 | 224 => 189 | 225 => 188 | 217 => 187 | 266 => 200 | n => n, fun | 9 => 9 | 4 => 4 | 3 => 3 | 5 => 5 | 117 => 207 | 116 => 206 | 0 => 0 | 124 => 210 | 21 => 21 | 105 => 225 | 46 => 194 | 119 => 240 | 139 => 243 | 138 => 242 | n => n, fun | 3 => 3 | 4 => 4 | n => n⟩
theorem Tryz.lays160 : Go.Proofs.Lays.n160 Tryz.prog Tryz.lays160_ren := {
  mixed := by kernel_rfl
  f119 := Tryz.func207.trans (congrArg some (by kernel_rfl))
  f120 := Tryz.func204.trans (congrArg some (by kernel_rfl))
  f137 := Tryz.func206.trans (congrArg some (by kernel_rfl))
  f151 := Tryz.func193.trans (congrArg some (by kernel_rfl))
  f152 := Tryz.func203.trans (congrArg some (by kernel_rfl))
  f160 := Tryz.func149.trans (congrArg some (by kernel_rfl))
  f197 := Tryz.func192.trans (congrArg some (by kernel_rfl))
  f217 := Tryz.func187.trans (congrArg some (by kernel_rfl))
  f224 := Tryz.func189.trans (congrArg some (by kernel_rfl))
  f225 := Tryz.func188.trans (congrArg some (by kernel_rfl))
  f227 := Tryz.func173.trans (congrArg some (by kernel_rfl))
  f228 := Tryz.func191.trans (congrArg some (by kernel_rfl))
  f231 := Tryz.func171.trans (congrArg some (by kernel_rfl))
  f232 := Tryz.func172.trans (congrArg some (by kernel_rfl))
  f233 := Tryz.func174.trans (congrArg some (by kernel_rfl))
  f234 := Tryz.func175.trans (congrArg some (by kernel_rfl))
  f235 := Tryz.func176.trans (congrArg some (by kernel_rfl))
  f236 := Tryz.func177.trans (congrArg some (by kernel_rfl))
  f260 := Tryz.func202.trans (congrArg some (by kernel_rfl))
  f266 := Tryz.func200.trans (congrArg some (by kernel_rfl))
  f271 := Tryz.func194.trans (congrArg some (by kernel_rfl))
  t0 := Tryz.underlying0
  a0 := Tryz.isAgg0
  z0 := Tryz.sizeOf0
  v0 := Tryz.zeroValue0
  t3 := Tryz.underlying3
  a3 := Tryz.isAgg3
  z3 := Tryz.sizeOf3
  v3 := Tryz.zeroValue3
  t4 := Tryz.underlying4
  a4 := Tryz.isAgg4
  z4 := Tryz.sizeOf4
  v4 := Tryz.zeroValue4
  t5 := Tryz.underlying5
  a5 := Tryz.isAgg5
  z5 := Tryz.sizeOf5
  v5 := Tryz.zeroValue5
  t9 := Tryz.underlying9
  a9 := Tryz.isAgg9
  z9 := Tryz.sizeOf9
  v9 := Tryz.zeroValue9
  t21 := Tryz.underlying21
  a21 := Tryz.isAgg21
  z21 := Tryz.sizeOf21
  v21 := Tryz.zeroValue21
  t46 := Tryz.underlying194
  a46 := Tryz.isAgg194
  z46 := Tryz.sizeOf194
  v46 := Tryz.zeroValue194
  t105 := Tryz.underlying225
  a105 := Tryz.isAgg225
  z105 := Tryz.sizeOf225
  v105 := Tryz.zeroValue225
  t116 := Tryz.underlying206
  a116 := Tryz.isAgg206
  z116 := Tryz.sizeOf206
  t117 := Tryz.underlying207
  a117 := Tryz.isAgg207
  z117 := Tryz.sizeOf207
  v117 := Tryz.zeroValue207
  t119 := Tryz.underlying240
  a119 := Tryz.isAgg240
  z119 := Tryz.sizeOf240
  t124 := Tryz.underlying210
  a124 := Tryz.isAgg210
  z124 := Tryz.sizeOf210
  v124 := Tryz.zeroValue210
  t138 := Tryz.underlying242
  a138 := Tryz.isAgg242
  z138 := Tryz.sizeOf242
  v138 := Tryz.zeroValue242
  t139 := Tryz.underlying243
  a139 := Tryz.isAgg243
  z139 := Tryz.sizeOf243
  v139 := Tryz.zeroValue243
  g3 := by kernel_rfl
  g4 := by kernel_rfl }
def Tryz.lays134_ren : Go.Shelf.Ren := ⟨fun | 134 => 162 | 129 => 150 | n => n, fun | 53 => 29 | 3 => 3 | 4 => 4 | 46 => 194 | 5 => 5 | 9 => 9 | n => n, fun | n => n⟩
theorem Tryz.lays134 : Go.Proofs.Lays.n134 Tryz.prog Tryz.lays134_ren := {
  mixed := by kernel_rfl
  f129 := Tryz.func150.trans (congrArg some (by kernel_rfl))
  f134 := Tryz.func162.trans (congrArg some (by kernel_rfl))
  t3 := Tryz.underlying3
  a3 := Tryz.isAgg3
  z3 := Tryz.sizeOf3
  v3 := Tryz.zeroValue3
  t4 := Tryz.underlying4
  a4 := Tryz.isAgg4
  z4 := Tryz.sizeOf4
  v4 := Tryz.zeroValue4
  t5 := Tryz.underlying5
  a5 := Tryz.isAgg5
  z5 := Tryz.sizeOf5
  v5 := Tryz.zeroValue5
  t9 := Tryz.underlying9
  a9 := Tryz.isAgg9
  z9 := Tryz.sizeOf9
  v9 := Tryz.zeroValue9
  t46 := Tryz.underlying194
  a46 := Tryz.isAgg194
  z46 := Tryz.sizeOf194
  v46 := Tryz.zeroValue194
  t53 := Tryz.underlying29
  a53 := Tryz.isAgg29
  z53 := Tryz.sizeOf29
  v53 := Tryz.zeroValue29 }
theorem Tryz.bits_LeadingZeros64 (x : Int) (w : World) (h0 : 0 ≤ x) (h1 : x ≤ 18446744073709551615) :
    Calls Tryz.prog 162 #[.int .u64 x] w fun e w' => e = .returned (.int .i64 (64 - (Lib.bitLen x.toNat : Int))) ∧ w' = w := Any.bits_LeadingZeros64 Tryz.lays134 x w h0 h1
def Tryz.lays129_ren : Go.Shelf.Ren := ⟨fun | 129 => 150 | n => n, fun | 53 => 29 | 3 => 3 | 4 => 4 | 46 => 194 | 5 => 5 | 9 => 9 | n => n, fun | n => n⟩
theorem Tryz.lays129 : Go.Proofs.Lays.n129 Tryz.prog Tryz.lays129_ren := {
  mixed := by kernel_rfl
  f129 := Tryz.func150.trans (congrArg some (by kernel_rfl))
  t3 := Tryz.underlying3
  a3 := Tryz.isAgg3
  z3 := Tryz.sizeOf3
  v3 := Tryz.zeroValue3
  t4 := Tryz.underlying4
  a4 := Tryz.isAgg4
  z4 := Tryz.sizeOf4
  v4 := Tryz.zeroValue4
  t5 := Tryz.underlying5
  a5 := Tryz.isAgg5
  z5 := Tryz.sizeOf5
  v5 := Tryz.zeroValue5
  t9 := Tryz.underlying9
  a9 := Tryz.isAgg9
  z9 := Tryz.sizeOf9
  v9 := Tryz.zeroValue9
  t46 := Tryz.underlying194
  a46 := Tryz.isAgg194
  z46 := Tryz.sizeOf194
  v46 := Tryz.zeroValue194
  t53 := Tryz.underlying29
  a53 := Tryz.isAgg29
  z53 := Tryz.sizeOf29
  v53 := Tryz.zeroValue29 }
theorem Tryz.bits_Len64 (x : Int) (w : World) (h0 : 0 ≤ x) (h1 : x ≤ 18446744073709551615) :
    Calls Tryz.prog 150 #[.int .u64 x] w fun e w' => e = .returned (.int .i64 (Lib.bitLen x.toNat)) ∧ w' = w := Any.bits_Len64 Tryz.lays129 x w h0 h1
def Tryz.lays219_ren : Go.Shelf.Ren := ⟨fun | 219 => 169 | 217 => 187 | 225 => 188 | 224 => 189 | 267 => 190 | 266 => 200 | 314 => 201 | n => n, fun | 9 => 9 | 3 => 3 | 4 => 4 | 5 => 5 | 46 => 194 | 146 => 234 | 51 => 163 | n => n, fun | 1 => 2 | n => n⟩
theorem Tryz.lays219 : Go.Proofs.Lays.n219 Tryz.prog Tryz.lays219_ren := {
  mixed := by kernel_rfl
  f217 := Tryz.func187.trans (congrArg some (by kernel_rfl))
  f219 := Tryz.func169.trans (congrArg some (by kernel_rfl))
  f224 := Tryz.func189.trans (congrArg some (by kernel_rfl))
  f225 := Tryz.func188.trans (congrArg some (by kernel_rfl))
  f266 := Tryz.func200.trans (congrArg some (by kernel_rfl))
  f267 := Tryz.func190.trans (congrArg some (by kernel_rfl))
  f314 := Tryz.func201.trans (congrArg some (by kernel_rfl))
  t3 := Tryz.underlying3
  a3 := Tryz.isAgg3
  z3 := Tryz.sizeOf3
  v3 := Tryz.zeroValue3
  t4 := Tryz.underlying4
  a4 := Tryz.isAgg4
  z4 := Tryz.sizeOf4
  v4 := Tryz.zeroValue4
  t5 := Tryz.underlying5
  a5 := Tryz.isAgg5
  z5 := Tryz.sizeOf5
  v5 := Tryz.zeroValue5
  t9 := Tryz.underlying9
  a9 := Tryz.isAgg9
  z9 := Tryz.sizeOf9
  v9 := Tryz.zeroValue9
  t46 := Tryz.underlying194
  a46 := Tryz.isAgg194
  z46 := Tryz.sizeOf194
  v46 := Tryz.zeroValue194
  t51 := Tryz.underlying163
  a51 := Tryz.isAgg163
  z51 := Tryz.sizeOf163
  v51 := Tryz.zeroValue163
  t146 := Tryz.underlying234
  a146 := Tryz.isAgg234
  z146 := Tryz.sizeOf234
  v146 := Tryz.zeroValue234
  g1 := by kernel_rfl }
theorem Tryz.stringslite_Index_one (s : ByteArray) (c : UInt8) (w : World) :
    Calls Tryz.prog 169 #[.string s, .string ⟨#[c]⟩] w fun e w' => e = .returned (.int .i64 (Lib.indexByte s.data.toList c)) ∧ w' = w := Any.stringslite_Index_one Tryz.lays219 s c w
def Tryz.lays101_ren : Go.Shelf.Ren := ⟨fun | 101 => 95 | 208 => 148 | 206 => 170 | n => n, fun | 9 => 9 | 4 => 4 | 3 => 3 | n => n, fun | n => n⟩
theorem Tryz.lays101 : Go.Proofs.Lays.n101 Tryz.prog Tryz.lays101_ren := {
  mixed := by kernel_rfl
  f101 := Tryz.func95.trans (congrArg some (by kernel_rfl))
  f206 := Tryz.func170.trans (congrArg some (by kernel_rfl))
  f208 := Tryz.func148.trans (congrArg some (by kernel_rfl))
  t3 := Tryz.underlying3
  a3 := Tryz.isAgg3
  z3 := Tryz.sizeOf3
  v3 := Tryz.zeroValue3
  t4 := Tryz.underlying4
  a4 := Tryz.isAgg4
  z4 := Tryz.sizeOf4
  v4 := Tryz.zeroValue4
  t9 := Tryz.underlying9
  a9 := Tryz.isAgg9
  z9 := Tryz.sizeOf9
  v9 := Tryz.zeroValue9 }
theorem Tryz.strings_TrimPrefix (s p : ByteArray) (w : World) :
    Calls Tryz.prog 95 #[.string s, .string p] w fun e w' => e = .returned (.string ⟨(Lib.trimPrefix s.data.toList p.data.toList).toArray⟩) ∧ w' = w := Any.strings_TrimPrefix Tryz.lays101 s p w
def Tryz.lays264_ren : Go.Shelf.Ren := ⟨fun | 264 => 139 | n => n, fun | 53 => 29 | 46 => 194 | n => n, fun | n => n⟩
theorem Tryz.lays264 : Go.Proofs.Lays.n264 Tryz.prog Tryz.lays264_ren := {
  mixed := by kernel_rfl
  f264 := Tryz.func139.trans (congrArg some (by kernel_rfl))
  t46 := Tryz.underlying194
  a46 := Tryz.isAgg194
  z46 := Tryz.sizeOf194
  v46 := Tryz.zeroValue194
  t53 := Tryz.underlying29
  a53 := Tryz.isAgg29
  z53 := Tryz.sizeOf29
  v53 := Tryz.zeroValue29 }
theorem Tryz.bits_Mul64 (x y : Nat) (hx : x < 18446744073709551616) (hy : y < 18446744073709551616) (w : World) :
    Calls Tryz.prog 139 #[.int .u64 x, .int .u64 y] w fun e w' => e = .returned (.tuple #[.int .u64 ((x * y / 18446744073709551616 : Nat) : Int), .int .u64 ((x * y % 18446744073709551616 : Nat) : Int)]) ∧ w' = w := Any.bits_Mul64 Tryz.lays264 x y hx hy w
open Go.RowKit Go.Lib in
theorem Tryz.strings_Trim_digits (s : ByteArray) (w : World) (hs : s.size ≤ 9223372036854775807) :
    Calls Tryz.prog 149 #[.string s, .string ⟨#[48, 49, 50, 51, 52, 53, 54, 55, 56, 57]⟩] w fun e w' => e = .returned (.string ⟨(Lib.trimS s.data.toList [48, 49, 50, 51, 52, 53, 54, 55, 56, 57]).toArray⟩) ∧ Below w.heap.size w w' :=
  Any.strings_Trim_laid Tryz.lays160 (by kernel_rfl) s ⟨#[48, 49, 50, 51, 52, 53, 54, 55, 56, 57]⟩ w hs (by decide) (ascii_of_all (by decide))
end Go.Proofs
namespace Go.Cham
open Go Go.RowKit Go.Proofs
theorem run_add64_0 (x y : Nat) (w : World) : (callFunc 141 #[.int .u64 (x : Int), .int .u64 (y : Int), .int .u64 (0 : Int)]).run Tryz.prog w =
    .ok (.value (.tuple #[.int .u64 (((x + y + 0) % 18446744073709551616 : Nat) : Int), .int .u64 (((x + y + 0) / 18446744073709551616 : Nat) : Int)])) w := by kernel_rfl
theorem run_add64_1 (x y : Nat) (w : World) : (callFunc 141 #[.int .u64 (x : Int), .int .u64 (y : Int), .int .u64 (1 : Int)]).run Tryz.prog w =
    .ok (.value (.tuple #[.int .u64 (((x + y + 1) % 18446744073709551616 : Nat) : Int), .int .u64 (((x + y + 1) / 18446744073709551616 : Nat) : Int)])) w := by kernel_rfl
theorem run_sub64_0 (x y : Nat) (w : World) : (callFunc 168 #[.int .u64 (x : Int), .int .u64 (y : Int), .int .u64 (0 : Int)]).run Tryz.prog w =
    .ok (.value (.tuple #[.int .u64 (((x + 18446744073709551616 - y - 0) % 18446744073709551616 : Nat) : Int), .int .u64 ((if x < y + 0 then 1 else 0 : Nat) : Int)])) w := by kernel_rfl
theorem run_sub64_1 (x y : Nat) (w : World) : (callFunc 168 #[.int .u64 (x : Int), .int .u64 (y : Int), .int .u64 (1 : Int)]).run Tryz.prog w =
    .ok (.value (.tuple #[.int .u64 (((x + 18446744073709551616 - y - 1) % 18446744073709551616 : Nat) : Int), .int .u64 ((if x < y + 1 then 1 else 0 : Nat) : Int)])) w := by kernel_rfl
def add64V (x y c : Nat) : Value := .tuple [.int .u64 (((x + y + c) % 18446744073709551616 : Nat) : Int), .int .u64 (((x + y + c) / 18446744073709551616 : Nat) : Int)].toArray
def sub64V (x y c : Nat) : Value := .tuple [.int .u64 (((x + 18446744073709551616 - y - c) % 18446744073709551616 : Nat) : Int), .int .u64 ((if x < y + c then 1 else 0 : Nat) : Int)].toArray
theorem run_add64 (x y c : Nat) (hc : c ≤ 1) (w : World) : (callFunc 141 [.int .u64 (x : Int), .int .u64 (y : Int), .int .u64 (c : Int)].toArray).run Tryz.prog w = .ok (.value (add64V x y c)) w := by
  unfold add64V
  match c, hc with
  | 0, _ => exact run_add64_0 x y w
  | 1, _ => exact run_add64_1 x y w
theorem run_sub64 (x y c : Nat) (hc : c ≤ 1) (w : World) : (callFunc 168 [.int .u64 (x : Int), .int .u64 (y : Int), .int .u64 (c : Int)].toArray).run Tryz.prog w = .ok (.value (sub64V x y c)) w := by
  unfold sub64V
  match c, hc with
  | 0, _ => exact run_sub64_0 x y w
  | 1, _ => exact run_sub64_1 x y w
section
variable {a : Act} {w : World} {n : Nat} {l : List (Nat × Value)} {K : Value → World → Prop}
variable {d : Option Tmp} {ty : TypeId} {pos : String} {af : Array Edge} {g : Option (Nat × Bool)}
theorem exec_callX {P : Program} {f : FuncId} {xs : Array Operand} {ts : Array TypeId} {vs : List Value} {v : Value} (hL : Zt a n l) (hv : evs l xs.toList = some vs) (h : (callFunc f vs.toArray).run P w = .ok (.value v) w) :
    (execOp a.eval ⟨d, .call ⟨.value (.func f), xs, ts⟩, ty, pos, af, g⟩).run P w = .ok (.value v) w := by
  have e1 : xs.map a.eval = vs.toArray := by rw [← hL.evs hv, ← Array.toList_map]
  simp only [execOp, resolve, e1, Act.eval, Deferred.ofValue, ZB, invoke]
  simpa using h
theorem does_callX {P : Program} {f : FuncId} {xs : Array Operand} {ts : Array TypeId} {vs : List Value} {v : Value} (hL : Zt a n l) (hv : evs l xs.toList = some vs) (h : (callFunc f vs.toArray).run P w = .ok (.value v) w) (k : K v w) :
    YI P ⟨d, .call ⟨.value (.func f), xs, ts⟩, ty, pos, af, g⟩ a w K := Zq (exec_callX hL hv h) k
set_option maxRecDepth 100000 in
theorem YE {xs : Array Operand} {ts : Array TypeId} {x y c : Nat} (hL : Zt a n l) (hv : evs l xs.toList = some [.int .u64 (x : Int), .int .u64 (y : Int), .int .u64 (c : Int)]) (hc : c ≤ 1)
    (k : K (add64V x y c) w) : YI Tryz.prog ⟨d, .call ⟨.value (.func 141), xs, ts⟩, ty, pos, af, g⟩ a w K :=
  does_callX hL hv (run_add64 x y c hc w) k
set_option maxRecDepth 100000 in
theorem Zcz {xs : Array Operand} {ts : Array TypeId} {x y c : Nat} (hL : Zt a n l) (hv : evs l xs.toList = some [.int .u64 (x : Int), .int .u64 (y : Int), .int .u64 (c : Int)]) (hc : c ≤ 1)
    (k : K (sub64V x y c) w) : YI Tryz.prog ⟨d, .call ⟨.value (.func 168), xs, ts⟩, ty, pos, af, g⟩ a w K :=
  does_callX hL hv (run_sub64 x y c hc w) k
end
theorem QW {P : Program} {f : FuncId} {args : Array Value} {S : Sh} {w : World} {v : Value} (hS : Ya S w) (h : Calls P f args w fun e w' => e = .returned v ∧ w' = w) : Calls P f args w (Ret S w (fun _ u => u = v)) :=
  h.mono fun e w' ⟨he, hw⟩ => ⟨v, S, he, by subst hw; exact .refl hS, rfl⟩
theorem Ext.drewN {S : Sh} {w : World} (hS : Ya S w) (n : Nat) : Ext S w S (w.drewN n) :=
  ⟨.refl S, hS, fun _ o hb => .inl ⟨o, hb⟩, ⟨rfl, rfl, rfl, Nat.le_refl _, fun _ _ => rfl⟩⟩
theorem bits_Len64R {S : Sh} {w : World} (hS : Ya S w) {x : Nat} (hx : x < 18446744073709551616) : Calls Tryz.prog 150 [.int .u64 ((x : Nat) : Int)].toArray w (Ret S w (fun _ v => v = .int .i64 ((Zw x : Nat) : Int))) := by
  have := Tryz.bits_Len64 (x : Int) w (by omega) (by omega)
  rw [Int.toNat_natCast, bitLen_eq hx] at this
  exact QW hS this
theorem Zc7 {S : Sh} {w : World} (hS : Ya S w) {x : Nat} (hx : x < 18446744073709551616) : Calls Tryz.prog 162 [.int .u64 ((x : Nat) : Int)].toArray w (Ret S w (fun _ v => v = .int .i64 (64 - ((Zw x : Nat) : Int)))) := by
  have := Tryz.bits_LeadingZeros64 (x : Int) w (by omega) (by omega)
  rw [Int.toNat_natCast, bitLen_eq hx] at this
  exact QW hS this
theorem Qk {S : Sh} {w : World} (hS : Ya S w) {x y : Nat} (hx : x < 18446744073709551616) (hy : y < 18446744073709551616) : Calls Tryz.prog 139 [.int .u64 ((x : Nat) : Int), .int .u64 ((y : Nat) : Int)].toArray w
    (Ret S w (fun _ v => v = .tuple [.int .u64 ((x * y / 18446744073709551616 : Nat) : Int), .int .u64 ((x * y % 18446744073709551616 : Nat) : Int)].toArray)) :=
  QW hS (Tryz.bits_Mul64 x y hx hy w)
end Go.Cham
