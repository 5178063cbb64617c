/- SMALL HELP FOR THE PRINTED WALKS, and more operations: slicing, make, copy, clear, strings and bytes. Plain definitions and theorems over any program. -/
import Derived.Test.YtmjfkjajedhciaaSx7
set_option linter.unusedVariables false
set_option linter.unusedSimpArgs false
namespace Go.Sx
open Go

def gt {α : Type} [Inhabited α] (xs : List α) (i : Int) : α := xs.getD i.toNat default
theorem gt_ok {α : Type} [Inhabited α] {xs : List α} {i : Int} (h0 : 0 ≤ i) (h : i < (xs.length : Int)) : xs[i.toNat]? = some (gt xs i) := by
  have : i.toNat < xs.length := by omega
  simp [gt, List.getD_eq_getElem?_getD, this]

theorem w64 {x : Int} (h0 : -9223372036854775808 ≤ x) (h1 : x ≤ 9223372036854775807) : IntKind.i64.wrap x = x := IntWalk.i64_in _ ⟨h0, h1⟩
theorem wu8 {x : Int} (h0 : 0 ≤ x) (h1 : x < 256) : IntKind.u8.wrap x = x := by
  simp [IntKind.wrap, IntKind.bits, IntKind.signed] 
  omega

section
variable {P : Program} {c : Cx} {n : Nat} {env env' : List (Nat × Value)} {G G' Gr : List Own} {Q Q' : List Pers} {d : Nat} {ty : TypeId} {pos : String} {aft : Array Edge} {g : Option (Nat × Bool)} {x y : Operand} {t : TypeId} {a a' : Act} {w w' : World}
variable {ops : Array Oper} {R : Exit → Asr} {rest : List Oper} {A B : Asr} {cd : Code}

theorem GL.and {p : Prop} (k : p → GL P ops R rest A) : GL P ops R rest (fun a w => p ∧ A a w) := fun a w ⟨hp, ha⟩ => k hp a w ha
theorem GC.and {p : Prop} (k : p → GC P R cd A) : GC P R cd (fun a w => p ∧ A a w) := fun a w ⟨hp, ha⟩ => k hp a w ha
theorem GA.and {M : Asr} {I : World → Prop} {fuel : Nat} {listed : Array Bool} {p : Prop} (k : p → GA P ops M I fuel listed A) : GA P ops M I fuel listed (fun a w => p ∧ A a w) := fun a w ⟨hp, ha⟩ => k hp a w ha

/-- Behind a call: whatever its contract says. -/
theorem GL.ret {F : Value → List Own → List Pers → Prop} {Z : Value → List Own → List Pers → Asr} (k : ∀ v G2 Q2, F v G2 Q2 → GL P ops R rest (Z v G2 Q2)) : GL P ops R rest (fun a w => ∃ v G2 Q2, F v G2 Q2 ∧ Z v G2 Q2 a w) := fun a w ⟨v, G2, Q2, hF, hZ⟩ => k v G2 Q2 hF a w hZ
theorem GL.retL {F : Value → List Own → List Pers → Prop} {Z : Value → List Own → Asr} (k : ∀ v G2, F v G2 [] → GL P ops R rest (Z v G2)) : GL P ops R rest (fun a w => ∃ v G2, F v G2 [] ∧ Z v G2 a w) := fun a w ⟨v, G2, hF, hZ⟩ => k v G2 hF a w hZ
theorem GA.ret {M : Asr} {I : World → Prop} {fuel : Nat} {listed : Array Bool} {F : Value → List Own → List Pers → Prop} {Z : Value → List Own → List Pers → Asr} (k : ∀ v G2 Q2, F v G2 Q2 → GA P ops M I fuel listed (Z v G2 Q2)) : GA P ops M I fuel listed (fun a w => ∃ v G2 Q2, F v G2 Q2 ∧ Z v G2 Q2 a w) := fun a w ⟨v, G2, Q2, hF, hZ⟩ => k v G2 Q2 hF a w hZ

theorem GC.st (h : ∀ a w, St c n env G Q a w → St c n env' G' Q' a w) (k : GC P R cd (St c n env' G' Q')) : GC P R cd (St c n env G Q) := GC.imp h k
theorem GL.st (h : ∀ a w, St c n env G Q a w → St c n env' G' Q' a w) (k : GL P ops R rest (St c n env' G' Q')) : GL P ops R rest (St c n env G Q) := GL.imp h k
theorem GC.know {q : Pers} (hq : ∀ w S, (∀ p ∈ Q, p.h w S) → q.h w S) (k : GC P R cd (St c n env G (q :: Q))) : GC P R cd (St c n env G Q) := GC.imp (fun a w h => h.know hq) k
theorem GL.know {q : Pers} (hq : ∀ w S, (∀ p ∈ Q, p.h w S) → q.h w S) (k : GL P ops R rest (St c n env G (q :: Q))) : GL P ops R rest (St c n env G Q) := GL.imp (fun a w h => h.know hq) k
theorem GC.freeze {i : Nat} {o : Own} {QN : List Pers} (ht : takeO G i = some (o, G')) (hq : ∀ w S, o.holds w → (∀ k ∈ o.keys, S k) → (∀ p ∈ Q, p.h w S) → ∀ q ∈ QN, q.h w S) (k : GC P R cd (St c n env G' (QN ++ Q))) : GC P R cd (St c n env G Q) := GC.imp (fun a w h => h.freeze ht hq) k
theorem GL.freeze {i : Nat} {o : Own} {QN : List Pers} (ht : takeO G i = some (o, G')) (hq : ∀ w S, o.holds w → (∀ k ∈ o.keys, S k) → (∀ p ∈ Q, p.h w S) → ∀ q ∈ QN, q.h w S) (k : GL P ops R rest (St c n env G' (QN ++ Q))) : GL P ops R rest (St c n env G Q) := GL.imp (fun a w h => h.freeze ht hq) k
theorem GC.nilrow (e : TypeId) (sz : Nat) (k : GC P R cd (St c n env (.row (.slice none 0 0) e sz 0 [] :: G) Q)) : GC P R cd (St c n env G Q) := GC.imp (fun a w h => h.nilrow e sz) k
theorem GL.nilrow (e : TypeId) (sz : Nat) (k : GL P ops R rest (St c n env (.row (.slice none 0 0) e sz 0 [] :: G) Q)) : GL P ops R rest (St c n env G Q) := GL.imp (fun a w h => h.nilrow e sz) k

/-- The shape of a row's value. -/
theorem St.shape {i e sz m : Nat} {v : Value} {cs : List Value} (h : St c n env G Q a w) (hi : nthO G i = some (.row v e sz m cs)) : ∃ A cp, v = .slice A m cp ∧ m ≤ cp ∧ cp ≤ 9223372036854775807 := by
  have := h.own hi
  rcases this.2 with ⟨rfl, rfl⟩ | ⟨g, cap, cur, rfl, _, _, h1, h2, _⟩
  · exact ⟨none, 0, rfl, by omega, by omega⟩
  · exact ⟨_, cap, rfl, h1, by simpa [maxLen] using h2⟩
theorem GC.shape {i e sz m : Nat} {v : Value} {cs : List Value} (hi : nthO G i = some (.row v e sz m cs)) (k : ∀ A cp, v = .slice A m cp → m ≤ cp → cp ≤ 9223372036854775807 → GC P R cd (St c n env G Q)) : GC P R cd (St c n env G Q) := fun a w h => by
  obtain ⟨A, cp, h1, h2, h3⟩ := h.shape hi
  exact k A cp h1 h2 h3 a w h
theorem GL.shape {i e sz m : Nat} {v : Value} {cs : List Value} (hi : nthO G i = some (.row v e sz m cs)) (k : ∀ A cp, v = .slice A m cp → m ≤ cp → cp ≤ 9223372036854775807 → GL P ops R rest (St c n env G Q)) : GL P ops R rest (St c n env G Q) := fun a w h => by
  obtain ⟨A, cp, h1, h2, h3⟩ := h.shape hi
  exact k A cp h1 h2 h3 a w h

/-- What a row of one's own holds, once it is only read. -/
theorem row_pers {α : Type} {kd : Kd α} {e m cp : Nat} {A : Option Addr} {xs : List α} {cs : List Value} {w : World} {S : Blocks} (h : (Own.row (.slice A m cp) e kd.sz m cs).holds w) (hS : ∀ k ∈ (Own.row (.slice A m cp) e kd.sz m cs).keys, S k) (hr : Reps kd w S xs cs) (hp : 0 < kd.sz) : (Pers.row kd A xs).h w S := by
  obtain ⟨hl, h⟩ := h
  rcases h with ⟨hv, hn⟩ | ⟨g, cap, cur, hv, _, hg, hnc, _, hcs, htk⟩
  · left
    have : xs.length * kd.sz = 0 := by rw [← hr.length, hl, hn, Nat.zero_mul]
    have h0 := hr.length
    rcases Nat.mul_eq_zero.1 this with h1 | h1
    · exact List.eq_nil_of_length_eq_zero h1
    · omega
  · right
    simp only [Value.slice.injEq] at hv
    obtain ⟨rfl, _, _⟩ := hv
    refine ⟨_, rfl, rowAt_of hr (hS g (by simp [Own.keys, Value.ownBlock])) (Array.getElem?_eq_some_iff.1 hg).1 ?_⟩
    refine cellsAt_blk (l := cur.toList) (by simpa using hg) fun j u hj => ?_
    rw [← htk, List.getElem?_take] at hj
    split at hj
    · simpa using hj
    · cases hj

theorem cells_row {b e sz m : Nat} {l : List Value} (hl : l.length = m * sz) (hm : m ≤ 9223372036854775807) : ∀ w, (Own.cells b l e).holds w → (Own.row (.slice (some ⟨b, 0, none⟩) m m) e sz m l).holds w := fun w h =>
  ⟨hl, .inr ⟨b, m, l.toArray, rfl, Nat.zero_le _, h, Nat.le_refl _, by simpa [maxLen] using hm, by simpa using hl, by simp [← hl]⟩⟩

theorem GL.torow {i b e m sz : Nat} {l : List Value} (hi : nthO G i = some (.cells b l e)) (hl : l.length = m * sz) (hm : m ≤ 9223372036854775807) (hr : repl G i (.row (.slice (some ⟨b, 0, none⟩) m m) e sz m l) = some G') (k : GL P ops R rest (St c n env G' Q)) : GL P ops R rest (St c n env G Q) :=
  GL.imp (fun a w h => h.recast hi hr rfl (cells_row hl hm)) k
theorem GA.torow {M : Asr} {I : World → Prop} {fuel : Nat} {listed : Array Bool} {i b e m sz : Nat} {l : List Value} (hi : nthO G i = some (.cells b l e)) (hl : l.length = m * sz) (hm : m ≤ 9223372036854775807) (hr : repl G i (.row (.slice (some ⟨b, 0, none⟩) m m) e sz m l) = some G') (k : GA P ops M I fuel listed (St c n env G' Q)) : GA P ops M I fuel listed (St c n env G Q) :=
  GA.imp (fun a w h => h.recast hi hr rfl (cells_row hl hm)) k
theorem GA.nilrow {M : Asr} {I : World → Prop} {fuel : Nat} {listed : Array Bool} (e : TypeId) (sz : Nat) (k : GA P ops M I fuel listed (St c n env (.row (.slice none 0 0) e sz 0 [] :: G) Q)) : GA P ops M I fuel listed (St c n env G Q) := GA.imp (fun a w h => h.nilrow e sz) k
theorem GC.torow {i b e m sz : Nat} {l : List Value} (hi : nthO G i = some (.cells b l e)) (hl : l.length = m * sz) (hm : m ≤ 9223372036854775807) (hr : repl G i (.row (.slice (some ⟨b, 0, none⟩) m m) e sz m l) = some G') (k : GC P R cd (St c n env G' Q)) : GC P R cd (St c n env G Q) :=
  GC.imp (fun a w h => h.recast hi hr rfl (cells_row hl hm)) k

theorem St.freezeB {i e m cp : Nat} {A : Option Addr} {xs : List UInt8} (h : St c n env G Q a w) (ht : takeO G i = some (.row (.slice A m cp) e 1 m (xs.map fun b => Value.int .u8 (b.toNat : Int)), G')) : St c n env G' (Pers.row Kd.u8 A xs :: Q) a w :=
  h.freeze (QN := [Pers.row Kd.u8 A xs]) ht fun w S ho hS _ q hq => by
    rw [List.mem_singleton.1 hq]
    exact row_pers (kd := Kd.u8) ho hS (scalar_reps xs) (by decide)
theorem GL.freezeB {i e m cp : Nat} {A : Option Addr} {xs : List UInt8} (ht : takeO G i = some (.row (.slice A m cp) e 1 m (xs.map fun b => Value.int .u8 (b.toNat : Int)), G')) (k : GL P ops R rest (St c n env G' (Pers.row Kd.u8 A xs :: Q))) : GL P ops R rest (St c n env G Q) := GL.imp (fun a w h => h.freezeB ht) k
theorem GC.freezeB {i e m cp : Nat} {A : Option Addr} {xs : List UInt8} (ht : takeO G i = some (.row (.slice A m cp) e 1 m (xs.map fun b => Value.int .u8 (b.toNat : Int)), G')) (k : GC P R cd (St c n env G' (Pers.row Kd.u8 A xs :: Q))) : GC P R cd (St c n env G Q) := GC.imp (fun a w h => h.freezeB ht) k
theorem GA.freezeB {M : Asr} {I : World → Prop} {fuel : Nat} {listed : Array Bool} {i e m cp : Nat} {A : Option Addr} {xs : List UInt8} (ht : takeO G i = some (.row (.slice A m cp) e 1 m (xs.map fun b => Value.int .u8 (b.toNat : Int)), G')) (k : GA P ops M I fuel listed (St c n env G' (Pers.row Kd.u8 A xs :: Q))) : GA P ops M I fuel listed (St c n env G Q) := GA.imp (fun a w h => h.freezeB ht) k
/-- The memory part of a state: fewer things, in another row. -/
theorem St.mem {is js : List Nat} (h : St c n env G Q a w) (hsel : sel G is = some (G', Gr)) (hq : pickQ Q js = some Q') : Mem c G' Q' w := by
  obtain ⟨S, he, hh, hrel⟩ := h
  have hp := sel_perm hsel
  exact ⟨S, (hh.perm hp).sub (List.sublist_append_left _ _) (pickQ_mem hq), (hrel.perm hp).fr, hrel.old, fun k hk => (hrel.perm hp).key k (by rw [keysOf_append]; exact List.mem_append_left _ hk)⟩

/-! ### bytes and strings -/
theorem run_str {src dst e : TypeId} {A : Option Addr} {cp : Nat} {xs : List UInt8} (hs : P.underlying src = some (.slice e)) (he : P.underlying e = some (.int .u8)) (hd : P.underlying dst = some .string) (h : xs = [] ∨ ∃ p, A = some p ∧ CellsAt w p (xs.map fun b => Value.int .u8 (b.toNat : Int))) :
    (convert src dst (.slice A xs.length cp)).run P w = .ok (.string ⟨xs.toArray⟩) w := by
  rcases A with _ | p
  · have hx : xs = [] := by
      rcases h with h | ⟨p, h, _⟩
      · exact h
      · cases h
    subst hx
    exact run_convert_bytes_nil w src e hs he 0 cp dst hd
  · have hc : CellsAt w p (xs.map fun b => Value.int .u8 (b.toNat : Int)) := by
      rcases h with h | ⟨p', h, hc⟩
      · subst h; exact CellsAt.nil w p
      · simp only [Option.some.injEq] at h; subst h; exact hc
    have hl := run_loadCells_list (P := P) w p _ hc
    rw [List.length_map] at hl
    have hm : (xs.map fun b => Value.int .u8 (b.toNat : Int)) = (xs.map fun b => (b.toNat : Int)).map (Value.int .u8) := by simp
    rw [hm] at hl
    rw [run_convert_bytes_string w src dst e _ xs.length cp hs he hd, run_bytesToString w p xs.length cp (xs.map fun b => (b.toNat : Int)) hl, foldl_push_bytes]
    have hx : (xs.map fun b => (b.toNat : Int)).map (fun n => UInt8.ofNat n.toNat) = xs := by
      rw [List.map_map]
      conv => rhs; rw [← List.map_id xs]
      exact List.map_congr_left fun b _ => by simp
    rw [hx]
    simp [ByteArray.empty, ByteArray.emptyWithCapacity]
    rfl
theorem m_str {i : Nat} {src dst e : TypeId} {A : Option Addr} {cp : Nat} {xs : List UInt8} (hi : nthO Q i = some (Pers.row Kd.u8 A xs)) (hx : ev env x = some (.slice A xs.length cp)) (hs : P.underlying src = some (.slice e)) (he : P.underlying e = some (.int .u8)) (hd : P.underlying dst = some .string) :
    Pm P c n G Q env ⟨some d, .convert src dst x, ty, pos, aft, g⟩ (.string ⟨xs.toArray⟩) := fun a w hen hm => by
  obtain ⟨S, hq⟩ := hm.per hi
  have h : xs = [] ∨ ∃ p, A = some p ∧ CellsAt w p (xs.map fun b => Value.int .u8 (b.toNat : Int)) := by
    rcases row_scalar hq with h | ⟨p, h, _, _, hc⟩
    · exact .inl h
    · exact .inr ⟨p, h, hc⟩
  simp only [execOp, hen.eval hx, Sem.run_bind, run_str hs he hd h, Result.andThen_ok, Sem.run_pure]
/-- []byte of a constant. -/
theorem t_bytesLit {i b m : Nat} {e e' : TypeId} {xs : List UInt8} {l : List Value} (hdd : Nat.blt d n = true) (ht : takeO G i = some (.cells b l e', G')) (hl : l = xs.map fun b => Value.int .u8 (b.toNat : Int)) (hx : ev env x = some (.slice (some ⟨b, 0, none⟩) m m)) (hs : P.underlying t = some (.slice e)) (he : P.underlying e = some (.int .u8)) :
    Tr P ⟨some d, .convert t t x, ty, pos, aft, g⟩ (St c n env G Q) (St c n ((d, .slice (some ⟨b, 0, none⟩) m m) :: env) G' (Pers.row Kd.u8 (some ⟨b, 0, none⟩) xs :: Q)) := by
  intro a w h K R hk
  obtain ⟨S, he', hh, hrel⟩ := h
  have hp := takeO_perm ht
  have hh1 := hh.perm hp
  have hrel1 := hrel.perm hp
  have hb : w.heap[b]? = some (.cells l.toArray e' (0, 0)) := hh1.own (.cells b l e') List.mem_cons_self
  have hlt : b < w.heap.size := (Array.getElem?_eq_some_iff.1 hb).1
  have hsh : w.shape? b = some (e', l.length) := by simp [World.shape?, hb]
  have hrun : (execOp a.eval ⟨some d, .convert t t x, ty, pos, aft, g⟩).run P w = .ok (.value (.slice (some ⟨b, 0, none⟩) m m)) (w.freeze ⟨b, l.length, none⟩ 1) := by
    simp [execOp, he'.eval hx, convert, run_underlying hs, run_underlying he, markStringish, hsh]
  have hfz : (w.freeze ⟨b, l.length, none⟩ 1).heap[b]? = some (.cells l.toArray e' (l.length, l.length + 1)) := by
    simp [World.freeze, Array.getElem?_modify, hb]
  have hoth : ∀ k, k ≠ b → (w.freeze ⟨b, l.length, none⟩ 1).heap[k]? = w.heap[k]? := fun k hk => by
    simp only [World.freeze, if_neg (by decide : ¬ (1 = 0)), Array.getElem?_modify]
    rw [if_neg (fun e => hk e.symm)]
  have hsz : (w.freeze ⟨b, l.length, none⟩ 1).heap.size = w.heap.size := by simp [World.freeze]
  have hfr : Fr [b] w (w.freeze ⟨b, l.length, none⟩ 1) := ⟨rfl, rfl, rfl, Nat.le_of_eq hsz.symm, fun k _ hn => hoth k (by simpa using hn)⟩
  have hn : ([b] ++ keysOf G').Nodup := hh1.nod
  rw [List.nodup_append] at hn
  have nb : ∀ k ∈ keysOf G', k ≠ b := fun k hk e => hn.2.2 b (by simp) k hk e.symm
  unfold Oper.wp
  rw [hrun]
  refine hk _ _ ⟨fun k => S k ∨ k = b, he'.put hdd _, ⟨fun o ho => ?_, hn.2.1, fun k hk hs' => ?_, fun q hq => ?_⟩, ?_⟩
  · exact Own.move (hh1.own o (List.mem_cons_of_mem _ ho)) fun k hk => hoth k (nb k (mem_keysOf.2 ⟨o, ho, hk⟩))
  · rcases hs' with hs' | hs'
    · exact hh1.out k (List.mem_append_right _ hk) hs'
    · exact nb k hk hs'
  · rcases List.mem_cons.1 hq with rfl | hq
    · right
      refine ⟨_, rfl, rowAt_of (scalar_reps (h1 := fun _ => rfl) xs) (.inr rfl) (by rw [hsz]; exact hlt) ?_⟩
      rw [← hl]
      exact cellsAt_blk hfz fun j u hj => by rwa [Nat.zero_add]
    · refine q.st (hh.per q hq) fun k hs' _ => ⟨.inl hs', hoth k fun e => ?_⟩
      subst e
      exact hh1.out k (List.mem_append_left _ (by simp [Own.keys])) hs'
  · refine hrel1.step hfr (fun k hk => by simp only [List.mem_singleton] at hk; subst hk; exact List.mem_append_left _ (by simp [Own.keys])) (fun k hlt' hn' => ⟨fun hs' => hs'.resolve_right (by simpa using hn'), .inl⟩) fun k hk => .inl (List.mem_append_right _ hk)

/-- A pure fact out of what is at hand when a call begins. -/
theorem Ct.pure {f : FuncId} {args : List Value} {F : Value → List Own → List Pers → Prop} {p : Prop} (hp : ∀ w S, Heap S G Q w → p) (h : p → Ct P f args G Q F) : Ct P f args G Q F := fun w S hh => h (hp w S hh) w S hh
theorem row_none {α : Type} {kd : Kd α} {xs : List α} {w : World} {S : Blocks} (h : (Pers.row kd none xs).h w S) : xs = [] := by
  rcases h with h | ⟨a, h, _⟩
  · exact h
  · cases h
theorem bool_true_eq_ (b : Bool) : (true = b) = (b = true) := by cases b <;> simp
theorem bool_false_eq_ (b : Bool) : (false = b) = (b = false) := by cases b <;> simp
end
end Go.Sx
